/- The logical machine, part 3: SvCod, SvRel, SvOps1, SvOps2, SvOps3, SvOps4, SvNorm, SvCall, SvFp, SvRun, SvCon, SvLaw. -/
import Derived.Test.YtclphlgnjkajbaaGreatPVm2
open Nat renaming eq_of_beq_eq_true->v4,ble->NE,beq->PP,le_of_ble_eq_true->acl,beq_refl->ae5,lt_or_ge->aex,zero_add->aeD,beq_eq->aeK,min_eq_left->aeT,le_refl->af2,blt->af3,eq_zero_or_pos->afk,le_of_lt->afn,sub_self->aga
open Bool renaming and_eq_true->v6,false_eq_true->UV,not_eq_true'->adR,and_self->ae2,not_false->aev,and_true->aeF,not_true->afc,or_eq_true->ag3,true->agV,false->ah0
open List renaming getElem?_eq_some_iff->ww,getElem?_append_left->AC,getElem?_append_right->Do,getElem?_eq_getElem->If,getElem?_take_of_lt->IR,getElem?_set->M2,length_cons->adT,append_assoc->adV,append_nil->adZ,length_map->ae0,map_cons->ae1,replicate->ae7,length_take->ae8,map_take->aen,take_of_length_le->aeo,all_eq_true->aep,drop_zero->aeq,getElem?_cons_succ->aer,map_append->aes,mem_of_getElem?->aew,getElem?_eq_none_iff->aey,map_drop->aez,mem_cons_self->aeA,mem_singleton->aeB,length_eq_zero_iff->aeC,mem_append_right->aeE,mem_cons_of_mem->aeG,mem_append_left->aeH,getElem_of_mem->aeI,length_append->aeL,getElem?_cons_zero->aeQ,cons_append->aeS,nodup_cons->aeV,take_succ_cons->afa,all_cons->afb,cons_beq_cons->afd,range->afl,map_set->afm,ext_getElem?->afo,map_nil->afp,flatMap_cons->afA,mem_map->afC,any_eq_true->afI,length_drop->afK,mem_flatMap->afL,all_append->afR,mem_append->afZ,any_cons->ag8,all_map->agb,length->agd
open Option.some renaming injEq->EQ,inj->aet
open Int renaming eq_ofNat_of_zero_le->adc,ofNat->aeu,le_trans->aeJ
open Prod.mk renaming injEq->adM
open Option renaming map_eq_some_iff->ae6,isSome_iff_exists->aeM,getD_none->aeR,getD_some->afG,some->age,none->agn
open Go.World renaming cells?_some->afF
open Decidable renaming decide->ah1
/- The types of arguments and results, as cells. -/
namespace Go.Vm
theorem ny {r q:List PT} {l:List (RT r)} {m:List (RT q)} (h:qp r q l=age m): ∃e:r=q,m=e▸l:=by
 unfold qp at h;split at h
 · rename_i hs
   injection h with h;exact ⟨sX hs,h.symm⟩
 cases h
theorem zJ {r q:List PT} {l:List (RT r)} {m:List (RT q)} (h:qp r q l=age m):r=q/\m.map (RT.pv q)=l.map (RT.pv r)/\agd m=(agd l):=by obtain ⟨rfl,rfl⟩:=ny h;exact ⟨rfl,rfl,rfl⟩
theorem dS {x:SV} {xs:List SV} {ps:List PV}:pq (x::xs)=age ps↔ ∃p qs,ps=p::qs/\qt x=age p/\pq xs=age qs:=by
 simp only [pq];constructor
 · intro h
   split at h
   · rename_i y ys h1 h2
     injection h with h;exact ⟨y,ys,h.symm,h1,h2⟩
   cases h
 rintro ⟨p,qs,rfl,h1,h2⟩
 rw [h1,h2]
theorem yE: ∀{xs ys:List SV} {p q:List PV},pq xs=age p->pq ys=age q->pq (xs++ys)=age (p++q)
 | [],ys,p,q,h,k=>by simp only [pq,EQ] at h;subst h;exact k
 |x::xs,ys,p,q,h,k=>by obtain ⟨a,as,rfl,h1,h2⟩:=dS.1 h;exact dS.2 ⟨a,as++q,rfl,h1,yE h2 k⟩
theorem PT.oe: ∀{p:PT} {v:SV} {a:p.T},p.of v=age a->v=p.sv a
 | .i k,.int l n,a,h=>by
  simp only [PT.of] at h;cases hk:eE l k with
  |false=>rw [hk] at h;cases h
  |true=>rw [hk] at h;injection h with h;subst h;rw [ei.1 hk];rfl
 | .b,.bool x,a,h=>by injection h with h;subst h;rfl
 | .i k,.bool _,a,h=>by cases h
 | .b,.int _ _,a,h=>by cases h
 | .i _,.ga,a,h| .i _,.undef,a,h| .i _,.iB,a,h| .i _,.dw,a,h| .i _,.str _,a,h| .i _,.agg _,a,h| .i _,.cj _,a,h| .i _,.sl _ _,a,h| .i _,.nil _ _,a,h| .i _,.own _ _,a,h| .i _,.pre _ _ _ _,a,h| .i _,.part _ _ _ _ _,a,h| .i _,.pa _ _ _ _ _,a,h| .i _,.pb _ _ _,a,h| .i _,.bp _ _ _,a,h| .i _,.bw _ _,a,h| .i _,.ef _ _ _,a,h| .i _,.mp _,a,h=>by cases h
 | .b,.ga,a,h| .b,.undef,a,h| .b,.iB,a,h| .b,.dw,a,h| .b,.str _,a,h| .b,.agg _,a,h| .b,.cj _,a,h| .b,.sl _ _,a,h| .b,.nil _ _,a,h| .b,.own _ _,a,h| .b,.pre _ _ _ _,a,h| .b,.part _ _ _ _ _,a,h| .b,.pa _ _ _ _ _,a,h| .b,.pb _ _ _,a,h| .b,.bp _ _ _,a,h| .b,.bw _ _,a,h| .b,.ef _ _ _,a,h| .b,.mp _,a,h=>by cases h
theorem RT.oe: ∀{r:List PT} {vs:List SV} {a:RT r},RT.of r vs=age a->vs=RT.sv r a
 | [],[],a,_=>rfl
 | [p],[v],a,h=>by have:=PT.oe (p:=p) h;rw [this];rfl
 |p::q::r,v::vs,a,h=>by
  simp only [RT.of] at h;split at h
  · rename_i x y h1 h2
    injection h with h;subst h;rw [PT.oe h1,RT.oe h2];rfl
  cases h
 | [],_::_,a,h=>by simp [RT.of] at h
 | [p],[],a,h=>by simp [RT.of] at h
 | [p],_::_::_,a,h=>by simp [RT.of] at h
 |_::_::_,[],a,h=>by simp [RT.of] at h
theorem PT.Fb (p:PT) (a:p.T):qt (p.sv a)=age (p.pv a):=by cases p<;>rfl
theorem RT.Fb: ∀(r:List PT) (a:RT r),pq (RT.sv r a)=age (RT.pv r a)
 | [],_=>rfl
 | [p],a=>dS.2 ⟨_,_,rfl,PT.Fb p a,rfl⟩
 |p::q::r,a=>dS.2 ⟨_,_,rfl,PT.Fb p a.1,RT.Fb (q::r) a.2⟩
theorem RT.tT: ∀(r:List PT) (a:RT r),(RT.pv r a).length=agd r
 | [],_=>rfl
 | [p],a=>rfl
 |p::q::r,a=>by simp [RT.pv,RT.tT (q::r) a.2]
theorem RT.Gr: ∀(r:List PT) (a:RT r),(RT.sv r a).length=agd r
 | [],_=>rfl
 | [p],a=>rfl
 |p::q::r,a=>by simp [RT.sv,RT.Gr (q::r) a.2]
theorem Fc: ∀(n:Nat) {vs:List SV} {ps:List PV},pq vs=age ps-> ∃p q,ps=p++q/\pq (vs.take n)=age p/\pq (vs.drop n)=age q
 |0,vs,ps,h=>⟨[],ps,rfl,by simp [pq],by simpa using h⟩
 |n+1,[],ps,h=>⟨[],ps,rfl,by simp [pq],by simpa using h⟩
 |n+1,v::vs,ps,h=>by obtain ⟨p,qs,rfl,h1,h2⟩:=dS.1 h;obtain ⟨a,b,rfl,h3,h4⟩:=Fc n h2;exact ⟨p::a,b,rfl,by rw [afa];exact dS.2 ⟨p,a,rfl,h1,h3⟩,by simpa using h4⟩
def bT.int (k:IntKind):bT Int where
 enc n:=[.int k n]
 dec vs:=match vs with
  | .int l n::r=>bif eE l k then age (n,r) else agn
  |_=>agn
 law:=fun {vs a rest ps} h hp=>by
  split at h
  · rename_i l n r
    cases hk:eE l k with
    |false=>rw [hk] at h;cases h
    |true=>rw [hk] at h;simp only [pi,EQ,adM] at h;obtain ⟨rfl,rfl⟩:=h;obtain ⟨p,qs,rfl,h1,h2⟩:=dS.1 hp;rw [ei.1 hk] at h1;exact ⟨[p],qs,rfl,dS.2 ⟨p,[],rfl,h1,rfl⟩,h2⟩
  cases h
def bT.bool:bT Bool where
 enc n:=[.bool n]
 dec vs:=match vs with
  | .bool n::r=>age (n,r)
  |_=>agn
 law:=fun {vs a rest ps} h hp=>by
  split at h
  · simp only [EQ,adM] at h
    obtain ⟨rfl,rfl⟩:=h;obtain ⟨p,qs,rfl,h1,h2⟩:=dS.1 hp;exact ⟨[p],qs,rfl,dS.2 ⟨p,[],rfl,h1,rfl⟩,h2⟩
  cases h
def L6 (r:List PT):SV->Option (List (RT r))
 | .sl q l=>qp q r l
 | .nil e c=>bif PP e (agd r)&&!c then age [] else agn
 |_=>agn
theorem Fe {r:List PT} {v:SV} {l:List (RT r)} {p:PV} (h:L6 r v=age l) (hp:qt v=age p):qt (.sl r l)=age p:=by
 cases v with
 |sl q m=>obtain ⟨rfl,h2,_⟩:=zJ h;rw [<- hp];simp only [qt,h2]
 |nil e c=>
  simp only [L6] at h;cases hc:(PP e (agd r)&&!c) with
  |false=>rw [hc] at h;cases h
  |true=>rw [hc] at h;injection h with h;subst h;simp only [v6,aeK,adR] at hc;obtain ⟨rfl,rfl⟩:=hc;rw [<- hp];rfl
 |_=>cases h
def bT.sl (r:List PT):bT (List (RT r)) where
 enc l:=[.sl r l]
 dec vs:=match vs with
  |v::rest=>match L6 r v with
   |some l=>age (l,rest)
   |none=>agn
  | []=>agn
 law:=fun {vs a rest ps} h hp=>by
  split at h
  · split at h
    · rename_i v r' x l hl
      simp only [EQ,adM] at h;obtain ⟨rfl,rfl⟩:=h;obtain ⟨p,qs,rfl,h1,h2⟩:=dS.1 hp;exact ⟨[p],qs,rfl,dS.2 ⟨p,[],rfl,Fe hl h1,rfl⟩,h2⟩
    cases h
  cases h
def bT.row (r:List PT):bT (RT r) where
 enc:=RT.sv r
 dec vs:=match RT.of r (vs.take (agd r)) with
  |some a=>age (a,vs.drop (agd r))
  |none=>agn
 law:=fun {vs a rest ps} h hp=>by
  split at h
  · rename_i x hx
    simp only [EQ,adM] at h;obtain ⟨rfl,rfl⟩:=h;obtain ⟨p,q,rfl,h1,h2⟩:=Fc (agd r) hp;rw [RT.oe hx] at h1;exact ⟨p,q,rfl,h1,h2⟩
  cases h
def bT.prod {α β:Type} (A:bT α) (B:bT β):bT (α×β) where
 enc p:=A.enc p.1++B.enc p.2
 dec vs:=match A.dec vs with
  |some p=>match B.dec p.2 with
   |some q=>age ((p.1,q.1),q.2)
   |none=>agn
  |none=>agn
 law:=fun {vs a rest ps} h hp=>by
  split at h
  · rename_i p hA
    split at h
    · rename_i q hB
      simp only [EQ,adM] at h;obtain ⟨rfl,rfl⟩:=h;obtain ⟨p1,p2,rfl,h1,h2⟩:=A.law (a:=p.1) (rest:=p.2) hA hp;obtain ⟨q1,q2,rfl,h3,h4⟩:=B.law (a:=q.1) (rest:=q.2) hB h2;exact ⟨p1++q1,q2,by simp,yE h1 h3,h4⟩
    cases h
  cases h
def bT.Oq {α β:Type} (A:bT α) (f:α->β) (g:β->α) (h: ∀a,g (f a)=a):bT β where
 enc b:=A.enc (g b)
 dec vs:=match A.dec vs with
  |some p=>age (f p.1,p.2)
  |none=>agn
 law:=fun {vs a rest ps} hd hp=>by
  split at hd
  · rename_i p hA
    simp only [EQ,adM] at hd;obtain ⟨rfl,rfl⟩:=hd;rw [h];exact A.law hA hp
  cases hd
def Arg.int (k:IntKind):Arg Int where
 enc n:= .int k n
 dec v:=match v with
  | .int l n=>bif eE l k then age n else agn
  |_=>agn
 law:=fun {v a p} h hp=>by
  split at h
  · rename_i l n
    cases hk:eE l k with
    |false=>rw [hk] at h;cases h
    |true=>rw [hk] at h;injection h with h;subst h;rw [ei.1 hk] at hp;exact hp
  cases h
def Arg.bool:Arg Bool where
 enc n:= .bool n
 dec v:=match v with
  | .bool n=>age n
  |_=>agn
 law:=fun {v a p} h hp=>by
  split at h
  · injection h with h;subst h;exact hp
  cases h
def Arg.sl (r:List PT):Arg (List (RT r)) where
 enc l:= .sl r l
 dec:=L6 r
 law:=Fe
def Arg.agg {α:Type} (A:bT α):Arg α where
 enc a:= .agg (A.enc a)
 dec v:=match v with
  | .agg cs=>match A.dec cs with
   |some p=>match p.2 with
    | []=>age p.1
    |_=>agn
   |none=>agn
  |_=>agn
 law:=fun {v a p} h hp=>by
  split at h
  · rename_i cs
    split at h
    · rename_i q hA
      obtain ⟨x,rest⟩:=q;dsimp only at h;cases rest with
      |cons _ _=>cases h
      |nil=>
       injection h with h;subst h;simp only [qt] at hp;cases hc:pq cs with
       |none=>rw [hc] at hp;cases hp
       |some l=>rw [hc] at hp;injection hp with hp;subst hp;obtain ⟨p1,p2,rfl,h1,h2⟩:=A.law hA hc;simp only [pq,EQ] at h2;subst h2;simp only [qt,h1,adZ]
    cases h
  cases h
def Arg.ref {α:Type} (A:bT α):Arg α where
 enc a:= .bw (A.enc a) 0
 dec v:=match v with
  | .bw cs 0=>match A.dec cs with
   |some p=>match p.2 with
    | []=>age p.1
    |_=>agn
   |none=>agn
  |_=>agn
 law:=fun {v a p} h hp=>by
  split at h
  · rename_i cs
    split at h
    · rename_i q hA
      obtain ⟨x,rest⟩:=q;dsimp only at h;cases rest with
      |cons _ _=>cases h
      |nil=>
       injection h with h;subst h;simp only [qt] at hp;cases hc:pq cs with
       |none=>rw [hc] at hp;cases hp
       |some l=>rw [hc] at hp;injection hp with hp;subst hp;obtain ⟨p1,p2,rfl,h1,h2⟩:=A.law hA hc;simp only [pq,EQ] at h2;subst h2;simp only [qt,h1,adZ]
    cases h
  cases h
def aC.nil:aC Unit where
 enc _:=[]
 dec vs:=match vs with
  | []=>age ()
  |_=>agn
 law:=fun {vs a ps} h hp=>by
  split at h
  · exact hp
  cases h
def aC.one {α:Type} (A:Arg α):aC α where
 enc a:=[A.enc a]
 dec vs:=match vs with
  | [v]=>A.dec v
  |_=>agn
 law:=fun {vs a ps} h hp=>by
  split at h
  · obtain ⟨p,qs,rfl,h1,h2⟩:=dS.1 hp
    exact dS.2 ⟨p,qs,rfl,A.law h h1,h2⟩
  cases h
def aC.cons {α β:Type} (A:Arg α) (B:aC β):aC (α×β) where
 enc a:=A.enc a.1::B.enc a.2
 dec vs:=match vs with
  |v::r=>match A.dec v with
   |some x=>match B.dec r with
    |some y=>age (x,y)
    |none=>agn
   |none=>agn
  | []=>agn
 law:=fun {vs a ps} h hp=>by
  split at h
  · split at h
    · rename_i x hx
      split at h
      · rename_i y hy
        injection h with h;subst h;obtain ⟨p,qs,rfl,h1,h2⟩:=dS.1 hp;exact dS.2 ⟨p,qs,rfl,A.law hx h1,B.law hy h2⟩
      cases h
    cases h
  cases h
def Arg.cj {α:Type} (A:aC α):Arg α where
 enc a:= .cj (A.enc a)
 dec v:=match v with
  | .cj vs=>A.dec vs
  |_=>agn
 law:=fun {v a p} h hp=>by
  split at h
  · rename_i vs
    simp only [qt] at hp;cases hc:pq vs with
    |none=>rw [hc] at hp;cases hp
    |some l=>rw [hc] at hp;injection hp with hp;subst hp;simp only [qt,A.law h hc]
  cases h
def Arg.ef {α:Type} (f:FuncId) (A:aC α):Arg α where
 enc a:= .ef f [] (A.enc a)
 dec v:=match v with
  | .ef g [] b=>bif PP g f then A.dec b else agn
  |_=>agn
 law:=fun {v a p} h hp=>by
  split at h
  · rename_i g b
    cases hg:PP g f with
    |false=>rw [hg] at h;cases h
    |true=>
     rw [hg] at h;have:=v4 hg;subst this;simp only [qt,pq] at hp ⊢;cases hc:pq b with
     |none=>rw [hc] at hp;cases hp
     |some l=>rw [hc] at hp;rw [A.law h hc];exact hp
  cases h
def sZ.rows {α:Type} (A:Arg α) (q r:List PT) (g:α->List (RT q)) (fn:List (RT q)->Option (List (RT r))):sZ:=⟨.one A,.sl r,fun a=>fn (g a),.own,ah0⟩
def sZ.clone (r:List PT):sZ:=⟨.one (.sl r),.sl r,cD,.own,ah0⟩
def nA (a b c:Int):Option (Int×Int):=bif ah1 (0<=a)&&ah1 (0<=b)&&ah1 (0<=c)&&ah1 (c<=1) then age ((a+b+c)%18446744073709551616,(a+b+c) / 18446744073709551616) else agn
def sZ.L7:sZ:=⟨.cons (.int .u64) (.cons (.int .u64) (.one (.int .u64))),.cj (.cons (.int .u64) (.one (.int .u64))),fun a=>nA a.1 a.2.1 a.2.2,.pure,ah0⟩
def H9:List (Nat×sZ)->FuncId->List sZ
 | [],_=>[]
 |(g,c)::r,f=>bif PP g f then c::H9 r f else H9 r f
def Ia:List (Nat×eO)->FuncId->List eO
 | [],_=>[]
 |(g,c)::r,f=>bif PP g f then c::Ia r f else Ia r f
def Gs:List (Nat×Cd)->FuncId->Option Cd
 | [],_=>agn
 |(g,c)::r,f=>bif PP g f then age c else Gs r f
def qT (lp:Option Nat) (c:List (Nat×sZ)) (p:List (Nat×eO)) (x:List (Nat×Cd)) (rk:List (Nat×List PT)):Ctx:=⟨lp,H9 c,Ia p,Gs x,rk,ah0⟩
end Go.Vm
/- What a typed value says of a value of the logical machine. -/
namespace Go.Vm
def OwnAt (s:List SB) (t e n:Nat):Prop:=(∃r l,s[t]? =age (.arr r l)/\e=agd r/\n=agd l)\/s[t]? =age .dead
def xW (s:List SB) (t e:Nat):Prop:=(∃r l,s[t]? =age (.arr r l)/\e=agd r)\/s[t]? =age .dead\/(∃cs,s[t]? =age (.box cs)/\e=1)
def PI (s:List SB) (t:Nat) (r:List PT) (i:Int) (a:RT r):Prop:=(∃l,s[t]? =age (.arr r l)/\aK l i=age a)\/s[t]? =age .dead
def ZO (s:List SB) (t:Nat) (i:Int):Prop:=(∃r l,s[t]? =age (.arr r l)/\(aK l i).isSome=agV)\/s[t]? =age .dead
mutual
def R (s:List SB):SV->PV->Prop
 | .ga,_=>True
 | .undef,v=>v= .undef
 | .iB,v=>v= .iB
 | .dw,v=>v= .dw
 | .int k n,v=>v= .int k n
 | .bool b,v=>v= .bool b
 | .str x,v=>v= .str x
 | .agg cs,v=> ∃ps,v= .agg ps/\RL s cs ps
 | .cj cs,v=> ∃ps,v= .cj ps/\RL s cs ps
 | .sl r l,v=>v= .sl (agd r) ah0 (l.map (RT.pv r))
 | .nil e c,v=>v= .sl e c []
 | .own t ex,v=> ∃e n,v= .own t e 0 n n ex/\OwnAt s t e n
 | .pre t len cap ex,v=> ∃e,v= .own t e 0 len cap ex/\xW s t e
 | .part t off len cap ex,v=> ∃e,v= .own t e off len cap ex/\xW s t e
 | .pa t r i a off,v=>v= .ptr t (agd r) i.toNat off/\PI s t r i a
 | .pb t i off,v=> ∃e,v= .ptr t e i.toNat off/\ZO s t i
 | .bp t n off,v=>v= .ptr t n 0 off
 | .bw cs off,v=> ∃ps,v= .bw ps off/\RL s cs ps
 | .ef f a b,v=> ∃pa pb,v= .ef f pa pb/\RL s a pa/\RL s b pb
 | .mp t,v=>v= .mp t
def RL (s:List SB):List SV->List PV->Prop
 | [],ps=>ps=[]
 |x::xs,ps=> ∃p q,ps=p::q/\R s x p/\RL s xs q
end
def qU:List Int->PV
 | [a]=> .int .i64 a
 |l=> .agg (l.map (.int .i64))
def zK (k:List Int):PV×PV:=(qU k,.bool agV)
def B2 (p:PT) (a:RT [.i .i64,p]):PV×PV:=(.int .i64 a.1,p.pv a.2)
def RB (s:List SB):SB->iZ->Prop
 | .arr r l,b=>b= .arr (agd r) (l.map (RT.pv r))
 | .box cs,b=> ∃ps,b= .box ps/\RL s cs ps
 | .set l,b=>b= .map (l.map zK)
 | .bH p l,b=>b= .map (l.map (B2 p))
 | .dead,b=>b= .dead
structure cd (s:List SB) (p:bY):Prop where
 len:(agd p)=agd s
 at_: ∀(t:Nat) (b:SB),s[t]? =age b-> ∃q,p[t]? =age q/\RB s b q
def dt (s:List SB):SE->Env->Prop
 | [],e=>e=[]
 |(t,v)::r,e=> ∃p q,e=(t,p)::q/\R s v p/\dt s r q
structure xg (st:nu) (p:St):Prop where
 env:dt st.aD st.env p.env
 aD:cd st.aD p.aD
 fz:p.fz=st.fz
 kn:p.kn=st.kn
theorem kU: ∀(s l:List SB),ZJ s l=s++l
 | [],_=>rfl
 |b::r,l=>by simp [ZJ,kU r l]
theorem zL: ∀(s:List SB) (t:Nat) (b:SB),PD s t b=s.set t b
 | [],_,_=>by simp [PD]
 |_::_,0,_=>rfl
 |x::r,n+1,b=>by simp [PD,zL r n b]
theorem RL.nil {s:List SB}:RL s [] []:=rfl
theorem RL.cons {s:List SB} {x:SV} {xs:List SV} {p:PV} {q:List PV} (h:R s x p) (k:RL s xs q):RL s (x::xs) (p::q):=⟨p,q,rfl,h,k⟩
theorem RL.cons_inv {s:List SB} {x:SV} {xs:List SV} {ps:List PV} (h:RL s (x::xs) ps): ∃p q,ps=p::q/\R s x p/\RL s xs q:=h
theorem RL.ly {s:List SB}: ∀{xs:List SV} {ps:List PV},RL s xs ps->agd ps=agd xs
 | [],ps,h=>by rw [show ps=[] from h];rfl
 |x::xs,ps,h=>by obtain ⟨p,q,rfl,_,h2⟩:=h.cons_inv;simp [h2.ly]
theorem RL.append {s:List SB}: ∀{xs:List SV} {ps:List PV},RL s xs ps-> ∀{ys:List SV} {qs:List PV},RL s ys qs->RL s (xs++ys) (ps++qs)
 | [],ps,h,_,_,k=>by rw [show ps=[] from h];exact k
 |x::xs,ps,h,_,_,k=>by obtain ⟨p,q,rfl,h1,h2⟩:=h.cons_inv;exact RL.cons h1 (h2.append k)
theorem RL.take {s:List SB}: ∀{xs:List SV} {ps:List PV},RL s xs ps-> ∀n,RL s (xs.take n) (ps.take n)
 | [],ps,h,n=>by rw [show ps=[] from h];simp;exact RL.nil
 |x::xs,ps,h,0=>by simp;exact RL.nil
 |x::xs,ps,h,n+1=>by obtain ⟨p,q,rfl,h1,h2⟩:=h.cons_inv;exact RL.cons h1 (h2.take n)
theorem RL.drop {s:List SB}: ∀{xs:List SV} {ps:List PV},RL s xs ps-> ∀n,RL s (xs.drop n) (ps.drop n)
 | [],ps,h,n=>by rw [show ps=[] from h];simp;exact RL.nil
 |x::xs,ps,h,0=>h
 |x::xs,ps,h,n+1=>by obtain ⟨p,q,rfl,h1,h2⟩:=h.cons_inv;exact h2.drop n
theorem RL.nth {s:List SB}: ∀{xs:List SV} {ps:List PV},RL s xs ps-> ∀{n:Nat} {v:SV},Vm.nth xs n=age v-> ∃p,ps[n]? =age p/\R s v p
 | [],_,_,_,_,e=>by cases e
 |x::xs,ps,h,0,v,e=>by obtain ⟨p,q,rfl,h1,_⟩:=h.cons_inv;injection e with e;subst e;exact ⟨p,rfl,h1⟩
 |x::xs,ps,h,n+1,v,e=>by obtain ⟨p,q,rfl,_,h2⟩:=h.cons_inv;obtain ⟨p',h3,h4⟩:=h2.nth (n:=n) e;exact ⟨p',by simpa using h3,h4⟩
mutual
theorem Kq (s:List SB): ∀v:PV,R s (Sb v) v
 | .undef=>rfl
 | .iB=>rfl
 | .dw=>rfl
 | .int _ _=>rfl
 | .bool _=>rfl
 | .str _=>rfl
 | .agg cs=>⟨cs,rfl,tU s cs⟩
 | .cj cs=>⟨cs,rfl,tU s cs⟩
 | .sl e c rows=>by
  cases rows with
  |nil=>exact rfl
  |cons _ _=>trivial
 | .ef f a b=>⟨a,b,rfl,tU s a,tU s b⟩
 | .own .. =>trivial
 | .ptr .. =>trivial
 | .bw .. =>trivial
 | .mp _=>trivial
theorem tU (s:List SB): ∀l:List PV,RL s (zE l) l
 | []=>rfl
 |x::xs=>RL.cons (Kq s x) (tU s xs)
end
theorem dt.lk {s:List SB}: ∀{e:SE} {p:Env},dt s e p-> ∀t,R s (By t e) (Vm.lk t p)
 | [],p,h,t=>by rw [show p=[] from h];rfl
 |(u,v)::r,p,h,t=>by
  obtain ⟨q,qs,rfl,h1,h2⟩:=h;simp only [By,Vm.lk];cases hb:PP u t with
  |true=>exact h1
  |false=>exact dt.lk h2 t
theorem dt.yz {s:List SB}: ∀{e:SE} {p:Env},dt s e p-> ∀{t:Nat} {v:SV},R s v (Vm.lk t p)->dt s (Vm.yz t v e) p
 | [],p,h,t,v,_=>h
 |(u,x)::r,p,h,t,v,hv=>by
  obtain ⟨q,qs,rfl,h1,h2⟩:=h;simp only [Vm.yz];simp only [Vm.lk] at hv;cases hb:PP u t with
  |true=>rw [hb] at hv;exact ⟨q,qs,rfl,hv,h2⟩
  |false=>rw [hb] at hv;exact ⟨q,qs,rfl,h1,dt.yz h2 hv⟩
theorem dh {s:List SB} {e:SE} {p:Env} (h:dt s e p): ∀x:eI,R s (bK e x) (x.ev p)
 | .t n=>h.lk n
 | .c v=>Kq s v
theorem xh {s:List SB} {e:SE} {p:Env} (h:dt s e p): ∀l:List eI,RL s (iH e l) (Ct p l)
 | []=>rfl
 |x::xs=>RL.cons (dh h x) (xh h xs)
def Fr (bad:List Nat) (s s':List SB):Prop:= ∀(t:Nat) (b:SB),s[t]? =age b->match b with
 | .arr r l=>(∃l',s'[t]? =age (.arr r l')/\agd l'=agd l/\(has bad t=ah0->l'=l))\/s'[t]? =age .dead
 | .dead=>s'[t]? =age .dead
 | .box _=>(∃cs,s'[t]? =age (.box cs))\/s'[t]? =age .dead
 |_=>True
theorem Fr.refl (bad:List Nat) (s:List SB):Fr bad s s:=fun t b h=>by
 cases b with
 |arr r l=>exact .inl ⟨l,h,rfl,fun _=>rfl⟩
 |dead=>exact h
 |box cs=>exact .inl ⟨cs,h⟩
 |_=>trivial
theorem Fr.app (bad:List Nat) (s l:List SB):Fr bad s (s++l):=fun t b h=>by
 have h':(s++l)[t]? =age b:=by have:=(ww.1 h).1;rw [AC this];exact h
 cases b with
 |arr r l=>exact .inl ⟨l,h',rfl,fun _=>rfl⟩
 |dead=>exact h'
 |box cs=>exact .inl ⟨cs,h'⟩
 |_=>trivial
theorem Fr.trans {bad:List Nat} {a b c:List SB} (h:Fr bad a b) (k:Fr bad b c):Fr bad a c:=fun t x hx=>by
 have h1:=h t x hx;cases x with
 |arr r l=>
  rcases h1 with ⟨l',h2,h3,h4⟩|h2
  · have k1:=k t _ h2
    rcases k1 with ⟨l2,k2,k3,k4⟩|k2
    · exact .inl ⟨l2,k2,k3.trans h3,fun hb=>(k4 hb).trans (h4 hb)⟩
    exact .inr k2
  exact .inr (k t _ h2)
 |dead=>exact k t _ h1
 |box cs=>
  rcases h1 with ⟨c2,h2⟩|h2
  · exact k t _ h2
  exact .inr (k t _ h2)
 |_=>trivial
theorem BD {α:Type} {l m:List α} {i:Int} (h:(aK l i).isSome=agV) (hl:(agd m)=agd l):(aK m i).isSome=agV:=by
 cases i with
 |ofNat n=>simp only [aK] at h ⊢;rw [aeM] at h;obtain ⟨a,ha⟩:=h;have:=(ww.1 ha).1;rw [If (by omega)];rfl
 |negSucc n=>simp [aK] at h
mutual
theorem R.fr {bad:List Nat} {s s':List SB} (hf:Fr bad s s'): ∀{v:SV} {p:PV},R s v p->R s' (Rz bad v) p
 | .ga,_,_=>trivial
 | .undef,_,h=>h
 | .iB,_,h=>h
 | .dw,_,h=>h
 | .int _ _,_,h=>h
 | .bool _,_,h=>h
 | .str _,_,h=>h
 | .agg cs,_,h=>by obtain ⟨ps,rfl,h⟩:=h;exact ⟨ps,rfl,RL.fr hf h⟩
 | .cj cs,_,h=>by obtain ⟨ps,rfl,h⟩:=h;exact ⟨ps,rfl,RL.fr hf h⟩
 | .sl _ _,_,h=>h
 | .nil _ _,_,h=>h
 | .own t ex,_,h=>by
  obtain ⟨e,n,rfl,h⟩:=h;refine ⟨e,n,rfl,?_⟩;rcases h with ⟨r,l,h1,h2,h3⟩|h1
  · rcases hf t _ h1 with ⟨l',k1,k2,_⟩|k1
    · exact .inl ⟨r,l',k1,h2,by rw [h3,k2]⟩
    exact .inr k1
  exact .inr (hf t _ h1)
 | .pre t len cap ex,_,h=>by
  obtain ⟨e,rfl,h⟩:=h;refine ⟨e,rfl,?_⟩;rcases h with ⟨r,l,h1,h2⟩|h1|⟨cs,h1,h2⟩
  · rcases hf t _ h1 with ⟨l',k1,_,_⟩|k1
    · exact .inl ⟨r,l',k1,h2⟩
    exact .inr (.inl k1)
  · exact .inr (.inl (hf t _ h1))
  rcases hf t _ h1 with ⟨c2,k1⟩|k1
  · exact .inr (.inr ⟨c2,k1,h2⟩)
  exact .inr (.inl k1)
 | .part t off len cap ex,_,h=>by
  obtain ⟨e,rfl,h⟩:=h;refine ⟨e,rfl,?_⟩;rcases h with ⟨r,l,h1,h2⟩|h1|⟨cs,h1,h2⟩
  · rcases hf t _ h1 with ⟨l',k1,_,_⟩|k1
    · exact .inl ⟨r,l',k1,h2⟩
    exact .inr (.inl k1)
  · exact .inr (.inl (hf t _ h1))
  rcases hf t _ h1 with ⟨c2,k1⟩|k1
  · exact .inr (.inr ⟨c2,k1,h2⟩)
  exact .inr (.inl k1)
 | .pa t r i a off,_,h=>by
  obtain ⟨rfl,h⟩:=h;simp only [Rz];cases hb:has bad t with
  |true=>
   refine ⟨_,rfl,?_⟩;rcases h with ⟨l,h1,h2⟩|h1
   · rcases hf t _ h1 with ⟨l',k1,k2,_⟩|k1
     · exact .inl ⟨r,l',k1,BD (by rw [h2];rfl) k2⟩
     exact .inr k1
   exact .inr (hf t _ h1)
  |false=>
   refine ⟨rfl,?_⟩;rcases h with ⟨l,h1,h2⟩|h1
   · rcases hf t _ h1 with ⟨l',k1,_,k3⟩|k1
     · exact .inl ⟨l',k1,by rw [k3 hb];exact h2⟩
     exact .inr k1
   exact .inr (hf t _ h1)
 | .pb t i off,_,h=>by
  obtain ⟨e,rfl,h⟩:=h;refine ⟨e,rfl,?_⟩;rcases h with ⟨r,l,h1,h2⟩|h1
  · rcases hf t _ h1 with ⟨l',k1,k2,_⟩|k1
    · exact .inl ⟨r,l',k1,BD h2 k2⟩
    exact .inr k1
  exact .inr (hf t _ h1)
 | .bp _ _ _,_,h=>h
 | .bw cs off,_,h=>by obtain ⟨ps,rfl,h⟩:=h;exact ⟨ps,rfl,RL.fr hf h⟩
 | .ef f a b,_,h=>by obtain ⟨pa,pb,rfl,h1,h2⟩:=h;exact ⟨pa,pb,rfl,RL.fr hf h1,RL.fr hf h2⟩
 | .mp _,_,h=>h
theorem RL.fr {bad:List Nat} {s s':List SB} (hf:Fr bad s s'): ∀{v:List SV} {p:List PV},RL s v p->RL s' (PC bad v) p
 | [],_,h=>h
 |x::xs,_,h=>by obtain ⟨p,q,rfl,h1,h2⟩:=h.cons_inv;exact RL.cons (R.fr hf h1) (RL.fr hf h2)
end
mutual
theorem L8: ∀v:SV,Rz [] v=v
 | .ga| .undef| .iB| .dw| .int _ _| .bool _| .str _| .sl _ _| .nil _ _| .own _ _| .pre _ _ _ _| .part _ _ _ _ _| .pb _ _ _| .bp _ _ _| .mp _=>rfl
 | .agg cs=>by simp only [Rz,rj cs]
 | .cj cs=>by simp only [Rz,rj cs]
 | .bw cs _=>by simp only [Rz,rj cs]
 | .ef _ a b=>by simp only [Rz,rj a,rj b]
 | .pa t r i a off=>by simp [Rz,has]
theorem rj: ∀v:List SV,PC [] v=v
 | []=>rfl
 |x::xs=>by simp only [PC,L8 x,rj xs]
end
theorem R.ext {s s':List SB} (hf:Fr [] s s') {v:SV} {p:PV} (h:R s v p):R s' v p:=by
 have:=R.fr hf h
 rwa [L8] at this
theorem RL.ext {s s':List SB} (hf:Fr [] s s') {v:List SV} {p:List PV} (h:RL s v p):RL s' v p:=by
 have:=RL.fr hf h
 rwa [rj] at this
theorem RB.fr {bad:List Nat} {s s':List SB} (hf:Fr bad s s') {b:SB} {p:iZ} (h:RB s b p):RB s' (Sh bad b) p:=by
 cases b with
 |box cs=>obtain ⟨ps,rfl,h⟩:=h;exact ⟨ps,rfl,RL.fr hf h⟩
 |_=>exact h
theorem RB.ext {s s':List SB} (hf:Fr [] s s') {b:SB} {p:iZ} (h:RB s b p):RB s' b p:=by
 cases b with
 |box cs=>obtain ⟨ps,rfl,h⟩:=h;exact ⟨ps,rfl,RL.ext hf h⟩
 |_=>exact h
theorem dt.fr {bad:List Nat} {s s':List SB} (hf:Fr bad s s'): ∀{e:SE} {p:Env},dt s e p->dt s' (dgE bad e) p
 | [],_,h=>h
 |(t,v)::r,_,h=>by obtain ⟨p,q,rfl,h1,h2⟩:=h;exact ⟨p,q,rfl,R.fr hf h1,dt.fr hf h2⟩
theorem dt.ext {s s':List SB} (hf:Fr [] s s'): ∀{e:SE} {p:Env},dt s e p->dt s' e p
 | [],_,h=>h
 |(t,v)::r,_,h=>by obtain ⟨p,q,rfl,h1,h2⟩:=h;exact ⟨p,q,rfl,R.ext hf h1,dt.ext hf h2⟩
theorem cd.app {s:List SB} {p:bY} (h:cd s p) {l:List SB} {q:bY} (hl:(agd q)=agd l) (hb: ∀(j:Nat) (b:SB),l[j]? =age b-> ∃x,q[j]? =age x/\RB (s++l) b x):cd (s++l) (p++q) where
 len:=by simp [h.len,hl]
 at_:=fun t b ht=>by
  rcases aex t (agd s) with dz|Yp
  · rw [AC dz] at ht
    obtain ⟨x,h1,h2⟩:=h.at_ t b ht;exact ⟨x,by rw [AC (by rw [h.len];exact dz)];exact h1,h2.ext (Fr.app [] s l)⟩
  rw [Do Yp] at ht
  obtain ⟨x,h1,h2⟩:=hb _ b ht;exact ⟨x,by rw [Do (by rw [h.len];exact Yp),h.len];exact h1,h2⟩
theorem pT (ts:List Nat): ∀(s:List SB) (t:Nat),(Ao ts s)[t]? =(s[t]?).map (Sh ts)
 | [],t=>by simp [Ao]
 |b::r,0=>by simp [Ao]
 |b::r,t+1=>by simp [Ao,pT ts r t]
theorem tV (ts:List Nat): ∀(s:List SB),(Ao ts s).length=agd s
 | []=>rfl
 |b::r=>by simp [Ao,tV ts r]
theorem Fr.dg {bad ts:List Nat} {s s':List SB} (h:Fr bad s s'):Fr bad s (Ao ts s'):=fun t b hb=>by
 have h1:=h t b hb;cases b with
 |arr r l=>
  rcases h1 with ⟨l',h2,h3,h4⟩|h2
  · exact .inl ⟨l',by rw [pT,h2];rfl,h3,h4⟩
  exact .inr (by rw [pT,h2];rfl)
 |dead=>show (Ao ts s')[t]? =_;rw [pT,h1];rfl
 |box cs=>
  rcases h1 with ⟨c2,h2⟩|h2
  · exact .inl ⟨PC ts c2,by rw [pT,h2];rfl⟩
  exact .inr (by rw [pT,h2];rfl)
 |_=>trivial
theorem Ff {s:List SB}: ∀(r:List PT) (a:RT r),RL s (RT.sv r a) (RT.pv r a)
 | [],_=>rfl
 | [p],a=>by refine RL.cons ?_ RL.nil;cases p<;>rfl
 |p::q::r,a=>by refine RL.cons ?_ (Ff (q::r) a.2);cases p<;>rfl
theorem xi {s:List SB}: ∀(r:List PT) (a:RT r) {ps:List PV},RL s (RT.sv r a) ps->ps=RT.pv r a
 | [],_,ps,h=>h
 | [p],a,ps,h=>by obtain ⟨x,q,rfl,h1,h2⟩:=h.cons_inv;have ZP:q=[]:=h2;subst ZP;cases p<;>(have Ot:=h1;simp only [PT.sv,R] at Ot;rw [Ot];rfl)
 |p::q::r,a,ps,h=>by obtain ⟨x,qs,rfl,h1,h2⟩:=h.cons_inv;rw [xi (q::r) a.2 h2];cases p<;>(have Ot:=h1;simp only [PT.sv,R] at Ot;rw [Ot];rfl)
theorem RT.plain: ∀(r:List PT) (a:RT r),(RT.pv r a).all PV.plain=agV
 | [],_=>rfl
 | [p],a=>by cases p<;>rfl
 |p::q::r,a=>by have:=RT.plain (q::r) a.2;cases p<;>(simp only [RT.pv,afb,this,aeF];rfl)
theorem R.cells {s:List SB} {v:SV} {p:PV} (h:R s v p) (hj:v≠ .ga):RL s v.cells p.cells:=by
 cases v with
 |ga=>exact absurd rfl hj
 |agg cs=>obtain ⟨ps,rfl,h⟩:=h;exact h
 |undef=>rw [show p= .undef from h];exact RL.cons rfl RL.nil
 |iB=>rw [show p= .iB from h];exact RL.cons rfl RL.nil
 |dw=>rw [show p= .dw from h];exact RL.cons rfl RL.nil
 |int k n=>rw [show p= .int k n from h];exact RL.cons rfl RL.nil
 |bool b=>rw [show p= .bool b from h];exact RL.cons rfl RL.nil
 |str x=>rw [show p= .str x from h];exact RL.cons rfl RL.nil
 |sl r l=>rw [show p=_ from h];exact RL.cons rfl RL.nil
 |nil e c=>rw [show p=_ from h];exact RL.cons rfl RL.nil
 |bp t n o=>rw [show p=_ from h];exact RL.cons rfl RL.nil
 |mp t=>rw [show p=_ from h];exact RL.cons rfl RL.nil
 |cj cs=>obtain ⟨ps,rfl,h⟩:=h;exact RL.cons ⟨ps,rfl,h⟩ RL.nil
 |own t ex=>obtain ⟨e,n,rfl,h⟩:=h;exact RL.cons ⟨e,n,rfl,h⟩ RL.nil
 |pre t a b c=>obtain ⟨e,rfl,h⟩:=h;exact RL.cons ⟨e,rfl,h⟩ RL.nil
 |part t o a b c=>obtain ⟨e,rfl,h⟩:=h;exact RL.cons ⟨e,rfl,h⟩ RL.nil
 |pa t r i a o=>obtain ⟨rfl,h⟩:=h;exact RL.cons ⟨rfl,h⟩ RL.nil
 |pb t i o=>obtain ⟨e,rfl,h⟩:=h;exact RL.cons ⟨e,rfl,h⟩ RL.nil
 |bw cs o=>obtain ⟨ps,rfl,h⟩:=h;exact RL.cons ⟨ps,rfl,h⟩ RL.nil
 |ef f a b=>obtain ⟨pa,pb,rfl,h⟩:=h;exact RL.cons ⟨pa,pb,rfl,h⟩ RL.nil
theorem R.oE {s:List SB} {v:SV} {p:PV} (h:R s v p) (ho:v.oE=agV):p.oE=agV:=by
 cases v with
 |ga|undef|iB|agg _|cj _=>cases ho
 |dw|int _ _|bool _|str _|sl _ _|nil _ _|bp _ _ _|mp _=>rw [show p=_ from h];rfl
 |own t ex=>obtain ⟨e,n,rfl,h⟩:=h;rfl
 |pre t a b c=>obtain ⟨e,rfl,h⟩:=h;rfl
 |part t o a b c=>obtain ⟨e,rfl,h⟩:=h;rfl
 |pa t r i a o=>obtain ⟨rfl,h⟩:=h;rfl
 |pb t i o=>obtain ⟨e,rfl,h⟩:=h;rfl
 |bw cs o=>obtain ⟨ps,rfl,h⟩:=h;rfl
 |ef f a b=>obtain ⟨pa,pb,rfl,h⟩:=h;rfl
theorem RL.vV {s:List SB}: ∀{cs:List SV} {ps:List PV},RL s cs ps->Vm.vV cs=agV->ps.all PV.oE=agV
 | [],ps,h,_=>by rw [show ps=[] from h];rfl
 |x::xs,ps,h,ho=>by obtain ⟨p,q,rfl,h1,h2⟩:=h.cons_inv;simp only [Vm.vV,v6] at ho;simp only [afb,v6];exact ⟨h1.oE ho.1,h2.vV ho.2⟩
theorem R.stored {s:List SB} {v:SV} {p:PV} {w:List SV} (h:R s v p) (hs:v.stored=age w): ∃q,p.stored=age q/\RL s w q:=by
 unfold SV.stored at hs;cases ha:Vm.vV v.cells with
 |false=>rw [ha] at hs;cases hs
 |true=>
  rw [ha] at hs;injection hs with hs;subst hs;have hj:v≠ .ga:=by intro e;subst e;cases ha
  have hc:=h.cells hj;exact ⟨p.cells,by unfold PV.stored;rw [rc (hc.vV ha)],hc⟩
theorem R.ofRow {s:List SB} {v:SV} {p:PV} {r:List PT} {a:RT r} (h:R s v p) (hr:RT.of r v.cells=age a):p.bZ=age (RT.pv r a)/\agd v.cells=(agd r):=by
 have hc:=RT.oe hr;have hl:(agd v.cells)=(agd r):=by rw [hc,RT.Gr]
 refine ⟨?_,hl⟩;have hj:v≠ .ga:=by
  intro e;subst e;cases r with
  |nil=>simp [SV.cells,RT.of] at hr
  |cons p q=>cases q with
   |nil=>cases p<;>simp [SV.cells,RT.of,PT.of] at hr
   |cons _ _=>simp only [SV.cells,RT.of] at hr;split at hr<;>cases hr<;>(rename_i x y h1 h2;simp at h2)
 have h1:=h.cells hj;rw [hc] at h1;have h2:=xi r a h1;unfold PV.bZ;rw [h2,rc (RT.plain r a)]
theorem rl {s:List SB} {agg:Option Nat} {off:Nat} {cs:List SV} {ps:List PV} {v:SV} (h:RL s cs ps) (hp:xT agg off cs=age v): ∃p,part agg off ps=age p/\R s v p:=by
 cases agg with
 |none=>obtain ⟨p,h1,h2⟩:=h.nth hp;exact ⟨p,h1,h2⟩
 |some n=>
  simp only [xT] at hp;cases hb:NE (off+n) (agd cs) with
  |false=>rw [hb] at hp;cases hp
  |true=>
   rw [hb] at hp;injection hp with hp;subst hp;have:off+n<=(agd ps):=by rw [h.ly];exact acl hb
   exact ⟨.agg ((ps.drop off).take n),by simp only [part,rc this],_,rfl,(h.drop off).take n⟩
theorem xj {s:List SB} {off:Nat} {new old:List SV} {pn po:List PV} (h:RL s new pn) (k:RL s old po):RL s (oc off new old) (mg off pn po):=by unfold oc mg;rw [h.ly];exact ((k.take off).append h).append (k.drop _)
theorem L9 {s:List SB} {ps:bY} {v:SV} {p:PV} {r:List PT} {l:List (RT r)} (hs:cd s ps) (h:R s v p) (hc:xU s v=age ⟨r,l⟩):
 rowsOf ps (agd r) p=age (l.map (RT.pv r))/\gP p=tQ v:=by
 cases v with
 |sl q m=>
  have AD:(⟨q,m⟩:Rows)=⟨r,l⟩:=by injection hc
  cases AD;rw [show p=_ from h];refine ⟨?_,rfl⟩;cases l with
  |nil=>rfl
  |cons a l=>simp [rowsOf]
 |own t ex=>
  simp only [xU,bU] at hc;split at hc
  · rename_i q m bR
    have AD:(⟨q,m⟩:Rows)=⟨r,l⟩:=by injection hc
    cases AD;obtain ⟨e,n,rfl,cL⟩:=h;rcases cL with ⟨q',m',h1,rfl,rfl⟩|h1
    · rw [bR] at h1
      injection h1 with h1;cases h1;obtain ⟨b,h2,h3⟩:=hs.at_ t _ bR;rw [show b=_ from h3] at h2;refine ⟨?_,rfl⟩;simp only [rowsOf,ae5,if_true,h2,aeq];rw [aeo (by simp)]
    rw [bR] at h1;cases h1
  cases hc
 |pre t len cap ex=>
  simp only [xU,bU] at hc;split at hc
  · rename_i q m bR
    have AD:(⟨q,m.take len⟩:Rows)=⟨r,l⟩:=by injection hc
    cases AD;obtain ⟨e,rfl,cL⟩:=h;rcases cL with ⟨q',m',h1,rfl⟩|h1|⟨_,h1,_⟩
    · rw [bR] at h1
      injection h1 with h1;cases h1;obtain ⟨b,h2,h3⟩:=hs.at_ t _ bR;rw [show b=_ from h3] at h2;refine ⟨?_,rfl⟩;simp only [rowsOf,ae5,if_true,h2];simp
    · rw [bR] at h1;cases h1
    rw [bR] at h1;cases h1
  cases hc
 |part t off len cap ex=>
  simp only [xU,bU] at hc;split at hc
  · rename_i q m bR
    have AD:(⟨q,(m.drop off).take len⟩:Rows)=⟨r,l⟩:=by injection hc
    cases AD;obtain ⟨e,rfl,cL⟩:=h;rcases cL with ⟨q',m',h1,rfl⟩|h1|⟨_,h1,_⟩
    · rw [bR] at h1
      injection h1 with h1;cases h1;obtain ⟨b,h2,h3⟩:=hs.at_ t _ bR;rw [show b=_ from h3] at h2;refine ⟨?_,rfl⟩;simp only [rowsOf,ae5,if_true,h2];simp
    · rw [bR] at h1;cases h1
    rw [bR] at h1;cases h1
  cases hc
 |_=>cases hc
end Go.Vm
/- Operation by operation: what the typed machine does, the logical machine does; the easy ones. -/
namespace Go.Vm
structure Good (s:List SB) (ps:bY) (sr:fk) (pr:mh):Prop where
 rd:pr.rd=sr.rd
 fr:pr.fr=sr.fr
 wr:pr.wr.map (·.1)=vZ sr.wr
 nw:tF pr.wr=agV
 nl:(agd pr.news)=agd sr.news
 aD:cd (sr.lN s) (Hj (fw pr.wr ps) pr.news)
 v:R (sr.lN s) sr.v pr.v
 fra:Fr (vZ sr.wr) s (sr.lN s)
section
variable {s : List SB} {ps : bY}
theorem Good.val (hS:cd s ps) {v:SV} {p:PV} {rd fr:List Nat} (hv:R s v p):Good s ps {v,rd,fr} {v:=p,rd,fr} where
 rd:=rfl
 fr:=rfl
 wr:=rfl
 nw:=rfl
 nl:=rfl
 aD:=by simp only [fk.lN,kU,adZ,fw,Hj];exact hS
 v:=by simp only [fk.lN,kU,adZ];exact hv
 fra:=by simp only [fk.lN,kU,adZ];exact Fr.refl _ _
theorem Good.news (hS:cd s ps) {v:SV} {p:PV} {l:List SB} {q:bY} {rd:List Nat} (hl:(agd q)=agd l) (hb: ∀(j:Nat) (b:SB),l[j]? =age b-> ∃x,q[j]? =age x/\RB (s++l) b x) (hv:R (s++l) v p):
 Good s ps {v,news:=l,rd} {v:=p,news:=q,rd} where
 rd:=rfl
 fr:=rfl
 wr:=rfl
 nw:=rfl
 nl:=hl
 aD:=by simp only [fk.lN,kU,fw,pK];exact hS.app hl hb
 v:=by simp only [fk.lN,kU];exact hv
 fra:=by simp only [fk.lN,kU];exact Fr.app _ _ _
theorem Good.new (hS:cd s ps) {v:SV} {p:PV} {b:SB} {q:iZ} {rd:List Nat} (hb:RB (s++[b]) b q) (hv:R (s++[b]) v p):Good s ps {v,news:=[b],rd} {v:=p,news:=[q],rd}:=
 Good.news hS rfl (fun j x h=>by
  cases j with
  |zero=>simp at h;subst h;exact ⟨q,rfl,hb⟩
  |succ j=>simp at h) hv
def L' (b0 b:SB):Prop:=
 match b0 with
 | .arr r l=>(∃l',b= .arr r l'/\agd l'=agd l)\/b= .dead
 | .dead=>b= .dead
 | .box _=>(∃cs,b= .box cs)\/b= .dead
 |_=>True
theorem Fr.set {t:Nat} {b0 b:SB} (h0:s[t]? =age b0) (hk:L' b0 b):Fr [t] s (s.set t b):=fun u x hu=>by
 by_cases JH:t=u
 · subst JH
   rw [h0] at hu;injection hu with hu;subst hu;have dz:=(ww.1 h0).1;have hb:(s.set t b)[t]? =age b:=by simp [dz]
   cases b0 with
   |arr r l=>
    rcases hk with ⟨l',rfl,hl⟩|rfl
    · exact .inl ⟨l',hb,hl,fun h=>by simp [has] at h⟩
    exact .inr hb
   |dead=>rw [show b= .dead from hk] at hb ⊢;exact hb
   |box cs=>
    rcases hk with ⟨c2,rfl⟩|rfl
    · exact .inl ⟨c2,hb⟩
    exact .inr hb
   |_=>trivial
 have hb:(s.set t b)[u]? =age x:=by rw [M2];simp [JH,hu]
 cases x with
 |arr r l=>exact .inl ⟨l,hb,rfl,fun _=>rfl⟩
 |dead=>exact hb
 |box cs=>exact .inl ⟨cs,hb⟩
 |_=>trivial
theorem cd.put (hS:cd s ps) {t:Nat} {b0 b:SB} {q:iZ} (h0:s[t]? =age b0) (hk:L' b0 b) (hq:RB (Ao [t] (s.set t b)) (Sh [t] b) q):cd (Ao [t] (s.set t b)) (ps.set t q) where
 len:=by simp [tV,hS.len]
 at_:=fun u x hu=>by
  have dz:=(ww.1 h0).1;rw [pT] at hu
  by_cases JH:t=u
  · subst JH
    have hb:(s.set t b)[t]? =age b:=by simp [dz]
    rw [hb] at hu;simp at hu;subst hu;exact ⟨q,by rw [M2];simp [hS.len,dz],hq⟩
  rw [M2] at hu
  simp only [JH,if_false,ae6] at hu;obtain ⟨y,hy,rfl⟩:=hu;obtain ⟨q',h1,h2⟩:=hS.at_ u y hy;exact ⟨q',by rw [M2];simp [JH,h1],h2.fr (Fr.dg (Fr.set h0 hk))⟩
theorem Good.put (hS:cd s ps) {v:SV} {p:PV} {t:Nat} {b0 b:SB} {q:iZ} {l:List SB} {ql:bY} {rd:List Nat} (h0:s[t]? =age b0) (hk:L' b0 b) (hq:RB (Ao [t] (s.set t b)) (Sh [t] b) q)
 (hl:(agd ql)=agd l) (hb: ∀(j:Nat) (x:SB),l[j]? =age x-> ∃y,ql[j]? =age y/\RB (Ao [t] (s.set t b)++l) x y) (hv:R (Ao [t] (s.set t b)++l) v p):
 Good s ps {v,wr:=[(t,b)],news:=l,rd} {v:=p,wr:=[(t,q)],news:=ql,rd} where
 rd:=rfl
 fr:=rfl
 wr:=rfl
 nw:=rfl
 nl:=hl
 aD:=by simp only [fk.lN,kU,fw,pK,vZ,px,zL];exact (hS.put h0 hk hq).app hl hb
 v:=by simp only [fk.lN,kU,vZ,px,zL];exact hv
 fra:=by simp only [fk.lN,kU,vZ,px,zL];exact (Fr.dg (Fr.set h0 hk)).trans (Fr.app _ _ _)
theorem Good.PJ (hS:cd s ps) {t:Nat} {b0 b:SB} {q:iZ} {rd:List Nat} (h0:s[t]? =age b0) (hk:L' b0 b) (hq:RB (Ao [t] (s.set t b)) (Sh [t] b) q):
 Good s ps {v:= .undef,wr:=[(t,b)],rd} {v:= .undef,wr:=[(t,q)],rd}:=
 Good.put hS h0 hk hq rfl (fun j x h=>by simp at h) rfl
end
section
variable {R' ρ : Type} {w : R' -> ρ} {y : ρ}
theorem bB {α:Type} {x:Option α} {k:α->fG R'} (h:j7 x k ρ w=age y): ∃a,x=age a/\k a ρ w=age y:=by
 cases x with
 |none=>cases h
 |some a=>exact ⟨a,rfl,h⟩
theorem cp {α:Type} {x:Option α} {k:α->fG R'} (h:jQ x k ρ w=age y): ∃a,x=age a/\k a ρ w=age y:=J' h
theorem ej {c:Bool} {a b:fG R'} (h:fv c a b ρ w=age y):(c=agV/\a ρ w=age y)\/(c=ah0/\b ρ w=age y):=Ka h
theorem cq {c:Bool} {a:fG R'} (h:(bif c then a else aN) ρ w=age y):c=agV/\a ρ w=age y:=by
 cases c
 · cases h
 exact ⟨rfl,h⟩
theorem qc {c:Bool} {a:fG R'} (h:(bif c then aN else a) ρ w=age y):c=ah0/\a ρ w=age y:=by
 cases c
 · exact ⟨rfl,h⟩
 cases h
theorem gy {c:Bool} {a:fG R'} (h:fv c a aN ρ w=age y):c=agV/\a ρ w=age y:=by
 rcases ej h with ⟨h1,h2⟩|⟨_,h2⟩
 · exact ⟨h1,h2⟩
 cases h2
theorem tX {c:Bool} {a:fG R'} (h:fv c aN a ρ w=age y):c=ah0/\a ρ w=age y:=by
 rcases ej h with ⟨_,h2⟩|⟨h1,h2⟩
 · cases h2
 exact ⟨h1,h2⟩
end
def fX {R':Type} (s:List SB) (ps:bY) (po:Option mh) (k:fk->fG R') (ρ:Type) (w:R'->ρ) (y:ρ):Prop:=
 ∃sr pr,po=age pr/\Good s ps sr pr/\k sr ρ w=age y
section
variable {R' ρ : Type} {w : R' -> ρ} {y : ρ} {s : List SB} {ps : bY} {e : SE} {pe : Env} {z : List Nat} {k : fk -> fG R'}
theorem fX.val (hS:cd s ps) {po:Option mh} {v:SV} {p:PV} (h:k {v} ρ w=age y) (hp:po=age {v:=p}) (hv:R s v p):fX s ps po k ρ w y:=
 ⟨_,_,hp,Good.val hS hv,h⟩
theorem fX.rd (hS:cd s ps) {po:Option mh} {v:SV} {p:PV} {rd:List Nat} (h:k {v,rd} ρ w=age y) (hp:po=age {v:=p,rd}) (hv:R s v p):fX s ps po k ρ w y:=
 ⟨_,_,hp,Good.val hS hv,h⟩
theorem lA (hE:dt s e pe) {x:eI} {a:IntKind} {n:Int} (h:bK e x= .int a n):x.ev pe= .int a n:=by have:=dh hE x;rw [h] at this;exact this
theorem zM (hE:dt s e pe) {x:eI} {b:Bool} (h:bK e x= .bool b):x.ev pe= .bool b:=by have:=dh hE x;rw [h] at this;exact this
theorem ND (hE:dt s e pe) {x:eI} {v:SV} (h:bK e x=v):R s v (x.ev pe):=by have:=dh hE x;rwa [h] at this
theorem Ib (k:IntKind):eE k k=agV:=by cases k<;>rfl
theorem Kr (hS:cd s ps) {op:BinOp} {a:IntKind} {m n:Int} (h:Ke op a m n (ZF k) ρ w=age y): ∃p,arith op a m n=age p/\fX s ps (age {v:=p}) k ρ w y:=by
 cases op with
 |quo=>
  obtain ⟨h1,h2⟩:=tX h;have hn:n≠0:=by intro e;subst e;cases h1
  exact ⟨_,by simp only [arith,ut hn],fX.val hS h2 rfl rfl⟩
 |rem=>
  obtain ⟨h1,h2⟩:=tX h;have hn:n≠0:=by intro e;subst e;cases h1
  exact ⟨_,by simp only [arith,ut hn],fX.val hS h2 rfl rfl⟩
 |shl=>cases h
 |shr=>cases h
 |_=>exact ⟨_,rfl,fX.val hS h rfl rfl⟩
theorem Sm (hE:dt s e pe) (hS:cd s ps) {op:BinOp} {a b:eI} (h:kT e s z (.bin op a b) k ρ w=age y):fX s ps (bq pe ps z (.bin op a b)) k ρ w y:=by
 simp only [kT] at h;generalize ha:bK e a=va at h;cases va with
 |int ka m=>
  generalize hb:bK e b=vb at h;cases vb with
  |int kb n=>
   have h1:=lA hE ha;have h2:=lA hE hb;have key:(op≠ .shl)->(op≠ .shr)->(bif eE ka kb then Ke op ka m n (ZF k) else aN) ρ w=age y->fX s ps (bq pe ps z (.bin op a b)) k ρ w y:=by
    intro n1 n2 h;obtain ⟨hk,h⟩:=cq h;obtain ⟨p,hp,hs⟩:=Kr hS h;have:bq pe ps z (.bin op a b)=age {v:=p}:=by simp only [bq,h1,h2];cases op<;>first|exact absurd rfl n1|exact absurd rfl n2|(simp only [MV,hk,if_true,hp];rfl)
    rw [this];exact hs
   cases op with
   |shl=>
    obtain ⟨hc,h⟩:=tX h;have AD: ¬n<0:=by simpa using hc
    exact fX.val hS h (by simp only [bq,h1,h2,MV,Aq,ut AD];rfl) rfl
   |shr=>
    obtain ⟨hc,h⟩:=tX h;have AD: ¬n<0:=by simpa using hc
    exact fX.val hS h (by simp only [bq,h1,h2,MV,Aq,ut AD];rfl) rfl
   |_=>exact key (by intro e;cases e) (by intro e;cases e) h
  |_=>cases h
 |_=>cases h
theorem PK (hE:dt s e pe) (hS:cd s ps) {neg:Bool} {a b:eI} (h:kT e s z (.Hc neg a b) k ρ w=age y):fX s ps (bq pe ps z (.Hc neg a b)) k ρ w y:=by
 simp only [kT] at h;generalize ha:bK e a=va at h;cases va with
 |bool x=>
  generalize hb:bK e b=vb at h;cases vb with
  |bool x'=>refine fX.val hS h ?_ rfl;simp only [bq,zM hE ha,zM hE hb];cases neg<;>rfl
  |_=>cases h
 |_=>cases h
theorem PL: ∀{xs ys:List SV} {ps qs:List PV} {r:Bool},RL s xs ps->RL s ys qs->eqS xs ys=age r->dc ps qs=age r
 | [],[],ps,qs,r,h1,h2,h=>by rw [show ps=[] from h1,show qs=[] from h2];exact h
 |x::xs,b::ys,ps,qs,r,h1,h2,h=>by
  obtain ⟨p,ps,rfl,a1,a2⟩:=h1.cons_inv;obtain ⟨q,qs,rfl,b1,b2⟩:=h2.cons_inv;simp only [eqS] at h;split at h
  · rename_i ka m kb n
    have a1':p= .int ka m:=a1;have b1':q= .int kb n:=b1;subst a1' b1';cases hk:eE ka kb with
    |false=>rw [hk] at h;cases h
    |true=>
     rw [hk] at h;have hc:pg (.int ka m) (.int kb n)=age (m==n):=by simp only [pg,hk,if_true]
     simp only [dc,hc];cases xs with
     |nil=>
      cases ys with
      |nil=>simp only [pi,EQ] at h;subst h;rw [show ps=[] from a2,show qs=[] from b2];cases m==n<;>rfl
      |cons _ _=>cases h
     |cons x2 xs2=>
      simp only [pi] at h;split at h
      · rename_i r' hr
        injection h with h;subst h;rw [PL a2 b2 hr];cases m==n<;>rfl
      cases h
  cases h
 | [],_::_,ps,qs,r,h1,h2,h=>by cases h
 |_::_,[],ps,qs,r,h1,h2,h=>by cases h
theorem Sn (hE:dt s e pe) (hS:cd s ps) {n:Nat} {neg:Bool} {a b:eI} (h:kT e s z (.Yb n neg a b) k ρ w=age y):fX s ps (bq pe ps z (.Yb n neg a b)) k ρ w y:=by
 simp only [kT] at h;generalize ha:bK e a=va at h;cases va with
 |agg xs=>
  generalize hb:bK e b=vb at h;cases vb with
  |agg ys=>obtain ⟨hl,h⟩:=cq h;obtain ⟨r,hr,h⟩:=bB h;obtain ⟨p,hp,h1⟩:=ND hE ha;obtain ⟨q,hq,h2⟩:=ND hE hb;refine fX.val hS h ?_ rfl;simp only [bq,hp,hq,h1.ly,h2.ly];rw [rc hl,PL h1 h2 hr];cases neg<;>rfl
  |_=>cases h
 |_=>cases h
theorem ZQ (hE:dt s e pe) (hS:cd s ps) {op:UnOp} {a:eI} (h:kT e s z (.un op a) k ρ w=age y):fX s ps (bq pe ps z (.un op a)) k ρ w y:=by
 simp only [kT] at h;cases op with
 |neg=>
  dsimp only at h;generalize ha:bK e a=va at h;cases va with
  |int ka n=>exact fX.val hS h (by simp only [bq,lA hE ha];rfl) rfl
  |_=>cases h
 |not=>
  dsimp only at h;generalize ha:bK e a=va at h;cases va with
  |bool b=>exact fX.val hS h (by simp only [bq,zM hE ha];rfl) rfl
  |_=>cases h
 |_=>cases h
theorem PM (hE:dt s e pe) (hS:cd s ps) {a:IntKind} {x:eI} (h:kT e s z (.conv a x) k ρ w=age y):fX s ps (bq pe ps z (.conv a x)) k ρ w y:=by
 simp only [kT] at h;generalize ha:bK e x=va at h;cases va with
 |int ka n=>exact fX.val hS h (by simp only [bq,lA hE ha]) rfl
 |_=>cases h
theorem So (hE:dt s e pe) (hS:cd s ps) {x:eI} (h:kT e s z (.len x) k ρ w=age y):fX s ps (bq pe ps z (.len x)) k ρ w y:=by
 simp only [kT] at h;have hx:=dh hE x;generalize bK e x=v at h hx;cases v with
 |nil e' c=>exact fX.val hS h (by simp only [bq,show x.ev pe= .sl e' c [] from hx];rfl) rfl
 |pre t len cap ex=>obtain ⟨e',hx,_⟩:=hx;exact fX.val hS h (by simp only [bq,hx]) rfl
 |part t off len cap ex=>obtain ⟨e',hx,_⟩:=hx;exact fX.val hS h (by simp only [bq,hx]) rfl
 |sl q m=>exact fX.val hS h (by simp only [bq,show x.ev pe=_ from hx,ae0]) rfl
 |own t ex=>
  obtain ⟨c,hc,h⟩:=bB h;simp only [xU,bU] at hc;split at hc
  · rename_i q m bR
    injection hc with hc;subst hc;obtain ⟨e',n,hx,cL⟩:=hx;rcases cL with ⟨q',m',h1,rfl,rfl⟩|h1
    · rw [bR] at h1;injection h1 with h1;cases h1
      exact fX.val hS h (by simp only [bq,hx]) rfl
    rw [bR] at h1;cases h1
  cases hc
 |_=>obtain ⟨c,hc,h⟩:=bB h;cases hc
theorem zN: ∀{l:List (Nat×Nat×SV)} {pl:List (Nat×Nat×PV)} {cs:List SV} {pc:List PV} {r:List SV},
 (agd pl=agd l/\ ∀(j:Nat) (a:Nat×Nat×SV),l[j]? =age a-> ∃b,pl[j]? =age (a.1,a.2.1,b)/\R s a.2.2 b)->RL s cs pc->tR l cs=age r-> ∃q,lG pl pc=age q/\RL s r q
 | [],pl,cs,pc,r,hl,hc,h=>by have:pl=[]:=aeC.1 hl.1;subst this;injection h with h;subst h;exact ⟨pc,rfl,hc⟩
 |(off,sz,v)::l,pl,cs,pc,r,hl,hc,h=>by
  cases pl with
  |nil=>simp at hl
  |cons p pl=>
   obtain ⟨b,h1,h2⟩:=hl.2 0 _ rfl;simp at h1;subst h1;simp only [tR] at h;split at h
   · rename_i w hw
     obtain ⟨q,hq,YP⟩:=h2.stored hw;cases Sp:(PP (agd w) sz&&NE (off+sz) (agd cs)) with
     |false=>rw [Sp] at h;cases h
     |true=>rw [Sp] at h;simp only [pi] at h;obtain ⟨q2,h3,h4⟩:=zN (pl:=pl) ⟨by simpa using hl.1,fun j a ha=>hl.2 (j+1) a (by simpa using ha)⟩ (xj YP hc) h;refine ⟨q2,?_,h4⟩;simp only [lG,hq,YP.ly,hc.ly];rw [rc Sp];exact h3
   cases h
theorem Ic (hE:dt s e pe): ∀(l:List (Nat×Nat×eI)),((l.map fun p=>(p.1,p.2.1,p.2.2.ev pe)).length=(vW e l).length/\ ∀(j:Nat) (a:Nat×Nat×SV),(vW e l)[j]? =age a-> ∃b,(l.map fun p=>(p.1,p.2.1,p.2.2.ev pe))[j]? =age (a.1,a.2.1,b)/\R s a.2.2 b)
 | []=>⟨rfl,fun j a h=>by simp [vW] at h⟩
 |p::l=>by
  obtain ⟨h1,h2⟩:=Ic hE l;refine ⟨by simp [vW] at h1 ⊢;omega,fun j a h=>?_⟩;cases j with
  |zero=>simp [vW] at h;subst h;exact ⟨_,rfl,dh hE _⟩
  |succ j=>simp only [vW,aer] at h;obtain ⟨b,h3,h4⟩:=h2 j a h;exact ⟨b,by simpa using h3,h4⟩
theorem NF (hE:dt s e pe) (hS:cd s ps) {zero:List PV} {parts:List (Nat×Nat×eI)} (h:kT e s z (.build zero parts) k ρ w=age y):fX s ps (bq pe ps z (.build zero parts)) k ρ w y:=by simp only [kT] at h;obtain ⟨cs,hc,h⟩:=bB h;obtain ⟨q,hq,hr⟩:=zN (Ic hE parts) (tU s zero) hc;exact fX.val hS h (by simp only [bq,hq];rfl) ⟨q,rfl,hr⟩
theorem Sq (hE:dt s e pe) (hS:cd s ps) {x:eI} (h:kT e s z (.box x) k ρ w=age y):fX s ps (bq pe ps z (.box x)) k ρ w y:=by simp only [kT] at h;obtain ⟨cs,hc,h⟩:=bB h;obtain ⟨q,hq,hr⟩:=(dh hE x).stored hc;refine ⟨_,_,?_,Good.new hS (b:= .box cs) (q:= .box q) (v:= .bp (agd s) (agd cs) 0) (p:= .ptr (agd s) (agd cs) 0 0) (rd:=[]) ⟨q,rfl,hr.ext (Fr.app _ _ _)⟩ rfl,h⟩;simp only [bq,hq,hS.len,hr.ly]
theorem NG (hS:cd s ps) {cells:List PV} (h:kT e s z (.alloc cells) k ρ w=age y):fX s ps (bq pe ps z (.alloc cells)) k ρ w y:=by simp only [kT] at h;refine ⟨_,_,?_,Good.new hS (b:= .box (zE cells)) (q:= .box cells) (v:= .bp (agd s) (agd cells) 0) (p:= .ptr (agd s) (agd cells) 0 0) (rd:=[]) ⟨cells,rfl,tU _ _⟩ rfl,h⟩;simp only [bq,hS.len]
theorem PN (hE:dt s e pe) (hS:cd s ps) {x:eI} (h:kT e s z (.Hd x) k ρ w=age y):fX s ps (bq pe ps z (.Hd x)) k ρ w y:=by
 simp only [kT] at h;have hx:=dh hE x;generalize bK e x=v at h hx;cases v with
 |pa t r i a o=>exact fX.val hS h (by simp only [bq,hx.1]) ⟨rfl,hx.2⟩
 |pb t i o=>obtain ⟨e',h1,h2⟩:=hx;exact fX.val hS h (by simp only [bq,h1]) ⟨e',rfl,h2⟩
 |bp t n o=>exact fX.val hS h (by simp only [bq,show x.ev pe=_ from hx]) rfl
 |bw c o=>obtain ⟨q,h1,h2⟩:=hx;exact fX.val hS h (by simp only [bq,h1]) ⟨q,rfl,h2⟩
 |ef f a b=>obtain ⟨pa,pb,h1,h2⟩:=hx;exact fX.val hS h (by simp only [bq,h1]) ⟨pa,pb,rfl,h2⟩
 |_=>cases h
theorem PO (hE:dt s e pe) (hS:cd s ps) {off:Nat} {x:eI} (h:kT e s z (.He off x) k ρ w=age y):fX s ps (bq pe ps z (.He off x)) k ρ w y:=by
 simp only [kT] at h;have hx:=dh hE x;generalize bK e x=v at h hx;cases v with
 |pa t r i a o=>exact fX.val hS h (by simp only [bq,hx.1]) ⟨rfl,hx.2⟩
 |pb t i o=>obtain ⟨e',h1,h2⟩:=hx;exact fX.val hS h (by simp only [bq,h1]) ⟨e',rfl,h2⟩
 |bp t n o=>exact fX.val hS h (by simp only [bq,show x.ev pe=_ from hx]) rfl
 |bw c o=>obtain ⟨q,h1,h2⟩:=hx;exact fX.val hS h (by simp only [bq,h1]) ⟨q,rfl,h2⟩
 |_=>cases h
theorem Sr (hE:dt s e pe) (hS:cd s ps) {agg:Option Nat} {off:Nat} {x:eI} (h:kT e s z (.jT agg off x) k ρ w=age y):fX s ps (bq pe ps z (.jT agg off x)) k ρ w y:=by
 simp only [kT] at h;generalize hv:bK e x=v at h;cases v with
 |agg cs=>obtain ⟨v,h1,h⟩:=bB h;obtain ⟨q,h2,h3⟩:=ND hE hv;obtain ⟨p,h4,h5⟩:=rl h3 h1;exact fX.val hS h (by simp only [bq,h2,h4];rfl) h5
 |_=>cases h
theorem Ss (hE:dt s e pe) (hS:cd s ps) {i:Nat} {x:eI} (h:kT e s z (.ext i x) k ρ w=age y):fX s ps (bq pe ps z (.ext i x)) k ρ w y:=by
 simp only [kT] at h;generalize hv:bK e x=v at h;cases v with
 |cj cs=>obtain ⟨v,h1,h⟩:=bB h;obtain ⟨q,h2,h3⟩:=ND hE hv;obtain ⟨p,h4,h5⟩:=h3.nth h1;exact fX.val hS h (by simp only [bq,h2,h4];rfl) h5
 |_=>cases h
theorem Su (hE:dt s e pe) (hS:cd s ps) {f:FuncId} {a b:List eI} (h:kT e s z (.Yd f a b) k ρ w=age y):fX s ps (bq pe ps z (.Yd f a b)) k ρ w y:=by simp only [kT] at h;exact fX.val hS h rfl ⟨_,_,rfl,xh hE a,xh hE b⟩
theorem Sv (hS:cd s ps) {m:Option PV} (h:kT e s z (.Ye m) k ρ w=age y):fX s ps (bq pe ps z (.Ye m)) k ρ w y:=by
 simp only [kT] at h;cases m with
 |none=>refine ⟨_,_,?_,Good.new hS (b:= .set []) (q:= .map []) (v:= .mp (agd s)) (p:= .mp (agd s)) (rd:=[]) rfl rfl,h⟩;simp only [bq,hS.len]
 |some m=>obtain ⟨p,_,h⟩:=bB h;refine ⟨_,_,?_,Good.new hS (b:= .bH p []) (q:= .map []) (v:= .mp (agd s)) (p:= .mp (agd s)) (rd:=[]) rfl rfl,h⟩;simp only [bq,hS.len]
theorem YQ: ∀{l:List SV} {q:List PV} {m:Bool} {a:IntKind} {n:Int} {v:SV},RL s l q->mmS m a n l=age v-> ∃p,Y7 m a n q=age p/\R s v p
 | [],q,m,a,n,v,hl,h=>by rw [show q=[] from hl];injection h with h;subst h;exact ⟨_,rfl,rfl⟩
 |x::l,q,m,a,n,v,hl,h=>by
  obtain ⟨p,q,rfl,h1,h2⟩:=hl.cons_inv;simp only [mmS] at h;split at h
  · rename_i b c
    have Ot:p= .int b c:=h1;subst Ot;cases hk:eE a b with
    |true=>rw [hk] at h;obtain ⟨p,h3,h4⟩:=YQ h2 h;refine ⟨p,?_,h4⟩;simp only [Y7,hk,if_true];rw [<- h3];cases m<;>rfl
    |false=>rw [hk] at h;cases h
  cases h
theorem ZR (hE:dt s e pe) (hS:cd s ps) {m:Bool} {x:eI} {xs:List eI} (h:kT e s z (.mm m x xs) k ρ w=age y):fX s ps (bq pe ps z (.mm m x xs)) k ρ w y:=by
 simp only [kT] at h;generalize hv:bK e x=v at h;cases v with
 |int a n=>obtain ⟨v,h1,h⟩:=bB h;obtain ⟨p,h2,h3⟩:=YQ (xh hE xs) h1;exact fX.val hS h (by simp only [bq,lA hE hv,h2];rfl) h3
 |_=>cases h
theorem PQ (hE:dt s e pe) (hS:cd s ps) {c a b:eI} (h:kT e s z (.pick c a b) k ρ w=age y):fX s ps (bq pe ps z (.pick c a b)) k ρ w y:=by
 simp only [kT] at h;generalize hv:bK e c=v at h;cases v with
 |bool x=>
  rcases ej h with ⟨rfl,h⟩|⟨rfl,h⟩
  · exact fX.val hS h (by simp only [bq,zM hE hv]) (dh hE a)
  exact fX.val hS h (by simp only [bq,zM hE hv]) (dh hE b)
 |_=>cases h
end
end Go.Vm
/- Operation by operation, second part: elements, blocks, slices, sets. -/
namespace Go.Vm
section
variable {R' ρ : Type} {w : R' -> ρ} {y : ρ} {s : List SB} {ps : bY} {e : SE} {pe : Env} {z : List Nat} {k : fk -> fG R'}
theorem cd.arr (hS:cd s ps) {t:Nat} {r:List PT} {l:List (RT r)} (h:s[t]? =age (.arr r l)):ps[t]? =age (.arr (agd r) (l.map (RT.pv r))):=by obtain ⟨q,h1,h2⟩:=hS.at_ t _ h;rw [show q=_ from h2] at h1;exact h1
theorem cd.box (hS:cd s ps) {t:Nat} {cs:List SV} (h:s[t]? =age (.box cs)): ∃q,ps[t]? =age (.box q)/\RL s cs q:=by obtain ⟨q,h1,q',rfl,h2⟩:=hS.at_ t _ h;exact ⟨q',h1,h2⟩
theorem cd.afX (hS:cd s ps) {t:Nat} {l:List (List Int)} (h:s[t]? =age (.set l)):ps[t]? =age (.map (l.map zK)):=by obtain ⟨q,h1,h2⟩:=hS.at_ t _ h;rw [show q=_ from h2] at h1;exact h1
theorem cd.Sw (hS:cd s ps) {t:Nat} {p:PT} {l:List (RT [.i .i64,p])} (h:s[t]? =age (.bH p l)):ps[t]? =age (.map (l.map (B2 p))):=by obtain ⟨q,h1,h2⟩:=hS.at_ t _ h;rw [show q=_ from h2] at h1;exact h1
theorem OwnAt.inv {t e n:Nat} {r:List PT} {l:List (RT r)} (h:OwnAt s t e n) (hs:s[t]? =age (.arr r l)):e=agd r/\n=(agd l):=by
 rcases h with ⟨q,m,h1,rfl,rfl⟩|h1
 · rw [hs] at h1;injection h1 with h1;cases h1;exact ⟨rfl,rfl⟩
 rw [hs] at h1;cases h1
theorem xW.inv {t e:Nat} {r:List PT} {l:List (RT r)} (h:xW s t e) (hs:s[t]? =age (.arr r l)):e=(agd r):=by
 rcases h with ⟨q,m,h1,rfl⟩|h1|⟨cs,h1,_⟩
 · rw [hs] at h1;injection h1 with h1;cases h1;rfl
 · rw [hs] at h1;cases h1
 rw [hs] at h1;cases h1
theorem PI.inv {t:Nat} {q r:List PT} {i:Int} {a:RT q} {l:List (RT r)} (h:PI s t q i a) (hs:s[t]? =age (.arr r l)): ∃e:q=r,aK l i=age (e▸a):=by
 rcases h with ⟨m,h1,h2⟩|h1
 · rw [hs] at h1;injection h1 with h1;cases h1;exact ⟨rfl,h2⟩
 rw [hs] at h1;cases h1
theorem ZO.inv {t:Nat} {r:List PT} {i:Int} {l:List (RT r)} (h:ZO s t i) (hs:s[t]? =age (.arr r l)):(aK l i).isSome=agV:=by
 rcases h with ⟨q,m,h1,h2⟩|h1
 · rw [hs] at h1;injection h1 with h1;cases h1;exact h2
 rw [hs] at h1;cases h1
theorem fa {α:Type} {l:List α} {n:Nat} {i:Int} {a:α} (h:aK (l.take n) i=age a): ∃m:Nat,i=aeu m/\m<n/\l[m]? =age a:=by
 obtain ⟨m,rfl,hm⟩:=lM h;have dz:=(ww.1 hm).1;rw [ae8] at dz;have hmn:m<n:=by omega
 rw [IR hmn] at hm;exact ⟨m,rfl,hmn,hm⟩
theorem PR (hE:dt s e pe) (hS:cd s ps) {esz:Nat} {x i:eI} (h:kT e s z (.Hf esz x i) k ρ w=age y):fX s ps (bq pe ps z (.Hf esz x i)) k ρ w y:=by
 simp only [kT] at h;generalize hi:bK e i=vi at h;cases vi with
 |int ki n=>
  have hi:=lA hE hi;have hx:=dh hE x;dsimp only at h;unfold YI at h;generalize bK e x=v at h hx;cases v with
  |sl r l=>
   obtain ⟨he,h⟩:=cq h;obtain ⟨a,ha,hk⟩:=cp h;obtain ⟨m,rfl,hm⟩:=lM ha;refine fX.val hS (p:= .bw (RT.pv r a) 0) hk ?_ ⟨_,rfl,Ff r a⟩;have hr:(l.map (RT.pv r))[m]? =age (RT.pv r a):=by simp [hm]
   simp only [bq,hi,ja,show x.ev pe=_ from hx,hr,he,if_true]
  |own t ex=>
   simp only [bU] at h;generalize bR:s[t]? =b at h;cases b with
   |none=>cases h
   |some b=>
    cases b with
    |arr r l=>
     obtain ⟨he,h⟩:=cq h;obtain ⟨a,ha,hk⟩:=cp h;obtain ⟨m,rfl,hm⟩:=lM ha;obtain ⟨e',n',hx,cL⟩:=hx;obtain ⟨rfl,rfl⟩:=cL.inv bR;have dz:=(ww.1 hm).1;have h1:af3 m (agd l)=agV:=by simpa using dz
     refine fX.val hS (p:= .ptr t (agd r) m 0) hk ?_ ⟨rfl,.inl ⟨l,bR,ha⟩⟩;simp only [bq,hi,ja,hx,h1,he,ae2,if_true,aeD]
    |_=>cases h
  |pre t len cap ex=>
   simp only [bU] at h;generalize bR:s[t]? =b at h;cases b with
   |none=>cases h
   |some b=>
    cases b with
    |arr r l=>
     obtain ⟨he,h⟩:=cq h;obtain ⟨a,ha,hk⟩:=cp h;obtain ⟨m,rfl,dz,hm⟩:=fa ha;obtain ⟨e',hx,cL⟩:=hx;have:=cL.inv bR;subst this;have h1:af3 m len=agV:=by simpa using dz
     refine fX.val hS (p:= .ptr t (agd r) m 0) hk ?_ ⟨rfl,.inl ⟨l,bR,hm⟩⟩;simp only [bq,hi,ja,hx,h1,he,ae2,if_true,aeD]
    |_=>cases h
  |part t off len cap ex=>
   simp only [bU] at h;generalize bR:s[t]? =b at h;cases b with
   |none=>cases h
   |some b=>
    cases b with
    |arr r l=>
     obtain ⟨he,h⟩:=cq h;obtain ⟨a,ha,hk⟩:=cp h;obtain ⟨m,rfl,dz,hm⟩:=fa ha;rw [List.getElem?_drop] at hm;obtain ⟨e',hx,cL⟩:=hx;have:=cL.inv bR;subst this;have h1:af3 m len=agV:=by simpa using dz
     refine fX.val hS (p:= .ptr t (agd r) (off+m) 0) hk ?_ ⟨rfl,.inl ⟨l,bR,hm⟩⟩;simp only [bq,hi,ja,hx,h1,he,ae2,if_true]
    |_=>cases h
  |_=>cases h
 |_=>cases h
theorem yF {n:Nat} {i:Int} {j:Nat} {f:Nat->fG R'}:H3 n i j f ρ w=age y-> ∃m,i=aeu m/\j<=m/\m<j+n/\f m ρ w=age y:=by
 induction n generalizing j with
 |zero=>intro h;cases h
 |succ n ih=>
  intro h;rcases ej h with ⟨h1,h2⟩|⟨_,h2⟩
  · exact ⟨j,by simpa using h1,af2 _,by omega,h2⟩
  obtain ⟨m,h3,h4,h5,h6⟩:=ih h2
  exact ⟨m,h3,by omega,by omega,h6⟩
theorem NH (hE:dt s e pe) (hS:cd s ps) {n esz:Nat} {p i:eI} (h:kT e s z (.Bn n esz p i) k ρ w=age y):fX s ps (bq pe ps z (.Bn n esz p i)) k ρ w y:=by
 simp only [kT] at h;generalize hi:bK e i=vi at h;cases vi with
 |int ki j=>
  have hi:=lA hE hi;have hx:=dh hE p;generalize bK e p=v at h hx;cases v with
  |bp t m o=>
   obtain ⟨j',rfl,_,h2,h⟩:=yF h;have h1:af3 j' n=agV:=by simp;omega
   exact fX.val hS h (by simp only [bq,hi,ja,h1,if_true,show p.ev pe=_ from hx]) rfl
  |bw c o=>
   obtain ⟨j',rfl,_,h2,h⟩:=yF h;have h1:af3 j' n=agV:=by simp;omega
   obtain ⟨q,hq,hr⟩:=hx;exact fX.val hS h (by simp only [bq,hi,ja,h1,if_true,hq]) ⟨q,rfl,hr⟩
  |_=>cases h
 |_=>cases h
theorem Sx (hE:dt s e pe) (hS:cd s ps) {n esz:Nat} {agg:Option Nat} {x i:eI} (h:kT e s z (.idx n esz agg x i) k ρ w=age y):fX s ps (bq pe ps z (.idx n esz agg x i)) k ρ w y:=by
 simp only [kT] at h;generalize hi:bK e i=vi at h;cases vi with
 |int ki j=>
  have hi:=lA hE hi;generalize hx:bK e x=v at h;cases v with
  |agg cs=>
   obtain ⟨j',rfl,_,h2,h⟩:=yF h;have h1:af3 j' n=agV:=by simp;omega
   obtain ⟨v,hv,h⟩:=bB h;obtain ⟨q,hq,hr⟩:=ND hE hx;obtain ⟨p,hp,hpr⟩:=rl hr hv;exact fX.val hS h (by simp only [bq,hi,ja,h1,if_true,hq,hp];rfl) hpr
  |_=>cases h
 |_=>cases h
theorem PS (hE:dt s e pe) (hS:cd s ps) {x i:eI} (h:kT e s z (.Hg x i) k ρ w=age y):fX s ps (bq pe ps z (.Hg x i)) k ρ w y:=by
 simp only [kT] at h;generalize hi:bK e i=vi at h;cases vi with
 |int ki j=>
  have hi:=lA hE hi;generalize hx:bK e x=v at h;cases v with
  |str t=>
   obtain ⟨b,hb,h⟩:=cp h;have hx:=ND hE hx;cases j with
   |negSucc _=>cases hb
   |ofNat m=>simp only [YH,ae6] at hb;obtain ⟨c,hc,rfl⟩:=hb;exact fX.val hS h (by simp only [bq,hi,ja,show x.ev pe=_ from hx,hc]) rfl
  |_=>cases h
 |_=>cases h
theorem PU (hE:dt s e pe) (hS:cd s ps) {agg:Option Nat} {p:eI} (h:kT e s z (.load agg p) k ρ w=age y):fX s ps (bq pe ps z (.load agg p)) k ρ w y:=by
 simp only [kT] at h;have hx:=dh hE p;unfold YJ at h;generalize bK e p=v at h hx;cases v with
 |bp t n off=>
  simp only [bU] at h;generalize bR:s[t]? =b at h;cases b with
  |none=>cases h
  |some b=>
   cases b with
   |box cs=>obtain ⟨v,hv,h⟩:=bB h;obtain ⟨q,h1,h2⟩:=hS.box bR;obtain ⟨u,h3,h4⟩:=rl h2 hv;refine fX.rd hS h ?_ h4;show nh ps agg (p.ev pe)=_;rw [show p.ev pe=_ from hx];simp only [nh,h1,ae5,if_true,h3];rfl
   |_=>cases h
 |pa t r i a off=>
  simp only [bU] at h;generalize bR:s[t]? =b at h;cases b with
  |none=>cases h
  |some b=>
   cases b with
   |arr q l=>
    obtain ⟨v,hv,hk⟩:=bB h;obtain ⟨hx,cL⟩:=hx;obtain ⟨rfl,hg⟩:=cL.inv bR;obtain ⟨u,h3,h4⟩:=rl (Ff r a) hv;obtain ⟨m,rfl,hm⟩:=lM hg;refine fX.rd hS hk ?_ h4;show nh ps agg (p.ev pe)=_;rw [hx];have AM:(l.map (RT.pv r))[m]? =age (RT.pv r a):=by simp [hm]
    have e1:(aeu m).toNat=m:=rfl;simp only [nh,hS.arr bR,e1,AM,h3];rfl
   |_=>cases h
 |pb t i off=>
  simp only [bU] at h;generalize bR:s[t]? =b at h;cases b with
  |none=>cases h
  |some b=>
   cases b with
   |arr r l=>
    obtain ⟨a,ha,h⟩:=cp h;obtain ⟨v,hv,hk⟩:=bB h;obtain ⟨e',hx,cL⟩:=hx;obtain ⟨u,h3,h4⟩:=rl (Ff r a) hv;obtain ⟨m,rfl,hm⟩:=lM ha;refine fX.rd hS hk ?_ h4;show nh ps agg (p.ev pe)=_;rw [hx];have AM:(l.map (RT.pv r))[m]? =age (RT.pv r a):=by simp [hm]
    have e1:(aeu m).toNat=m:=rfl;simp only [nh,hS.arr bR,e1,AM,h3];rfl
   |_=>cases h
 |bw cs off=>obtain ⟨v,hv,h⟩:=bB h;obtain ⟨q,hq,hr⟩:=hx;obtain ⟨u,h3,h4⟩:=rl hr hv;refine fX.val hS h ?_ h4;show nh ps agg (p.ev pe)=_;rw [hq];simp only [nh,h3];rfl
 |_=>cases h
theorem Gt (hS:cd s ps) {t:Nat} {r:List PT} {l:List (RT r)} (bR:s[t]? =age (.arr r l)) {i:Int} {b:RT r} {rd:List Nat}:
 Good s ps {v:= .undef,wr:=[(t,.arr r (cb l i b))],rd} {v:= .undef,wr:=[(t,.arr (agd r) ((l.map (RT.pv r)).set i.toNat (RT.pv r b)))],rd}:=
 Good.PJ hS bR (.inl ⟨_,rfl,by simp⟩) (by show _=_;simp [cb,afm])
theorem NI (hE:dt s e pe) (hS:cd s ps) {sz:Nat} {p x:eI} (h:kT e s z (.store sz p x) k ρ w=age y):fX s ps (bq pe ps z (.store sz p x)) k ρ w y:=by
 simp only [kT] at h;have hx:=dh hE p;have hv:=dh hE x;unfold Ps at h;generalize bK e p=v at h hx;generalize bK e x=u at h hv;cases v with
 |bp t n off=>
  simp only [bU] at h;generalize bR:s[t]? =b at h;cases b with
  |none=>cases h
  |some b=>
   cases b with
   |box cs=>
    obtain ⟨w',hw,h⟩:=bB h;obtain ⟨hc,h⟩:=cq h;obtain ⟨q,h1,h2⟩:=hv.stored hw;obtain ⟨b,h3,h4⟩:=hS.box bR;have qm:=Fr.dg (ts:=[t]) (Fr.set (b:= .box (oc off w' cs)) bR (.inl ⟨_,rfl⟩));refine ⟨_,_,?_,Good.PJ hS (b:= .box (oc off w' cs)) (q:= .box (mg off q b)) (rd:=[]) bR (.inl ⟨_,rfl⟩) ⟨_,rfl,RL.fr qm (xj h2 h4)⟩,h⟩
    show qi ps z sz (x.ev pe) (p.ev pe)=_
    rw [show p.ev pe=_ from hx];simp only [qi,h3,h1,h2.ly,h4.ly];rw [rc (by simpa using hc)]
   |_=>cases h
 |pa t r i a off=>
  simp only [bU] at h;generalize bR:s[t]? =b at h;cases b with
  |none=>cases h
  |some b=>
   cases b with
   |arr q l=>
    obtain ⟨hc,h⟩:=cq h;obtain ⟨a',Ha,hk⟩:=bB h;obtain ⟨hx,cL⟩:=hx;obtain ⟨rfl,hg⟩:=cL.inv bR;obtain ⟨m,rfl,hm⟩:=lM hg;refine ⟨_,_,?_,Gt hS bR (rd:=[]),hk⟩;show qi ps z sz (x.ev pe) (p.ev pe)=_;rw [hx];have AM:(l.map (RT.pv r))[m]? =age (RT.pv r a):=by simp [hm]
    have e1:(aeu m).toNat=m:=rfl;simp only [v6,adR] at hc;obtain ⟨⟨c1,c2⟩,c3⟩:=hc;have hj:u≠ .ga:=by
     intro e;subst e;have:=RT.oe Ha;have hq:=congrArg (fun l=>l[off]?) this;have kC:=acl c2;have o9:sz=1:=by have:=v4 c1;simpa [SV.cells] using this.symm
     have dz:off<(agd r):=by omega
     have Lz:off<(RT.sv r a).length:=by rw [RT.Gr];exact dz
     simp only [oc,SV.cells] at hq;rw [AC (by simp;omega),Do (by simp;omega)] at hq;simp only [ae8,aeT (afn Lz),aga,aeQ] at hq;have: ∀(r:List PT) (b:RT r) (n:Nat),(RT.sv r b)[n]?≠age .ga:=by
      intro r
      induction r with
      |nil=>intro b n h;simp [RT.sv] at h
      |cons p rest ih=>
       intro b n;cases rest with
       |nil=>cases n<;>cases p<;>simp [RT.sv,PT.sv]
       |cons p2 afY=>cases n with
        |zero=>cases p<;>simp [RT.sv,PT.sv]
        |succ n=>simpa [RT.sv] using ih b.2 n
     exact this r a' off hq.symm
    have Dh:=hv.cells hj;have sL:=RT.oe Ha;have h5:RL s (RT.sv r a') (mg off (x.ev pe).cells (RT.pv r a)):=by rw [<- sL];exact xj Dh (Ff r a)
    have h6:=xi r a' h5;have Kt:(x.ev pe).bZ=age (x.ev pe).cells:=by unfold PV.bZ;rw [rc ?_];have pN:=RT.plain r a';rw [<- h6] at pN;unfold mg at pN;simp only [afR,v6] at pN;exact pN.1.2
    simp only [qi,hS.arr bR,e1,AM,Kt,Dh.ly,RT.tT];rw [rc (by simp [c1,c2,c3])];simp only [h6]
   |_=>cases h
 |pb t i off=>
  simp only [bU] at h;generalize bR:s[t]? =b at h;cases b with
  |none=>cases h
  |some b=>
   cases b with
   |arr r l=>
    obtain ⟨hc,h⟩:=cq h;obtain ⟨e',hx,cL⟩:=hx;have p9:=cL.inv bR;rw [aeM] at p9;obtain ⟨a0,hg⟩:=p9;obtain ⟨m,rfl,hm⟩:=lM hg;have AM:(l.map (RT.pv r))[m]? =age (RT.pv r a0):=by simp [hm]
    have e1:(aeu m).toNat=m:=rfl;simp only [v6,adR] at hc;obtain ⟨⟨c1,c2⟩,c3⟩:=hc;cases o9:PP sz (agd r) with
    |true=>
     rw [o9] at h;obtain ⟨a',Ha,hk⟩:=bB h;obtain ⟨hp,hl⟩:=hv.ofRow Ha;have JU:=v4 o9;have BV:off=0:=by have:=acl c2;omega
     subst BV;refine ⟨_,_,?_,Gt hS bR (rd:=[]),hk⟩;show qi ps z sz (x.ev pe) (p.ev pe)=_;rw [hx];simp only [qi,hS.arr bR,e1,AM,hp,RT.tT];rw [rc (by rw [aeD,JU];simp [c3])];have:mg 0 (RT.pv r a') (RT.pv r a0)=RT.pv r a':=by unfold mg;rw [RT.tT,List.drop_of_length_le (by rw [RT.tT];omega)];simp
     rw [this]
    |false=>
     rw [o9] at h;obtain ⟨a,ha,h⟩:=cp h;obtain ⟨a',Ha,hk⟩:=bB h;rw [hg] at ha;injection ha with ha;subst ha;refine ⟨_,_,?_,Gt hS bR (rd:=[]),hk⟩;show qi ps z sz (x.ev pe) (p.ev pe)=_;rw [hx];have hj:u≠ .ga:=by
      intro e;subst e;have:=RT.oe Ha;have hq:=congrArg (fun l=>l[off]?) this;have kC:=acl c2;have o9:sz=1:=by have:=v4 c1;simpa [SV.cells] using this.symm
      have dz:off<(agd r):=by omega
      have Lz:off<(RT.sv r a0).length:=by rw [RT.Gr];exact dz
      simp only [oc,SV.cells] at hq;rw [AC (by simp;omega),Do (by simp;omega)] at hq;simp only [ae8,aeT (afn Lz),aga,aeQ] at hq;have: ∀(r:List PT) (b:RT r) (n:Nat),(RT.sv r b)[n]?≠age .ga:=by
       intro r
       induction r with
       |nil=>intro b n h;simp [RT.sv] at h
       |cons p rest ih=>
        intro b n;cases rest with
        |nil=>cases n<;>cases p<;>simp [RT.sv,PT.sv]
        |cons p2 afY=>cases n with
         |zero=>cases p<;>simp [RT.sv,PT.sv]
         |succ n=>simpa [RT.sv] using ih b.2 n
      exact this r a' off hq.symm
     have Dh:=hv.cells hj;have sL:=RT.oe Ha;have h5:RL s (RT.sv r a') (mg off (x.ev pe).cells (RT.pv r a0)):=by rw [<- sL];exact xj Dh (Ff r a0)
     have h6:=xi r a' h5;have Kt:(x.ev pe).bZ=age (x.ev pe).cells:=by unfold PV.bZ;rw [rc ?_];have pN:=RT.plain r a';rw [<- h6] at pN;unfold mg at pN;simp only [afR,v6] at pN;exact pN.1.2
     simp only [qi,hS.arr bR,e1,AM,Kt,Dh.ly,RT.tT];rw [rc (by simp [c1,c2,c3])];simp only [h6]
   |_=>cases h
 |_=>cases h
end
end Go.Vm
/- Operation by operation, third part: slices, new blocks, append, sets; all of them together. -/
namespace Go.Vm
section
variable {R' ρ : Type} {w : R' -> ρ} {y : ρ} {s : List SB} {ps : bY} {e : SE} {pe : Env} {z : List Nat} {k : fk -> fG R'}
def Di (pe:Env) (o:Option eI):Option (Option Nat):=match o with|none=>age agn|some a=>(ja (a.ev pe)).map age
theorem s5 (hE:dt s e pe) {o:Option eI} {d a:Int} {n:Nat} (h:AS e d o=age a) (hd:d=aeu n) (h0:0<=a): ∃b,Di pe o=age b/\b.getD n=a.toNat:=by
 cases o with
 |none=>injection h with h;subst h hd;exact ⟨agn,rfl,rfl⟩
 |some x=>
  simp only [AS] at h;split at h
  · rename_i ka m hx
    injection h with h;subst h;obtain ⟨b,rfl⟩:=adc h0;refine ⟨age b,?_,rfl⟩;simp only [Di,lA hE hx];rfl
  cases h
theorem yG {esz:Nat} {x:eI} {lo hi mx:Option eI} {l h m:Option Nat} {v:PV} (he:sG esz (x.ev pe)=agV) (h1:Di pe lo=age l) (h2:Di pe hi=age h) (h3:Di pe mx=age m) (hv:ph (x.ev pe) l h m=age v):
 bq pe ps z (.MT esz x lo hi mx)=age {v:=v}:=by
 have e:bq pe ps z (.MT esz x lo hi mx)=(match Di pe lo,Di pe hi,Di pe mx with|some l,age h,age m=>(ph (x.ev pe) l h m).map fun v=>({v}:mh)|_,_,_=>agn):=by simp only [bq,he,afc,UV,if_false];rfl
 rw [e,h1,h2,h3];simp only [hv];rfl
theorem Dj {α:Type} {l r:List α} {lo hi:Int} (h:hM l lo hi=age r): ∃a b:Nat,lo=aeu a/\hi=aeu b/\a<=b/\b<=agd l/\r=(l.drop a).take (b-a):=by
 unfold hM at h;split at h
 · rename_i hc
   obtain ⟨a,rfl⟩:=adc hc.1;obtain ⟨b,rfl⟩:=adc (aeJ hc.1 hc.2.1);injection h with h;exact ⟨a,b,rfl,rfl,by omega,by omega,by rw [<- h];simp⟩
 cases h
theorem Gu (hE:dt s e pe) (hS:cd s ps) {esz t off len cap:Nat} {ex:Bool} {x:eI} {lo hi mx:Option eI} (hx:x.ev pe= .own t esz off len cap ex) (cL:xW s t esz) (h:Kf e t off len cap ex lo hi mx k ρ w=age y):
 fX s ps (bq pe ps z (.MT esz x lo hi mx)) k ρ w y:=by
 unfold Kf at h;obtain ⟨a,ha,h⟩:=bB h;obtain ⟨b,hb,h⟩:=bB h;have he:sG esz (x.ev pe)=agV:=by rw [hx];simp [sG]
 cases mx with
 |none=>
  obtain ⟨hc,h⟩:=gy h;simp only [v6,decide_eq_true_eq] at hc;obtain ⟨⟨c1,c2⟩,c3⟩:=hc;obtain ⟨l,h1,h2⟩:=s5 hE (n:=0) ha rfl c1;obtain ⟨u,h3,h4⟩:=s5 hE (n:=len) hb rfl (aeJ c1 c2);refine fX.val hS h (yG he h1 h3 (m:=agn) rfl ?_) ⟨esz,rfl,cL⟩;rw [hx];have c4:(NE a.toNat b.toNat&&NE b.toNat cap)=agV:=by have c3':b<=(cap:Int):=c3;simp;omega
  simp only [ph,h2,h4,c4,if_true]
 |some mo=>
  dsimp only at h;generalize hm:bK e mo=vm at h;cases vm with
  |int km c=>
   obtain ⟨hc,h⟩:=gy h;simp only [v6,decide_eq_true_eq] at hc;obtain ⟨⟨⟨c1,c2⟩,c3⟩,c4⟩:=hc;obtain ⟨l,h1,h2⟩:=s5 hE (n:=0) ha rfl c1;obtain ⟨u,h3,h4⟩:=s5 hE (n:=len) hb rfl (aeJ c1 c2);have Ey:0<=c:=aeJ (aeJ c1 c2) c3;obtain ⟨c,rfl⟩:=adc Ey;refine fX.val hS h (yG he h1 h3 (m:=age c) (by simp only [Di,lA hE hm];rfl) ?_) ⟨esz,rfl,cL⟩;rw [hx];have c5:(NE a.toNat b.toNat&&NE b.toNat c&&NE c cap)=agV:=by have c4':(c:Int)<=(cap:Int):=c4;simp;omega
   simp only [ph,h2,h4,c5,if_true];rfl
  |_=>cases h
theorem Sy (hE:dt s e pe) (hS:cd s ps) {esz:Nat} {x:eI} {lo hi mx:Option eI} (h:kT e s z (.MT esz x lo hi mx) k ρ w=age y):fX s ps (bq pe ps z (.MT esz x lo hi mx)) k ρ w y:=by
 simp only [kT] at h;have hx:=dh hE x;unfold afT at h;generalize bK e x=v at h hx;cases v with
 |sl r l=>
  cases mx with
  |some _=>cases h
  |none=>
   dsimp only at h;obtain ⟨he,h⟩:=cq h;have he:=v4 he;obtain ⟨a,ha,h⟩:=bB h;obtain ⟨b,hb,h⟩:=bB h;obtain ⟨m,hm,hk⟩:=cp h;obtain ⟨n1,n2,rfl,rfl,c1,c2,rfl⟩:=Dj hm;obtain ⟨u1,h1,h2⟩:=s5 hE (n:=0) ha rfl (by simp);obtain ⟨u2,h3,h4⟩:=s5 hE (n:=agd l) hb rfl (by simp);have hx':x.ev pe= .sl (agd r) ah0 (l.map (RT.pv r)):=hx;subst he;refine fX.val hS (p:= .sl (agd r) ah0 ((((l.drop n1).take (n2-n1))).map (RT.pv r))) hk (yG (m:=agn) (by rw [hx'];simp [sG]) h1 h3 rfl ?_) rfl;rw [hx'];have ZP:u1.getD 0=n1:=by rw [h2];rfl
   have h4':u2.getD (l.map (RT.pv r)).length=n2:=by rw [ae0,h4];rfl
   have c3:(NE n1 n2&&NE n2 (l.map (RT.pv r)).length)=agV:=by simp [c1,c2]
   simp only [ph,ZP,h4',c3,if_true,Bool.false_and,aen,aez]
 |own t ex=>
  simp only [bU] at h;generalize bR:s[t]? =b at h;cases b with
  |none=>cases h
  |some b=>
   cases b with
   |arr r l=>
    dsimp only at h;obtain ⟨he,hk⟩:=cq h;have he:=v4 he;obtain ⟨e',n',hx,cL⟩:=hx;obtain ⟨rfl,rfl⟩:=cL.inv bR;subst he;have BW:xW s t (agd r):= .inl ⟨r,l,bR,rfl⟩;have gen:Kf e t 0 (agd l) (agd l) ex lo hi mx k ρ w=age y->fX s ps (bq pe ps z (.MT (agd r) x lo hi mx)) k ρ w y:=fun h=>Gu hE hS hx BW h
    have he:sG (agd r) (x.ev pe)=agV:=by rw [hx];simp [sG]
    cases mx with
    |some m=>cases lo<;>cases hi<;>exact gen hk
    |none=>
     cases lo with
     |some _=>cases hi<;>exact gen hk
     |none=>
      cases hi with
      |none=>refine fX.val hS hk (yG (l:=agn) (h:=agn) (m:=agn) he rfl rfl rfl ?_) ⟨agd r,agd l,rfl,cL⟩;rw [hx];simp [ph]
      |some ho=>
       dsimp only at hk;generalize hh:bK e ho=vh at hk;cases vh with
       |int kh b=>
        obtain ⟨m,hm,hk⟩:=cp hk;obtain ⟨n1,n2,h0,rfl,c1,c2,rfl⟩:=Dj hm;refine fX.val hS hk (yG (l:=agn) (h:=age n2) (m:=agn) he rfl (by simp only [Di,lA hE hh];rfl) rfl ?_) ⟨agd r,rfl,BW⟩;rw [hx];have c3:(NE 0 n2&&NE n2 (agd l))=agV:=by simp [c2]
        simp only [ph,aeR,afG,c3,if_true];rfl
       |_=>cases hk
   |_=>cases h
 |pre t len cap ex=>
  simp only [bU] at h;generalize bR:s[t]? =b at h;cases b with
  |none=>cases h
  |some b=>
   cases b with
   |arr r l=>
    dsimp only at h;obtain ⟨he,hk⟩:=cq h;have he:=v4 he;obtain ⟨e',hx,cL⟩:=hx;have:=cL.inv bR;subst this;subst he;have gen:Kf e t 0 len cap ex lo hi mx k ρ w=age y->fX s ps (bq pe ps z (.MT (agd r) x lo hi mx)) k ρ w y:=fun h=>Gu hE hS hx cL h
    have he:sG (agd r) (x.ev pe)=agV:=by rw [hx];simp [sG]
    cases mx with
    |some m=>cases lo<;>cases hi<;>exact gen hk
    |none=>
     cases lo with
     |some _=>cases hi<;>exact gen hk
     |none=>
      cases hi with
      |none=>
       obtain ⟨hlc,hk⟩:=gy hk;refine fX.val hS hk (yG (l:=agn) (h:=agn) (m:=agn) he rfl rfl rfl ?_) ⟨agd r,rfl,cL⟩;rw [hx];have c3:(NE 0 len&&NE len cap)=agV:=by simp [hlc]
       simp only [ph,aeR,c3,if_true];simp
      |some ho=>
       dsimp only at hk;generalize hh:bK e ho=vh at hk;cases vh with
       |int kh b=>
        obtain ⟨hc,hk⟩:=gy hk;simp only [v6,decide_eq_true_eq] at hc;obtain ⟨c1,c2⟩:=hc;obtain ⟨b,rfl⟩:=adc c1;refine fX.val hS hk (yG (l:=agn) (h:=age b) (m:=agn) he rfl (by simp only [Di,lA hE hh];rfl) rfl ?_) ⟨agd r,rfl,cL⟩;rw [hx];have c3:(NE 0 b&&NE b cap)=agV:=by have c2':(b:Int)<=(cap:Int):=c2;simp;omega
        simp only [ph,aeR,afG,c3,if_true];rfl
       |_=>cases hk
   |_=>cases h
 |part t off len cap ex=>
  simp only [bU] at h;generalize bR:s[t]? =b at h;cases b with
  |none=>cases h
  |some b=>
   cases b with
   |arr r l=>dsimp only at h;obtain ⟨he,hk⟩:=cq h;have he:=v4 he;obtain ⟨e',hx,cL⟩:=hx;have:=cL.inv bR;subst this;subst he;exact Gu hE hS hx cL hk
   |_=>cases h
 |_=>cases h
theorem kZ {b:SB}:(s++[b])[agd s]? =age b:=by simp
theorem dL: ∀{v:PV} {p:PT},bS v=age p->p.pv p.zero=v
 | .int k n,p,h=>by
  simp only [bS] at h;split at h
  · injection h with h;subst h;rfl
  cases h
 | .bool b,p,h=>by
  simp only [bS] at h;split at h
  · injection h with h;subst h;rfl
  cases h
 | .undef,_,h| .iB,_,h| .str _,_,h| .agg _,_,h| .cj _,_,h| .sl _ _ _,_,h| .own _ _ _ _ _ _,_,h| .ptr _ _ _ _,_,h| .bw _ _,_,h| .mp _,_,h| .ef _ _ _,_,h| .dw,_,h=>by cases h
theorem zO : ∀ {l : List PV} {r : List PT}, C8 l = age r -> RT.pv r (RT.zero r) = l
  | [], r, h => by injection h with h; subst h; rfl
  | v :: vs, r, h => by
    simp only [C8] at h
    split at h
    · rename_i p q h1 h2
      injection h with h; subst h
      have e1 := dL h1
      have e2 := zO h2
      cases q with
      | nil =>
        have : vs = [] := by
          cases vs with
          | nil => rfl
          | cons a b => simp only [RT.pv] at e2; cases e2
        subst this
        show [p.pv p.zero] = _
        rw [e1]
      | cons p2 q2 =>
        show p.pv p.zero :: RT.pv (p2 :: q2) (RT.zero (p2 :: q2)) = _
        rw [e1, e2]
    cases h
theorem Sz (hE:dt s e pe) (hS:cd s ps) {esz:Nat} {zero:Row} {l c:eI} (h:kT e s z (.Yc esz zero l c) k ρ w=age y):fX s ps (bq pe ps z (.Yc esz zero l c)) k ρ w y:=by
 simp only [kT] at h;generalize hl:bK e l=vl at h;cases vl with
 |int kl n=>
  generalize hc:bK e c=vc at h;cases vc with
  |int kc m=>
   obtain ⟨hnm,h1⟩:=gy h;obtain ⟨r,hr,h2⟩:=bB h1;obtain ⟨he,h3⟩:=cq h2;obtain ⟨x,hx,hk⟩:=cp h3;have hnm:n=m:=by simpa using hnm
   subst hnm;have he:=v4 he;subst he;unfold HX at hx;split at hx
   · rename_i G8
     injection hx with hx;subst hx;obtain ⟨a,rfl⟩:=adc G8.1;have h1:(NE a a&&NE a jU)=agV:=by simp [jU];omega
     refine ⟨_,_,?_,Good.new hS (b:= .arr r (ae7 (aeu a).toNat (RT.zero r))) (q:= .arr (agd r) (ae7 a zero)) (v:= .own (agd s) agV) (p:= .own (agd s) (agd r) 0 a a agV) (rd:=[]) ?_ ?_,hk⟩
     · have e1:ja (.int kl (a:Int))=age a:=rfl
       have e2:ja (.int kc (a:Int))=age a:=rfl;simp only [bq,lA hE hl,lA hE hc,e1,e2];rw [rc h1,hS.len]
     · show _=_
       simp [zO hr]
     exact ⟨agd r,a,rfl,.inl ⟨r,_,kZ,rfl,by simp⟩⟩
   cases hx
  |_=>cases h
 |_=>cases h
def tY {α:Type}:List α->List (Nat×α)->List α
 |l,[]=>l
 |l,(i,a)::r=>tY (l.set i a) r
theorem Dk {α : Type} : ∀ (q : List (Nat × α)) (l : List α) (i : Nat), (tY l q)[i]? = (l[i]?).map fun z => rowAt i z q
  | [], l, i => by simp [tY, rowAt]
  | (j, a) :: q, l, i => by
    simp only [tY, rowAt]
    rw [Dk q (l.set j a) i, M2]
    by_cases RY : j = i
    · subst RY
      cases hl : l[j]? with
      | none =>
        have : ¬ j < (agd l) := by intro h; rw [If h] at hl; cases hl
        simp [this]
      | some z =>
        have : j < (agd l) := (ww.1 hl).1
        simp [this]
    have : PP j i = ah0 := by
      cases hb : PP j i with
      | false => rfl
      | true => exact absurd (v4 hb) RY
    simp [RY, this]
theorem Ie {α:Type} (f:Nat->α): ∀(n i j:Nat),(Gm f i n)[j]? =if j<n then age (f (i+j)) else agn
 |0,i,j=>by simp [Gm]
 |n+1,i,0=>by simp [Gm]
 |n+1,i,j+1=>by
  simp only [Gm,aer];rw [Ie f n (i+1) j,show i+1+j=i+(j+1) by omega]
  by_cases h:j<n
  · simp [h]
  simp [h]
theorem Dl {α:Type} (z:α) (n:Nat) (q:List (Nat×α)):tY (ae7 n z) q=Gm (fun i=>rowAt i z q) 0 n:=by
 apply afo;intro i;rw [Dk,Ie]
 by_cases h:i<n
 · simp [h]
 simp [h]
theorem Dm (hE:dt s e pe) {r:List PT} {n:Nat}: ∀{parts:List (Nat×eI)} {q:List (Nat×RT r)} {l:List (RT r)},LX r e n parts=age q->agd l=n->
 oF (parts.map fun p=>(p.1,p.2.ev pe)) (l.map (RT.pv r)) (agd r)=age ((tY l q).map (RT.pv r))
 | [],q,l,h,hl=>by injection h with h;subst h;rfl
 |p::parts,q,l,h,hl=>by
  simp only [LX] at h;split at h
  · rename_i a q' h1 h2
    cases hb:af3 p.1 n with
    |false=>rw [hb] at h;cases h
    |true=>rw [hb] at h;injection h with h;subst h;have hp:=((dh hE p.2).ofRow h1).1;simp only [ae1,oF,hp,RT.tT,ae0,hl,hb,ae5,ae2,if_true,tY];rw [<- afm];exact Dm hE h2 (by simp [hl])
  cases h
theorem NJ (hE:dt s e pe) (hS:cd s ps) {esz n:Nat} {zero:Row} {parts:List (Nat×eI)} (h:kT e s z (.zf esz n zero parts) k ρ w=age y):fX s ps (bq pe ps z (.zf esz n zero parts)) k ρ w y:=by
 simp only [kT] at h;obtain ⟨r,hr,h1⟩:=bB h;obtain ⟨he,h2⟩:=cq h1;obtain ⟨q,hq,hk⟩:=bB h2;have he:=v4 he;subst he;have hf:=Dm hE (l:=ae7 n (RT.zero r)) hq (by simp);rw [Dl] at hf;have hz:(ae7 n (RT.zero r)).map (RT.pv r)=ae7 n zero:=by simp [zO hr]
 rw [hz] at hf;refine ⟨_,_,?_,Good.new hS (b:= .arr r (Gm (fun i=>rowAt i (RT.zero r) q) 0 n)) (q:= .arr (agd r) ((Gm (fun i=>rowAt i (RT.zero r) q) 0 n).map (RT.pv r))) (v:= .own (agd s) agV) (p:= .own (agd s) (agd r) 0 n n agV) (rd:=[]) rfl ?_,hk⟩
 · simp only [bq,hf,hS.len]
   rfl
 refine ⟨agd r,n,rfl,.inl ⟨r,_,kZ,rfl,?_⟩⟩
 rw [<- Dl];have: ∀(q:List (Nat×RT r)) (l:List (RT r)),(tY l q).length=(agd l):=by
  intro q
  induction q with
  |nil=>intro l;rfl
  |cons p q ih=>intro l;simp [tY,ih]
 rw [this];simp
theorem Ma: ∀{cs:List SV} {q:List PV} {l:List Int},RL s cs q->LY cs=age l->q=l.map (.int .i64)
 | [],q,l,h,hi=>by injection hi with hi;subst hi;exact h
 |x::xs,q,l,h,hi=>by
  obtain ⟨p,q,rfl,h1,h2⟩:=h.cons_inv;simp only [LY] at hi;split at hi
  · rename_i n l' hx
    injection hi with hi;subst hi;rw [show p= .int .i64 n from h1,Ma h2 hx];rfl
  cases hi
theorem PW {v:SV} {p:PV} {n:Option Nat} {l:List Int} (h:R s v p) (hk:Sd n v=age l):p=qU l/\iC n (qU l)=agV/\(qU l).bZ=age (qU l).cells/\(qU l).cells=l.map (.int .i64)/\(n=agn->agd l=1)/\(∀m,n=age m->agd l=m/\m≠1):=by
 cases n with
 |none=>
  cases v with
  |int kk a=>
   cases kk with
   |i64=>injection hk with hk;subst hk;exact ⟨h,rfl,rfl,rfl,fun _=>rfl,fun m hm=>by cases hm⟩
   |_=>cases hk
  |_=>cases hk
 |some m=>
  cases v with
  |agg cs=>
   simp only [Sd] at hk;cases hc:(PP (agd cs) m&&!Nat.beq m 1) with
   |false=>rw [hc] at hk;cases hk
   |true=>
    rw [hc] at hk;simp only [pi] at hk;simp only [v6,aeK,adR] at hc;obtain ⟨c1,c2⟩:=hc;obtain ⟨q,rfl,hq⟩:=h;have Oj:=Ma hq hk;have cy:(agd l)=m:=by have:=hq.ly;rw [Oj] at this;simp at this;omega
    have Ou:m≠1:=by intro e;subst e;cases c2
    have Ol:qU l= .agg (l.map (.int .i64)):=by
     unfold qU;split
     · simp at cy;omega
     rfl
    refine ⟨by rw [Ol,Oj],by rw [Ol];simp [iC,cy],?_,by rw [Ol];rfl,(fun h=>by cases h),fun m' hm=>by injection hm with hm;subst hm;exact ⟨cy,Ou⟩⟩;rw [Ol];unfold PV.bZ;rw [rc];simp [PV.cells,PV.plain]
  |_=>cases hk
theorem tZ: ∀(a b:List Int),agd a=agd b->dc (a.map (.int .i64)) (b.map (.int .i64))=age (a==b)
 | [],[],_=>rfl
 |x::a,y::b,h=>by
  have ih:=tZ a b (by simpa using h);simp only [ae1,dc,pg,Ib,if_true];cases RN:x==y with
  |true=>simp only [ih];simp [afd,RN]
  |false=>simp [afd,RN]
 | [],_::_,h=>by simp at h
 |_::_,[],h=>by simp at h
theorem AX {n : Option Nat} {a : List Int} (ha : (qU a).cells = a.map (.int .i64)) (hn : (n = agn -> (agd a) = 1) /\ (∀ m, n = age m -> (agd a) = m /\ m ≠ 1)) : ∀ (l : List (List Int)) (i : Nat), (∀ r, eD n (qU a) (l.map zK) i = age r -> (match r with | none => B1 l a = ah0 | some j => i <= j /\ B1 l a = agV /\ l[j - i]? = age a))
  | [], i, r, h => by
    simp only [afp, eD, EQ] at h
    subst h; rfl
  | b :: l, i, r, h => by
    simp only [ae1, zK, eD] at h
    split at h
    · rename_i hk
      have hb : (qU b).cells = b.map (.int .i64) /\ (agd a) = (agd b) := by
        cases n with
        | none =>
          have hl := hn.1 rfl
          unfold qU at hk ⊢
          split at hk
          · exact ⟨rfl, by simpa using hl⟩
          cases hk
        | some m =>
          obtain ⟨hl, hm⟩ := hn.2 m rfl
          unfold qU at hk ⊢
          split at hk
          · cases hk
          simp only [iC, ae0, aeK] at hk
          exact ⟨rfl, by omega⟩
      rw [ha, hb.1, tZ a b hb.2] at h
      cases M7 : a == b with
      | true =>
        rw [M7] at h
        injection h with h; subst h
        have : a = b := by simpa using M7
        subst this
        exact ⟨af2 _, by simp [B1], by simp⟩
      | false =>
        rw [M7] at h
        have := AX ha hn l (i + 1) r h
        cases r with
        | none => simpa [B1, M7] using this
        | some j =>
          obtain ⟨h1, h2, h3⟩ := this
          refine ⟨by omega, by simp only [B1] at h2; simp [B1, h2], ?_⟩
          rw [show j - i = (j - (i + 1)) + 1 by omega]; simpa using h3
    cases h
theorem zP {n:Option Nat} {a:List Int} (ha:(qU a).cells=a.map (.int .i64)) (hn:(n=agn->agd a=1)/\(∀m,n=age m->agd a=m/\m≠1)) {l:List (List Int)} (hl:l.all (fun b=>iC n (qU b))=agV): ∀i,∃r,eD n (qU a) (l.map zK) i=age r:=by
 induction l with
 |nil=>intro i;exact ⟨agn,rfl⟩
 |cons b l ih=>
  intro i;simp only [afb,v6] at hl;obtain ⟨r,hr⟩:=ih hl.2 (i+1);simp only [ae1,zK,eD,hl.1,if_true];have hb:(qU b).cells=b.map (.int .i64)/\agd a=(agd b):=by
   have hk:=hl.1;cases n with
   |none=>
    have kV:=hn.1 rfl;unfold qU at hk ⊢;split at hk
    · exact ⟨rfl,by simpa using kV⟩
    cases hk
   |some m=>
    obtain ⟨kV,hm⟩:=hn.2 m rfl;unfold qU at hk ⊢;split at hk
    · cases hk
    simp only [iC,ae0,aeK] at hk
    exact ⟨rfl,by omega⟩
  rw [ha,hb.1,tZ a b hb.2];cases M7:a==b with
  |true=>exact ⟨age i,rfl⟩
  |false=>exact ⟨r,hr⟩
theorem BE {n:Option Nat} {a:List Int} (hn:(n=agn->agd a=1)/\(∀m,n=age m->agd a=m/\m≠1)) {l:List (List Int)} (hl: ∀b∈l,agd b=agd a):l.all (fun b=>iC n (qU b))=agV:=by
 rw [aep];intro b hb;have cy:=hl b hb;cases n with
 |none=>
  have h1:=hn.1 rfl;rw [h1] at cy
  match b,cy with
  | [x],_=>rfl
 |some m=>
  obtain ⟨h1,h2⟩:=hn.2 m rfl;unfold qU;split
  · rename_i x;simp at cy;omega
  simp [iC];omega
theorem zQ {a:List Int} {l:List (List Int)} (h:mC a l=agV): ∀b∈l,agd b=(agd a):=by intro b hb;exact v4 (aep.1 h b hb)
theorem PT.af0 {s:List SB} {p:PT} {v:SV} {q:PV} {a:p.T} (h:R s v q) (ho:p.of v=age a):q=p.pv a:=by
 cases p with
 |i k=>
  cases v with
  |int l n=>
   simp only [PT.of] at ho;cases hk:eE l k with
   |false=>rw [hk] at ho;cases ho
   |true=>rw [hk] at ho;obtain rfl:=ei.1 hk;injection ho with ho;subst ho;exact h
  |_=>cases ho
 |b=>
  cases v with
  |bool x=>injection ho with ho;subst ho;exact h
  |_=>cases ho
theorem Dn {β:Type} (g:Int×β->PV×PV) (hg: ∀x,(g x).1= .int .i64 x.1) (k:Int): ∀(l:List (Int×β)) (i:Nat),
 (∃j x,eD agn (.int .i64 k) (l.map g) i=age (age (i+j))/\l[j]? =age x/\(∀z,Bw z l k=x.2)/\ ∀a,Bx l k a=l.set j (k,a))\/
 (eD agn (.int .i64 k) (l.map g) i=age agn/\(∀z,Bw z l k=z)/\ ∀a,Bx l k a=l++[(k,a)])
 | [],i=> .inr ⟨rfl,fun _=>rfl,fun _=>rfl⟩
 |x::l,i=>by
  have hk:iC agn (g x).1=agV:=by rw [hg];rfl
  have he:dc (PV.int .i64 k).cells (g x).1.cells=age (k==x.1):=by rw [hg];show dc [.int .i64 k] [.int .i64 x.1]=_;simp only [dc,pg,eE,if_true];cases k==x.1<;>rfl
  have hf:eD agn (.int .i64 k) ((x::l).map g) i=(match age (k==x.1) with
   |some agV=>age (age i)
   |some ah0=>eD agn (.int .i64 k) (l.map g) (i+1)
   |none=>agn):=by
   rw [ae1];show (if iC agn (g x).1 then _ else agn)=_;rw [rc hk,he];cases k==x.1<;>rfl
  cases hb:k==x.1 with
  |true=>rw [hb] at hf;exact .inl ⟨0,x,hf,rfl,fun z=>by simp only [Bw,hb,pi],fun a=>by simp only [Bx,hb,pi,List.set_cons_zero]⟩
  |false=>
   rw [hb] at hf;rcases Dn g hg k l (i+1) with ⟨j,y,h1,h2,h3,h4⟩|⟨h1,h2,h3⟩
   · refine .inl ⟨j+1,y,?_,by simpa using h2,fun z=>?_,fun a=>?_⟩
     · rw [hf];show eD agn (.int .i64 k) (l.map g) (i+1)=_
       rw [h1,show i+1+j=i+(j+1) by omega]
     · simp only [Bw,hb,pp,h3]
     simp only [Bx,hb,pp,h4,List.set_cons_succ]
   exact .inr ⟨hf.trans h1,fun z=>by simp only [Bw,hb,pp,h2],fun a=>by simp only [Bx,hb,pp,h3,aeS]⟩
theorem Dp (p:PT) (k:Int) (l:List (RT [.i .i64,p])):
 (∃(j:Nat) (x:RT [.i .i64,p]),eD agn (.int .i64 k) (l.map (B2 p)) 0=age (age j)/\l[j]? =age x/\(∀z,p.get z l k=x.2)/\ ∀a,p.put l k a=l.set j (k,a))\/
 (eD agn (.int .i64 k) (l.map (B2 p)) 0=age agn/\(∀z,p.get z l k=z)/\ ∀a,p.put l k a=l++[(k,a)]):=by
 cases p with
 |i d=>
  rcases Dn (β:=Int) (B2 (.i d)) (fun _=>rfl) k l 0 with ⟨j,x,h1,h2,h3,h4⟩|h
  · exact .inl ⟨j,x,by rw [h1,aeD],h2,h3,h4⟩
  exact .inr h
 |b=>
  rcases Dn (β:=Bool) (B2 .b) (fun _=>rfl) k l 0 with ⟨j,x,h1,h2,h3,h4⟩|h
  · exact .inl ⟨j,x,by rw [h1,aeD],h2,h3,h4⟩
  exact .inr h
theorem PT.ajJ {s:List SB} (p:PT) (a:p.T):R s (p.sv a) (p.pv a):=by cases p<;>rfl
theorem PT.Ig (p:PT) (a:p.T):(p.pv a).bZ=age [p.pv a]:=by cases p<;>rfl
theorem Ku (hE:dt s e pe) (hS:cd s ps) {n:Option Nat} {zero:PV} {ok:Bool} {m q:eI} (h:kT e s z (.lookup n zero ok m q) k ρ w=age y):fX s ps (bq pe ps z (.lookup n zero ok m q)) k ρ w y:=by
 simp only [kT] at h;have hx:=dh hE m;generalize bK e m=v at h hx;cases v with
 |mp t=>
  simp only [bU] at h;generalize bR:s[t]? =b at h;cases b with
  |none=>cases h
  |some b=>
   cases b with
   |set l=>
    dsimp only at h;unfold L0 at h;cases zero with
    |bool b=>
     cases b with
     |true=>cases h
     |false=>
      cases ok with
      |true=>cases h
      |false=>
       obtain ⟨a,ha,h1⟩:=bB h;obtain ⟨b,hb,hk⟩:=cp h1;obtain ⟨k1,k2,k3,k4,k5⟩:=PW (dh hE q) ha;unfold HY at hb;cases rX:mC a l with
       |false=>rw [rX] at hb;cases hb
       |true=>
        rw [rX] at hb;injection hb with hb;subst hb;obtain ⟨r,hr⟩:=zP k4 k5 (BE k5 (zQ rX)) 0;have hf:=AX k4 k5 l 0 r hr;refine fX.rd hS hk ?_ rfl;show qV ps n (.bool ah0) ah0 (m.ev pe) (q.ev pe)=_;rw [show m.ev pe=_ from hx,k1];simp only [qV,hS.afX bR,k2,if_true,hr];cases r with
        |none=>simp only at hf;simp [hf]
        |some j=>
         obtain ⟨_,h2,h3⟩:=hf;have:(l.map zK)[j]? =age (zK a):=by simp at h3;simp [h3]
         simp [this,h2,zK]
    |_=>cases h
   |bH p l=>
    dsimp only at h;unfold L1 at h;cases n with
    |some _=>cases h
    |none=>
     cases ok with
     |true=>cases h
     |false=>
      have hq:=dh hE q;generalize bK e q=u at h hq;cases u with
      |int d a=>
       cases d with
       |i64=>
        obtain ⟨zv,hz,hk⟩:=bB h;have af1:=PT.af0 (Kq s zero) hz;refine fX.rd hS hk ?_ (PT.ajJ p _);show qV ps agn zero ah0 (m.ev pe) (q.ev pe)=_;rw [show m.ev pe=_ from hx,show q.ev pe=_ from hq];rcases Dp p a l with ⟨j,x,h1,h2,h3,_⟩|⟨h1,h2,_⟩
        · have h5:(l.map (B2 p))[j]? =age (B2 p x):=by simp [h2]
          simp only [qV,hS.Sw bR,iC,if_true,h1,h5,h3,B2,UV,if_false]
        simp only [qV,hS.Sw bR,iC,if_true,h1,h2,af1,UV,if_false]
       |_=>cases h
      |_=>cases h
   |_=>cases h
 |_=>cases h
theorem PX (hE:dt s e pe) (hS:cd s ps) {n:Option Nat} {m q x:eI} (h:kT e s z (.FT n m q x) k ρ w=age y):fX s ps (bq pe ps z (.FT n m q x)) k ρ w y:=by
 simp only [kT] at h;have hx:=dh hE m;generalize bK e m=v at h hx;cases v with
 |mp t=>
  simp only [bU] at h;generalize bR:s[t]? =b at h;cases b with
  |none=>cases h
  |some b=>
   cases b with
   |set l=>
    obtain ⟨hz,h0⟩:=qc h;unfold Pv at h0;have hv:=dh hE x;generalize bK e x=u at h0 hv;cases u with
    |bool b=>
     cases b with
     |false=>cases h0
     |true=>
      obtain ⟨a,ha,h1⟩:=bB h0;obtain ⟨b,hb,hk⟩:=cp h1;obtain ⟨k1,k2,k3,k4,k5⟩:=PW (dh hE q) ha;unfold HZ at hb;cases rX:mC a l with
      |false=>rw [rX] at hb;cases hb
      |true=>
       rw [rX] at hb;injection hb with hb;subst hb;obtain ⟨r,hr⟩:=zP k4 k5 (BE k5 (zQ rX)) 0;have hf:=AX k4 k5 l 0 r hr;refine ⟨_,_,?_,Good.PJ hS (b:= .set (Kc l a)) (q:= .map ((Kc l a).map zK)) (rd:=[]) bR trivial rfl,hk⟩;show Bp ps z n (m.ev pe) (q.ev pe) (x.ev pe)=_;rw [show m.ev pe=_ from hx,k1,show x.ev pe= .bool agV from hv];have p2:(PV.bool agV).bZ=age [.bool agV]:=rfl;simp only [Bp,hS.afX bR,k2,hz,aev,ae2,if_true,k3,p2,hr];cases r with
       |none=>simp only at hf;simp [Kc,hf,zK]
       |some j=>
        obtain ⟨_,h2,h3⟩:=hf;have h5:l[j]? =age a:=by simpa using h3
        have:(l.map zK).set j (qU a,.bool agV)=l.map zK:=by
         apply afo;intro i;rw [M2];split
         · rename_i mf
           subst mf;have dz:=(ww.1 h5).1;have h6:l[j]=a:=(ww.1 h5).2;simp [dz,h6,zK]
         rfl
        simp [Kc,h2,this]
    |_=>cases h0
   |bH p l=>
    obtain ⟨hz,h0⟩:=qc h;unfold Pw at h0;cases n with
    |some _=>cases h0
    |none=>
     have hq:=dh hE q;generalize bK e q=u at h0 hq;cases u with
     |int d a=>
      cases d with
      |i64=>
       obtain ⟨xv,hxv,hk⟩:=bB h0;have PY:=PT.af0 (dh hE x) hxv;refine ⟨_,_,?_,Good.PJ hS (b:= .bH p (p.put l a xv)) (q:= .map ((p.put l a xv).map (B2 p))) (rd:=[]) bR trivial rfl,hk⟩;show Bp ps z agn (m.ev pe) (q.ev pe) (x.ev pe)=_;rw [show m.ev pe=_ from hx,show q.ev pe=_ from hq,PY];have p1:(PV.int .i64 a).bZ=age [.int .i64 a]:=rfl;rcases Dp p a l with ⟨j,x,h1,_,_,h3⟩|⟨h1,_,h3⟩
       · simp only [Bp,hS.Sw bR,iC,hz,aev,ae2,if_true,p1,PT.Ig,h1,h3,afm,B2]
       simp only [Bp,hS.Sw bR,iC,hz,aev,ae2,if_true,p1,PT.Ig,h1,h3,aes,ae1,afp,B2]
      |_=>cases h0
     |_=>cases h0
   |_=>cases h
 |_=>cases h
theorem xW.fr' {s s':List SB} {bad:List Nat} {t e:Nat} (h:xW s t e) (hf:Fr bad s s'):xW s' t e:=by
 rcases h with ⟨r,l,h1,h2⟩|h1|⟨cs,h1,h2⟩
 · rcases hf t _ h1 with ⟨l',k1,_,_⟩|k1
   · exact .inl ⟨r,l',k1,h2⟩
   exact .inr (.inl k1)
 · exact .inr (.inl (hf t _ h1))
 rcases hf t _ h1 with ⟨c2,k1⟩|k1
 · exact .inr (.inr ⟨c2,k1,h2⟩)
 exact .inr (.inl k1)
theorem yH {α:Type} {l r:List α} (h:cD l=age r):r=l/\agd l<=1048576:=by
 unfold cD at h;split at h
 · injection h with h;exact ⟨h.symm,by assumption⟩
 cases h
theorem v7 {α:Type} {l m r:List α} (h:bu l m=age r):r=l++m/\agd l+agd m<=1048576:=by
 unfold bu at h;split at h
 · injection h with h;exact ⟨h.symm,by assumption⟩
 cases h
theorem rn: ∀(m l:List Row) (n:Nat),n+agd m<=agd l->jO n m l=gl l n m
 | [],l,n,h=>by simp [jO,gl]
 |a::m,l,n,h=>by
  simp only [adT] at h;rw [jO,rn m (l.set n a) (n+1) (by simp;omega)];unfold gl;rw [List.take_set,List.drop_set];have hn:n<(agd l):=by omega
  have h1: ¬(n+1+agd m<=n):=by omega
  rw [rc (by omega)];have:(l.take (n+1)).set n a=l.take n++[a]:=by rw [List.take_succ_eq_append_getElem hn,List.set_append_right _ _ (by simp;omega)];simp [aeT (afn hn)]
  rw [this];simp only [adV,aeS,List.nil_append,adT];rw [show n+1+agd m=n+(agd m+1) by omega]
theorem Dq {α β:Type} (f:α->β) (l m:List α) (n:Nat):(gl l n m).map f=gl (l.map f) n (m.map f):=by simp [gl,aen,aez]
theorem zR {α:Type} (l m:List α) (n:Nat) (h:n+agd m<=agd l):(gl l n m).length=(agd l):=by simp [gl];omega
theorem Kv (hE:dt s e pe) (hS:cd s ps) {esz:Nat} {x yy:eI} (h:kT e s z (.append esz x yy) k ρ w=age y):fX s ps (bq pe ps z (.append esz x yy)) k ρ w y:=by
 simp only [kT] at h;have hx:=dh hE x;have Pa:=dh hE yy;unfold LZ at h;generalize bK e yy=vy at h Pa;cases hc:xU s vy with
 |none=>rw [hc] at h;cases h
 |some cc=>
  obtain ⟨q,m⟩:=cc;rw [hc] at h;dsimp only at h;obtain ⟨he,h⟩:=cq h;have he:=v4 he;obtain ⟨zd,AG⟩:=L9 hS Pa hc;rw [he] at zd;have ua:bq pe ps z (.append esz x yy)=gQ ps z esz (x.ev pe) (yy.ev pe):=rfl;generalize bK e x=v at h hx;cases v with
  |nil e' c=>
   dsimp only at h;obtain ⟨EW,h⟩:=cq h;obtain ⟨m',AM,hk⟩:=cp h;obtain ⟨rfl,kC⟩:=yH AM;refine ⟨_,_,?_,Good.new hS (b:= .arr q m') (q:= .arr esz (m'.map (RT.pv q))) (v:= .own (agd s) ah0) (p:= .own (agd s) esz 0 (agd m') (agd m') ah0) (rd:=tQ vy) (by rw [<- he];rfl) ⟨esz,agd m',rfl,.inl ⟨q,m',kZ,he.symm,rfl⟩⟩,hk⟩;rw [ua];have ajK:c=agV:=EW;subst ajK;rw [show x.ev pe= .sl e' agV [] from hx];unfold gQ;rw [zd];cases m' with
   |nil=>simp [hS.len,AG]
   |cons a m'=>
    have h2:NE ((a::m').length) jU=agV:=by simp [jU] at kC ⊢;omega
    simp only [adT] at h2;simp [hS.len,AG,h2]
  |own t ex=>
   dsimp only at h;simp only [bU] at h;generalize bR:s[t]? =b at h;cases b with
   |none=>cases h
   |some b=>
    cases b with
    |arr r l=>
     dsimp only at h;cases PZ:qp q r m with
     |none=>rw [PZ] at h;cases h
     |some m2=>
      rw [PZ] at h;dsimp only at h;obtain ⟨rfl,hmp,G9⟩:=zJ PZ;obtain ⟨e',n',hx,cL⟩:=hx;obtain ⟨rfl,rfl⟩:=cL.inv bR;rw [<- hmp] at zd;have EI:=hS.arr bR;cases ex with
      |true=>
       dsimp only at h;rcases ej h with ⟨hl,h⟩|⟨hl,h⟩
       · obtain ⟨m',AM,hk⟩:=cp h
         obtain ⟨rfl,kC⟩:=yH AM;have hl:l=[]:=by simpa using hl
         subst hl;refine ⟨_,_,?_,Good.new hS (b:= .arr q m') (q:= .arr (agd q) (m'.map (RT.pv q))) (v:= .own (agd s) ah0) (p:= .own (agd s) (agd q) 0 (agd m') (agd m') ah0) (rd:=t::tQ vy) rfl ⟨agd q,agd m',rfl,.inl ⟨q,m',kZ,rfl,rfl⟩⟩,hk⟩;rw [ua,hx];unfold gQ;rw [zd];subst he;cases m' with
         |nil=>simp [hS.len,AG]
         |cons a m'=>
          have h2:NE ((a::m').length) jU=agV:=by simp [jU] at kC ⊢;omega
          simp only [adT] at h2;simp [hS.len,AG,h2,EI]
       have hl:l≠[]:=by intro e;subst e;cases hl
       have G7:(agd l)≠0:=by intro e;exact hl (aeC.1 e)
       have hb0:PP (agd l) 0=ah0:=by
        cases hb:PP (agd l) 0 with
        |false=>rfl
        |true=>exact absurd (v4 hb) G7
       rcases ej h with ⟨hm,h⟩|⟨hm,h⟩
       · have hm:m2=[]:=by simpa using hm
         subst hm;refine fX.rd hS h ?_ ⟨_,_,rfl,cL⟩;rw [ua,hx];unfold gQ;rw [zd];simp [hb0,AG]
       obtain ⟨l',kV,hk⟩:=cp h
       obtain ⟨rfl,kC⟩:=v7 kV;refine ⟨_,_,?_,Good.new hS (b:= .arr q (l++m2)) (q:= .arr (agd q) ((l++m2).map (RT.pv q))) (v:= .own (agd s) ah0) (p:= .own (agd s) (agd q) 0 (l++m2).length (l++m2).length ah0) (rd:=t::tQ vy) rfl ⟨agd q,(l++m2).length,rfl,.inl ⟨q,l++m2,kZ,rfl,rfl⟩⟩,hk⟩;rw [ua,hx];unfold gQ;rw [zd];subst he;cases m2 with
       |nil=>cases hm
       |cons a m2=>
        have h2:NE (agd l+(a::m2).length) jU=agV:=by simp [jU] at kC ⊢;omega
        have h3:NE (agd l+(agd m2+1)) (agd l)=ah0:=by
         cases hb:NE (agd l+(agd m2+1)) (agd l) with
         |false=>rfl
         |true=>have:=acl hb;omega
        simp only [adT] at h2;simp [hS.len,AG,h2,h3,EI,aeo]
      |false=>
       dsimp only at h;rcases ej h with ⟨hm,h⟩|⟨hm,h⟩
       · have hm:m2=[]:=by simpa using hm
         subst hm;refine fX.rd hS h ?_ ⟨_,_,rfl,cL⟩;rw [ua,hx];unfold gQ;rw [zd];simp [AG]
       obtain ⟨hz,h⟩:=qc h
       obtain ⟨l',kV,hk⟩:=cp h;obtain ⟨rfl,kC⟩:=v7 kV;have cy:(Ao [t] (s.set t .dead)).length=(agd s):=by rw [tV];simp
       refine ⟨_,_,?_,Good.put hS (b:= .dead) (q:= .dead) (l:=[.arr q (l++m2)]) (ql:=[.arr (agd q) ((l++m2).map (RT.pv q))]) (v:= .own (agd s) ah0) (p:= .own (agd s) (agd q) 0 (l++m2).length (l++m2).length ah0) (rd:=tQ vy) bR (.inr rfl) rfl rfl
        (fun j b hj=>by
         cases j with
         |zero=>simp at hj;subst hj;exact ⟨_,rfl,rfl⟩
         |succ j=>simp at hj)
        ⟨agd q,(l++m2).length,rfl,.inl ⟨q,l++m2,by rw [<- cy];exact kZ,rfl,rfl⟩⟩,hk⟩
       rw [ua,hx];unfold gQ;rw [zd];subst he;cases m2 with
       |nil=>cases hm
       |cons a m2=>
        have h2:NE (agd l+(a::m2).length) jU=agV:=by simp [jU] at kC ⊢;omega
        have h3:NE (agd l+(agd m2+1)) (agd l)=ah0:=by
         cases hb:NE (agd l+(agd m2+1)) (agd l) with
         |false=>rfl
         |true=>have:=acl hb;omega
        simp only [adT] at h2;simp [hS.len,AG,h2,h3,EI,hz,aeo]
    |_=>cases h
  |pre t len cap ex=>
   dsimp only at h;simp only [bU] at h;generalize bR:s[t]? =b at h;cases b with
   |none=>cases h
   |some b=>
    cases b with
    |arr r l=>
     dsimp only at h;cases PZ:qp q r m with
     |none=>rw [PZ] at h;cases h
     |some m2=>
      rw [PZ] at h;dsimp only at h;obtain ⟨rfl,hmp,G9⟩:=zJ PZ;obtain ⟨e',hx,cL⟩:=hx;have:=cL.inv bR;subst this;rw [<- hmp] at zd;have EI:=hS.arr bR;obtain ⟨hex,h⟩:=qc h;subst hex;rcases ej h with ⟨hm,h⟩|⟨hm,h⟩
      · have hm:m2=[]:=by simpa using hm
        subst hm;refine fX.rd hS h ?_ ⟨_,rfl,cL⟩;rw [ua,hx];unfold gQ;rw [zd];simp [AG]
      rcases ej h with ⟨c1,h⟩|⟨c1,h⟩
      · obtain ⟨G8,hk⟩:=gy h
        simp only [v6,adR] at G8;obtain ⟨c2,c3⟩:=G8;have c2':=acl c2;refine ⟨_,_,?_,Good.put hS (b:= .arr q (gl l len m2)) (q:= .arr (agd q) ((gl l len m2).map (RT.pv q))) (l:=[]) (ql:=[]) (v:= .pre t (len+agd m2) cap ah0) (p:= .own t (agd q) 0 (len+agd m2) cap ah0) (rd:=tQ vy) bR (.inl ⟨_,rfl,zR _ _ _ c2'⟩) rfl rfl
         (fun j b hj=>by simp at hj) ⟨agd q,rfl,?_⟩,hk⟩
        · rw [ua,hx]
          unfold gQ;rw [zd];subst he;have jZ:jO (0+len) (m2.map (RT.pv q)) (l.map (RT.pv q))=(gl l len m2).map (RT.pv q):=by rw [rn _ _ _ (by simp;omega),Dq,aeD]
          cases m2 with
          |nil=>cases hm
          |cons a m2=>simp only [adT] at c1;simp only [ae1] at jZ ⊢;simp only [EI,ae5,afc,UV,if_false,adT,ae0,c1,if_true,c3,jZ,AG]
        have:=xW.fr' (s:=s) (s':=Ao [t] (s.set t (.arr q (gl l len m2)))++[]) cL ((Fr.dg (ts:=[t]) (Fr.set bR (.inl ⟨_,rfl,zR _ _ _ c2'⟩))).trans (Fr.app [t] _ []))
        exact this
      obtain ⟨hz0,h⟩:=qc h
      have hz:has z t=ah0:=by
       cases hh:has z t with
       |false=>rfl
       |true=>rw [hh] at hz0;cases hz0
      obtain ⟨l',kV,h⟩:=cp h;obtain ⟨yo,hk⟩:=gy h;obtain ⟨ajL,kC⟩:=v7 kV;subst ajL;have aoG:=acl yo;have Nm:(l.take len).length=len:=by rw [ae8];omega
      rw [Nm] at kC;have cy:(Ao [t] (s.set t .dead)).length=(agd s):=by rw [tV];simp
      have hal:(l.take len++m2).length=len+(agd m2):=by rw [aeL,Nm]
      refine ⟨_,_,?_,Good.put hS (b:= .dead) (q:= .dead) (l:=[.arr q (l.take len++m2)]) (ql:=[.arr (agd q) ((l.take len++m2).map (RT.pv q))]) (v:= .own (agd s) ah0) (p:= .own (agd s) (agd q) 0 (l.take len++m2).length (l.take len++m2).length ah0) (rd:=tQ vy) bR (.inr rfl) rfl rfl
       (fun j b hj=>by
        cases j with
        |zero=>simp at hj;subst hj;exact ⟨_,rfl,rfl⟩
        |succ j=>simp at hj)
       ⟨agd q,(l.take len++m2).length,rfl,.inl ⟨q,l.take len++m2,by rw [<- cy];exact kZ,rfl,rfl⟩⟩,hk⟩
      rw [ua,hx];unfold gQ;rw [zd];subst he;cases m2 with
      |nil=>cases hm
      |cons a m2=>
       have h2:NE (len+(agd m2+1)) jU=agV:=by simp [jU] at kC ⊢;omega
       simp only [adT] at c1 hal;simp only [ae1,adT,ae0,EI,ae5,afc,UV,if_false,c1,h2,hz,hS.len,AG,hal,aeq,aes,aen]
    |_=>cases h
  |_=>cases h
end
end Go.Vm
/- Operation by operation: all of them. -/
namespace Go.Vm
section
variable {R' ρ : Type} {w : R' -> ρ} {y : ρ} {s : List SB} {ps : bY} {e : SE} {pe : Env} {z : List Nat} {k : fk -> fG R'}
theorem NK (hE:dt s e pe) (hS:cd s ps) {esz:Nat} {zero:Row} {x:eI} (h:kT e s z (.clear esz zero x) k ρ w=age y):fX s ps (bq pe ps z (.clear esz zero x)) k ρ w y:=by
 simp only [kT] at h;have hx:=dh hE x;unfold Pu at h;generalize bK e x=v at h hx;cases v with
 |part t off len cap ex=>
  simp only [bU] at h;generalize bR:s[t]? =b at h;cases b with
  |none=>cases h
  |some b=>
   cases b with
   |arr r l=>
    dsimp only at h;cases hq:C8 zero with
    |none=>rw [hq] at h;cases h
    |some q=>
     rw [hq] at h;dsimp only at h;obtain ⟨hc,h1⟩:=cq h;simp only [v6] at hc;obtain ⟨YP,he⟩:=hc;have YP:=sX YP;have he:=v4 he;obtain ⟨e',hx,cL⟩:=hx;have:=cL.inv bR;subst this;subst YP;subst he;rcases ej h1 with ⟨hl,hk⟩|⟨hl,hk⟩
     · have hl:=v4 hl
       subst hl;exact fX.val hS hk (by simp only [bq,hx]) rfl
     obtain ⟨G8,hk⟩:=gy hk
     simp only [v6,adR] at G8;obtain ⟨c1,c2⟩:=G8;have c1':=acl c1;have cy:=zR l (ae7 len (RT.zero q)) off (by simpa using c1');refine ⟨_,_,?_,Good.PJ hS (b:= .arr q (gl l off (ae7 len (RT.zero q)))) (q:= .arr (agd q) ((gl l off (ae7 len (RT.zero q))).map (RT.pv q))) (rd:=[]) bR (.inl ⟨_,rfl,cy⟩) rfl,hk⟩;cases len with
     |zero=>cases hl
     |succ len=>
      have jZ:jO off (ae7 (len+1) zero) (l.map (RT.pv q))=(gl l off (ae7 (len+1) (RT.zero q))).map (RT.pv q):=by rw [Dq,rn _ _ _ (by simpa using c1')];simp [zO hq]
      simp only [bq,hx,hS.arr bR,ae5,c2,aev,ae2,if_true,jZ]
   |_=>cases h
 |_=>cases h
theorem yI (hS:cd s ps) {t off len cap:Nat} {ex:Bool} {r:List PT} {l:List (RT r)} {x yy:eI} {vy:SV} (bR:s[t]? =age (.arr r l)) (hx:x.ev pe= .own t (agd r) off len cap ex) (Pa:R s vy (yy.ev pe))
 (h:C9 s z t r l off len vy k ρ w=age y):fX s ps (bq pe ps z (.copy (agd r) x yy)) k ρ w y:=by
 unfold C9 at h;cases hc:xU s vy with
 |none=>rw [hc] at h;cases h
 |some cc=>
  obtain ⟨q,m⟩:=cc;rw [hc] at h;dsimp only at h;cases PZ:qp q r m with
  |none=>rw [PZ] at h;cases h
  |some m2=>
   rw [PZ] at h;dsimp only at h;obtain ⟨YP,hmp,G9⟩:=zJ PZ;subst YP;obtain ⟨zd,AG⟩:=L9 hS Pa hc;rw [<- hmp] at zd;have Dr:(m2.map (RT.pv q)).take len=(m2.take len).map (RT.pv q):=by rw [aen]
   generalize m2.take len=mm at h Dr;rcases ej h with ⟨hm,hk⟩|⟨hm,hk⟩
   · have hm:mm=[]:=by simpa using hm
     subst hm;refine fX.rd hS hk ?_ rfl;simp only [bq,zd,hx,Dr,afp,AG]
   obtain ⟨G8,hk⟩:=gy hk
   simp only [v6,adR] at G8;obtain ⟨c1,c2⟩:=G8;have c1':=acl c1;have cy:=zR l mm off c1';refine ⟨_,_,?_,Good.put hS (b:= .arr q (gl l off mm)) (q:= .arr (agd q) ((gl l off mm).map (RT.pv q))) (l:=[]) (ql:=[]) (v:= .int .i64 (.ofNat (agd mm))) (p:= .int .i64 (.ofNat (agd mm))) (rd:=tQ vy) bR (.inl ⟨_,rfl,cy⟩) rfl rfl (fun j b hj=>by simp at hj) rfl,hk⟩;have jZ:jO off (mm.map (RT.pv q)) (l.map (RT.pv q))=(gl l off mm).map (RT.pv q):=by rw [Dq,rn _ _ _ (by simpa using c1')]
   cases mm with
   |nil=>cases hm
   |cons a mm=>simp only [ae1] at jZ Dr;simp only [bq,zd,hx,Dr,hS.arr bR,ae5,c2,aev,ae2,if_true,jZ,AG,ae0,adT]
theorem P0 (hE:dt s e pe) (hS:cd s ps) {esz:Nat} {x yy:eI} (h:kT e s z (.copy esz x yy) k ρ w=age y):fX s ps (bq pe ps z (.copy esz x yy)) k ρ w y:=by
 simp only [kT] at h;have hx:=dh hE x;have Pa:=dh hE yy;unfold YK at h;generalize bK e yy=vy at h Pa;generalize bK e x=v at h hx;cases v with
 |own t ex=>
  simp only [bU] at h;generalize bR:s[t]? =b at h;cases b with
  |none=>cases h
  |some b=>
   cases b with
   |arr r l=>obtain ⟨he,hk⟩:=cq h;have he:=v4 he;subst he;obtain ⟨e',n',hx,cL⟩:=hx;obtain ⟨rfl,rfl⟩:=cL.inv bR;exact yI hS bR hx Pa hk
   |_=>cases h
 |pre t len cap ex=>
  simp only [bU] at h;generalize bR:s[t]? =b at h;cases b with
  |none=>cases h
  |some b=>
   cases b with
   |arr r l=>obtain ⟨he,hk⟩:=cq h;have he:=v4 he;subst he;obtain ⟨e',hx,cL⟩:=hx;have:=cL.inv bR;subst this;exact yI hS bR hx Pa hk
   |_=>cases h
 |part t off len cap ex=>
  simp only [bU] at h;generalize bR:s[t]? =b at h;cases b with
  |none=>cases h
  |some b=>
   cases b with
   |arr r l=>obtain ⟨he,hk⟩:=cq h;have he:=v4 he;subst he;obtain ⟨e',hx,cL⟩:=hx;have:=cL.inv bR;subst this;exact yI hS bR hx Pa hk
   |_=>cases h
 |_=>cases h
theorem NL (hE:dt s e pe) (hS:cd s ps) {x1 x2:eI} (h:kT e s z (.Bm x1 x2) k ρ w=age y):fX s ps (bq pe ps z (.Bm x1 x2)) k ρ w y:=by
 simp only [kT] at h;have hx:=dh hE x1;have hy:=dh hE x2;generalize bK e x1=v at h hx;generalize bK e x2=u at h hy;cases v with
 |sl r l=>
  cases u with
  |sl q m=>have hx:x1.ev pe= .sl (agd r) ah0 (l.map (RT.pv r)):=hx;have hy:x2.ev pe= .sl (agd q) ah0 (m.map (RT.pv q)):=hy;refine ⟨_,_,?_,Good.new hS (b:= .box [.sl r l,.sl q m]) (q:= .box [.sl (agd r) ah0 (l.map (RT.pv r)),.sl (agd q) ah0 (m.map (RT.pv q))]) (v:= .part (agd s) 0 2 2 agV) (p:= .own (agd s) 1 0 2 2 agV) (rd:=[]) ⟨_,rfl,_,_,rfl,rfl,_,_,rfl,rfl,rfl⟩ ⟨1,rfl,.inr (.inr ⟨_,kZ,rfl⟩)⟩,h⟩;simp only [bq,hx,hy,hS.len];rfl
  |_=>cases h
 |_=>cases h
theorem SA (hE:dt s e pe) (hS:cd s ps) {op:jL} (h:kT e s z op k ρ w=age y):fX s ps (bq pe ps z op) k ρ w y:=by
 cases op with
 |Oi x=>exact fX.val hS h rfl (dh hE x)
 |pick c a b=>exact PQ hE hS h
 |bin op a b=>exact Sm hE hS h
 |Hc n a b=>exact PK hE hS h
 |Yb n g a b=>exact Sn hE hS h
 |un op a=>exact ZQ hE hS h
 |conv a x=>exact PM hE hS h
 |len x=>exact So hE hS h
 |JI n=>exact fX.val hS h rfl rfl
 |box x=>exact Sq hE hS h
 |alloc c=>exact NG hS h
 |build z p=>exact NF hE hS h
 |zf a b c d=>exact NJ hE hS h
 |Bm a b=>exact NL hE hS h
 |load a p=>exact PU hE hS h
 |store a p x=>exact NI hE hS h
 |Hd x=>exact PN hE hS h
 |He o x=>exact PO hE hS h
 |jT a o x=>exact Sr hE hS h
 |Hf a x i=>exact PR hE hS h
 |Bn n a x i=>exact NH hE hS h
 |idx n a g x i=>exact Sx hE hS h
 |Hg x i=>exact PS hE hS h
 |MT a x l h' m=>exact Sy hE hS h
 |Yc a z l c=>exact Sz hE hS h
 |Yd f a b=>exact Su hE hS h
 |Ye m=>exact Sv hS h
 |lookup n z o m q=>exact Ku hE hS h
 |FT n m q x=>exact PX hE hS h
 |ext i x=>exact Ss hE hS h
 |append a x b=>exact Kv hE hS h
 |copy a x b=>exact P0 hE hS h
 |clear a z x=>exact NK hE hS h
 |mm m x xs=>exact ZR hE hS h
 |call m f a=>cases h
 |uS x a=>cases h
 |bad=>cases h
mutual
theorem af4 {bx:Nat->Option (List SV)} {P1:Nat->Option (List PV)} (hS:cd s ps) (hb: ∀t l,bx t=age l-> ∃q,P1 t=age q/\pq l=age q): ∀{v u:SV} {p:PV},R s v p->E9 s bx v=age u-> ∃q,Ar ps P1 p=age q/\qt u=age q
 | .int k n,u,p,h,hx=>by injection hx with hx;subst hx;rw [show p=_ from h];exact ⟨_,rfl,rfl⟩
 | .bool b,u,p,h,hx=>by injection hx with hx;subst hx;rw [show p=_ from h];exact ⟨_,rfl,rfl⟩
 | .str x,u,p,h,hx=>by injection hx with hx;subst hx;rw [show p=_ from h];exact ⟨_,rfl,rfl⟩
 | .dw,u,p,h,hx=>by injection hx with hx;subst hx;rw [show p=_ from h];exact ⟨_,rfl,rfl⟩
 | .agg cs,u,p,h,hx=>by
  obtain ⟨q,rfl,h⟩:=h;simp only [E9] at hx;split at hx
  · rename_i l hl
    injection hx with hx;subst hx;obtain ⟨q',h1,h2⟩:=sd hS hb h hl;exact ⟨.agg q',by simp only [Ar,h1];rfl,by simp only [qt,h2]⟩
  cases hx
 | .cj cs,u,p,h,hx=>by
  obtain ⟨q,rfl,h⟩:=h;simp only [E9] at hx;split at hx
  · rename_i l hl
    injection hx with hx;subst hx;obtain ⟨q',h1,h2⟩:=sd hS hb h hl;exact ⟨.cj q',by simp only [Ar,h1];rfl,by simp only [qt,h2]⟩
  cases hx
 | .sl r l,u,p,h,hx=>by injection hx with hx;subst hx;rw [show p=_ from h];exact ⟨_,rfl,rfl⟩
 | .nil e c,u,p,h,hx=>by injection hx with hx;subst hx;rw [show p=_ from h];exact ⟨_,rfl,rfl⟩
 | .own t ex,u,p,h,hx=>by
  simp only [E9,bU] at hx;split at hx
  · rename_i r l bR
    injection hx with hx;subst hx;obtain ⟨e,n,rfl,cL⟩:=h;obtain ⟨rfl,rfl⟩:=cL.inv bR;refine ⟨.sl (agd r) ah0 (l.map (RT.pv r)),?_,rfl⟩;simp only [Ar,hS.arr bR,aeq];rw [aeo (by simp)]
  cases hx
 | .pre t len cap ex,u,p,h,hx=>by
  simp only [E9,bU] at hx;split at hx
  · rename_i r l bR
    injection hx with hx;subst hx;obtain ⟨e,rfl,cL⟩:=h;have:=cL.inv bR;subst this;refine ⟨.sl (agd r) ah0 ((l.take len).map (RT.pv r)),?_,rfl⟩;simp only [Ar,hS.arr bR,aeq,aen]
  cases hx
 | .part t off len cap ex,u,p,h,hx=>by
  simp only [E9,bU] at hx;split at hx
  · rename_i r l bR
    injection hx with hx;subst hx;obtain ⟨e,rfl,cL⟩:=h;have:=cL.inv bR;subst this;refine ⟨.sl (agd r) ah0 (((l.drop off).take len).map (RT.pv r)),?_,rfl⟩;simp only [Ar,hS.arr bR,aen,aez]
  cases hx
 | .pa t r i a off,u,p,h,hx=>by
  simp only [E9,bU] at hx;split at hx
  · rename_i q l bR
    injection hx with hx;subst hx;obtain ⟨rfl,cL⟩:=h;obtain ⟨rfl,hg⟩:=cL.inv bR;obtain ⟨m,rfl,hm⟩:=lM hg;refine ⟨.bw (RT.pv r a) off,?_,by simp only [qt,RT.Fb]⟩;have AM:(l.map (RT.pv r))[m]? =age (RT.pv r a):=by simp [hm]
    have e1:(aeu m).toNat=m:=rfl;simp only [Ar,hS.arr bR,e1,AM];rfl
  cases hx
 | .bp t n off,u,p,h,hx=>by
  simp only [E9,bU] at hx;split at hx
  · rename_i cs bR
    split at hx
    · rename_i l hl
      injection hx with hx;subst hx;rw [show p=_ from h];obtain ⟨q,h1,h2⟩:=hb t l hl;obtain ⟨c,h3,_⟩:=hS.box bR;refine ⟨.bw q off,?_,by simp only [qt,h2]⟩;simp only [Ar,h3,ae5,if_true,h1];rfl
    cases hx
  cases hx
 | .bw cs off,u,p,h,hx=>by
  obtain ⟨q,rfl,h⟩:=h;simp only [E9] at hx;split at hx
  · rename_i l hl
    injection hx with hx;subst hx;obtain ⟨q',h1,h2⟩:=sd hS hb h hl;exact ⟨.bw q' off,by simp only [Ar,h1];rfl,by simp only [qt,h2]⟩
  cases hx
 | .ef f a b,u,p,h,hx=>by
  obtain ⟨pa,pb,rfl,h1,h2⟩:=h;simp only [E9] at hx;split at hx
  · rename_i x y' h3 h4
    injection hx with hx;subst hx;obtain ⟨qa,h5,h6⟩:=sd hS hb h1 h3;obtain ⟨qb,h7,h8⟩:=sd hS hb h2 h4;exact ⟨.ef f qa qb,by simp only [Ar,h5,h7],by simp only [qt,h6,h8]⟩
  cases hx
 | .ga,_,_,_,hx| .undef,_,_,_,hx| .iB,_,_,_,hx| .pb _ _ _,_,_,_,hx| .mp _,_,_,_,hx=>by cases hx
theorem sd {bx:Nat->Option (List SV)} {P1:Nat->Option (List PV)} (hS:cd s ps) (hb: ∀t l,bx t=age l-> ∃q,P1 t=age q/\pq l=age q): ∀{v u:List SV} {p:List PV},RL s v p->qq s bx v=age u-> ∃q,As ps P1 p=age q/\pq u=age q
 | [],u,p,h,hx=>by injection hx with hx;subst hx;rw [show p=_ from h];exact ⟨_,rfl,rfl⟩
 |x::xs,u,p,h,hx=>by
  obtain ⟨q,qs,rfl,h1,h2⟩:=h.cons_inv;simp only [qq] at hx;split at hx
  · rename_i y' ys h3 h4
    injection hx with hx;subst hx;obtain ⟨a,h5,h6⟩:=af4 hS hb h1 h3;obtain ⟨as,h7,h8⟩:=sd hS hb h2 h4;exact ⟨a::as,by simp only [As,h5,h7],dS.2 ⟨a,as,rfl,h6,h8⟩⟩
  cases hx
end
theorem Ci (hS:cd s ps): ∀(n t:Nat) (l:List SV),jC s n t=age l-> ∃q,vw ps n t=age q/\pq l=age q
 |0,t,l,h=>by cases h
 |n+1,t,l,h=>by
  simp only [jC,bU] at h;split at h
  · rename_i cs bR
    obtain ⟨q,h1,h2⟩:=hS.box bR;obtain ⟨u,h3,h4⟩:=sd hS (Ci hS n) h2 h;exact ⟨u,by simp only [vw,h1,h3],h4⟩
  cases h
mutual
theorem P2 {bx P1:Nat->List Nat} (hb: ∀t,bx t=P1 t): ∀{v:SV} {p:PV},R s v p->v.sure=agV->Kh bx v=hG P1 p
 | .ga,_,_,h=>by cases h
 | .undef,p,h,_| .iB,p,h,_| .dw,p,h,_| .int _ _,p,h,_| .bool _,p,h,_| .str _,p,h,_| .sl _ _,p,h,_| .nil _ _,p,h,_=>by rw [show p=_ from h];rfl
 | .agg cs,p,h,hs=>by obtain ⟨q,rfl,h⟩:=h;exact yJ hb h hs
 | .cj cs,p,h,hs=>by obtain ⟨q,rfl,h⟩:=h;exact yJ hb h hs
 | .own t ex,p,h,_=>by obtain ⟨e,n,rfl,_⟩:=h;rfl
 | .pre t a b c,p,h,_=>by obtain ⟨e,rfl,_⟩:=h;rfl
 | .part t o a b c,p,h,_=>by obtain ⟨e,rfl,_⟩:=h;rfl
 | .pa t r i a o,p,h,_=>by obtain ⟨rfl,_⟩:=h;simp only [Kh,hG,hb]
 | .pb t i o,p,h,_=>by obtain ⟨e,rfl,_⟩:=h;simp only [Kh,hG,hb]
 | .bp t n o,p,h,_=>by rw [show p=_ from h];simp only [Kh,hG,hb]
 | .bw cs o,p,h,hs=>by obtain ⟨q,rfl,h⟩:=h;exact yJ hb h hs
 | .mp t,p,h,_=>by rw [show p=_ from h];rfl
 | .ef f a b,p,h,hs=>by obtain ⟨pa,pb,rfl,h1,h2⟩:=h;simp only [SV.sure,v6] at hs;simp only [Kh,hG,yJ hb h1 hs.1,yJ hb h2 hs.2]
theorem yJ {bx P1:Nat->List Nat} (hb: ∀t,bx t=P1 t): ∀{v:List SV} {p:List PV},RL s v p->kS v=agV->pQ bx v=dd P1 p
 | [],p,h,_=>by rw [show p=_ from h];rfl
 |x::xs,p,h,hs=>by obtain ⟨q,qs,rfl,h1,h2⟩:=h.cons_inv;simp only [kS,v6] at hs;simp only [pQ,dd,P2 hb h1 hs.1,yJ hb h2 hs.2]
end
end
end Go.Vm
/- The head of a loop: what the typed machine keeps there, the logical machine keeps there. -/
namespace Go.Vm
section
variable {s : List SB} {ps : bY}
mutual
theorem af5 {n:Nat} (hS:cd s ps) (hB: ∀t l,jC s n t=age l->vo s n t=cP ps n t): ∀{v u:SV} {p:PV},R s v p->E9 s (jC s n) v=age u->Kh (vo s n) v=hG (cP ps n) p
 | .int _ _,_,p,h,_| .bool _,_,p,h,_| .str _,_,p,h,_| .dw,_,p,h,_| .sl _ _,_,p,h,_| .nil _ _,_,p,h,_=>by rw [show p=_ from h];rfl
 | .agg cs,u,p,h,hx=>by
  obtain ⟨q,rfl,h⟩:=h;simp only [E9] at hx;split at hx
  · rename_i l hl;exact xX hS hB h hl
  cases hx
 | .cj cs,u,p,h,hx=>by
  obtain ⟨q,rfl,h⟩:=h;simp only [E9] at hx;split at hx
  · rename_i l hl;exact xX hS hB h hl
  cases hx
 | .own t ex,_,p,h,_=>by obtain ⟨e,n,rfl,_⟩:=h;rfl
 | .pre t a b c,_,p,h,_=>by obtain ⟨e,rfl,_⟩:=h;rfl
 | .part t o a b c,_,p,h,_=>by obtain ⟨e,rfl,_⟩:=h;rfl
 | .pa t r i a o,_,p,h,hx=>by
  obtain ⟨rfl,cL⟩:=h;simp only [E9,bU] at hx;split at hx
  · rename_i q l bR
    simp only [Kh,hG];cases n with
    |zero=>rfl
    |succ n=>simp only [vo,cP,bU,bR,hS.arr bR]
  cases hx
 | .bp t m o,u,p,h,hx=>by
  rw [show p=_ from h];simp only [E9,bU] at hx;split at hx
  · split at hx
    · rename_i l hl
      simp only [Kh,hG,hB t l hl]
    cases hx
  cases hx
 | .bw cs o,u,p,h,hx=>by
  obtain ⟨q,rfl,h⟩:=h;simp only [E9] at hx;split at hx
  · rename_i l hl;exact xX hS hB h hl
  cases hx
 | .ef f a b,u,p,h,hx=>by
  obtain ⟨pa,pb,rfl,h1,h2⟩:=h;simp only [E9] at hx;split at hx
  · rename_i x y h3 h4
    simp only [Kh,hG,xX hS hB h1 h3,xX hS hB h2 h4]
  cases hx
 | .ga,_,_,_,hx| .undef,_,_,_,hx| .iB,_,_,_,hx| .pb _ _ _,_,_,_,hx| .mp _,_,_,_,hx=>by cases hx
theorem xX {n:Nat} (hS:cd s ps) (hB: ∀t l,jC s n t=age l->vo s n t=cP ps n t): ∀{v u:List SV} {p:List PV},RL s v p->qq s (jC s n) v=age u->pQ (vo s n) v=dd (cP ps n) p
 | [],_,p,h,_=>by rw [show p=_ from h];rfl
 |x::xs,u,p,h,hx=>by
  obtain ⟨q,qs,rfl,h1,h2⟩:=h.cons_inv;simp only [qq] at hx;split at hx
  · rename_i a b h3 h4
    simp only [pQ,dd,af5 hS hB h1 h3,xX hS hB h2 h4]
  cases hx
end
theorem P3 {n:Nat} (hS:cd s ps) (hB: ∀t l,jC s n t=age l->vo s n t=cP ps n t): ∀{v:List SV} {p:List PV},RL s v p->Kg s (jC s n) v=agV->pQ (vo s n) v=dd (cP ps n) p
 | [],p,h,_=>by rw [show p=[] from h];rfl
 |x::xs,p,h,hx=>by
  obtain ⟨a,as,rfl,h1,h2⟩:=h.cons_inv;have other: ∀u,E9 s (jC s n) x=age u->Kg s (jC s n) xs=agV->pQ (vo s n) (x::xs)=dd (cP ps n) (a::as):=fun u h3 h4=>by simp only [pQ,dd,af5 hS hB h1 h3,P3 hS hB h2 h4]
  unfold Kg at hx;split at hx
  · rename_i t
    rw [show a= .mp t from h1];simp only [pQ,dd,Kh,hG,P3 hS hB h2 hx]
  split at hx
  · rename_i u h3
    exact other u h3 hx
  cases hx
theorem Ds (hS:cd s ps): ∀(n t:Nat) (l:List SV),jC s n t=age l->vo s n t=cP ps n t
 |0,t,l,h=>rfl
 |n+1,t,l,h=>by
  simp only [jC,bU] at h;split at h
  · rename_i cs bR
    obtain ⟨q,h1,h2⟩:=hS.box bR;simp only [vo,cP,bU,bR,h1];exact xX hS (Ds hS n) h2 h
  cases h
theorem Gv {b:SB} {q:iZ} (h:RB s b q) (hs:xd b=agV):C' b=pH q:=by
 cases b with
 |box cs=>obtain ⟨c,rfl,h⟩:=h;exact yJ (fun _=>rfl) h hs
 |arr r l=>rw [show q=_ from h];rfl
 |set l=>rw [show q=_ from h];rfl
 |bH p l=>rw [show q=_ from h];rfl
 |dead=>rw [show q=_ from h];rfl
theorem Dt (hS:cd s ps): ∀(n:Nat) (ts seen m:List Nat),AT s n ts seen=age m->reach ps n ts seen=age m
 |n,[],seen,m,h=>by cases n<;>(simp only [AT] at h;exact h)
 |0,_::_,_,_,h=>by cases h
 |n+1,t::ts,seen,m,h=>by
  simp only [AT,bU] at h;simp only [reach];cases hh:has seen t with
  |true=>rw [hh] at h;simp only [pi] at h;simp only [if_true];exact Dt hS n ts seen m h
  |false=>
   rw [hh] at h;simp only [pp] at h;simp only [UV,if_false];split at h
   · rename_i b bR
     obtain ⟨q,h1,h2⟩:=hS.at_ t b bR;cases hb:xd b with
     |false=>rw [hb] at h;cases h
     |true=>rw [hb] at h;simp only [pi] at h;rw [h1,Gv h2 hb] at*;exact Dt hS n _ _ m h
   cases h
theorem Du: ∀{t u:Nat} {m:List Nat},oG t m=age u->m[u]? =age t
 |t,u,[],h=>by cases h
 |t,u,x::m,h=>by
  simp only [oG] at h;cases hb:PP x t with
  |true=>rw [hb] at h;simp at h;subst h;simp [v4 hb]
  |false=>rw [hb] at h;simp only [UV,if_false,ae6] at h;obtain ⟨v,hv,rfl⟩:=h;simpa using Du hv
def Dv (m:List Nat) (s s':List SB):Prop:= ∀(t u:Nat) (b:SB),oG t m=age u->s[t]? =age b->match b with
 | .arr r l=>s'[u]? =age (.arr r l)
 | .dead=>s'[u]? =age .dead
 | .box _=> ∃cs,s'[u]? =age (.box cs)
 |_=>True
mutual
theorem P4 {m:List Nat} {s':List SB} (hr:Dv m s s'): ∀{v u:SV} {p:PV},R s v p->oO m v=age u-> ∃q,zg m p=age q/\R s' u q
 | .ga,_,_,_,hx=>by cases hx
 | .undef,u,p,h,hx| .iB,u,p,h,hx| .dw,u,p,h,hx| .int _ _,u,p,h,hx| .bool _,u,p,h,hx| .str _,u,p,h,hx| .sl _ _,u,p,h,hx| .nil _ _,u,p,h,hx=>by injection hx with hx;subst hx;rw [show p=_ from h];exact ⟨_,rfl,rfl⟩
 | .agg cs,u,p,h,hx=>by
  obtain ⟨q,rfl,h⟩:=h;simp only [oO] at hx;split at hx
  · rename_i l hl
    injection hx with hx;subst hx;obtain ⟨q',h1,h2⟩:=rq hr h hl;exact ⟨.agg q',by simp only [zg,h1];rfl,q',rfl,h2⟩
  cases hx
 | .cj cs,u,p,h,hx=>by
  obtain ⟨q,rfl,h⟩:=h;simp only [oO] at hx;split at hx
  · rename_i l hl
    injection hx with hx;subst hx;obtain ⟨q',h1,h2⟩:=rq hr h hl;exact ⟨.cj q',by simp only [zg,h1];rfl,q',rfl,h2⟩
  cases hx
 | .own t ex,u,p,h,hx=>by
  obtain ⟨e,n,rfl,cL⟩:=h;simp only [oO] at hx;split at hx
  · rename_i v hv
    injection hx with hx;subst hx;refine ⟨.own v e 0 n n ex,by simp only [zg,hv];rfl,e,n,rfl,?_⟩;rcases cL with ⟨r,l,h1,h2,h3⟩|h1
    · exact .inl ⟨r,l,hr t v _ hv h1,h2,h3⟩
    exact .inr (hr t v _ hv h1)
  cases hx
 | .pre t len cap ex,u,p,h,hx=>by
  obtain ⟨e,rfl,cL⟩:=h;simp only [oO] at hx;split at hx
  · rename_i v hv
    injection hx with hx;subst hx;refine ⟨.own v e 0 len cap ex,by simp only [zg,hv];rfl,e,rfl,?_⟩;rcases cL with ⟨r,l,h1,h2⟩|h1|⟨cs,h1,h2⟩
    · exact .inl ⟨r,l,hr t v _ hv h1,h2⟩
    · exact .inr (.inl (hr t v _ hv h1))
    obtain ⟨c2,h3⟩:=hr t v _ hv h1
    exact .inr (.inr ⟨c2,h3,h2⟩)
  cases hx
 | .part t off len cap ex,u,p,h,hx=>by
  obtain ⟨e,rfl,cL⟩:=h;simp only [oO] at hx;split at hx
  · rename_i v hv
    injection hx with hx;subst hx;refine ⟨.own v e off len cap ex,by simp only [zg,hv];rfl,e,rfl,?_⟩;rcases cL with ⟨r,l,h1,h2⟩|h1|⟨cs,h1,h2⟩
    · exact .inl ⟨r,l,hr t v _ hv h1,h2⟩
    · exact .inr (.inl (hr t v _ hv h1))
    obtain ⟨c2,h3⟩:=hr t v _ hv h1
    exact .inr (.inr ⟨c2,h3,h2⟩)
  cases hx
 | .pa t r i a off,u,p,h,hx=>by
  obtain ⟨rfl,cL⟩:=h;simp only [oO] at hx;split at hx
  · rename_i v hv
    injection hx with hx;subst hx;refine ⟨.ptr v (agd r) i.toNat off,by simp only [zg,hv];rfl,agd r,rfl,?_⟩;rcases cL with ⟨l,h1,h2⟩|h1
    · exact .inl ⟨r,l,hr t v _ hv h1,by rw [h2];rfl⟩
    exact .inr (hr t v _ hv h1)
  cases hx
 | .pb t i off,u,p,h,hx=>by
  obtain ⟨e,rfl,cL⟩:=h;simp only [oO] at hx;split at hx
  · rename_i v hv
    injection hx with hx;subst hx;refine ⟨.ptr v e i.toNat off,by simp only [zg,hv];rfl,e,rfl,?_⟩;rcases cL with ⟨r,l,h1,h2⟩|h1
    · exact .inl ⟨r,l,hr t v _ hv h1,h2⟩
    exact .inr (hr t v _ hv h1)
  cases hx
 | .bp t n off,u,p,h,hx=>by
  rw [show p=_ from h];simp only [oO] at hx;split at hx
  · rename_i v hv
    injection hx with hx;subst hx;exact ⟨.ptr v n 0 off,by simp only [zg,hv];rfl,rfl⟩
  cases hx
 | .bw cs off,u,p,h,hx=>by
  obtain ⟨q,rfl,h⟩:=h;simp only [oO] at hx;split at hx
  · rename_i l hl
    injection hx with hx;subst hx;obtain ⟨q',h1,h2⟩:=rq hr h hl;exact ⟨.bw q' off,by simp only [zg,h1];rfl,q',rfl,h2⟩
  cases hx
 | .mp t,u,p,h,hx=>by
  rw [show p=_ from h];simp only [oO] at hx;split at hx
  · rename_i v hv
    injection hx with hx;subst hx;exact ⟨.mp v,by simp only [zg,hv];rfl,rfl⟩
  cases hx
 | .ef f a b,u,p,h,hx=>by
  obtain ⟨pa,pb,rfl,h1,h2⟩:=h;simp only [oO] at hx;split at hx
  · rename_i x y h3 h4
    injection hx with hx;subst hx;obtain ⟨qa,h5,h6⟩:=rq hr h1 h3;obtain ⟨qb,h7,h8⟩:=rq hr h2 h4;exact ⟨.ef f qa qb,by simp only [zg,h5,h7],qa,qb,rfl,h6,h8⟩
  cases hx
theorem rq {m:List Nat} {s':List SB} (hr:Dv m s s'): ∀{v u:List SV} {p:List PV},RL s v p->ri m v=age u-> ∃q,xD m p=age q/\RL s' u q
 | [],u,p,h,hx=>by injection hx with hx;subst hx;rw [show p=_ from h];exact ⟨_,rfl,rfl⟩
 |x::xs,u,p,h,hx=>by
  obtain ⟨q,qs,rfl,h1,h2⟩:=h.cons_inv;simp only [ri] at hx;split at hx
  · rename_i a b h3 h4
    injection hx with hx;subst hx;obtain ⟨a',h5,h6⟩:=P4 hr h1 h3;obtain ⟨b',h7,h8⟩:=rq hr h2 h4;exact ⟨a'::b',by simp only [xD,h5,h7],RL.cons h6 h8⟩
  cases hx
end
theorem ZS {m:List Nat} {s':List SB} (hr:Dv m s s') {b c:SB} {q:iZ} (h:RB s b q) (hx:Kj m b=age c): ∃q',mi m q=age q'/\RB s' c q':=by
 cases b with
 |box cs=>
  obtain ⟨p,rfl,h⟩:=h;simp only [Kj] at hx;split at hx
  · rename_i l hl
    injection hx with hx;subst hx;obtain ⟨q',h1,h2⟩:=rq hr h hl;exact ⟨.box q',by simp only [mi,h1];rfl,q',rfl,h2⟩
  cases hx
 |arr r l=>injection hx with hx;subst hx;rw [show q=_ from h];exact ⟨_,rfl,rfl⟩
 |set l=>injection hx with hx;subst hx;rw [show q=_ from h];exact ⟨_,rfl,rfl⟩
 |bH p l=>injection hx with hx;subst hx;rw [show q=_ from h];exact ⟨_,rfl,rfl⟩
 |dead=>injection hx with hx;subst hx;rw [show q=_ from h];exact ⟨_,rfl,rfl⟩
theorem v8 {m:List Nat}: ∀{ts:List Nat} {s1:List SB},EK s m ts=age s1->agd s1=agd ts/\ ∀(j t:Nat),ts[j]? =age t-> ∃b c,s[t]? =age b/\Kj m b=age c/\s1[j]? =age c
 | [],s1,h=>by injection h with h;subst h;exact ⟨rfl,fun j t h=>by simp at h⟩
 |t::ts,s1,h=>by
  simp only [EK,bU] at h;split at h
  · rename_i b hb
    split at h
    · rename_i c r hc hr
      injection h with h;subst h;obtain ⟨h1,h2⟩:=v8 hr;refine ⟨by simp [h1],fun j u hj=>?_⟩;cases j with
      |zero=>simp at hj;subst hj;exact ⟨b,c,hb,hc,rfl⟩
      |succ j=>simpa using h2 j u (by simpa using hj)
    cases h
  cases h
theorem AY (hS:cd s ps) {m:List Nat} {s':List SB} (hr:Dv m s s'): ∀{ts:List Nat} {s1:List SB},EK s m ts=age s1-> ∃p1,vz ps m ts=age p1/\agd p1=agd s1/\ ∀(j:Nat) (b:SB),s1[j]? =age b-> ∃q,p1[j]? =age q/\RB s' b q
 | [],s1,h=>by injection h with h;subst h;exact ⟨[],rfl,rfl,fun j b h=>by simp at h⟩
 |t::ts,s1,h=>by
  simp only [EK,bU] at h;split at h
  · rename_i b hb
    split at h
    · rename_i c r hc ZT
      injection h with h;subst h;obtain ⟨q,h1,h2⟩:=hS.at_ t b hb;obtain ⟨q',h3,h4⟩:=ZS hr h2 hc;obtain ⟨p1,h5,h6,h7⟩:=AY hS hr ZT;refine ⟨q'::p1,by simp only [vz,h1,h3,h5],by simp [h6],fun j x hj=>?_⟩;cases j with
      |zero=>simp at hj;subst hj;exact ⟨q',rfl,h4⟩
      |succ j=>simpa using h7 j x (by simpa using hj)
    cases h
  cases h
theorem Dv.of {m:List Nat} {s1 l:List SB} (h:EK s m m=age s1):Dv m s (s1++l):=fun t u b hu hb=>by
 have hm:=Du hu;obtain ⟨h1,h2⟩:=v8 h;obtain ⟨b',c,h3,h4,h5⟩:=h2 u t hm;rw [hb] at h3;injection h3 with h3;subst h3;have dz:=(ww.1 h5).1;cases b with
 |arr r l'=>injection h4 with h4;subst h4;rw [AC dz];exact h5
 |dead=>injection h4 with h4;subst h4;rw [AC dz];exact h5
 |box cs=>
  simp only [Kj] at h4;split at h4
  · injection h4 with h4;subst h4;exact ⟨_,by rw [AC dz];exact h5⟩
  cases h4
 |_=>trivial
theorem s6: ∀(rk:List (Nat×List PT)) (n:Nat),(rowOf rk n).length=n
 | [],n=>by simp [rowOf]
 |(m,r)::q,n=>by
  simp only [rowOf];cases hc:(PP m n&&PP (agd r) n) with
  |true=>simp only [v6] at hc;exact v4 hc.2
  |false=>exact s6 q n
theorem AZ {rk:List (Nat×List PT)} {e:SE} {m:List Nat}: ∀{live:List (Nat×Option Nat)} {nx:Nat} {e1:SE} {s2:List SB},u5 rk e m nx live=age (e1,s2)-> ∀(j:Nat) (b:SB),s2[j]? =age b-> ∃r,b= .arr r []
 | [],nx,e1,s2,h,j,b,hj=>by simp only [u5,EQ,adM] at h;rw [<- h.2] at hj;simp at hj
 |(t,k)::live,nx,e1,s2,h,j,b,hj=>by
  simp only [u5] at h;split at h
  · split at h
    · rename_i p hp
      simp only [EQ,adM] at h;obtain ⟨rfl,rfl⟩:=h;cases j with
      |zero=>simp at hj;exact ⟨_,hj.symm⟩
      |succ j=>exact AZ (e1:=p.1) (s2:=p.2) hp j b (by simpa using hj)
    cases h
  split at h
  · rename_i v' p hv hp
    simp only [EQ,adM] at h;obtain ⟨rfl,rfl⟩:=h;exact AZ (e1:=p.1) (s2:=p.2) hp j b hj
  cases h
mutual
theorem A0 {m:List Nat}: ∀{v u:SV},oO m v=age u->u.sure=agV
 | .ga,_,h=>by cases h
 | .undef,u,h| .iB,u,h| .dw,u,h| .int _ _,u,h| .bool _,u,h| .str _,u,h| .sl _ _,u,h| .nil _ _,u,h=>by injection h with h;subst h;rfl
 | .agg cs,u,h=>by
  simp only [oO] at h;split at h
  · rename_i l hl;injection h with h;subst h;exact lB hl
  cases h
 | .cj cs,u,h=>by
  simp only [oO] at h;split at h
  · rename_i l hl;injection h with h;subst h;exact lB hl
  cases h
 | .bw cs _,u,h=>by
  simp only [oO] at h;split at h
  · rename_i l hl;injection h with h;subst h;exact lB hl
  cases h
 | .own _ _,u,h=>by simp only [oO] at h;split at h<;>first|(injection h with h;subst h;rfl)|cases h
 | .pre _ _ _ _,u,h=>by simp only [oO] at h;split at h<;>first|(injection h with h;subst h;rfl)|cases h
 | .part _ _ _ _ _,u,h=>by simp only [oO] at h;split at h<;>first|(injection h with h;subst h;rfl)|cases h
 | .pa _ _ _ _ _,u,h=>by simp only [oO] at h;split at h<;>first|(injection h with h;subst h;rfl)|cases h
 | .pb _ _ _,u,h=>by simp only [oO] at h;split at h<;>first|(injection h with h;subst h;rfl)|cases h
 | .bp _ _ _,u,h=>by simp only [oO] at h;split at h<;>first|(injection h with h;subst h;rfl)|cases h
 | .mp _,u,h=>by simp only [oO] at h;split at h<;>first|(injection h with h;subst h;rfl)|cases h
 | .ef f a b,u,h=>by
  simp only [oO] at h;split at h
  · rename_i x y h1 h2
    injection h with h;subst h;simp only [SV.sure,lB h1,lB h2,ae2]
  cases h
theorem lB {m:List Nat}: ∀{v u:List SV},ri m v=age u->kS u=agV
 | [],u,h=>by injection h with h;subst h;rfl
 |x::xs,u,h=>by
  simp only [ri] at h;split at h
  · rename_i a b h1 h2
    injection h with h;subst h;simp only [kS,A0 h1,lB h2,ae2]
  cases h
end
theorem SC {s:List SB} {v:SV} {p:PV} (h:R s v p): ∀k:Option Nat,v.sure=agV->R s (Gn k v) (ES k p)
 |none,_=>h
 |some _,hs=>by
  cases v with
  |own t ex=>obtain ⟨e,n,rfl,h⟩:=h;exact ⟨e,n,rfl,h⟩
  |pre t l c ex=>obtain ⟨e,rfl,h⟩:=h;exact ⟨e,rfl,h⟩
  |part t o l c ex=>obtain ⟨e,rfl,h⟩:=h;exact ⟨e,rfl,h⟩
  |ga=>cases hs
  |undef|iB|dw|int _ _|bool _|str _|bp _ _ _|mp _|sl _ _|nil _ _=>rw [show p=_ from h];rfl
  |agg _|cj _|bw _ _=>obtain ⟨q,rfl,h⟩:=h;exact ⟨q,rfl,h⟩
  |ef _ _ _=>obtain ⟨q,q2,rfl,h⟩:=h;exact ⟨q,q2,rfl,h⟩
  |pa _ _ _ _ _=>obtain ⟨rfl,h⟩:=h;exact ⟨rfl,h⟩
  |pb _ _ _=>obtain ⟨q,rfl,h⟩:=h;exact ⟨q,rfl,h⟩
theorem Kw {v:SV} (h:v.sure=agV) (k:Option Nat):(Gn k v).sure=agV:=by unfold Gn;split<;>first|rfl|exact h
theorem Gw {rk:List (Nat×List PT)} {e:SE} {pe:Env} (hE:dt s e pe) {m:List Nat} {s':List SB} (hr:Dv m s s'): ∀{live:List (Nat×Option Nat)} {nx:Nat} {e1:SE} {s2:List SB},u5 rk e m nx live=age (e1,s2)->(∀(j:Nat) (b:SB),s2[j]? =age b->s'[nx+j]? =age b)->
 ∃p1 q2,pI pe m nx live=age (p1,q2)/\dt s' e1 p1/\agd q2=agd s2/\ ∀(j:Nat) (b:SB),s2[j]? =age b-> ∃q,q2[j]? =age q/\RB s' b q
 | [],nx,e1,s2,h,_=>by simp only [u5,EQ,adM] at h;obtain ⟨rfl,rfl⟩:=h;exact ⟨[],[],rfl,rfl,rfl,fun j b h=>by simp at h⟩
 |(t,k)::live,nx,e1,s2,h,hs=>by
  have rX:=hE.lk t;simp only [u5] at h;split at h
  · rename_i kk esz en hv
    split at h
    · rename_i p hp
      simp only [EQ,adM] at h;obtain ⟨rfl,rfl⟩:=h;rw [hv] at rX;obtain ⟨p1,q2,h1,h2,h3,h4⟩:=Gw (live:=live) (nx:=nx+1) (e1:=p.1) (s2:=p.2) hE hr hp (fun j b hj=>by have:=hs (j+1) b (by simpa using hj);rw [show nx+1+j=nx+(j+1) by omega];exact this);refine ⟨(t,.own nx esz 0 0 0 ah0)::p1,.arr esz []::q2,?_,⟨_,_,rfl,⟨esz,0,rfl,.inl ⟨rowOf rk esz,[],by simpa using hs 0 _ rfl,(s6 rk esz).symm,rfl⟩⟩,h2⟩,by simp [h3],fun j b hj=>?_⟩
      · have ZU:lk t pe= .sl en agV []:=rX
        simp only [pI,ZU,h1];rfl
      cases j with
      |zero=>simp at hj;subst hj;exact ⟨_,rfl,by show _=_;rw [s6];rfl⟩
      |succ j=>simpa using h4 j b (by simpa using hj)
    cases h
  rename_i dZ
  split at h
  · rename_i v' p hv hp
    simp only [EQ,adM] at h;obtain ⟨rfl,rfl⟩:=h;obtain ⟨q',h5,h6⟩:=P4 hr rX hv;obtain ⟨p1,q2,h1,h2,h3,h4⟩:=Gw (live:=live) (e1:=p.1) (s2:=p.2) hE hr hp hs;refine ⟨(t,ES _ q')::p1,q2,?_,⟨_,_,rfl,SC h6 _ (A0 hv),h2⟩,h3,h4⟩;simp only [pI];split
    · rename_i esz x hx
      exfalso;rw [hx] at rX;generalize By t e=v0 at rX hv dZ;cases v0 with
      |ga=>cases hv
      |nil e' c=>have ZU:PV.sl x agV []= .sl e' c []:=rX;injection ZU with h1 h2;subst h2;exact dZ _ _ rfl rfl
      |undef|iB|dw|int _ _|bool _|str _|bp _ _ _|mp _=>cases (show PV.sl x agV []=_ from rX)
      |sl r l=>cases (show PV.sl x agV []=_ from rX)
      |agg _|cj _|bw _ _=>obtain ⟨q,hq,_⟩:=rX;cases hq
      |ef _ _ _=>obtain ⟨q,q2,hq,_⟩:=rX;cases hq
      |own _ _=>obtain ⟨q,q2,hq,_⟩:=rX;cases hq
      |pre _ _ _ _=>obtain ⟨q,hq,_⟩:=rX;cases hq
      |part _ _ _ _ _=>obtain ⟨q,hq,_⟩:=rX;cases hq
      |pa _ _ _ _ _=>obtain ⟨hq,_⟩:=rX;cases hq
      |pb _ _ _=>obtain ⟨q,hq,_⟩:=rX;cases hq
    simp only [h5,h1]
  cases h
def YR (s:List SB):Prop:= ∀(t:Nat) (cs:List SV),s[t]? =age (.box cs)->kS cs=agV
def Fg:SE->Prop
 | []=>True
 |(_,v)::r=>v.sure=agV/\Fg r
theorem Fg.lk: ∀{e:SE},Fg e-> ∀t,(By t e).sure=agV
 | [],_,t=>rfl
 |(u,v)::r,h,t=>by
  simp only [By];cases hb:PP u t with
  |true=>exact h.1
  |false=>exact Fg.lk h.2 t
theorem yK {rk:List (Nat×List PT)} {e:SE} {m:List Nat}: ∀{live:List (Nat×Option Nat)} {nx:Nat} {e1:SE} {s2:List SB},u5 rk e m nx live=age (e1,s2)->Fg e1
 | [],nx,e1,s2,h=>by simp only [u5,EQ,adM] at h;rw [<- h.1];trivial
 |(t,k)::live,nx,e1,s2,h=>by
  simp only [u5] at h;split at h
  · split at h
    · rename_i p hp
      simp only [EQ,adM] at h;obtain ⟨rfl,rfl⟩:=h;exact ⟨rfl,yK (e1:=p.1) (s2:=p.2) hp⟩
    cases h
  split at h
  · rename_i v' p hv hp
    simp only [EQ,adM] at h;obtain ⟨rfl,rfl⟩:=h;exact ⟨Kw (A0 hv) _,yK (e1:=p.1) (s2:=p.2) hp⟩
  cases h
theorem Fh: ∀{l:List SV},kS l=agV-> ∀{n:Nat} {v:SV},nth l n=age v->v.sure=agV
 | [],_,_,_,h=>by cases h
 |x::xs,hs,0,v,h=>by injection h with h;subst h;simp only [kS,v6] at hs;exact hs.1
 |x::xs,hs,n+1,v,h=>by simp only [kS,v6] at hs;exact Fh hs.2 (n:=n) h
theorem Fi: ∀{l:List SV},kS l=agV-> ∀(n:Nat) {v:SV},v.sure=agV->kS (l.set n v)=agV
 | [],_,n,v,_=>rfl
 |x::xs,hs,0,v,h=>by simp only [kS,v6] at hs;simp [kS,h,hs.2]
 |x::xs,hs,n+1,v,h=>by simp only [kS,v6] at hs;simp [kS,hs.1,Fi hs.2 n h]
theorem RL.set {s:List SB}: ∀{xs:List SV} {ps:List PV},RL s xs ps-> ∀(n:Nat) {v:SV} {p:PV},R s v p->RL s (xs.set n v) (ps.set n p)
 | [],ps,h,n,v,p,_=>by rw [show ps=[] from h];exact RL.nil
 |x::xs,ps,h,0,v,p,hv=>by obtain ⟨a,q,rfl,h1,h2⟩:=h.cons_inv;exact RL.cons hv h2
 |x::xs,ps,h,n+1,v,p,hv=>by obtain ⟨a,q,rfl,h1,h2⟩:=h.cons_inv;exact RL.cons h1 (RL.set h2 n hv)
structure SD (st:nu) (p:St):Prop where
 r:xg st p
 s:YR st.aD
 e:Fg st.env
theorem Kx {rk:List (Nat×List PT)} {st:nu} {p:St} (h:SD st p) (t c esz:Nat):SD (Da rk st t c esz) (pJ p t c esz):=by
 unfold Da pJ;rw [bU];cases bR:st.aD[t]? with
 |none=>
  have:p.aD[t]? =agn:=by rw [aey] at bR ⊢;rw [h.r.aD.len];exact bR
  rw [this];exact h
 |some b=>
  obtain ⟨q,h1,h2⟩:=h.r.aD.at_ t b bR;rw [h1];cases b with
  |arr r l=>rw [show q=_ from h2];exact h
  |set l=>rw [show q=_ from h2];exact h
  |bH p l=>rw [show q=_ from h2];exact h
  |dead=>rw [show q=_ from h2];exact h
  |box cs=>
   obtain ⟨pc,rfl,h3⟩:=h2;dsimp only;cases hc:nth cs c with
   |none=>
    have:pc[c]? =agn:=by rw [bU,aey] at hc;rw [aey,h3.ly];exact hc
    rw [this];exact h
   |some v=>
    obtain ⟨pv,h4,h5⟩:=h3.nth hc;rw [h4];have af6:=Fh (h.s t cs bR) hc;have p8:=h.s t cs bR;have other:(∀e,pv≠ .sl e agV [])->(∀e,v≠ .nil e agV)->SD (match age v with
     |some (.nil _ agV)=>{st with aD:=st.aD.set t (.box (cs.set c (.own (agd st.aD) ah0)))++[.arr (rowOf rk esz) []]}
     |_=>st) (match age pv with
     |some (.sl _ agV [])=>{p with aD:=p.aD.set t (.box (pc.set c (.own (agd p.aD) esz 0 0 0 ah0)))++[.arr esz []]}
     |_=>p):=by
     intro n1 n2;split
     · rename_i e he;injection he with he;exact absurd he (n2 e)
     split
     · rename_i e he;injection he with he;exact absurd he (n1 e)
     exact h
    cases v with
    |ga=>cases af6
    |nil e' cl=>
     have h5':pv= .sl e' cl []:=h5;subst h5';cases cl with
     |false=>exact other (fun e he=>by cases he) (fun e he=>by cases he)
     |true=>
      dsimp only;have dz:=(ww.1 bR).1;have qm:Fr [] st.aD (st.aD.set t (.box (cs.set c (.own (agd st.aD) ah0)))++[.arr (rowOf rk esz) []]):=fun u x hu=>by
       by_cases JH:t=u
       · subst JH;rw [bR] at hu;injection hu with hu;subst hu;exact .inl ⟨_,by rw [AC (by simpa using dz),M2];simp [dz];rfl⟩
       have Mb:=(ww.1 hu).1
       have:(st.aD.set t (.box (cs.set c (.own (agd st.aD) ah0)))++[.arr (rowOf rk esz) []])[u]? =age x:=by rw [AC (by simpa using Mb),M2];simp [JH,hu]
       cases x with
       |arr r l=>exact .inl ⟨l,this,rfl,fun _=>rfl⟩
       |dead=>exact this
       |box c2=>exact .inl ⟨c2,this⟩
       |_=>trivial
      have cy:(st.aD.set t (.box (cs.set c (.own (agd st.aD) ah0)))).length=(agd st.aD):=by simp
      have ajM:R (st.aD.set t (.box (cs.set c (.own (agd st.aD) ah0)))++[.arr (rowOf rk esz) []]) (.own (agd st.aD) ah0) (.own (agd p.aD) esz 0 0 0 ah0):=by refine ⟨esz,0,by rw [h.r.aD.len],.inl ⟨rowOf rk esz,[],?_,(s6 rk esz).symm,rfl⟩⟩;rw [Do (by simp)];simp
      refine ⟨⟨dt.ext qm h.r.env,⟨by simp [h.r.aD.len],fun u x hu=>?_⟩,h.r.fz,h.r.kn⟩,fun u x hu=>?_,h.e⟩
      · rcases aex u (agd st.aD) with Mb|Mb
        · rw [AC (by simpa using Mb),M2] at hu
          by_cases JH:t=u
          · subst JH
            simp [dz] at hu;subst hu;refine ⟨.box (pc.set c (.own (agd p.aD) esz 0 0 0 ah0)),?_,_,rfl,RL.set (RL.ext qm h3) c ajM⟩;rw [AC (by simp [h.r.aD.len,Mb]),M2];simp [h.r.aD.len,Mb]
          simp [JH] at hu
          obtain ⟨q,h6,h7⟩:=h.r.aD.at_ u x hu;refine ⟨q,?_,h7.ext qm⟩;rw [AC (by simp [h.r.aD.len,Mb]),M2];simp [JH,h6]
        rw [Do (by simpa using Mb)] at hu
        simp only [cy] at hu;have RW:u-(agd st.aD)=0:=by
         rcases afk (u-(agd st.aD)) with h|h
         · exact h
         rw [List.getElem?_eq_none (by simp;omega)] at hu;cases hu
        rw [RW] at hu;simp at hu;subst hu;refine ⟨.arr esz [],?_,by show _=_;rw [s6];rfl⟩;rw [Do (by simp [h.r.aD.len];omega)];simp [h.r.aD.len,RW]
      rcases aex u (agd st.aD) with Mb|Mb
      · rw [AC (by simpa using Mb),M2] at hu
        by_cases JH:t=u
        · subst JH
          simp [dz] at hu;subst hu;exact Fi p8 c rfl
        simp [JH] at hu;exact h.s u x hu
      rw [Do (by simpa using Mb)] at hu
      cases hj:u- (st.aD.set t (.box (cs.set c (.own (agd st.aD) ah0)))).length with
      |zero=>rw [hj] at hu;simp at hu
      |succ j=>rw [hj] at hu;simp at hu
    |undef|iB|dw|int _ _|bool _|str _|bp _ _ _|mp _=>exact other (fun e he=>by rw [show pv=_ from h5] at he;cases he) (fun e he=>by cases he)
    |sl r l=>exact other (fun e he=>by rw [show pv=_ from h5] at he;cases he) (fun e he=>by cases he)
    |agg _|cj _|bw _ _=>exact other (fun e he=>by obtain ⟨q,hq,_⟩:=h5;rw [hq] at he;cases he) (fun e he=>by cases he)
    |ef _ _ _=>exact other (fun e he=>by obtain ⟨q,q2,hq,_⟩:=h5;rw [hq] at he;cases he) (fun e he=>by cases he)
    |own _ _=>exact other (fun e he=>by obtain ⟨q,q2,hq,_⟩:=h5;rw [hq] at he;cases he) (fun e he=>by cases he)
    |pre _ _ _ _|part _ _ _ _ _|pb _ _ _=>exact other (fun e he=>by obtain ⟨q,hq,_⟩:=h5;rw [hq] at he;cases he) (fun e he=>by cases he)
    |pa _ _ _ _ _=>exact other (fun e he=>by obtain ⟨hq,_⟩:=h5;rw [hq] at he;cases he) (fun e he=>by cases he)
theorem Gx {p:St} {t c esz:Nat} (h: ∀cs,p.aD[t]?≠age (.box cs)):pJ p t c esz=p:=by
 unfold pJ;split
 · rename_i cs p8;exact absurd p8 (h cs)
 rfl
theorem P5 {st:nu} {p:St} (h:SD st p) {v:SV} {q:PV} (hv:R st.aD v q) (hs:v≠ .ga):(∃t,Py v=age t/\Cu q=age t)\/(Py v=agn/\ ∀t,Cu q=age t-> ∀cs,p.aD[t]?≠age (.box cs)):=by
 cases v with
 |ga=>exact absurd rfl hs
 |bp u m off=>
  have hq:q= .ptr u m 0 off:=hv;subst hq;cases off with
  |zero=>exact .inl ⟨u,rfl,rfl⟩
  |succ off=>exact .inr ⟨rfl,fun t ht=>by cases ht⟩
 |pb u i off=>
  obtain ⟨e',hq,cL⟩:=hv;subst hq;refine .inr ⟨rfl,fun t ht cs p8=>?_⟩;have:t=u:=by
   unfold Cu at ht;split at ht
   · rename_i heq;injection heq with e1;injection ht with ht;rw [<- ht,e1]
   cases ht
  subst this;rcases cL with ⟨r,l,h1,_⟩|h1
  · rw [h.r.aD.arr h1] at p8;cases p8
  obtain ⟨q,h2,h3⟩:=h.r.aD.at_ t _ h1
  rw [p8] at h2;injection h2 with h2;subst h2;cases (show iZ.box cs= .dead from h3)
 |pa u r i a off=>
  obtain ⟨hq,cL⟩:=hv;subst hq;refine .inr ⟨rfl,fun t ht cs p8=>?_⟩;have:t=u:=by
   unfold Cu at ht;split at ht
   · rename_i heq;injection heq with e1;injection ht with ht;rw [<- ht,e1]
   cases ht
  subst this;rcases cL with ⟨l,h1,_⟩|h1
  · rw [h.r.aD.arr h1] at p8;cases p8
  obtain ⟨q,h2,h3⟩:=h.r.aD.at_ t _ h1
  rw [p8] at h2;injection h2 with h2;subst h2;cases (show iZ.box cs= .dead from h3)
 |undef|iB|dw|int _ _|bool _|str _|mp _|sl _ _|nil _ _=>exact .inr ⟨rfl,fun t ht=>by rw [show q=_ from hv] at ht;cases ht⟩
 |agg _|cj _|bw _ _=>exact .inr ⟨rfl,fun t ht=>by obtain ⟨_,rfl,_⟩:=hv;cases ht⟩
 |ef _ _ _=>exact .inr ⟨rfl,fun t ht=>by obtain ⟨_,_,rfl,_⟩:=hv;cases ht⟩
 |own _ _=>exact .inr ⟨rfl,fun t ht=>by obtain ⟨_,_,rfl,_⟩:=hv;cases ht⟩
 |pre _ _ _ _|part _ _ _ _ _=>exact .inr ⟨rfl,fun t ht=>by obtain ⟨_,rfl,_⟩:=hv;cases ht⟩
theorem ZV {st:nu} {p:St} (h:SD st p) {v:SV} {q:PV} (hv:R st.aD v q) (hs:v.sure=agV):(∃t,Se v=age t/\Hh q=age t)\/(Se v=agn/\ ∀t,Hh q=age t-> ∀cs,p.aD[t]?≠age (.box cs)):=by
 have hj:v≠ .ga:=fun e=>by subst e;cases hs
 by_cases hc: ∃f a b,v= .ef f a b
 · obtain ⟨f,a,b,rfl⟩:=hc
   obtain ⟨pa,pb,rfl,h1,h2⟩:=hv;cases b with
   |nil=>have:pb=[]:=h2;subst this;exact .inr ⟨rfl,fun t ht=>by cases ht⟩
   |cons y ys=>obtain ⟨z,zs,rfl,g1,g2⟩:=h2;exact P5 h g1 (fun e=>by subst e;simp [SV.sure,kS] at hs)
 have e1:Se v=Py v:=by
  cases v with
  |ef f a b=>exact absurd ⟨f,a,b,rfl⟩ hc
  |_=>rfl
 have e2:Hh q=Cu q:=by
  cases q with
  |ef f a b=>
   exfalso;cases v with
   |ga=>exact hj rfl
   |ef f a b=>exact hc ⟨f,a,b,rfl⟩
   |bp _ _ _|undef|iB|dw|int _ _|bool _|str _|mp _|sl _ _|nil _ _=>cases (show PV.ef f a b=_ from hv)
   |agg _|cj _|bw _ _|pre _ _ _ _|part _ _ _ _ _|pb _ _ _=>obtain ⟨_,hq,_⟩:=hv;cases hq
   |own _ _=>obtain ⟨_,_,hq,_⟩:=hv;cases hq
   |pa _ _ _ _ _=>obtain ⟨hq,_⟩:=hv;cases hq
  |_=>rfl
 rw [e1,e2];exact P5 h hv hj
theorem lO {rk:List (Nat×List PT)}: ∀(live:List (Nat×Option Nat)) {st:nu} {p:St},SD st p->SD (kE rk live st) (jy live p)
 | [],st,p,h=>h
 |(t,k)::live,st,p,h=>by
  cases k with
  |none=>simp only [kE,jy];exact lO live h
  |some n=>
   simp only [kE,jy];cases hn:NE 1000 n with
   |false=>simp only [pp,UV,if_false];exact lO live h
   |true=>
    simp only [pi,if_true];have rX:=h.r.env.lk t;have hsu:=h.e.lk t;rcases ZV h rX hsu with ⟨u,e1,e2⟩|⟨e1,e2⟩
    · rw [e1,e2]
      exact lO live (Kx h u _ _)
    rw [e1]
    cases hb:Hh (lk t p.env) with
    |none=>exact lO live h
    |some u=>show SD (kE rk live st) (jy live (pJ p u (n / 1000-1) (n%1000)));rw [Gx (e2 u hb)];exact lO live h
theorem Ih {e:SE} {pe:Env} (hE:dt s e pe): ∀{live:List (Nat×Option Nat)},zG e live=agV->Db e live=live.flatMap fun p=>hG qO (lk p.1 pe)
 | [],_=>rfl
 |(t,k)::live,h=>by simp only [zG,v6] at h;simp only [Db,afA,Ih hE h.2];rw [P2 (fun _=>rfl) (hE.lk t) h.1]
theorem P6: ∀{s':List SB} {s:List SB} {ps:bY} (n:Nat),(agd ps=agd s/\ ∀(t:Nat) (b:SB),s[t]? =age b-> ∃q,ps[t]? =age q/\RB s' b q)->Dc s n=agV->Kk s n=(ps.take n).flatMap pH
 |s',[],ps,n,h,_=>by have:ps=[]:=aeC.1 (by simpa using h.1);subst this;cases n<;>simp [Kk]
 |s',b::s,ps,0,h,_=>by simp [Kk]
 |s',b::s,ps,n+1,h,hk=>by
  cases ps with
  |nil=>have:=h.1;simp at this
  |cons q ps=>simp only [Dc,v6] at hk;obtain ⟨q',h1,h2⟩:=h.2 0 b rfl;simp at h1;subst h1;simp only [Kk,afa,afA,Gv h2 hk.1];rw [P6 (s':=s') (ps:=ps) n ⟨by simpa using h.1,fun t x hx=>by simpa using h.2 (t+1) x (by simpa using hx)⟩ hk.2]
theorem Mc {s:List SB} {v:SV} {p:PV} (h:R s v p):R s (E' s v) p:=by
 unfold E';split
 · rename_i t ex
   rw [bU];split
   · rename_i r l bR
     obtain ⟨e,n,rfl,cL⟩:=h;obtain ⟨rfl,rfl⟩:=cL.inv bR;exact ⟨agd r,rfl,.inl ⟨r,l,bR,rfl⟩⟩
   exact h
 exact h
theorem Md {s:List SB} (c:Nat): ∀{e:SE} {p:Env},dt s e p->dt s (L2 s c e) p
 | [],_,h=>h
 |(t,v)::r,_,h=>by
  obtain ⟨q,qs,rfl,h1,h2⟩:=h;simp only [L2];cases hb:PP t c with
  |true=>exact ⟨q,qs,rfl,Mc h1,h2⟩
  |false=>exact ⟨q,qs,rfl,h1,Md c h2⟩
theorem A1: ∀(live:List (Nat×Option Nat)) {st:nu} {p:St},xg st p->xg (zF live st) p
 | [],st,p,h=>h
 |(t,k)::r,st,p,h=>by
  simp only [zF];cases hn:NE 1000000 t with
  |true=>exact A1 r ⟨Md _ h.env,h.aD,h.fz,h.kn⟩
  |false=>exact A1 r h
theorem Ii {rk:List (Nat×List PT)} {live:List (Nat×Option Nat)} {st mn:nu} {p:St} (h:xg st p) (hn:Dd rk live st=age mn): ∃p1,Cv live p=age p1/\xg mn p1:=by
 unfold Dd at hn;cases hc:(zG st.env live&&Dc st.aD st.kn) with
 |false=>rw [hc] at hn;cases hn
 |true=>
  rw [hc] at hn;simp only [pi] at hn;simp only [v6] at hc;split at hn
  · cases hn
  rename_i m hm
  split at hn
  · rename_i s1 e1 s2 h1 h2
    injection hn with hn;subst hn;have ht:Kk st.aD st.kn++Db st.env live=(p.aD.take p.kn).flatMap pH++live.flatMap fun q=>hG qO (lk q.1 p.env):=by rw [Ih h.env hc.1,P6 (s':=st.aD) st.kn ⟨h.aD.len,h.aD.at_⟩ hc.2,h.kn]
    rw [ht] at hm;have AM:=Dt h.aD _ _ _ _ hm;have hr:Dv m st.aD (s1++s2):=Dv.of h1;obtain ⟨p1,a1,a2,a3⟩:=AY h.aD hr h1;have cy:(agd s1)=(agd m):=(v8 h1).1;obtain ⟨pe1,q2,b1,b2,b3,b4⟩:=Gw h.env hr h2 (fun j b hj=>by rw [<- cy,Do (by omega)];simpa using hj);have oK:cd (s1++s2) (p1++q2):=⟨by simp [a2,b3],fun t b ht=>by
     rcases aex t (agd s1) with hl|hl
     · rw [AC hl] at ht
       obtain ⟨q,c1,c2⟩:=a3 t b ht;exact ⟨q,by rw [AC (by omega)];exact c1,c2⟩
     rw [Do hl] at ht
     obtain ⟨q,c1,c2⟩:=b4 _ b ht;exact ⟨q,by rw [Do (by omega),a2];exact c1,c2⟩⟩
    have hs:YR (s1++s2):=fun t cs ht=>by
     rcases aex t (agd s1) with hl|hl
     · rw [AC hl] at ht
       obtain ⟨b,c,d1,d2,d3⟩:=(v8 h1).2 t (m[t]'(by omega)) (If (by omega));rw [ht] at d3;injection d3 with d3;subst d3;cases b with
       |box x=>
        simp only [Kj] at d2;split at d2
        · rename_i l kV;injection d2 with d2;injection d2 with d2;subst d2;exact lB kV
        cases d2
       |arr _ _=>injection d2 with d2;cases d2
       |set _=>injection d2 with d2;cases d2
       |bH _ _=>injection d2 with d2;cases d2
       |dead=>injection d2 with d2;cases d2
     rw [Do hl] at ht
     obtain ⟨r,ZT⟩:=AZ h2 _ _ ht;cases ZT
    have hR:SD {env:=e1,aD:=s1++s2,fz:=vA st.fz 0 m,kn:=st.kn} {env:=pe1,aD:=p1++q2,fz:=vA p.fz 0 m,kn:=p.kn}:=
     ⟨⟨b2,oK,by rw [h.fz],h.kn⟩,hs,yK h2⟩
    refine ⟨_,?_,A1 live (lO live hR).r⟩;unfold Cv;rw [h.kn] at AM;rw [h.kn];rw [AM];dsimp only;rw [a1,b1]
  cases hn
theorem Me {rk:List (Nat×List PT)} {live:List (Nat×Option Nat)} {st mn:nu} {p:St} (h:xg st p) (hn:De rk live st=age mn): ∃p1,norm live p=age p1/\xg mn p1:=by
 unfold De at hn;cases h1:Dd rk live st with
 |none=>rw [h1] at hn;cases hn
 |some s=>
  rw [h1] at hn;dsimp only at hn;obtain ⟨p1,h2,h3⟩:=Ii h h1;unfold norm;rw [h2];dsimp only;cases ha:(live.any fun p=>p.2.isSome) with
  |true=>rw [ha] at hn;simp only [pi] at hn;rw [rc rfl];exact Ii h3 hn
  |false=>rw [ha] at hn;injection hn with hn;subst hn;exact ⟨p1,by rw [ut (by simp)],h3⟩
mutual
theorem Cj: ∀{a b:SV} (q:List vt),u6 a b=agV->qS a (AU b++q)=(b,q)
 | .undef,.undef,q,_=>rfl
 | .iB,.iB,q,_=>rfl
 | .dw,.dw,q,_=>rfl
 | .int k _,.int l n,q,h=>by rw [ei.1 h];rfl
 | .bool _,.bool _,q,_=>rfl
 | .agg a,.agg b,q,h=>by simp only [qS,AU,mE q h]
 | .cj a,.cj b,q,h=>by simp only [qS,AU,mE q h]
 | .sl r _,.sl r' l,q,h=>rfl
 | .nil e c,.nil f d,q,h=>by simp only [u6,v6,beq_iff_eq] at h;rw [v4 h.1,h.2];rfl
 | .own t x,.own u y,q,h=>by simp only [u6,v6,beq_iff_eq] at h;rw [v4 h.1,h.2];rfl
 | .pre t _ _ x,.pre u _ _ y,q,h=>by simp only [u6,v6,beq_iff_eq] at h;rw [v4 h.1,h.2];rfl
 | .part t _ _ _ x,.part u _ _ _ y,q,h=>by simp only [u6,v6,beq_iff_eq] at h;rw [v4 h.1,h.2];rfl
 | .pb t _ o,.pb u _ p,q,h=>by simp only [u6,v6] at h;rw [v4 h.1,v4 h.2];rfl
 | .bp t n o,.bp u m p,q,h=>by simp only [u6,v6] at h;rw [v4 h.1.1,v4 h.1.2,v4 h.2];rfl
 | .bw a o,.bw b p,q,h=>by simp only [u6,v6] at h;simp only [qS,AU,mE q h.1,v4 h.2]
 | .ef f a b,.ef g c d,q,h=>by simp only [u6,v6] at h;simp only [qS,AU,adV,mE _ h.1.2,mE q h.2,v4 h.1.1]
 | .mp t,.mp u,q,h=>by rw [v4 h];rfl
 | .ga,.ga,q,_=>rfl
theorem mE: ∀{a b:List SV} (q:List vt),vY a b=agV->pS a (AV b++q)=(b,q)
 | [],[],q,_=>rfl
 |x::xs,y::ys,q,h=>by simp only [vY,v6] at h;simp only [pS,AV,adV,Cj _ h.1,mE q h.2]
 | [],_::_,_,h=>by cases h
 |_::_,[],_,h=>by cases h
end
theorem P7: ∀{a b:SB} (q:List vt),YL a b=agV->Kl a (Pz b++q)=(b,q)
 | .arr r _,.arr r' l,q,h=>rfl
 | .box a,.box b,q,h=>by simp only [Kl,Pz,mE q h]
 | .set _,.set _,q,_=>rfl
 | .bH p _,.bH p' l,q,h=>by obtain rfl:p=p':=PT.LW h;rfl
 | .dead,.dead,q,_=>rfl
 | .arr _ _,.box _,_,h| .arr _ _,.set _,_,h| .arr _ _,.dead,_,h| .box _,.arr _ _,_,h| .box _,.set _,_,h| .box _,.dead,_,h| .set _,.arr _ _,_,h| .set _,.box _,_,h| .set _,.dead,_,h| .dead,.arr _ _,_,h| .dead,.box _,_,h| .dead,.set _,_,h
 | .bH _ _,.arr _ _,_,h| .bH _ _,.box _,_,h| .bH _ _,.set _,_,h| .bH _ _,.dead,_,h| .arr _ _,.bH _ _,_,h| .box _,.bH _ _,_,h| .set _,.bH _ _,_,h| .dead,.bH _ _,_,h=>by cases h
theorem zS: ∀{a b:List SB} (q:List vt),Df a b=agV->yC a (Gp b++q)=(b,q)
 | [],[],q,_=>rfl
 |x::xs,y::ys,q,h=>by simp only [Df,v6] at h;simp only [yC,Gp,adV,P7 _ h.1,zS q h.2]
 | [],_::_,_,h=>by cases h
 |_::_,[],_,h=>by cases h
theorem Ij: ∀{a b:SE} (q:List vt),L3 a b=agV->H5 a (NB b++q)=(b,q)
 | [],[],q,_=>rfl
 |(t,x)::xs,(u,y)::ys,q,h=>by simp only [L3,v6] at h;simp only [H5,NB,adV,Cj _ h.1.2,Ij q h.2,v4 h.1.1]
 | [],_::_,_,h=>by cases h
 |_::_,[],_,h=>by cases h
theorem Ik: ∀{a b:List Nat},L4 a b=agV->a=b
 | [],[],_=>rfl
 |x::xs,y::ys,h=>by simp only [L4,v6] at h;rw [v4 h.1,Ik h.2]
 | [],_::_,h=>by cases h
 |_::_,[],h=>by cases h
theorem Fj {a b:nu} (h:yB a b=agV):sY a (mD b)=b:=by obtain ⟨e1,s1,z1,k1⟩:=a;obtain ⟨e2,s2,z2,k2⟩:=b;simp only [yB,v6] at h;obtain ⟨⟨⟨h1,h2⟩,h3⟩,h4⟩:=h;have hs:=zS [] h2;rw [adZ] at hs;simp only [sY,mD,Ij _ h1,hs,Ik h3,v4 h4]
theorem AK.YS: ∀{a:AK} {x:vt} {y:a.T},a.of x=age y->a.at y=x
 | .i,.i _,y,h=>by injection h with h;subst h;rfl
 | .b,.b _,y,h=>by injection h with h;subst h;rfl
 | .n,.n _,y,h=>by injection h with h;subst h;rfl
 | .l r,.l q x,y,h=>by obtain ⟨rfl,rfl⟩:=ny h;rfl
 | .s,.s _,y,h=>by injection h with h;subst h;rfl
 | .i,.b _,_,h| .i,.n _,_,h| .i,.l _ _,_,h| .i,.s _,_,h| .b,.i _,_,h| .b,.n _,_,h| .b,.l _ _,_,h| .b,.s _,_,h| .n,.i _,_,h| .n,.b _,_,h| .n,.l _ _,_,h| .n,.s _,_,h
 | .l _,.i _,_,h| .l _,.b _,_,h| .l _,.n _,_,h| .l _,.s _,_,h| .s,.i _,_,h| .s,.b _,_,h| .s,.n _,_,h| .s,.l _ _,_,h=>by cases h
theorem nB: ∀{ks:List AK} {l:List vt} {y:gd ks},j8 ks l=age y->jR ks y=l
 | [],[],y,_=>rfl
 | [a],[x],y,h=>by have:=AK.YS (a:=a) h;simp only [jR,this]
 |a::q::r,x::xs,y,h=>by
  simp only [j8] at h;split at h
  · rename_i u v h1 h2
    injection h with h;subst h;simp only [jR,AK.YS h1,nB h2]
  cases h
 | [],_::_,_,h=>by cases h
 | [_],[],_,h=>by cases h
 | [_],_::_::_,_,h=>by cases h
 |_::_::_,[],_,h=>by cases h
end
end Go.Vm
/- What is known of functions, and what a call of one comes to. -/
namespace Go.Vm
mutual
def Dw:Nat->PV->Option (PV×bY)
 |_,.int k n=>age (.int k n,[])
 |_,.bool b=>age (.bool b,[])
 |nx,.agg cs=>match Dx nx cs with|some r=>age (.agg r.1,r.2)|none=>agn
 |nx,.cj cs=>match Dx nx cs with|some r=>age (.cj r.1,r.2)|none=>agn
 |nx,.sl e ah0 rows=>age (.own nx e 0 (agd rows) (agd rows) ah0,[.arr e rows])
 |_,_=>agn
def Dx:Nat->List PV->Option (List PV×bY)
 |_,[]=>age ([],[])
 |nx,x::xs=>match Dw nx x with
  |some a=>match Dx (nx+agd a.2) xs with
   |some b=>age (a.1::b.1,a.2++b.2)
   |none=>agn
  |none=>agn
end
def ud (s:List SB) (n:Nat) (l:List SB):Prop:= ∀(j:Nat) (b:SB),l[j]? =age b->s[n+j]? =age b
theorem ud.left {s:List SB} {n:Nat} {l m:List SB} (h:ud s n (l++m)):ud s n l:=fun j b hj=>h j b (by rw [AC (ww.1 hj).1];exact hj)
theorem ud.right {s:List SB} {n:Nat} {l m:List SB} (h:ud s n (l++m)):ud s (n+agd l) m:=fun j b hj=>by
 have:=h (agd l+j) b (by rw [Do (by omega)];simpa using hj)
 rwa [Nat.add_assoc]
def Ky (s:List SB) (l:List SB) (q:bY):Prop:=agd q=agd l/\ ∀(j:Nat) (b:SB),l[j]? =age b-> ∃x,q[j]? =age x/\RB s b x
theorem Ky.append {s l m:List SB} {q r:bY} (h:Ky s l q) (k:Ky s m r):Ky s (l++m) (q++r):=by
 refine ⟨by simp [h.1,k.1],fun j b hj=>?_⟩;rcases aex j (agd l) with hl|hl
 · rw [AC hl] at hj
   obtain ⟨x,h1,h2⟩:=h.2 j b hj;exact ⟨x,by rw [AC (by rw [h.1];exact hl)];exact h1,h2⟩
 rw [Do hl] at hj
 obtain ⟨x,h1,h2⟩:=k.2 _ b hj;exact ⟨x,by rw [Do (by rw [h.1];exact hl),h.1];exact h1,h2⟩
theorem Ky.nil {s:List SB}:Ky s [] []:=⟨rfl,fun j b h=>by simp at h⟩
theorem Ky.one {s:List SB} {b:SB} {x:iZ} (h:RB s b x):Ky s [b] [x]:=⟨rfl,fun j c hc=>by
 cases j with
 |zero=>simp at hc;subst hc;exact ⟨x,rfl,h⟩
 |succ j=>simp at hc⟩
mutual
theorem Mf: ∀{v:SV} {nx:Nat} {p0 p:PV} {q:bY},qt v=age p0->Dw nx p0=age (p,q)-> ∀{s:List SB},ud s nx (vX nx v).2->R s (vX nx v).1 p/\Ky s (vX nx v).2 q
 | .int k n,nx,p0,p,q,h0,h,s,_=>by injection h0 with h0;subst h0;injection h with h;injection h with h1 h2;subst h1 h2;exact ⟨rfl,Ky.nil⟩
 | .bool b,nx,p0,p,q,h0,h,s,_=>by injection h0 with h0;subst h0;injection h with h;injection h with h1 h2;subst h1 h2;exact ⟨rfl,Ky.nil⟩
 | .agg cs,nx,p0,p,q,h0,h,s,hb=>by
  simp only [qt] at h0;split at h0
  · rename_i l hl
    injection h0 with h0;subst h0;simp only [Dw] at h;split at h
    · rename_i r hr
      injection h with h;injection h with h1 h2;subst h1 h2;obtain ⟨h3,h4⟩:=Dy (p:=r.1) (q:=r.2) hl hr hb;exact ⟨⟨r.1,rfl,h3⟩,h4⟩
    cases h
  cases h0
 | .cj cs,nx,p0,p,q,h0,h,s,hb=>by
  simp only [qt] at h0;split at h0
  · rename_i l hl
    injection h0 with h0;subst h0;simp only [Dw] at h;split at h
    · rename_i r hr
      injection h with h;injection h with h1 h2;subst h1 h2;obtain ⟨h3,h4⟩:=Dy (p:=r.1) (q:=r.2) hl hr hb;exact ⟨⟨r.1,rfl,h3⟩,h4⟩
    cases h
  cases h0
 | .sl r l,nx,p0,p,q,h0,h,s,hb=>by injection h0 with h0;subst h0;injection h with h;injection h with h1 h2;subst h1 h2;refine ⟨⟨agd r,agd l,by simp,.inl ⟨r,l,hb 0 _ rfl,rfl,rfl⟩⟩,Ky.one rfl⟩
 | .nil e c,nx,p0,p,q,h0,h,s,hb=>by
  injection h0 with h0;subst h0;cases c with
  |true=>simp [Dw] at h
  |false=>injection h with h;injection h with h1 h2;subst h1 h2;exact ⟨⟨e,0,rfl,.inl ⟨_,[],hb 0 _ rfl,by simp,rfl⟩⟩,Ky.one (by show _=_;simp)⟩
 | .str _,nx,p0,p,q,h0,h,s,_=>by injection h0 with h0;subst h0;cases h
 | .dw,nx,p0,p,q,h0,h,s,_=>by injection h0 with h0;subst h0;cases h
 | .bw cs o,nx,p0,p,q,h0,h,s,_=>by
  simp only [qt] at h0;split at h0
  · injection h0 with h0;subst h0;cases h
  cases h0
 | .ef f a b,nx,p0,p,q,h0,h,s,_=>by
  simp only [qt] at h0;split at h0
  · injection h0 with h0;subst h0;cases h
  cases h0
 | .ga,_,_,_,_,h0,_,_,_| .undef,_,_,_,_,h0,_,_,_| .iB,_,_,_,_,h0,_,_,_| .own _ _,_,_,_,_,h0,_,_,_| .pre _ _ _ _,_,_,_,_,h0,_,_,_| .part _ _ _ _ _,_,_,_,_,h0,_,_,_
 | .pa _ _ _ _ _,_,_,_,_,h0,_,_,_| .pb _ _ _,_,_,_,_,h0,_,_,_| .bp _ _ _,_,_,_,_,h0,_,_,_| .mp _,_,_,_,_,h0,_,_,_=>by cases h0
theorem Dy: ∀{v:List SV} {nx:Nat} {p0 p:List PV} {q:bY},pq v=age p0->Dx nx p0=age (p,q)-> ∀{s:List SB},ud s nx (rZ nx v).2->RL s (rZ nx v).1 p/\Ky s (rZ nx v).2 q
 | [],nx,p0,p,q,h0,h,s,_=>by injection h0 with h0;subst h0;injection h with h;injection h with h1 h2;subst h1 h2;exact ⟨rfl,Ky.nil⟩
 |x::xs,nx,p0,p,q,h0,h,s,hb=>by
  obtain ⟨a,as,rfl,h1,h2⟩:=dS.1 h0;simp only [Dx] at h;split at h
  · rename_i ra hra
    split at h
    · rename_i rb hrb
      injection h with h;injection h with e1 e2;subst e1 e2;simp only [rZ] at hb ⊢;obtain ⟨k1,k2⟩:=Mf (p:=ra.1) (q:=ra.2) h1 hra hb.left;rw [k2.1] at hrb;obtain ⟨k3,k4⟩:=Dy (p:=rb.1) (q:=rb.2) h2 hrb hb.right;exact ⟨RL.cons k1 k3,k2.append k4⟩
    cases h
  cases h
end
mutual
theorem P8 {s:List SB} {ps:bY} {z:List Nat} (hS:cd s ps): ∀{v v':SV} {p:PV} {seen seen':List Nat} (nx:Nat),R s v p->NA s z seen v=age (v',seen')-> ∃p0 p' q,qt v'=age p0/\Dw nx p0=age (p',q)/\xK ps z nx seen p=age (p',q,seen')
 | .int k n,v',p,seen,seen',nx,h,hx=>by injection hx with hx;injection hx with h1 h2;subst h1 h2;rw [show p=_ from h];exact ⟨_,_,_,rfl,rfl,rfl⟩
 | .bool k,v',p,seen,seen',nx,h,hx=>by injection hx with hx;injection hx with h1 h2;subst h1 h2;rw [show p=_ from h];exact ⟨_,_,_,rfl,rfl,rfl⟩
 | .agg cs,v',p,seen,seen',nx,h,hx=>by
  obtain ⟨q,rfl,h⟩:=h;simp only [NA] at hx;split at hx
  · rename_i r hr
    injection hx with hx;injection hx with h1 h2;subst h1 h2;obtain ⟨p0,p',q',h3,h4,h5⟩:=Gy hS (v':=r.1) (seen':=r.2) nx h hr;exact ⟨.agg p0,.agg p',q',by simp only [qt,h3],by simp only [Dw,h4],by simp only [xK,h5];rfl⟩
  cases hx
 | .cj cs,v',p,seen,seen',nx,h,hx=>by
  obtain ⟨q,rfl,h⟩:=h;simp only [NA] at hx;split at hx
  · rename_i r hr
    injection hx with hx;injection hx with h1 h2;subst h1 h2;obtain ⟨p0,p',q',h3,h4,h5⟩:=Gy hS (v':=r.1) (seen':=r.2) nx h hr;exact ⟨.cj p0,.cj p',q',by simp only [qt,h3],by simp only [Dw,h4],by simp only [xK,h5];rfl⟩
  cases hx
 | .nil e c,v',p,seen,seen',nx,h,hx=>by
  cases c with
  |false=>cases hx
  |true=>injection hx with hx;injection hx with h1 h2;subst h1 h2;rw [show p=_ from h];exact ⟨_,_,_,rfl,rfl,rfl⟩
 | .own t ex,v',p,seen,seen',nx,h,hx=>by
  obtain ⟨e,n,rfl,cL⟩:=h;simp only [NA,bU] at hx;split at hx
  · rename_i r l bR
    obtain ⟨rfl,rfl⟩:=cL.inv bR;cases hc:(has seen t||has z t) with
    |true=>rw [hc] at hx;cases hx
    |false=>rw [hc] at hx;injection hx with hx;injection hx with h1 h2;subst h1 h2;refine ⟨_,_,_,rfl,rfl,?_⟩;simp only [xK,hS.arr bR,hc];simp
  cases hx
 | .ga,_,_,_,_,_,_,hx| .undef,_,_,_,_,_,_,hx| .iB,_,_,_,_,_,_,hx| .dw,_,_,_,_,_,_,hx| .str _,_,_,_,_,_,_,hx| .sl _ _,_,_,_,_,_,_,hx| .pre _ _ _ _,_,_,_,_,_,_,hx| .part _ _ _ _ _,_,_,_,_,_,_,hx
 | .pa _ _ _ _ _,_,_,_,_,_,_,hx| .pb _ _ _,_,_,_,_,_,_,hx| .bp _ _ _,_,_,_,_,_,_,hx| .bw _ _,_,_,_,_,_,_,hx| .ef _ _ _,_,_,_,_,_,_,hx| .mp _,_,_,_,_,_,_,hx=>by cases hx
theorem Gy {s:List SB} {ps:bY} {z:List Nat} (hS:cd s ps): ∀{v v':List SV} {p:List PV} {seen seen':List Nat} (nx:Nat),RL s v p->H4 s z seen v=age (v',seen')-> ∃p0 p' q,pq v'=age p0/\Dx nx p0=age (p',q)/\FV ps z nx seen p=age (p',q,seen')
 | [],v',p,seen,seen',nx,h,hx=>by injection hx with hx;injection hx with h1 h2;subst h1 h2;rw [show p=_ from h];exact ⟨_,_,_,rfl,rfl,rfl⟩
 |x::xs,v',p,seen,seen',nx,h,hx=>by
  obtain ⟨a,as,rfl,h1,h2⟩:=h.cons_inv;simp only [H4] at hx;split at hx
  · rename_i r hr
    split at hx
    · rename_i r2 O'
      injection hx with hx;injection hx with e1 e2;subst e1 e2;obtain ⟨p0,p',q,k1,k2,k3⟩:=P8 hS (v':=r.1) (seen':=r.2) nx h1 hr;obtain ⟨p02,p'2,q2,k4,k5,k6⟩:=Gy hS (v':=r2.1) (seen':=r2.2) (nx+agd q) h2 O';exact ⟨p0::p02,p'::p'2,q++q2,dS.2 ⟨_,_,rfl,k1,k4⟩,by simp only [Dx,k2,k5],by simp only [FV,k3,k6]⟩
    cases hx
  cases hx
end
mutual
theorem Il {s:List SB}: ∀{v:SV} {p:PV},R s v p->yA v=agV->p.jx=agV
 | .int _ _,p,h,_| .bool _,p,h,_| .str _,p,h,_=>by rw [show p=_ from h];rfl
 | .agg cs,p,h,hn=>by obtain ⟨q,rfl,h⟩:=h;exact A2 h hn
 | .cj cs,p,h,hn=>by obtain ⟨q,rfl,h⟩:=h;exact A2 h hn
 | .ga,_,_,h| .undef,_,_,h| .iB,_,_,h| .dw,_,_,h| .sl _ _,_,_,h| .nil _ _,_,_,h| .own _ _,_,_,h| .pre _ _ _ _,_,_,h| .part _ _ _ _ _,_,_,h| .pa _ _ _ _ _,_,_,h| .pb _ _ _,_,_,h| .bp _ _ _,_,_,h| .bw _ _,_,_,h| .ef _ _ _,_,_,h| .mp _,_,_,h=>by cases h
theorem A2 {s:List SB}: ∀{v:List SV} {p:List PV},RL s v p->pR v=agV->tC p=agV
 | [],p,h,_=>by rw [show p=_ from h];rfl
 |x::xs,p,h,hn=>by obtain ⟨a,as,rfl,h1,h2⟩:=h.cons_inv;simp only [pR,v6] at hn;simp only [tC,Il h1 hn.1,A2 h2 hn.2,ae2]
end
mutual
theorem Fk {s:List SB} {u:SV}: ∀{v:SV} {p:PV},R s v p->yA v=ah0->Px s v=age u->p.jx=ah0
 | .int _ _,p,h,hn,_| .bool _,p,h,hn,_| .str _,p,h,hn,_=>by cases hn
 | .agg cs,p,h,hn,hi=>by
  obtain ⟨q,rfl,h⟩:=h;simp only [Px] at hi;split at hi
  · rename_i l hl;exact yL h hn hl
  cases hi
 | .cj cs,p,h,hn,hi=>by
  obtain ⟨q,rfl,h⟩:=h;simp only [Px] at hi;split at hi
  · rename_i l hl;exact yL h hn hl
  cases hi
 | .sl _ _,p,h,_,_=>by rw [show p=_ from h];rfl
 | .nil _ _,p,h,_,_=>by rw [show p=_ from h];rfl
 | .own _ _,p,h,_,_=>by obtain ⟨e,n,rfl,_⟩:=h;rfl
 | .pre _ _ _ _,p,h,_,_=>by obtain ⟨e,rfl,_⟩:=h;rfl
 | .part _ _ _ _ _,p,h,_,_=>by obtain ⟨e,rfl,_⟩:=h;rfl
 | .ga,_,_,_,h| .undef,_,_,_,h| .iB,_,_,_,h| .dw,_,_,_,h| .pa _ _ _ _ _,_,_,_,h| .pb _ _ _,_,_,_,h| .bp _ _ _,_,_,_,h| .bw _ _,_,_,_,h| .ef _ _ _,_,_,_,h| .mp _,_,_,_,h=>by cases h
theorem yL {s:List SB}: ∀{v u:List SV} {p:List PV},RL s v p->pR v=ah0->Ki s v=age u->tC p=ah0
 | [],u,p,h,hn,_=>by cases hn
 |x::xs,u,p,h,hn,hi=>by
  obtain ⟨a,as,rfl,h1,h2⟩:=h.cons_inv;simp only [Ki] at hi;split at hi
  · rename_i y ys h3 h4
    simp only [pR] at hn;simp only [tC];cases hx:yA x with
    |false=>rw [Fk h1 hx h3];rfl
    |true=>rw [hx] at hn;rw [yL h2 (by simpa using hn) h4];simp
  cases hi
end
mutual
theorem YT {s:List SB} {ps:bY} (hS:cd s ps): ∀{v u:SV} {p:PV},R s v p->Px s v=age u-> ∃q,wT ps p=age q/\qt u=age q
 | .int k n,u,p,h,hx=>by injection hx with hx;subst hx;rw [show p=_ from h];exact ⟨_,rfl,rfl⟩
 | .bool b,u,p,h,hx=>by injection hx with hx;subst hx;rw [show p=_ from h];exact ⟨_,rfl,rfl⟩
 | .str x,u,p,h,hx=>by injection hx with hx;subst hx;rw [show p=_ from h];exact ⟨_,rfl,rfl⟩
 | .agg cs,u,p,h,hx=>by
  obtain ⟨q,rfl,h⟩:=h;simp only [Px] at hx;split at hx
  · rename_i l hl
    injection hx with hx;subst hx;obtain ⟨q',h1,h2⟩:=Kz hS h hl;exact ⟨.agg q',by simp only [wT,h1];rfl,by simp only [qt,h2]⟩
  cases hx
 | .cj cs,u,p,h,hx=>by
  obtain ⟨q,rfl,h⟩:=h;simp only [Px] at hx;split at hx
  · rename_i l hl
    injection hx with hx;subst hx;obtain ⟨q',h1,h2⟩:=Kz hS h hl;exact ⟨.cj q',by simp only [wT,h1];rfl,by simp only [qt,h2]⟩
  cases hx
 | .sl r l,u,p,h,hx=>by injection hx with hx;subst hx;rw [show p=_ from h];exact ⟨_,rfl,rfl⟩
 | .nil e c,u,p,h,hx=>by injection hx with hx;subst hx;rw [show p=_ from h];exact ⟨_,rfl,rfl⟩
 | .own t ex,u,p,h,hx=>by
  simp only [Px,bU] at hx;split at hx
  · rename_i r l bR
    injection hx with hx;subst hx;obtain ⟨e,n,rfl,cL⟩:=h;obtain ⟨rfl,rfl⟩:=cL.inv bR;refine ⟨.sl (agd r) ah0 (l.map (RT.pv r)),?_,rfl⟩;simp only [wT,hS.arr bR,aeq];rw [aeo (by simp)]
  cases hx
 | .pre t len cap ex,u,p,h,hx=>by
  simp only [Px,bU] at hx;split at hx
  · rename_i r l bR
    injection hx with hx;subst hx;obtain ⟨e,rfl,cL⟩:=h;have:=cL.inv bR;subst this;refine ⟨.sl (agd r) ah0 ((l.take len).map (RT.pv r)),?_,rfl⟩;simp only [wT,hS.arr bR,aeq,aen]
  cases hx
 | .part t off len cap ex,u,p,h,hx=>by
  simp only [Px,bU] at hx;split at hx
  · rename_i r l bR
    injection hx with hx;subst hx;obtain ⟨e,rfl,cL⟩:=h;have:=cL.inv bR;subst this;refine ⟨.sl (agd r) ah0 (((l.drop off).take len).map (RT.pv r)),?_,rfl⟩;simp only [wT,hS.arr bR,aen,aez]
  cases hx
 | .ga,_,_,_,hx| .undef,_,_,_,hx| .iB,_,_,_,hx| .dw,_,_,_,hx| .pa _ _ _ _ _,_,_,_,hx| .pb _ _ _,_,_,_,hx| .bp _ _ _,_,_,_,hx| .bw _ _,_,_,_,hx| .ef _ _ _,_,_,_,hx| .mp _,_,_,_,hx=>by cases hx
theorem Kz {s:List SB} {ps:bY} (hS:cd s ps): ∀{v u:List SV} {p:List PV},RL s v p->Ki s v=age u-> ∃q,FU ps p=age q/\pq u=age q
 | [],u,p,h,hx=>by injection hx with hx;subst hx;rw [show p=_ from h];exact ⟨_,rfl,rfl⟩
 |x::xs,u,p,h,hx=>by
  obtain ⟨a,as,rfl,h1,h2⟩:=h.cons_inv;simp only [Ki] at hx;split at hx
  · rename_i y ys h3 h4
    injection hx with hx;subst hx;obtain ⟨q,h5,h6⟩:=YT hS h1 h3;obtain ⟨qs,h7,h8⟩:=Kz hS h2 h4;exact ⟨q::qs,by simp only [FU,h5,h7],dS.2 ⟨_,_,rfl,h6,h8⟩⟩
  cases hx
end
mutual
theorem P9 {s:List SB}: ∀{v:SV} {p:PV},qt v=age p->R s v p
 | .int _ _,p,h| .bool _,p,h| .str _,p,h| .dw,p,h| .sl _ _,p,h| .nil _ _,p,h=>by injection h with h;exact h.symm
 | .agg cs,p,h=>by
  simp only [qt] at h;split at h
  · rename_i l hl;injection h with h;exact ⟨l,h.symm,Dz hl⟩
  cases h
 | .cj cs,p,h=>by
  simp only [qt] at h;split at h
  · rename_i l hl;injection h with h;exact ⟨l,h.symm,Dz hl⟩
  cases h
 | .bw cs o,p,h=>by
  simp only [qt] at h;split at h
  · rename_i l hl;injection h with h;exact ⟨l,h.symm,Dz hl⟩
  cases h
 | .ef f a b,p,h=>by
  simp only [qt] at h;split at h
  · rename_i x y h1 h2;injection h with h;exact ⟨x,y,h.symm,Dz h1,Dz h2⟩
  cases h
 | .ga,_,h| .undef,_,h| .iB,_,h| .own _ _,_,h| .pre _ _ _ _,_,h| .part _ _ _ _ _,_,h| .pa _ _ _ _ _,_,h| .pb _ _ _,_,h| .bp _ _ _,_,h| .mp _,_,h=>by cases h
theorem Dz {s:List SB}: ∀{v:List SV} {p:List PV},pq v=age p->RL s v p
 | [],p,h=>by injection h with h;exact h.symm
 |x::xs,p,h=>by obtain ⟨a,as,rfl,h1,h2⟩:=dS.1 h;exact RL.cons (P9 h1) (Dz h2)
end
def YU (kd:Kd) (n:Nat) (tk:List Nat) (v:SV) (r:mh):Prop:=
 match kd with
 | .pure=> ∃p,qt v=age p/\r={v:=p,rd:=tk}
 | .vp=> ∃p,qt v=age p/\r={v:=p,rd:=tk,fr:=tk}
 | .own=> ∃p0 p q,qt v=age p0/\Dw n p0=age (p,q)/\r={v:=p,news:=q,rd:=tk}
def eg (F : kW) (f : FuncId) (c : sZ) : Prop :=
  ∀ (a : c.α) (b : c.β) (as args : List PV) (aD : bY) (fz : List Nat), c.fn a = age b -> pq (c.args.enc a) = age args -> As aD (vw aD deep) as = age args ->
    ∃ n r, cW F (run F n) c.ow f as aD fz = age r /\ YU c.kd (agd aD) (dd (cP aD deep) as) (c.res.enc b) r
def eO.va (c:eO) (a:gd c.ka):List SV:=(pS c.ta (jR c.ka a)).1
def eO.sa (c:eO) (a:gd c.ka):List SB:=(yC c.tb (pS c.ta (jR c.ka a)).2).1
def eO.vb (c:eO) (b:gd c.ko):SV:=(qS c.tv (jR c.ko b)).1
def eO.sb (c:eO) (b:gd c.ko):List SB:=(yC c.to (qS c.tv (jR c.ko b)).2).1
def P':SB->SB->Prop
 | .arr r l,.arr q m=>r=q/\agd m=agd l
 | .box _,.box _=>True
 | .set _,.set _=>True
 | .bH _ _,.bH _ _=>True
 | .dead,.dead=>True
 |_,_=>False
def s7 (F : kW) (f : FuncId) (c : eO) : Prop :=
  ∀ (a : gd c.ka) (b : gd c.ko) (pa : List PV) (ps : bY), c.fn a = age b -> RL (c.sa a) (c.va a) pa -> cd (c.sa a) ps ->
    ∃ n v s, run F n (.func f pa ps []) = age (.func v s []) /\ gu (c.sa a).length v s = agV /\ R (c.sb b) (c.vb b) v /\ cd (c.sb b) (s.take (c.sa a).length) /\ (c.sb b).length = (c.sa a).length /\
      ∀ (t : Nat) (x y : SB), (c.sa a)[t]? = age x -> (c.sb b)[t]? = age y -> P' x y
def yM (F:kW):List (Nat×sZ)->Prop
 | []=>True
 |(f,c)::r=>eg F f c/\yM F r
def Fl (F:kW):List (Nat×eO)->Prop
 | []=>True
 |(f,c)::r=>s7 F f c/\Fl F r
def zT (F:kW):List (Nat×Cd)->Prop
 | []=>True
 |(f,x)::r=>F f=age x.ent/\zT F r
structure mF (F:kW) (cx:Ctx):Prop where
 YM: ∀f c,c∈cx.YM f->eg F f c
 fpc: ∀f c,c∈cx.fpc f->s7 F f c
 code: ∀f x,cx.code f=age x->F f=age x.ent
theorem yM.mem {F:kW}: ∀{l:List (Nat×sZ)},yM F l-> ∀f c,c∈H9 l f->eg F f c
 | [],_,f,c,h=>by cases h
 |(g,d)::r,hl,f,c,h=>by
  simp only [H9] at h;cases hb:PP g f with
  |true=>
   rw [hb] at h;have:=v4 hb;subst this;simp only [pi] at h;rcases h with _|⟨_,h⟩
   · exact hl.1
   exact yM.mem hl.2 _ c h
  |false=>rw [hb] at h;exact yM.mem hl.2 f c h
theorem Fl.mem {F:kW}: ∀{l:List (Nat×eO)},Fl F l-> ∀f c,c∈Ia l f->s7 F f c
 | [],_,f,c,h=>by cases h
 |(g,d)::r,hl,f,c,h=>by
  simp only [Ia] at h;cases hb:PP g f with
  |true=>
   rw [hb] at h;have:=v4 hb;subst this;simp only [pi] at h;rcases h with _|⟨_,h⟩
   · exact hl.1
   exact Fl.mem hl.2 _ c h
  |false=>rw [hb] at h;exact Fl.mem hl.2 f c h
theorem zT.mem {F:kW}: ∀{l:List (Nat×Cd)},zT F l-> ∀f x,Gs l f=age x->F f=age x.ent
 | [],_,f,c,h=>by cases h
 |(g,d)::r,hl,f,c,h=>by
  simp only [Gs] at h;cases hb:PP g f with
  |true=>rw [hb] at h;have:=v4 hb;subst this;injection h with h;subst h;exact hl.1
  |false=>rw [hb] at h;exact zT.mem hl.2 f c h
theorem mF.make {F:kW} {lp:Option Nat} {c:List (Nat×sZ)} {p:List (Nat×eO)} {x:List (Nat×Cd)} {rk:List (Nat×List PT)} (h1:yM F c) (h2:Fl F p) (h3:zT F x):mF F (qT lp c p x rk):=
 ⟨h1.mem,h2.mem,h3.mem⟩
section
variable {F : kW} {R' ρ : Type} {w : R' -> ρ} {y : ρ} {s : List SB} {ps : bY} {z : List Nat}
theorem v9 {f:FuncId} {m:Bool} {tk:List Nat} {vs:List SV} {k:XRS->fG R'} (hS:cd s ps) {as args:List PV} (hx:As ps (vw ps deep) as=age args) (hv:pq vs=age args) (AG:tk=dd (cP ps deep) as):
 ∀{l:List sZ},(∀c∈l,eg F f c)->Km f m s tk vs k l ρ w=age y-> ∃sr pr,(∃n,cW F (run F n) m f as ps z=age pr)/\Good s ps sr pr/\k (.loc sr) ρ w=age y
 | [],_,h=>by cases h
 |c::l,hl,h=>by
  simp only [Km] at h;cases hd:c.args.dec vs with
  |none=>rw [hd] at h;exact v9 hS hx hv AG (fun c hc=>hl c (aeG _ hc)) h
  |some a=>
   rw [hd] at h;cases Zs:(m==c.ow) with
   |false=>rw [Zs] at h;exact v9 hS hx hv AG (fun c hc=>hl c (aeG _ hc)) h
   |true=>
   rw [Zs] at h;obtain ⟨b,hb,h2⟩:=cp h;have hm:m=c.ow:=by simpa using Zs
   subst hm;have ajN:=c.args.law hd hv;obtain ⟨n,r,hr,zB⟩:=hl c (aeA ..) a b as args ps z hb ajN hx;cases hkd:c.kd with
   |pure=>rw [hkd] at h2 zB;obtain ⟨p,h3,rfl⟩:=zB;exact ⟨_,_,⟨n,hr⟩,by rw [<- AG];exact Good.val hS (P9 h3),h2⟩
   |vp=>rw [hkd] at h2 zB;obtain ⟨p,h3,rfl⟩:=zB;exact ⟨_,_,⟨n,hr⟩,by rw [<- AG];exact Good.val hS (P9 h3),h2⟩
   |own=>
    rw [hkd] at h2 zB;obtain ⟨p0,p,q,h3,h4,rfl⟩:=zB;rw [hS.len] at h4;have hbh:ud (s++(vX (agd s) (c.res.enc b)).2) (agd s) (vX (agd s) (c.res.enc b)).2:=fun j x hj=>by rw [Do (by omega)];simpa using hj
    obtain ⟨k1,k2⟩:=Mf h3 h4 hbh;exact ⟨_,_,⟨n,hr⟩,by rw [<- AG];exact Good.news hS k2.1 k2.2 k1,h2⟩
end
end Go.Vm
/- A call of a function that works on the blocks that are lent to it. -/
namespace Go.Vm
def py {α:Type}:List (Nat×α)->List α->List α
 | [],s=>s
 |(t,b)::r,s=>py r (s.set t b)
theorem ug: ∀(l:List (Nat×SB)) (s:List SB),px l s=py l s
 | [],s=>rfl
 |(t,b)::r,s=>by simp only [px,py,zL,ug r]
theorem BF: ∀(l:List (Nat×iZ)) (s:bY),fw l s=py l s
 | [],s=>rfl
 |(t,b)::r,s=>by simp only [fw,py,BF r]
theorem yN {α:Type}: ∀(l:List (Nat×α)) (s:List α),(py l s).length=agd s
 | [],s=>rfl
 |(t,b)::r,s=>by simp [py,yN r]
theorem uh {α:Type}: ∀(l:List (Nat×α)) (s:List α) (t:Nat),t∉l.map (·.1)->(py l s)[t]? =s[t]?
 | [],s,t,_=>rfl
 |(u,b)::r,s,t,h=>by simp only [ae1,List.mem_cons,not_or] at h;simp only [py];rw [uh r _ t h.2,M2];simp [Ne.symm h.1]
theorem A3 {α:Type}: ∀(l:List (Nat×α)) (s:List α) (j t:Nat) (b:α),(l.map (·.1)).Nodup->l[j]? =age (t,b)->t<agd s->(py l s)[t]? =age b
 | [],s,j,t,b,_,h,_=>by simp at h
 |(u,c)::r,s,0,t,b,hn,h,ht=>by simp at h;obtain ⟨rfl,rfl⟩:=h;simp only [ae1,aeV] at hn;simp only [py];rw [uh r _ u hn.1,M2];simp [ht]
 |(u,c)::r,s,j+1,t,b,hn,h,ht=>by simp only [ae1,aeV] at hn;simp only [py];exact A3 r _ j t b hn.2 (by simpa using h) (by simpa using ht)
theorem zU: ∀(l:List (Nat×SB)),vZ l=l.map (·.1)
 | []=>rfl
 |(t,b)::r=>by simp [vZ,zU r]
theorem Fm (g:Nat->Nat): ∀(tk:List Nat) (s:List SB),agd s=agd tk->(xV g tk s).map (·.1)=tk/\ ∀(j t:Nat) (b:SB),tk[j]? =age t->s[j]? =age b->(xV g tk s)[j]? =age (t,PF g b)
 | [],s,h=>⟨by simp [xV],fun j t b hj=>by simp at hj⟩
 |t::tk,[],h=>by simp at h
 |t::tk,b::s,h=>by
  obtain ⟨h1,h2⟩:=Fm g tk s (by simpa using h);refine ⟨by simp [xV,h1],fun j u c hj hc=>?_⟩;cases j with
  |zero=>simp at hj hc;subst hj hc;rfl
  |succ j=>simp only [xV,aer];exact h2 j u c (by simpa using hj) (by simpa using hc)
theorem DA (g:Nat->Nat): ∀(tk:List Nat) (s:bY),agd tk<=agd s->(nk g tk s).map (·.1)=tk/\ ∀(j t:Nat) (b:iZ),tk[j]? =age t->s[j]? =age b->(nk g tk s)[j]? =age (t,xL g b)
 | [],s,h=>⟨by simp [nk],fun j t b hj=>by simp at hj⟩
 |t::tk,[],h=>by simp at h
 |t::tk,b::s,h=>by
  obtain ⟨h1,h2⟩:=DA g tk s (by simpa using h);refine ⟨by simp [nk,h1],fun j u c hj hc=>?_⟩;cases j with
  |zero=>simp at hj hc;subst hj hc;rfl
  |succ j=>simp only [nk,aer];exact h2 j u c (by simpa using hj) (by simpa using hc)
theorem Fo: ∀{l:List (Nat×iZ)},(l.map (·.1)).Nodup->tF l=agV
 | [],_=>rfl
 |p::r,h=>by
  simp only [ae1,aeV] at h;simp only [tF,v6,aep,adR];refine ⟨fun q hq=>?_,Fo h.2⟩;cases hb:PP q.1 p.1 with
  |false=>rfl
  |true=>exact absurd (afC.2 ⟨q,hq,v4 hb⟩) h.1
theorem Gz: ∀(s:List SB),Ao [] s=s
 | []=>rfl
 |b::r=>by simp only [Ao,Gz r];cases b<;>simp [Sh,rj]
theorem Io (s:List SB) (r:fk):r.lN s=Ao (vZ r.wr) (px r.wr s)++r.news:=by
 unfold fk.lN;split
 · rename_i h;rw [h];simp only [vZ,px,Gz,kU]
 simp only [kU]
def ZW (g:Nat->Nat) (s s2:List SB):Prop:= ∀(u:Nat) (x:SB),s[u]? =age x->match x with
 | .arr r l=>s2[g u]? =age (.arr r l)
 | .dead=>s2[g u]? =age .dead
 | .box _=> ∃cs,s2[g u]? =age (.box cs)
 |_=>True
mutual
theorem Mg {g:Nat->Nat} {s s2:List SB} (hb:ZW g s s2): ∀{v:SV} {p:PV},R s v p->R s2 (H6 g v) (Au g p)
 | .ga,_,_=>trivial
 | .undef,p,h| .iB,p,h| .dw,p,h| .int _ _,p,h| .bool _,p,h| .str _,p,h| .sl _ _,p,h| .nil _ _,p,h| .bp _ _ _,p,h| .mp _,p,h=>by rw [show p=_ from h];rfl
 | .agg cs,p,h=>by obtain ⟨q,rfl,h⟩:=h;exact ⟨_,rfl,ui hb h⟩
 | .cj cs,p,h=>by obtain ⟨q,rfl,h⟩:=h;exact ⟨_,rfl,ui hb h⟩
 | .bw cs o,p,h=>by obtain ⟨q,rfl,h⟩:=h;exact ⟨_,rfl,ui hb h⟩
 | .ef f a b,p,h=>by obtain ⟨pa,pb,rfl,h1,h2⟩:=h;exact ⟨_,_,rfl,ui hb h1,ui hb h2⟩
 | .own t ex,p,h=>by
  obtain ⟨e,n,rfl,cL⟩:=h;refine ⟨e,n,rfl,?_⟩;rcases cL with ⟨r,l,h1,h2,h3⟩|h1
  · exact .inl ⟨r,l,hb t _ h1,h2,h3⟩
  exact .inr (hb t _ h1)
 | .pre t a b c,p,h=>by
  obtain ⟨e,rfl,cL⟩:=h;refine ⟨e,rfl,?_⟩;rcases cL with ⟨r,l,h1,h2⟩|h1|⟨cs,h1,h2⟩
  · exact .inl ⟨r,l,hb t _ h1,h2⟩
  · exact .inr (.inl (hb t _ h1))
  obtain ⟨c2,h3⟩:=hb t _ h1
  exact .inr (.inr ⟨c2,h3,h2⟩)
 | .part t o a b c,p,h=>by
  obtain ⟨e,rfl,cL⟩:=h;refine ⟨e,rfl,?_⟩;rcases cL with ⟨r,l,h1,h2⟩|h1|⟨cs,h1,h2⟩
  · exact .inl ⟨r,l,hb t _ h1,h2⟩
  · exact .inr (.inl (hb t _ h1))
  obtain ⟨c2,h3⟩:=hb t _ h1
  exact .inr (.inr ⟨c2,h3,h2⟩)
 | .pa t r i a o,p,h=>by
  obtain ⟨rfl,cL⟩:=h;refine ⟨_,rfl,?_⟩;rcases cL with ⟨l,h1,h2⟩|h1
  · exact .inl ⟨r,l,hb t _ h1,by rw [h2];rfl⟩
  exact .inr (hb t _ h1)
 | .pb t i o,p,h=>by
  obtain ⟨e,rfl,cL⟩:=h;refine ⟨e,rfl,?_⟩;rcases cL with ⟨r,l,h1,h2⟩|h1
  · exact .inl ⟨r,l,hb t _ h1,h2⟩
  exact .inr (hb t _ h1)
theorem ui {g:Nat->Nat} {s s2:List SB} (hb:ZW g s s2): ∀{v:List SV} {p:List PV},RL s v p->RL s2 (BB g v) (uT g p)
 | [],p,h=>by rw [show p=_ from h];rfl
 |x::xs,p,h=>by obtain ⟨a,as,rfl,h1,h2⟩:=h.cons_inv;exact RL.cons (Mg hb h1) (ui hb h2)
end
theorem DB: ∀{a b:bY},(∀(t:Nat) (x:iZ),a[t]? =age x-> ∃y,b[t]? =age y/\x.bC=y.bC)->tD a b=agV
 | [],b,_=>by cases b<;>rfl
 |x::a,[],h=>by obtain ⟨y,hy,_⟩:=h 0 x rfl;simp at hy
 |x::a,y::b,h=>by obtain ⟨y',h1,h2⟩:=h 0 x rfl;simp at h1;subst h1;have:=DB (a:=a) (b:=b) (fun t x hx=>by simpa using h (t+1) x (by simpa using hx));simp only [tD,this,aeF,h2];cases y.bC<;>rfl
section
variable {F : kW} {R' ρ : Type} {w : R' -> ρ} {y : ρ} {s : List SB} {ps : bY} {z : List Nat}
theorem Mh {f:FuncId} {tk:List Nat} {KA vs:List SV} {s0:List SB} {k:XRS->fG R'} (hS:cd s ps) {RA:List PV} (hv:RL s KA RA) (AG:tk=ni (dd (cP ps deep) RA)) (hz:(tk.all fun t=>!has z t)=agV)
 (h1:ri tk KA=age vs) (h2:EK s tk tk=age s0):
 ∀{l:List eO},(∀c∈l,s7 F f c)->fpS f (agd s) tk vs s0 k l ρ w=age y-> ∃sr pr,(∃n,rQ (run F n) f RA ps z=age pr)/\Good s ps sr pr/\k (.loc sr) ρ w=age y
 | [],_,h=>by cases h
 |c::l,hl,h=>by
  have next:fpS f (agd s) tk vs s0 k l ρ w=age y-> ∃sr pr,(∃n,rQ (run F n) f RA ps z=age pr)/\Good s ps sr pr/\k (.loc sr) ρ w=age y:=
   fun h=>Mh hS hv AG hz h1 h2 (fun c hc=>hl c (aeG _ hc)) h
  simp only [fpS] at h;cases rX:(vY c.ta vs&&Df c.tb s0) with
  |false=>rw [rX] at h;exact next h
  |true=>
   rw [rX] at h;simp only [pi] at h;cases hpo:j8 c.ka (AV vs++Gp s0) with
   |none=>rw [hpo] at h;exact next h
   |some a=>
    rw [hpo] at h;obtain ⟨b,hb,h3⟩:=cp h;simp only [v6] at rX;have CO:=nB hpo;have hva:c.va a=vs:=by unfold eO.va;rw [CO,mE _ rX.1]
    have hsa:c.sa a=s0:=by unfold eO.sa;rw [CO,mE _ rX.1];have:=zS [] rX.2;rw [adZ] at this;rw [this]
    have CT:Dv tk s s0:=by have:=Dv.of (l:=[]) h2;rwa [adZ] at this
    obtain ⟨pa',a1,a2⟩:=rq CT hv h1;obtain ⟨p0,b1,b2,b3⟩:=AY hS CT h2;have Gd:cd s0 p0:=⟨b2,b3⟩;obtain ⟨SF,af7⟩:=v8 h2;obtain ⟨n,v,sr,r1,r2,r3,r4,r5,r6⟩:=hl c (aeA ..) a b pa' p0 hb (by rw [hva,hsa];exact a2) (by rw [hsa];exact Gd);rw [hsa] at r2 r4 r5 r6;have Ex:tk.Nodup:=by rw [AG];exact rf
    have Nm: ∀t∈tk,t<(agd s):=fun t ht=>by obtain ⟨j,hj,he⟩:=aeI ht;obtain ⟨x,c',d1,_,_⟩:=af7 j t (by rw [If hj,he]);exact (ww.1 d1).1
    have af8:(c.sb b).length=(agd tk):=by rw [r5,SF]
    have ajQ:(agd tk)<=(agd sr):=by have:=r4.len;rw [ae8,af8] at this;rw [SF] at this;omega
    have Dr: ∀j,j<agd tk->(sr.take (agd s0))[j]? =sr[j]?:=fun j hj=>IR (by rw [SF];exact hj)
    have OY:tD p0 sr=agV:=DB (fun t x hx=>by
     have ajR:t<(agd s0):=by have:=(ww.1 hx).1;rw [b2] at this;exact this
     obtain ⟨x0,Ez⟩: ∃x0,s0[t]? =age x0:=⟨s0[t],If ajR⟩;obtain ⟨q,q1,q2⟩:=b3 t x0 Ez;rw [hx] at q1;injection q1 with q1;subst q1;obtain ⟨y0,NM⟩: ∃y0,(c.sb b)[t]? =age y0:=⟨(c.sb b)[t]'(by omega),If (by omega)⟩;obtain ⟨q',q3,q4⟩:=r4.at_ t y0 NM;rw [Dr t (by omega)] at q3;refine ⟨q',q3,?_⟩;have EG:=r6 t x0 y0 Ez NM;cases x0 with
     |arr r l=>cases y0 with
      |arr r' l'=>obtain ⟨rfl,yo⟩:=EG;rw [show x=_ from q2,show q'=_ from q4];cases l<;>cases l'<;>simp_all [iZ.bC]
      |_=>exact EG.elim
     |box cs=>cases y0 with
      |box ET=>obtain ⟨_,rfl,_⟩:=q2;obtain ⟨_,rfl,_⟩:=q4;rfl
      |_=>exact EG.elim
     |set l=>cases y0 with
      |set l'=>rw [show x=_ from q2,show q'=_ from q4];rfl
      |_=>exact EG.elim
     |bH p l=>cases y0 with
      |bH p' l'=>rw [show x=_ from q2,show q'=_ from q4];rfl
      |_=>exact EG.elim
     |dead=>cases y0 with
      |dead=>rw [show x=_ from q2,show q'=_ from q4]
      |_=>exact EG.elim)
    let g:=jg tk (agd s)
    have hg: ∀j t,tk[j]? =age t->g j=t:=fun j t hj=>by show jg tk (agd s) j=t;unfold jg;rw [hj]
    obtain ⟨w1,w2⟩:=Fm g tk (c.sb b) af8;obtain ⟨u1,u2⟩:=DA g tk sr ajQ
    let s2:=Ao tk (px (xV g tk (c.sb b)) s)
    have p9: ∀(j t:Nat) (x:SB),tk[j]? =age t->(c.sb b)[j]? =age x->s2[t]? =age (Sh tk (PF g x)):=fun j t x hj hx=>by show (Ao tk _)[t]? =_;rw [pT,ug,A3 _ s j t _ (by rw [w1];exact Ex) (w2 j t x hj hx) (Nm t (aew hj))];rfl
    have af9: ∀(t:Nat),t∉tk->s2[t]? =(s[t]?).map (Sh tk):=fun t ht=>by show (Ao tk _)[t]? =_;rw [pT,ug,uh _ s t (by rw [w1];exact ht)]
    have xE: ∀t∈tk,∃j,tk[j]? =age t:=fun t ht=>by obtain ⟨j,hj,he⟩:=aeI ht;exact ⟨j,by rw [If hj,he]⟩
    have qm:Fr tk s s2:=fun t x hx=>by
     by_cases ht:t∈tk
     · obtain ⟨j,hj⟩:=xE t ht
       have JM:j<(agd tk):=(ww.1 hj).1;obtain ⟨x',c',d1,d2,d3⟩:=af7 j t hj;rw [hx] at d1;injection d1 with d1;subst d1;obtain ⟨y0,NM⟩: ∃y0,(c.sb b)[j]? =age y0:=⟨(c.sb b)[j]'(by omega),If (by omega)⟩;have EG:=r6 j c' y0 d3 NM;have YV:=p9 j t y0 hj NM;cases x with
       |arr r l=>
        injection d2 with d2;subst d2;cases y0 with
        |arr r' l'=>
         obtain ⟨rfl,yo⟩:=EG;refine .inl ⟨l',YV,yo,fun hb=>?_⟩;exfalso;have:has tk t=agV:=by unfold has;rw [afI];exact ⟨t,ht,by simp⟩
         rw [this] at hb;cases hb
        |_=>exact EG.elim
       |dead=>
        injection d2 with d2;subst d2;cases y0 with
        |dead=>exact YV
        |_=>exact EG.elim
       |box cs=>
        simp only [Kj] at d2;split at d2
        · injection d2 with d2;subst d2
          cases y0 with
          |box c2=>exact .inl ⟨_,YV⟩
          |_=>exact EG.elim
        cases d2
       |_=>trivial
     have:=af9 t ht
     rw [hx] at this;cases x with
     |arr r l=>exact .inl ⟨l,this,rfl,fun _=>rfl⟩
     |dead=>exact this
     |box c2=>exact .inl ⟨_,this⟩
     |_=>trivial
    have YW:ZW g (c.sb b) s2:=fun u x hx=>by
     have Mb:u<(agd tk):=by have:=(ww.1 hx).1;omega
     have hj:tk[u]? =age tk[u]:=If Mb;have:=p9 u _ x hj hx;rw [hg u _ hj];cases x with
     |arr r l=>exact this
     |dead=>exact this
     |box cs=>exact ⟨_,this⟩
     |_=>trivial
    have ajS:(∃n,rQ (run F n) f RA ps z=age {v:=Au g v,wr:=nk g tk sr}):=by
     refine ⟨n,?_⟩;unfold rQ RC;rw [<- AG,rc hz,a1,b1];dsimp only;rw [r1];dsimp only;unfold Cx;rw [rc OY,hS.len];have:gu (agd tk) v sr=agV:=by rw [<- SF];exact r2
     rw [rc this]
    refine ⟨{v:=H6 g (c.vb b),wr:=xV g tk (c.sb b)},_,ajS,?_,h3⟩;have bR:fk.lN s {v:=H6 g (c.vb b),wr:=xV g tk (c.sb b)}=s2:=by rw [Io,adZ,zU,w1]
    exact {
     rd:=rfl
     fr:=rfl
     wr:=by rw [zU,w1];exact u1
     nw:=Fo (by rw [u1];exact Ex)
     nl:=rfl
     aD:=by
      rw [bR];show cd s2 (fw (nk g tk sr) ps);rw [BF];refine ⟨by rw [yN,tV,ug,yN,hS.len],fun t x hx=>?_⟩
      by_cases ht:t∈tk
      · obtain ⟨j,hj⟩:=xE t ht
        have JM:j<(agd tk):=(ww.1 hj).1;obtain ⟨y0,NM⟩: ∃y0,(c.sb b)[j]? =age y0:=⟨(c.sb b)[j]'(by omega),If (by omega)⟩;have YV:=p9 j t y0 hj NM;rw [hx] at YV;injection YV with YV;subst YV;obtain ⟨q',q3,q4⟩:=r4.at_ j y0 NM;rw [Dr j JM] at q3;refine ⟨xL g q',A3 _ ps j t _ (by rw [u1];exact Ex) (u2 j t q' hj q3) (by rw [hS.len];exact Nm t ht),?_⟩;cases y0 with
        |box cs=>obtain ⟨pc,rfl,hpc⟩:=q4;exact ⟨_,rfl,RL.fr (Fr.refl tk s2) (ui YW hpc)⟩
        |arr r l=>rw [show q'=_ from q4];rfl
        |set l=>rw [show q'=_ from q4];rfl
        |bH p l=>rw [show q'=_ from q4];rfl
        |dead=>rw [show q'=_ from q4];rfl
      rw [af9 t ht,ae6] at hx
      obtain ⟨x0,Ez,rfl⟩:=hx;obtain ⟨q,q1,q2⟩:=hS.at_ t x0 Ez;exact ⟨q,by rw [uh _ ps t (by rw [u1];exact ht)];exact q1,q2.fr qm⟩
     v:=by rw [bR];exact Mg YW r3
     fra:=by rw [bR,zU,w1];exact qm}
end
end Go.Vm
/- What the typed machine makes of a function is what the logical machine runs. -/
namespace Go.Vm
section
variable {F : kW}
theorem WO.ZX {o:bI} {r:List bI} {st:St} {tr:List Tr} {Q:St->List Tr->Prop} {f:FuncId} {args:List PV}
 (hw:wanted o.guard st.env=age agV) (eH: ∀n,uU F (run F n) st.env st.aD st.fz o.op=fj (run F n) f args st.aD st.fz)
 (h:yh F f args st.aD st.fz fun v s z=>(NE (agd st.aD) (agd s)&&st.fz.all (has z))=agV/\WO F r {st with env:=gK o.dst v st.env,aD:=s,fz:=z} (PE::tr) Q):
 WO F (o::r) st tr Q:=by
 obtain ⟨n,v,s,z,hr,hc,hk⟩:=h;refine WO.call (.shr v s z) hw ⟨n,?_⟩ rfl hk;rw [eH];simp only [fj,hr];rw [rc hc]
theorem WP.again {live:List (Nat×Option Nat)} {b:ij} {st s1:St} {Q:gb->St->Prop} (h0:norm live st=age s1) (h:WP F b s1 (andThen (fun s=>WP F (.loop live b) s Q) Q)):WP F (.loop live b) st Q:=by
 obtain ⟨m,e,s,he,hq⟩:=h;cases e with
 |normal=>
  obtain ⟨k,e',s',Am,Oj⟩:=hq;refine ⟨max m k+1,e',s',?_,Oj⟩;simp only [qP] at Am ⊢;rw [jX];simp only [step,h0];rw [oH (.refl _ _) (oI F (Nat.le_max_left m k)) _ _ _ he];dsimp only;split at Am
  · rename_i e1 s1 Nj
    rw [oI F (Nat.le_max_right m k) _ _ Nj];exact Am
  cases Am
 |exit i=>exact ⟨m+1,.exit i,s,by simp only [qP];rw [jX];simp only [step,h0,he],hq⟩
 |ret=>exact ⟨m+1,.ret,s,by simp only [qP];rw [jX];simp only [step,h0,he],hq⟩
def Ip (F : kW) (inl : Si) : Prop :=
  ∀ (f : FuncId) (args : List SV) (s : List SB) (z : List Nat) (R' : Type) (k : SV -> List SB -> List Nat -> fG R') (ρ : Type) (w : R' -> ρ) (y : ρ) (pa : List PV) (ps : bY) (Q : R' -> PV -> bY -> List Nat -> Prop),
    RL s args pa -> cd s ps -> inl f args s z R' k ρ w = age y ->
    (∀ v s' z' p vv vu (w' : R' -> vu) y', R s' v p -> cd s' vv -> k v s' z' vu w' = age y' -> ∃ r, y' = w' r /\ Q r p vv z') ->
    ∃ r, y = w r /\ yh F f pa ps z (fun p vv z' => Q r p vv z')
def Mi:SB->SB->Prop
 | .arr r l,b=>(∃l',b= .arr r l'/\agd l'=agd l)\/b= .dead
 | .dead,b=>b= .dead
 | .box _,b=>(∃cs,b= .box cs)\/b= .dead
 |_,_=>True
theorem zV {R' ρ:Type} {w:R'->ρ} {y:ρ}: ∀{s s':List SB} {k:fG R'},od s s' k ρ w=age y->k ρ w=age y/\agd s<=agd s'/\
 ∀(t:Nat) (b:SB),s[t]? =age b-> ∃b',s'[t]? =age b'/\Mi b b'
 | [],s',k,h=>⟨by cases s'<;>exact h,Nat.zero_le _,fun t b ht=>by simp at ht⟩
 |x::xs,[],k,h=>by cases h
 |x::xs,y'::ys,k,h=>by
  have step: ∀(_:od xs ys k ρ w=age y) (_:Mi x y'),k ρ w=age y/\(x::xs).length<=(y'::ys).length/\ ∀(t:Nat) (b:SB),(x::xs)[t]? =age b-> ∃b',(y'::ys)[t]? =age b'/\Mi b b':=by
   intro h hx;obtain ⟨h1,h2,h3⟩:=zV h;refine ⟨h1,by simpa using h2,fun t b ht=>?_⟩;cases t with
   |zero=>simp at ht;subst ht;exact ⟨y',rfl,hx⟩
   |succ t=>simpa using h3 t b (by simpa using ht)
  cases x with
  |arr r l=>
   cases y' with
   |arr q m=>obtain ⟨hr,h2⟩:=cq (a:=fv (agd m==agd l) (od xs ys k) aN) h;obtain ⟨hl,h3⟩:=gy h2;have:=sX hr;subst this;exact step h3 (.inl ⟨m,rfl,by simpa using hl⟩)
   |dead=>exact step h (.inr rfl)
   |_=>cases h
  |dead=>
   cases y' with
   |dead=>exact step h rfl
   |_=>cases h
  |box cs=>
   cases y' with
   |box c2=>exact step h (.inl ⟨c2,rfl⟩)
   |dead=>exact step h (.inr rfl)
   |_=>cases h
  |set l=>exact step h trivial
  |bH p l=>exact step h trivial
theorem Qa {n t:Nat} (h:t<n):has (sH n) t=agV:=by
 induction n with
 |zero=>omega
 |succ n ih=>
  unfold has at ih ⊢;rw [afI] at*;simp only [sH,afZ,aeB];rcases aex t n with h1|h1
  · obtain ⟨x,h2,h3⟩:=ih h1
    exact ⟨x,.inl h2,h3⟩
  have:t=n:=by omega
  subst this;exact ⟨t,.inr rfl,by simp⟩
theorem KB {s s':List SB} (h: ∀(t:Nat) (b:SB),s[t]? =age b-> ∃b',s'[t]? =age b'/\Mi b b'):Fr (sH (agd s)) s s':=fun t b hb=>by
 obtain ⟨b',h1,h2⟩:=h t b hb;have dz:=(ww.1 hb).1;cases b with
 |arr r l=>
  rcases h2 with ⟨l',rfl,h3⟩|rfl
  · exact .inl ⟨l',h1,h3,fun hx=>by rw [Qa dz] at hx;cases hx⟩
  exact .inr h1
 |dead=>rw [show b'= .dead from h2] at h1;exact h1
 |box cs=>
  rcases h2 with ⟨c2,rfl⟩|rfl
  · exact .inl ⟨c2,h1⟩
  exact .inr h1
 |_=>trivial
theorem af' {s:List SB} {ps:bY} {sr:fk} {pr:mh} (G:Good s ps sr pr) (hS:cd s ps):(XR.loc pr).tr (agd ps)=sr.tr (agd s):=by
 simp only [XR.tr,fk.tr,G.rd,G.fr,hS.len,<- G.wr,G.nl,agb];have:pr.news.isEmpty=sr.news.isEmpty:=by have:=G.nl;cases h1:pr.news<;>cases h2:sr.news<;>simp_all
 rw [this];rfl
theorem ZY {st:nu} {p:St} (h:xg st p) {sr:fk} {pr:mh} (G:Good st.aD p.aD sr pr) (d:Option Nat):xg (sr.next d st) ((XR.loc pr).next d p):=by
 have SG: ∀{s:List SB} {e:SE} {pe:Env} {v:SV} {q:PV},dt s e pe->R s v q->dt s (Gq d v e) (gK d q pe):=by
  intro s e pe v q he hv;cases d with
  |none=>exact he
  |some t=>exact ⟨q,pe,rfl,hv,he⟩
 have hs:=Io st.aD sr;unfold fk.next
 split
 · rename_i hw
   rw [hw] at hs;simp only [vZ,px,Gz] at hs;have oK:=G.aD;have hv:=G.v;have qm:=G.fra;rw [hs] at oK hv qm;rw [hw] at qm;exact ⟨by simp only [kU];exact SG (dt.ext qm h.env) hv,by simp only [kU];exact oK,by simp only [XR.next,G.fr,h.fz],h.kn⟩
 have oK:=G.aD
 have hv:=G.v;have qm:=G.fra;rw [hs] at oK hv qm;exact ⟨by simp only [kU];exact SG (dt.fr qm h.env) hv,by simp only [kU];exact oK,by simp only [XR.next,G.fr,h.fz],h.kn⟩
theorem ok_eq {s:List SB} {ps:bY} {sr:fk} {pr:mh} (G:Good s ps sr pr) {z:List Nat} (h:sr.ok z=agV):(XR.loc pr).ok z=agV:=by simp only [XR.ok,G.nw,aeF];unfold fk.ok at h;rw [<- G.wr,agb] at h;exact h
section
variable {cx : Ctx} {inl : Si} {R' : Type}
def ajU (_F:kW) (k:nu->List Tr->fG R') (Q:R'->St->List Tr->Prop):Prop:=
 ∀st p tr ρ (w:R'->ρ) y,xg st p->k st tr ρ w=age y-> ∃r,y=w r/\Q r p tr
theorem uj {o:bI} {l:List bI} {st:nu} {p:St} {tr:List Tr} {k:nu->List Tr->fG R'} {ρ:Type} {w:R'->ρ} {y:ρ} {Q:R'->St->List Tr->Prop}
 (hl: ∀st p tr ρ (w:R'->ρ) y,xg st p->k st tr ρ w=age y-> ∃r,y=w r/\WO F l p tr (Q r)) (h:xg st p) {sr:fk} {pr:mh} (hw:wanted o.guard p.env=age agV)
 (hx: ∃n,uU F (run F n) p.env p.aD p.fz o.op=age (.loc pr)) (G:Good st.aD p.aD sr pr) (hg:L5 o.dst st tr k (.loc sr) ρ w=age y): ∃r,y=w r/\WO F (o::l) p tr (Q r):=by
 unfold L5 at hg;dsimp only at hg;obtain ⟨yg,hg⟩:=cq hg;rw [Gl] at hg;have hR:=ZY h G o.dst;obtain ⟨r,hr,SH⟩:=hl _ _ _ _ _ _ hR hg;refine ⟨r,hr,WO.call (.loc pr) hw hx (by rw [h.fz];exact ok_eq G yg) ?_⟩;rw [af' G h.aD];exact SH
theorem Iq (B3:mF F cx) (GA:Ip F inl) {o:bI} {l:List bI} {st:nu} {p:St} {tr:List Tr} {k:nu->List Tr->fG R'} {ρ:Type} {w:R'->ρ} {y:ρ} {Q:R'->St->List Tr->Prop}
 (hl: ∀st p tr ρ (w:R'->ρ) y,xg st p->k st tr ρ w=age y-> ∃r,y=w r/\WO F l p tr (Q r)) (h:xg st p) (hw:wanted o.guard p.env=age agV)
 (hg:Fa cx inl st.env st.aD st.fz o.op (L5 o.dst st tr k) ρ w=age y): ∃r,y=w r/\WO F (o::l) p tr (Q r):=by
 have hS:=h.aD;have hE:=h.env;have shr: ∀(f:FuncId) (KA:List SV) (RA:List PV),RL st.aD KA RA->(∀n,uU F (run F n) p.env p.aD p.fz o.op=fj (run F n) f RA p.aD p.fz)->
  inl f KA st.aD st.fz R' (fun v s' z'=>L5 o.dst st tr k (.shr v s' z')) ρ w=age y-> ∃r,y=w r/\WO F (o::l) p tr (Q r):=by
  intro f KA RA hv eH hi;obtain ⟨r,hr,hd⟩:=GA f KA st.aD st.fz R' _ ρ w y RA p.aD (fun r v s z=>(NE (agd p.aD) (agd s)&&p.fz.all (has z))=agV/\WO F l {p with env:=gK o.dst v p.env,aD:=s,fz:=z} (PE::tr) (Q r)) hv hS hi
   (fun v s' z' pv vv vu w' y' hR hS' hk=>by
    unfold L5 at hk;dsimp only at hk;rw [Gl] at hk;obtain ⟨hk,cy,OM⟩:=zV hk;obtain ⟨hz,hk⟩:=cq hk;have qm:=KB OM;have SG:dt s' (Gq o.dst v (dgE (sH (agd st.aD)) st.env)) (gK o.dst pv p.env):=by
     cases o.dst with
     |none=>exact dt.fr qm hE
     |some t=>exact ⟨pv,p.env,rfl,hR,dt.fr qm hE⟩
    have hR':xg {env:=Gq o.dst v (dgE (sH (agd st.aD)) st.env),aD:=s',fz:=z',kn:=st.kn} {p with env:=gK o.dst pv p.env,aD:=vv,fz:=z'}:=⟨SG,hS',rfl,h.kn⟩;obtain ⟨r,hr,SH⟩:=hl _ _ _ _ _ _ hR' hk;refine ⟨r,hr,?_,SH⟩;rw [h.fz,hz,aeF,hS.len,hS'.len];simpa using cy)
  refine ⟨r,hr,WO.ZX hw eH ?_⟩;rw [h.fz];rw [h.fz] at hd;exact hd
 have loc: ∀{k':fk->fG R'},kT st.env st.aD st.fz o.op k' ρ w=age y->AR o.op=ah0->(∀sr,k' sr=L5 o.dst st tr k (.loc sr))-> ∃r,y=w r/\WO F (o::l) p tr (Q r):=by intro k' hv hc hk;obtain ⟨sr,pr,h1,G,h2⟩:=SA hE hS (pe:=p.env) hv;rw [hk] at h2;exact uj hl h hw ⟨0,by rw [Gi hc,h.fz,h1];rfl⟩ G h2
 generalize eH:o.op=op at hg;cases op with
 |call m f args=>
  have jP:=xh hE args;simp only [Fa] at hg;cases m with
  |Rp=>
   dsimp only at hg;cases hx:qq st.aD (jC st.aD deep) (iH st.env args) with
   |none=>rw [hx] at hg;cases hg
   |some vs=>rw [hx] at hg;obtain ⟨q,h1,h2⟩:=sd hS (Ci hS deep) jP hx;obtain ⟨sr,pr,⟨n,h3⟩,G,h4⟩:=v9 (f:=f) (z:=st.fz) hS h1 h2 (xX hS (Ds hS deep) jP hx) (fun c hc=>B3.YM f c hc) hg;exact uj hl h hw ⟨n,by rw [eH,h.fz];simp only [uU,h3];rfl⟩ G h4
  |own=>
   dsimp only at hg;cases hx:qq st.aD (jC st.aD deep) (iH st.env args) with
   |none=>rw [hx] at hg;cases hg
   |some vs=>rw [hx] at hg;obtain ⟨q,h1,h2⟩:=sd hS (Ci hS deep) jP hx;obtain ⟨sr,pr,⟨n,h3⟩,G,h4⟩:=v9 (f:=f) (z:=st.fz) hS h1 h2 (xX hS (Ds hS deep) jP hx) (fun c hc=>B3.YM f c hc) hg;exact uj hl h hw ⟨n,by rw [eH,h.fz];simp only [uU,h3];rfl⟩ G h4
  |shr=>exact shr f _ _ jP (fun n=>by rw [eH];rfl) hg
  |fp=>
   dsimp only at hg;cases hx:Kg st.aD (jC st.aD deep) (iH st.env args) with
   |false=>rw [hx] at hg;cases hg
   |true=>
    rw [hx] at hg;dsimp only at hg;obtain ⟨hz,hg⟩:=cq hg;cases h1:ri (ni (pQ (vo st.aD deep) (iH st.env args))) (iH st.env args) with
    |none=>rw [h1] at hg;cases hg
    |some vs=>
     cases h2:EK st.aD (ni (pQ (vo st.aD deep) (iH st.env args))) (ni (pQ (vo st.aD deep) (iH st.env args))) with
     |none=>rw [h1,h2] at hg;cases hg
     |some s0=>rw [h1,h2] at hg;obtain ⟨sr,pr,⟨n,h3⟩,G,h4⟩:=Mh (f:=f) (z:=st.fz) hS jP (by rw [P3 hS (Ds hS deep) jP hx]) hz h1 h2 (fun c hc=>B3.fpc f c hc) hg;exact uj hl h hw ⟨n,by rw [eH,h.fz];simp only [uU,h3];rfl⟩ G h4
 |uS x args=>
  have jP:=xh hE args;simp only [Fa] at hg;have hx:=dh hE x;generalize bK st.env x=v at hg hx;cases v with
  |ef f a b=>
   dsimp only at hg;obtain ⟨pa,pb,hx,ha,hb⟩:=hx;have ajV: ∀{vs:List SV} {q:List PV},RL st.aD vs q->(yD vs=agV->q.any Cw=agV):=by
    intro vs
    induction vs with
    |nil=>intro q _ h;cases h
    |cons v vs ih=>
     intro q hq hp;obtain ⟨a,as,rfl,h1,h2⟩:=hq.cons_inv;simp only [yD,ag3] at hp;simp only [ag8,ag3];rcases hp with hp|hp
     · left
       cases v with
       |own _ _=>obtain ⟨_,_,rfl,_⟩:=h1;rfl
       |pre _ _ _ _=>obtain ⟨_,rfl,_⟩:=h1;rfl
       |part _ _ _ _ _=>obtain ⟨_,rfl,_⟩:=h1;rfl
       |pa _ _ _ _ _=>obtain ⟨rfl,_⟩:=h1;rfl
       |pb _ _ _=>obtain ⟨_,rfl,_⟩:=h1;rfl
       |bp _ _ _=>rw [show a=_ from h1];rfl
       |mp _=>rw [show a=_ from h1];rfl
       |_=>cases hp
     right;exact ih h2 hp
   cases hp:yD (iH st.env args++b) with
   |true=>rw [hp] at hg;have:=ajV (jP.append hb) hp;exact shr f _ _ ((ha.append jP).append hb) (fun n=>by rw [eH];simp only [uU,hx,this,if_true]) hg
   |false=>
    rw [hp] at hg;simp only [pp] at hg;cases hxx:qq st.aD (jC st.aD deep) (a++iH st.env args++b) with
    |none=>rw [hxx] at hg;cases hg
    |some vs=>
     rw [hxx] at hg;have hno: ∀{vs u:List SV} {q:List PV},RL st.aD vs q->yD vs=ah0->qq st.aD (jC st.aD deep) vs=age u->q.any Cw=ah0:=by
      intro vs
      induction vs with
      |nil=>intro u q hq _ _;rw [show q=[] from hq];rfl
      |cons v vs ih=>
       intro u q hq hp hu;obtain ⟨a,as,rfl,h1,h2⟩:=hq.cons_inv;simp only [yD,Bool.or_eq_false_iff] at hp;simp only [qq] at hu;split at hu
       · rename_i y1 y2 e1 e2
         simp only [ag8,ih h2 hp.2 e2,Bool.or_false];cases v with
         |agg _|cj _|bw _ _=>obtain ⟨_,rfl,_⟩:=h1;rfl
         |ef _ _ _=>obtain ⟨_,_,rfl,_⟩:=h1;rfl
         |int _ _|bool _|str _|dw|sl _ _|nil _ _|undef|iB=>rw [show a=_ from h1];rfl
         |ga=>cases e1
         |own _ _|pre _ _ _ _|part _ _ _ _ _|pa _ _ _ _ _|pb _ _ _|bp _ _ _|mp _=>cases hp.1
       cases hu
     have ZZ: ∃u2,qq st.aD (jC st.aD deep) (iH st.env args++b)=age u2:=by
      have: ∀(l:List SV) {m u:List SV},qq st.aD (jC st.aD deep) (l++m)=age u-> ∃u2,qq st.aD (jC st.aD deep) m=age u2:=by
       intro l
       induction l with
       |nil=>intro m u h;exact ⟨u,h⟩
       |cons x l ih=>
        intro m u h;simp only [aeS,qq] at h;split at h
        · rename_i e1 e2;exact ih e2
        cases h
      rw [adV] at hxx;exact this a hxx
     obtain ⟨u2,hu2⟩:=ZZ;have ajW:=hno (jP.append hb) hp hu2;have pN:=(ha.append jP).append hb;obtain ⟨q,h1,h2⟩:=sd hS (Ci hS deep) pN hxx;obtain ⟨sr,pr,⟨n,h3⟩,G,h4⟩:=v9 (f:=f) (z:=st.fz) hS h1 h2 (xX hS (Ds hS deep) pN hxx) (fun c hc=>B3.YM f c hc) hg;exact uj hl h hw ⟨n,by rw [eH,h.fz];simp only [uU,hx,ajW,UV,if_false,h3];rfl⟩ G h4
  |_=>cases hg
 |_=>exact loc (k':=fun r=>L5 o.dst st tr k (.loc r)) (by rw [eH];exact hg) (by rw [eH];rfl) (fun _=>rfl)
theorem uo (B3:mF F cx) (GA:Ip F inl): ∀(ops:List bI) {st:nu} {p:St} {tr:List Tr} {k:nu->List Tr->fG R'} {ρ:Type} {w:R'->ρ} {y:ρ} {Q:R'->St->List Tr->Prop},
 ajU F k Q->xg st p->nv cx inl ops st tr k ρ w=age y-> ∃r,y=w r/\WO F ops p tr (Q r)
 | [],st,p,tr,k,ρ,w,y,Q,hk,h,he=>by obtain ⟨r,hr,hq⟩:=hk st p tr ρ w y h he;exact ⟨r,hr,WO.nil hq⟩
 |o::l,st,p,tr,k,ρ,w,y,Q,hk,h,he=>by
  have hl: ∀st p tr ρ (w:R'->ρ) y,xg st p->nv cx inl l st tr k ρ w=age y-> ∃r,y=w r/\WO F l p tr (Q r):=fun st p tr ρ w y h he=>uo B3 GA l hk h he
  have NN: ∀{st:nu} {c:Nat} {v:SV},xg st p->R st.aD v (lk c p.env)->xg {st with env:=yz c v st.env} p:=fun h hv=>⟨h.env.yz hv,h.aD,h.fz,h.kn⟩
  have Z0: ∀{st:nu},xg st p->wanted o.guard p.env=age agV->(match o.op with
   | .pick (.t c) a b=>match By c st.env with
    | .bool x=>fv x (L5 o.dst {st with env:=yz c (.bool agV) st.env} tr (nv cx inl l · · k) (.loc {v:=bK st.env a}))
     (L5 o.dst {st with env:=yz c (.bool ah0) st.env} tr (nv cx inl l · · k) (.loc {v:=bK st.env b}))
    |_=>aN
   |op=>Fa cx inl st.env st.aD st.fz op (L5 o.dst st tr (nv cx inl l · · k))) ρ w=age y-> ∃r,y=w r/\WO F (o::l) p tr (Q r):=by
   intro st h hw he;have plain:Fa cx inl st.env st.aD st.fz o.op (L5 o.dst st tr (nv cx inl l · · k)) ρ w=age y-> ∃r,y=w r/\WO F (o::l) p tr (Q r):=fun he=>Iq B3 GA hl h hw he
   generalize eH:o.op=op at he;cases op with
   |pick c a b=>
    cases c with
    |c v=>exact plain (by rw [eH];exact he)
    |t c=>
     dsimp only at he;generalize hv:By c st.env=v at he;cases v with
     |bool x=>
      have hx:lk c p.env= .bool x:=by have:=h.env.lk c;rw [hv] at this;exact this
      rcases ej he with ⟨rfl,he⟩|⟨rfl,he⟩
      · have hR:=NN h (c:=c) (v:= .bool agV) hx
        exact uj (o:=o) hl hR hw ⟨0,by rw [eH];simp only [uU,bq,eI.ev,hx];rfl⟩ (Good.val hR.aD (dh h.env a)) he
      have hR:=NN h (c:=c) (v:= .bool ah0) hx
      exact uj (o:=o) hl hR hw ⟨0,by rw [eH];simp only [uU,bq,eI.ev,hx];rfl⟩ (Good.val hR.aD (dh h.env b)) he
     |_=>cases he
   |_=>exact plain (by rw [eH];exact he)
  have Qb: ∀{st:nu},xg st p->wanted o.guard p.env=age ah0->nv cx inl l {st with env:=Gq o.dst .iB st.env} (Tr.idle::tr) k ρ w=age y-> ∃r,y=w r/\WO F (o::l) p tr (Q r):=by
   intro st h hw he;have hR:xg {st with env:=Gq o.dst .iB st.env} {p with env:=gK o.dst .iB p.env}:=by
    refine ⟨?_,h.aD,h.fz,h.kn⟩;cases o.dst with
    |none=>exact h.env
    |some t=>exact ⟨.iB,p.env,rfl,rfl,h.env⟩
   obtain ⟨r,hr,SH⟩:=hl _ _ _ _ _ _ hR he;exact ⟨r,hr,WO.skip hw SH⟩
  simp only [nv] at he;cases hgd:o.guard with
  |none=>rw [hgd] at he;exact Z0 h (by rw [hgd];rfl) he
  |some g=>
   obtain ⟨c,want⟩:=g;rw [hgd] at he;dsimp only at he;generalize hv:By c st.env=v at he;cases v with
   |bool x=>
    have hx:lk c p.env= .bool x:=by have:=h.env.lk c;rw [hv] at this;exact this
    have hwx: ∀b,x=b->wanted o.guard p.env=age (b==want):=fun b hb=>by rw [hgd];simp only [wanted,hx,hb]
    cases want with
    |true=>
     simp only [pi] at he;rcases ej he with ⟨rfl,he⟩|⟨rfl,he⟩
     · exact Z0 (NN h (v:= .bool agV) hx) (hwx agV rfl) he
     exact Qb (NN h (v:= .bool ah0) hx) (hwx ah0 rfl) he
    |false=>
     simp only [pp] at he;rcases ej he with ⟨rfl,he⟩|⟨rfl,he⟩
     · exact Qb (NN h (v:= .bool agV) hx) (hwx agV rfl) he
     exact Z0 (NN h (v:= .bool ah0) hx) (hwx ah0 rfl) he
   |iB=>
    have hx:lk c p.env= .iB:=by have:=h.env.lk c;rw [hv] at this;exact this
    exact Qb h (by rw [hgd];simp only [wanted,hx]) he
   |_=>cases he
theorem DC {e:SE}: ∀{fh:List Nat} {k:SE->fG R'} {ρ:Type} {w:R'->ρ} {y:ρ},H7 e fh k ρ w=age y->k (fh.map fun s=>(s,By s e)) ρ w=age y
 | [],k,ρ,w,y,h=>h
 |s::r,k,ρ,w,y,h=>by simp only [H7] at h;rw [Gl] at h;have:=DC h;exact this
theorem Qc {s:List SB} {e:SE} {pe:Env} (h:dt s e pe): ∀(fh:List Nat),dt s (fh.map fun t=>(t,By t e)) (fh.map fun t=>(t,lk t pe))
 | []=>rfl
 |t::r=>⟨_,_,rfl,h.lk t,Qc h r⟩
end
mutual
theorem Fp: ∀(v:SV) (q:List vt),qS v (AU v++q)=(v,q)
 | .ga,q| .undef,q| .iB,q| .dw,q| .int _ _,q| .bool _,q| .str _,q| .sl _ _,q| .nil _ _,q| .own _ _,q| .pre _ _ _ _,q| .part _ _ _ _ _,q| .pa _ _ _ _ _,q| .pb _ _ _,q| .bp _ _ _,q| .mp _,q=>rfl
 | .agg cs,q=>by simp only [qS,AU,qd]
 | .cj cs,q=>by simp only [qS,AU,qd]
 | .bw cs o,q=>by simp only [qS,AU,qd]
 | .ef f a b,q=>by simp only [qS,AU,adV,qd]
theorem qd: ∀(v:List SV) (q:List vt),pS v (AV v++q)=(v,q)
 | [],q=>rfl
 |x::xs,q=>by simp only [pS,AV,adV,Fp,qd]
end
theorem Fq: ∀(v:List SB) (q:List vt),yC v (Gp v++q)=(v,q)
 | [],q=>rfl
 |x::xs,q=>by
  have: ∀q,Kl x (Pz x++q)=(x,q):=by intro q;cases x<;>first|rfl|simp only [Kl,Pz,qd]
  simp only [yC,Gp,adV,this,Fq]
theorem Fs: ∀(v:SE) (q:List vt),H5 v (NB v++q)=(v,q)
 | [],q=>rfl
 |(t,x)::xs,q=>by simp only [H5,NB,adV,Fp,Fs]
theorem KC (st:nu):sY st (mD st)=st:=by have hs:=Fq st.aD [];rw [adZ] at hs;simp only [sY,mD,Fs,hs]
theorem YX {β:Type 1}: ∀(l:List PT) (c:List PT->β),rK l c=c l
 | [],_=>rfl
 |p::r,c=>by cases p<;>simp only [rK,ptK,YX r]
theorem KD {β:Type 1}: ∀(l:List AK) (c:List AK->β),Sf l c=c l
 | [],_=>rfl
 |a::r,c=>by cases a<;>simp only [Sf,YX,KD r]
theorem YY {s:List SB} {o:SE}: ∀{e:SE} {pe:Env},dt s e pe->dt s (ZK o e) pe
 | [],_,h=>h
 |(t,v)::r,_,⟨p,q,h1,h2,h3⟩=>⟨p,q,h1,by cases By t o<;>first|exact h2|trivial,YY h3⟩
theorem NO {cx:Ctx} {inl:Si} (B3:mF F cx) (GA:Ip F inl): ∀(c:ij) (R':Type) {st:nu} {p:St} {k:gb->nu->fG R'} {ρ:Type} {w:R'->ρ} {y:ρ} {Q:R'->gb->St->Prop},
 (∀e st p ρ (w:R'->ρ) y,xg st p->k e st ρ w=age y-> ∃r,y=w r/\Q r e p)->xg st p->v5 cx inl c R' st k ρ w=age y-> ∃r,y=w r/\WP F c p (Q r):=by
 intro c
 induction c with
 |skip=>intro R' st p k ρ w y Q hk h he;obtain ⟨r,hr,hq⟩:=hk _ _ _ _ _ _ h he;exact ⟨r,hr,WP.skip hq⟩
 |ret=>intro R' st p k ρ w y Q hk h he;obtain ⟨r,hr,hq⟩:=hk _ _ _ _ _ _ h he;exact ⟨r,hr,WP.ret hq⟩
 |exit id=>intro R' st p k ρ w y Q hk h he;obtain ⟨r,hr,hq⟩:=hk _ _ _ _ _ _ h he;exact ⟨r,hr,WP.exit hq⟩
 |region d ops fh=>
  intro R' st p k ρ w y Q hk h he;simp only [v5] at he;have fin: ∀st p ρ (w:R'->ρ) y,xg st p->H7 st.env fh (fun e=>k .normal {st with env:=e}) ρ w=age y-> ∃r,y=w r/\Q r .normal (oJ fh p):=by intro st p ρ w y h he;have:=DC he;have hR:xg {st with env:=fh.map fun t=>(t,By t st.env)} (oJ fh p):=⟨Qc h.env fh,h.aD,h.fz,h.kn⟩;exact hk _ _ _ _ _ _ hR this
  cases d with
  |none=>obtain ⟨r,hr,SH⟩:=uo B3 GA ops (Q:=fun r s _=>Q r .normal (oJ fh s)) (fun st p tr ρ w y h he=>fin st p ρ w y h he) h he;exact ⟨r,hr,WP.region SH⟩
  |some bf=>
   obtain ⟨r,hr,SH⟩:=uo B3 GA ops (Q:=fun r s t=>pL 0 (t.reverse.zip bf)=agV/\Q r .normal (oJ fh s)) (fun st p tr ρ w y h he=>by
    dsimp only at he;cases ho:pL 0 (tr.reverse.zip bf) with
    |false=>rw [ho] at he;cases he
    |true=>rw [ho] at he;obtain ⟨r,hr,hq⟩:=fin st p ρ w y h he;exact ⟨r,hr,ho,hq⟩) h he
   exact ⟨r,hr,WP.RE SH⟩
 |seq a b Yh RD=>
  intro R' st p k ρ w y Q hk h he;simp only [v5] at he;cases hj:cx.jn&&jnC a with
  |false=>
   rw [hj] at he;obtain ⟨r,hr,GB⟩:=Yh R' (Q:=fun r=>andThen (fun s=>WP F b s (Q r)) (Q r)) (fun e st p ρ w y h he=>by
    cases e with
    |normal=>exact RD R' hk h he
    |exit i=>exact hk _ _ _ _ _ _ h he
    |ret=>exact hk _ _ _ _ _ _ h he) h he
   exact ⟨r,hr,WP.seq GB⟩
  |true=>
   rw [hj] at he;dsimp only at he;rw [KD] at he;generalize PA (mD (NC st.env (jnK a) st))=ks at he;generalize NC st.env (jnK a) st=s1 at he;cases hp:j8 ks (mD s1) with
   |none=>rw [hp] at he;cases he
   |some y0=>
    rw [hp] at he;dsimp only at he;obtain ⟨n,DD⟩:=HW he;clear he;have body: ∀zr,v5 cx inl a (Step (Bool×gd ks) ρ) st (fun e tz=>match e with
     | .normal=>bif yB s1 {tz with env:=ZK st.env tz.env} then (match j8 ks (mD {tz with env:=ZK st.env tz.env}) with
      |some y'=>Bz (.next (ah0,y'))
      |none=>aN) else aN
     |e=>fun vu w'=>k e tz vu fun r=>w' (.done (w r))) (Step (Bool×gd ks) ρ) (fun z=>z)=age zr->
     WP F a p (fun e s=>match zr with
      | .next y'=>e= .normal/\y'.1=ah0/\xg (sY s1 (jR ks y'.2)) s
      | .done x=>e≠ .normal/\ ∃r,x=w r/\Q r e s):=by
     intro zr j0;obtain ⟨zr',JE,GB⟩:=Yh (Step (Bool×gd ks) ρ) (Q:=fun zr e s=>match zr with
      | .next y'=>e= .normal/\y'.1=ah0/\xg (sY s1 (jR ks y'.2)) s
      | .done x=>e≠ .normal/\ ∃r,x=w r/\Q r e s) (fun e tz p2 vu w' y2 h2 vq=>by
      cases e with
      |normal=>
       dsimp only at vq;obtain ⟨rX,vq⟩:=cq vq;cases SI:j8 ks (mD {tz with env:=ZK st.env tz.env}) with
       |none=>rw [SI] at vq;cases vq
       |some y3=>rw [SI] at vq;injection vq with vq;refine ⟨.next (ah0,y3),vq.symm,rfl,rfl,?_⟩;dsimp only;rw [nB SI,Fj rX];exact ⟨YY h2.env,h2.aD,h2.fz,h2.kn⟩
      |exit i=>obtain ⟨r,hr,hq⟩:=hk _ _ _ _ _ _ h2 vq;exact ⟨.done (w r),hr,(by intro e;cases e),r,rfl,hq⟩
      |ret=>obtain ⟨r,hr,hq⟩:=hk _ _ _ _ _ _ h2 vq;exact ⟨.done (w r),hr,(by intro e;cases e),r,rfl,hq⟩) h j0
     subst JE;exact GB
    cases n with
    |zero=>cases DD
    |succ n=>
     simp only [mB,fv] at DD;split at DD
     · rename_i y' j0
       obtain ⟨m,e,s,bQ,rfl,hy,Z1⟩:=body _ j0;obtain ⟨y1,y2⟩:=y';dsimp only at hy Z1;subst hy;cases n with
       |zero=>cases DD
       |succ n=>
        simp only [mB] at DD;split at DD
        · rename_i y' Rx
          obtain ⟨r,hr,_⟩:=RD R' hk Z1 Rx;cases hr
        · rename_i x Rx
          obtain ⟨r,hr,GB⟩:=RD R' hk Z1 Rx;injection DD with DD;injection hr with hr;exact ⟨r,by rw [<- DD];exact hr,WP.seq ⟨m,.normal,s,bQ,GB⟩⟩
        cases DD
     · rename_i x j0
       injection DD with DD;obtain ⟨m,e,s,bQ,dZ,r,hr,hq⟩:=body _ j0;refine ⟨r,by rw [<- DD];exact hr,WP.seq ⟨m,e,s,bQ,?_⟩⟩;cases e with
       |normal=>exact absurd rfl dZ
       |exit i=>exact hq
       |ret=>exact hq
     cases DD
 |cond c a b Yh RD=>
  intro R' st p k ρ w y Q hk h he;simp only [v5] at he;have hx:=dh h.env c;generalize bK st.env c=v at he hx;cases v with
  |bool x=>
   rcases ej he with ⟨rfl,he⟩|⟨rfl,he⟩
   · obtain ⟨r,hr,GB⟩:=Yh R' hk h he
     exact ⟨r,hr,WP.Yi hx GB⟩
   obtain ⟨r,hr,GB⟩:=RD R' hk h he
   exact ⟨r,hr,WP.Yj hx GB⟩
  |_=>cases he
 |block id b ih=>
  intro R' st p k ρ w y Q hk h he;simp only [v5] at he;obtain ⟨r,hr,GB⟩:=ih R' (Q:=fun r=>inBlock id (Q r)) (fun e st p ρ w y h he=>by
   cases e with
   |normal=>exact hk _ _ _ _ _ _ h he
   |ret=>exact hk _ _ _ _ _ _ h he
   |exit j=>
    dsimp only at he;cases hj:PP j id with
    |true=>rw [hj] at he;obtain ⟨r,hr,hq⟩:=hk _ _ _ _ _ _ h he;have RY:=v4 hj;exact ⟨r,hr,by simpa [inBlock,RY] using hq⟩
    |false=>
     rw [hj] at he;obtain ⟨r,hr,hq⟩:=hk _ _ _ _ _ _ h he;have:j≠id:=by intro e;subst e;simp at hj
     exact ⟨r,hr,by simpa [inBlock,this] using hq⟩) h he
  exact ⟨r,hr,WP.block GB⟩
 |loop live b ih=>
  intro R' st p k ρ w y Q hk h he;simp only [v5] at he;cases hn:De cx.rk live st with
  |none=>rw [hn] at he;cases he
  |some mn=>
   rw [hn] at he;dsimp only at he;rw [KD] at he;generalize PA (mD mn)=ks at he;cases hp:j8 ks (mD mn) with
   |none=>rw [hp] at he;cases he
   |some y0=>
    rw [hp] at he;dsimp only at he;obtain ⟨p1,Yl,hR1⟩:=Me h hn;have agc: ∀(Kn:nu) (y':gd ks),yB mn Kn=agV->j8 ks (mD Kn)=age y'->sY mn (jR ks y')=Kn:=fun Kn y' h1 h2=>by rw [nB h2,Fj h1]
    obtain ⟨n,DD⟩:=HW he;have h0:xg (sY mn (jR ks y0)) p1:=by rw [nB hp,KC];exact hR1
    clear he hp hn h hR1
    induction n generalizing y0 p p1 with
    |zero=>cases DD
    |succ n ihn=>
     have body: ∀zr,v5 cx inl b (Step (gd ks) ρ) (sY mn (jR ks y0)) (fun e tz=>match e with
      | .normal=>match De cx.rk live tz with
       |some Kn=>bif yB mn Kn then (match j8 ks (mD Kn) with
        |some y'=>Bz (.next y')
        |none=>aN) else aN
       |none=>aN
      |e=>fun vu w'=>k e tz vu fun r=>w' (.done (w r))) (Step (gd ks) ρ) (fun z=>z)=age zr->
      WP F b p1 (fun e s=>match zr with
       | .next y'=>e= .normal/\ ∃p3,norm live s=age p3/\xg (sY mn (jR ks y')) p3
       | .done x=>e≠ .normal/\ ∃r,x=w r/\Q r e s):=by
      intro zr j0;obtain ⟨zr',JE,GB⟩:=ih (Step (gd ks) ρ) (Q:=fun zr e s=>match zr with
       | .next y'=>e= .normal/\ ∃p3,norm live s=age p3/\xg (sY mn (jR ks y')) p3
       | .done x=>e≠ .normal/\ ∃r,x=w r/\Q r e s) (fun e tz p2 vu w' y2 h2 vq=>by
       cases e with
       |normal=>
        dsimp only at vq;cases hn3:De cx.rk live tz with
        |none=>rw [hn3] at vq;cases vq
        |some Kn=>
         rw [hn3] at vq;obtain ⟨rX,vq⟩:=cq vq;cases SI:j8 ks (mD Kn) with
         |none=>rw [SI] at vq;cases vq
         |some y3=>rw [SI] at vq;injection vq with vq;obtain ⟨p3,ajY,Z1⟩:=Me h2 hn3;exact ⟨.next y3,vq.symm,rfl,p3,ajY,by rw [agc Kn y3 rX SI];exact Z1⟩
       |exit i=>obtain ⟨r,hr,hq⟩:=hk _ _ _ _ _ _ h2 vq;exact ⟨.done (w r),hr,(by intro e;cases e),r,rfl,hq⟩
       |ret=>obtain ⟨r,hr,hq⟩:=hk _ _ _ _ _ _ h2 vq;exact ⟨.done (w r),hr,(by intro e;cases e),r,rfl,hq⟩) h0 j0
      subst JE;exact GB
     simp only [mB] at DD;split at DD
     · rename_i y' j0
       obtain ⟨m,e,s,bQ,rfl,p3,SI,Z1⟩:=body _ j0;obtain ⟨r,hr,GB⟩:=ihn y' p3 SI DD Z1;exact ⟨r,hr,WP.again Yl ⟨m,.normal,s,bQ,GB⟩⟩
     · rename_i x j0
       injection DD with DD;obtain ⟨m,e,s,bQ,dZ,r,hr,hq⟩:=body _ j0;refine ⟨r,by rw [<- DD];exact hr,WP.again Yl ⟨m,e,s,bQ,?_⟩⟩;cases e with
       |normal=>exact absurd rfl dZ
       |exit i=>exact hq
       |ret=>exact hq
     cases DD
end
end Go.Vm
/- Contracts from the typed machine. -/
namespace Go.Vm
section
variable {F : kW} {cx : Ctx} {inl : Si}
theorem Ir {s:List SB}: ∀{l:List SV} {q:List PV} (i:Nat),RL s l q->dt s (Kp i l) (sJ i q)
 | [],q,i,h=>by rw [show q=[] from h];rfl
 |x::xs,q,i,h=>by obtain ⟨a,as,rfl,h1,h2⟩:=h.cons_inv;exact ⟨a,sJ (i+1) as,rfl,h1,Ir (i+1) h2⟩
theorem Qd {st:nu} {p:St} (h:xg st p) {r:RV} {v:SV} (hr:Ko st r=age v): ∃q,Cy p r=age q/\R st.aD v q:=by
 cases r with
 |tmp t=>injection hr with hr;subst hr;exact ⟨_,rfl,h.env.lk t⟩
 |cell t agg=>
  simp only [Ko] at hr;have rX:=h.env.lk t;split at hr
  · rename_i u n off hv
    rw [hv] at rX;rw [bU] at hr;split at hr
    · rename_i cs bR
      obtain ⟨q,h1,h2⟩:=h.aD.box bR;obtain ⟨x,h3,h4⟩:=rl h2 hr;refine ⟨x,?_,h4⟩;simp only [Cy,show lk t p.env=_ from rX,nh,h1,ae5,if_true,h3];rfl
    cases hr
  · rename_i cs off hv
    rw [hv] at rX;obtain ⟨q,h1,h2⟩:=rX;obtain ⟨x,h3,h4⟩:=rl h2 hr;refine ⟨x,?_,h4⟩;simp only [Cy,h1,nh,h3];rfl
  cases hr
theorem Ft {st:nu} {p:St} (h:xg st p): ∀{l:List RV} {vs:List SV},xf st l=age vs-> ∃q,mj p l=age q/\RL st.aD vs q
 | [],vs,hr=>by injection hr with hr;subst hr;exact ⟨[],rfl,rfl⟩
 |r::l,vs,hr=>by
  simp only [xf] at hr;split at hr
  · rename_i v JD h1 h2
    injection hr with hr;subst hr;obtain ⟨q,h3,h4⟩:=Qd h h1;obtain ⟨qs,h5,h6⟩:=Ft h h2;exact ⟨q::qs,by simp only [mj,h3,h5],RL.cons h4 h6⟩
  cases hr
theorem Is {s:List SB} {vs:List SV} {q:List PV} (h:RL s vs q):R s (AW vs) (results1 q):=by
 match vs,q,h with
 | [],q,h=>rw [show q=[] from h];exact ⟨[],rfl,rfl⟩
 | [v],q,h=>obtain ⟨a,as,rfl,h1,h2⟩:=h.cons_inv;rw [show as=[] from h2];exact h1
 |v::u::r,q,h=>have pN:=h;obtain ⟨a,as,rfl,h1,h2⟩:=h.cons_inv;obtain ⟨b,bs,rfl,h3,h4⟩:=h2.cons_inv;exact ⟨_,rfl,pN⟩
theorem wa (B3:mF F cx) (GA:Ip F inl) {f:FuncId} {x:aL} (hf:F f=age (.code x)) {R':Type} {args:List SV} {s:List SB} {z:List Nat} {k:SV->List SB->List Nat->fG R'} {ρ:Type} {w:R'->ρ} {y:ρ} {pa:List PV} {ps:bY}
 {Q:R'->PV->bY->List Nat->Prop} (ha:RL s args pa) (hS:cd s ps) (he:H8 cx inl x R' args s z k ρ w=age y)
 (hk: ∀v s' z' p vv vu (w':R'->vu) y',R s' v p->cd s' vv->k v s' z' vu w'=age y'-> ∃r,y'=w' r/\Q r p vv z'): ∃r,y=w r/\yh F f pa ps z (fun p vv z'=>Q r p vv z'):=by
 unfold H8 at he;obtain ⟨hn,he⟩:=cq he;have fin: ∀st p vu (w':R'->vu) y',xg st p->(match xf st x.res with
  |some vs=>k (AW vs) st.aD st.fz
  |none=>aN) vu w'=age y'-> ∃r,y'=w' r/\ ∃vs,mj p x.res=age vs/\Q r (results1 vs) p.aD p.fz:=by
  intro st p vu w' y' h he;cases hr:xf st x.res with
  |none=>rw [hr] at he;cases he
  |some vs=>rw [hr] at he;obtain ⟨q,h1,h2⟩:=Ft h hr;obtain ⟨r,h3,h4⟩:=hk _ _ _ _ _ _ _ _ (Is h2) h.aD he;exact ⟨r,h3,q,h1,by rw [h.fz];exact h4⟩
 obtain ⟨r,hr,GB⟩:=NO B3 GA x.code R' (Q:=fun r=>FX x fun p vv z'=>Q r p vv z') (p:={env:=sJ 0 pa,aD:=ps,fz:=z,kn:=agd ps}) (fun e st p vu w' y' h he=>by
  cases e with
  |normal=>exact fin st p vu w' y' h he
  |ret=>exact fin st p vu w' y' h he
  |exit i=>cases he) ⟨Ir 0 ha,hS,rfl,hS.len⟩ he
 exact ⟨r,hr,yh.of hf (by rw [ha.ly];exact hn) GB⟩
theorem GC {α:Type} {l m r:List α} {i:Int} (h:Gj l i m=age r):0<=i/\i.toNat<=agd l/\agd m=1/\agd l+1<=1048576/\r=l.take i.toNat++m++l.drop i.toNat:=by
 unfold Gj at h;split at h
 · rename_i hc
   injection h with h;exact ⟨hc.1,hc.2.1,hc.2.2.1,hc.2.2.2,h.symm⟩
 cases h
theorem NP {e:Nat} {args:List SV} {s:List SB} {z:List Nat} {a:afV} (h:Sj e args s z=age a):
 ∃x u x2 m,args=[.own a.t x,.int .i64 a.i,.own u x2]/\nth s a.t=age (.arr a.r a.l)/\nth s u=age (.arr a.r m)/\a.m=m/\agd a.r=e/\PP a.t u=ah0/\has z a.t=ah0:=by
 unfold Sj at h;split at h
 case h_2=>cases h
 split at h
 case h_2=>cases h
 split at h
 case h_2=>cases h
 split at h
 case h_2=>cases h
 rename_i m' hm;cases hc:(PP _ e&&_&&_) with
 |false=>rw [hc] at h;cases h
 |true=>rw [hc] at h;injection h with h;subst h;simp only [v6,aeK,adR] at hc;obtain ⟨rfl,rfl⟩:=ny hm;exact ⟨_,_,_,_,rfl,by assumption,by assumption,rfl,hc.1.1,hc.1.2,hc.2⟩
theorem KE {e:Nat} {f:FuncId} (hf:F f=age (.MU (Oy e))) {R':Type} {args:List SV} {s:List SB} {z:List Nat} {k:SV->List SB->List Nat->fG R'} {ρ:Type} {w:R'->ρ} {y:ρ} {pa:List PV} {ps:bY}
 {Q:R'->PV->bY->List Nat->Prop} (ha:RL s args pa) (hS:cd s ps) (he:ZL e args s z k ρ w=age y)
 (hk: ∀v s' z' p vv vu (w':R'->vu) y',R s' v p->cd s' vv->k v s' z' vu w'=age y'-> ∃r,y'=w' r/\Q r p vv z'): ∃r,y=w r/\yh F f pa ps z (fun p vv z'=>Q r p vv z'):=by
 unfold ZL at he;cases hA:Sj e args s z with
 |none=>rw [hA] at he;cases he
 |some a=>
 rw [hA] at he;dsimp only at he;obtain ⟨l',hl,he⟩:=cp he;obtain ⟨x,u,x2,m0,rfl,ht,hu,hm,Rr,htu,hz⟩:=NP hA;obtain ⟨t,q,l,i,m⟩:=a;dsimp only at*;subst hm Rr;obtain ⟨i0,il,m1,kC,rfl⟩:=GC hl;obtain ⟨p0,pr0,rfl,h0,ha⟩:=ha;obtain ⟨p1,pr1,rfl,h1,ha⟩:=ha;obtain ⟨p2,pr2,rfl,h2,ha⟩:=ha;obtain rfl:pr2=[]:=ha;obtain rfl:p1= .int .i64 i:=h1;have LR:s[t]? =age (.arr q l):=by rw [<- bU];exact ht
 have An:s[u]? =age (.arr q m):=by rw [<- bU];exact hu
 obtain ⟨e0,n0,rfl,o0⟩:=h0;obtain ⟨e2,n2,rfl,o2⟩:=h2;obtain ⟨rfl,rfl⟩:e0=agd q/\n0=(agd l):=by
  rcases o0 with ⟨r1,l1,a,b,c⟩|a
  · rw [LR] at a;injection a with a;injection a with a1 a2;subst a1;subst a2;exact ⟨b,c⟩
  rw [LR] at a;cases a
 obtain ⟨rfl,rfl⟩:e2=agd q/\n2=(agd m):=by
  rcases o2 with ⟨r1,l1,a,b,c⟩|a
  · rw [An] at a;injection a with a;injection a with a1 a2;subst a1;subst a2;exact ⟨b,c⟩
  rw [An] at a;cases a
 obtain ⟨b1,JF,GD⟩:=hS.at_ t _ LR;obtain ⟨b2,Rx,Z2⟩:=hS.at_ u _ An;have GD:b1= .arr (agd q) (l.map (RT.pv q)):=GD;have Z2:b2= .arr (agd q) (m.map (RT.pv q)):=Z2;subst GD Z2;have cy:(Ao [t] (s.set t .dead)).length=(agd s):=by rw [tV];simp
 obtain ⟨L,hL⟩: ∃L,L=l.take i.toNat++m++l.drop i.toNat:=⟨_,rfl⟩;rw [<- hL] at he;have G:=Good.put hS (b:= .dead) (q:= .dead) (l:=[.arr q L]) (ql:=[.arr (agd q) (L.map (RT.pv q))]) (v:= .own (agd s) ah0)
  (p:= .own (agd s) (agd q) 0 (agd L) (agd L) ah0) (rd:=[]) LR (.inr rfl) rfl rfl
  (fun j b hj=>by
   cases j with
   |zero=>simp at hj;subst hj;exact ⟨_,rfl,rfl⟩
   |succ j=>simp at hj)
  ⟨agd q,agd L,rfl,.inl ⟨q,L,by rw [<- cy];exact kZ,rfl,rfl⟩⟩
 have yo:(agd L)=agd l+1:=by rw [hL];simp only [aeL,ae8,afK,m1];omega
 obtain ⟨rr,hr,hq⟩:=hk _ _ _ _ _ _ _ _ G.v G.aD he;refine ⟨rr,hr,1,_,_,_,?_,hq⟩;rw [jX];have jA:NE (agd l+1) jU=agV:=by simp [jU];omega
 have hbl:NE i.toNat (agd l)=agV:=by simpa using il
 have hLm:L.map (RT.pv q)=(l.map (RT.pv q)).take i.toNat++m.map (RT.pv q)++(l.map (RT.pv q)).drop i.toNat:=by rw [hL,aes,aes,aen,aez]
 simp [step,hf,Oy,JF,Rx,m1,htu,hz,i0,jA,il,yo,hS.len,fw,Hj,hLm]
theorem NQ {α:Type} {l m r:List α} (h:ZD l m=age r):1<=agd l+agd m/\agd l+agd m<=1048576/\r=l++m:=by
 unfold ZD at h;split at h
 · rename_i hc
   injection h with h;exact ⟨hc.1,hc.2,h.symm⟩
 cases h
theorem NR {args:List SV} {s:List SB} {z:List Nat} {a:afW} (h:Sk args s z=age a):
 ∃cap x m,args=[.part a.t 0 2 cap x]/\nth s a.t=age (.box [.sl a.r a.l,.sl a.r m])/\a.m=m/\agd a.r=1/\has z a.t=ah0:=by
 unfold Sk at h;split at h
 case h_2=>cases h
 split at h
 case h_2=>cases h
 split at h
 case h_2=>cases h
 rename_i m' hm;cases hc:(PP _ 1&&PP _ 0&&PP _ 2&&_) with
 |false=>rw [hc] at h;cases h
 |true=>rw [hc] at h;injection h with h;subst h;simp only [v6,aeK,adR] at hc;obtain ⟨rfl,rfl⟩:=ny hm;obtain ⟨⟨⟨h1,rfl⟩,rfl⟩,h2⟩:=hc;exact ⟨_,_,_,rfl,by assumption,rfl,h1,h2⟩
theorem Fu {r:List PT} (h:(agd r)=1) (l:List (RT r)):Av (l.map (RT.pv r))=agV:=by
 unfold Av;rw [aep];intro x hx;obtain ⟨a,_,rfl⟩:=afC.1 hx
 match r,h with
 | [p],_=>show (PP [p.pv a].length 1&&[p.pv a].all PV.plain)=agV;cases p<;>rfl
theorem KF {f:FuncId} (hf:F f=age (.MU Y8)) {R':Type} {args:List SV} {s:List SB} {z:List Nat} {k:SV->List SB->List Nat->fG R'} {ρ:Type} {w:R'->ρ} {y:ρ} {pa:List PV} {ps:bY}
 {Q:R'->PV->bY->List Nat->Prop} (ha:RL s args pa) (hS:cd s ps) (he:ZM args s z k ρ w=age y)
 (hk: ∀v s' z' p vv vu (w':R'->vu) y',R s' v p->cd s' vv->k v s' z' vu w'=age y'-> ∃r,y'=w' r/\Q r p vv z'): ∃r,y=w r/\yh F f pa ps z (fun p vv z'=>Q r p vv z'):=by
 unfold ZM at he;cases hA:Sk args s z with
 |none=>rw [hA] at he;cases he
 |some a=>
 rw [hA] at he;dsimp only at he;obtain ⟨l',hl,he⟩:=cp he;obtain ⟨cap,x,m0,rfl,ht,hm,Rr,hz⟩:=NR hA;obtain ⟨t,q,l,m⟩:=a;dsimp only at*;subst hm;obtain ⟨hp,kC,rfl⟩:=NQ hl;obtain ⟨p0,pr0,rfl,h0,ha⟩:=ha;obtain rfl:pr0=[]:=ha;have LR:s[t]? =age (.box [.sl q l,.sl q m]):=by rw [<- bU];exact ht
 obtain ⟨e0,rfl,o0⟩:=h0;obtain rfl:e0=1:=by
  rcases o0 with ⟨r1,l1,a,b⟩|a|⟨_,a,b⟩
  · rw [LR] at a;cases a
  · rw [LR] at a;cases a
  exact b
 obtain ⟨b1,JF,GD⟩:=hS.at_ t _ LR;obtain ⟨ps1,rfl,p1,q1,rfl,Yl,p2,q2,rfl,hp2,rfl⟩:=GD;have Yl:p1= .sl (agd q) ah0 (l.map (RT.pv q)):=Yl;have hp2:p2= .sl (agd q) ah0 (m.map (RT.pv q)):=hp2;subst Yl hp2;have cy:(Ao [t] (s.set t .dead)).length=(agd s):=by rw [tV];simp
 obtain ⟨L,hL⟩: ∃L,L=l++m:=⟨_,rfl⟩;rw [<- hL] at he;have G:=Good.put hS (b:= .dead) (q:= .dead) (l:=[.arr q L]) (ql:=[.arr (agd q) (L.map (RT.pv q))]) (v:= .own (agd s) ah0)
  (p:= .own (agd s) (agd q) 0 (agd L) (agd L) ah0) (rd:=[]) LR (.inr rfl) rfl rfl
  (fun j b hj=>by
   cases j with
   |zero=>simp at hj;subst hj;exact ⟨_,rfl,rfl⟩
   |succ j=>simp at hj)
  ⟨agd q,agd L,rfl,.inl ⟨q,L,by rw [<- cy];exact kZ,rfl,rfl⟩⟩
 have yo:(agd L)=agd l+(agd m):=by rw [hL];simp
 obtain ⟨rr,hr,hq⟩:=hk _ _ _ _ _ _ _ _ G.v G.aD he;refine ⟨rr,hr,1,_,_,_,?_,hq⟩;rw [jX];have jA:NE (agd l+agd m) jU=agV:=by simp [jU];omega
 have M3:NE 1 (agd l+agd m)=agV:=by simpa using hp
 have hLm:L.map (RT.pv q)=l.map (RT.pv q)++m.map (RT.pv q):=by rw [hL,aes]
 have hc:(PP 1 1&&PP 0 0&&PP 2 2&&!has z t&&Av (l.map (RT.pv q))&&Av (m.map (RT.pv q))&&NE 1 ((l.map (RT.pv q)).length+(m.map (RT.pv q)).length)&&NE ((l.map (RT.pv q)).length+(m.map (RT.pv q)).length) jU&&(PP (agd q) 1||(l.map (RT.pv q)).isEmpty)&&(PP (agd q) 1||(m.map (RT.pv q)).isEmpty))=agV:=by rw [Fu Rr,Fu Rr,hz,ae0,ae0,M3,jA,Rr];rfl
 simp only [step,hf];unfold Y8
 dsimp only;rw [JF];dsimp only;rw [hc];simp [hS.len,fw,Hj,hLm,yo,Rr]
theorem It: ∀(p:PT) (a:p.T),zH p (p.pv a)=age a
 | .i k,a=>by have:eE k k=agV:=ei.2 rfl;simp [zH,PT.pv,this]
 | .b,a=>rfl
theorem Mj: ∀(r:List PT) (a:RT r),EL r (RT.pv r a)=age a
 | [],a=>rfl
 | [p],a=>It p a
 |p::q::r,a=>by
  show (match zH p (p.pv a.1),EL (q::r) (RT.pv (q::r) a.2) with
   |some a,age b=>age (a,b)
   |_,_=>agn)=_
  rw [It,Mj (q::r)]
theorem Iu (r:List PT): ∀l:List (RT r),BA r (l.map (RT.pv r))=age l
 | []=>rfl
 |a::l=>by
  show (match EL r (RT.pv r a),BA r (l.map (RT.pv r)) with
   |some a,age l=>age (a::l)
   |_,_=>agn)=_
  rw [Mj,Iu r l]
theorem SJ {s:List SB} {g:Option FuncId} {a:List SV} {p:List PV} (h:BC g a=agV) (hr:RL s a p):Sg g p=agV:=by
 unfold BC at h;split at h
 · obtain rfl:p=[]:=hr
   rfl
 · obtain ⟨p0,pr,rfl,h0,hr⟩:=hr
   obtain rfl:pr=[]:=hr;obtain ⟨x,y,rfl,hx,hy⟩:=h0;obtain rfl:x=[]:=hx;obtain rfl:y=[]:=hy;exact h
 cases h
theorem NS {r:List PT} {g:Option FuncId} {args:List SV} {s:List SB} {z:List Nat} {t:Nat} {o:Option Nat} {l:List (RT r)} (h:Sl r g args s z=age (t,o,l)):
 ∃x a,args=x::a/\nth s t=age (.arr r l)/\has z t=ah0/\BC g a=agV/\((o=agn/\ ∃ex,x= .own t ex)\/ ∃len cap ex,o=age len/\x= .pre t len cap ex):=by
 unfold Sl at h;split at h
 · split at h
   · split at h
     · rename_i hm
       cases hc:(!has z _&&BC g _) with
       |false=>rw [hc] at h;cases h
       |true=>rw [hc] at h;simp only [pi,EQ,adM] at h;obtain ⟨rfl,rfl,rfl⟩:=h;simp only [v6,adR] at hc;obtain ⟨rfl,rfl⟩:=ny hm;exact ⟨_,_,rfl,by assumption,hc.1,hc.2,.inl ⟨rfl,_,rfl⟩⟩
     cases h
   cases h
 · split at h
   · split at h
     · rename_i hm
       cases hc:(!has z _&&BC g _) with
       |false=>rw [hc] at h;cases h
       |true=>rw [hc] at h;simp only [pi,EQ,adM] at h;obtain ⟨rfl,rfl,rfl⟩:=h;simp only [v6,adR] at hc;obtain ⟨rfl,rfl⟩:=ny hm;exact ⟨_,_,rfl,by assumption,hc.1,hc.2,.inr ⟨_,_,_,rfl,rfl⟩⟩
     cases h
   cases h
 cases h
theorem KG {α:Type} {f:List α->Option (List α)} {l m:List α} (h:C7 f l=age m):(agd l)<=1048576/\f l=age m/\agd m=(agd l):=by
 unfold C7 at h;split at h
 · rename_i hl
   split at h
   · rename_i m' hm
     split at h
     · rename_i he
       injection h with h;subst h;exact ⟨hl,hm,he⟩
     cases h
   cases h
 cases h
theorem GF {α:Type} {f:List α->Option (List α)} {n:Nat} {l m:List α} (h:Gk f n l=age m):n<=agd l/\ ∃m',C7 f (l.take n)=age m'/\m=m'++l.drop n:=by
 unfold Gk at h;split at h
 · rename_i hn
   cases hm:C7 f (l.take n) with
   |none=>rw [hm] at h;cases h
   |some m'=>rw [hm] at h;injection h with h;exact ⟨hn,m',rfl,h.symm⟩
 cases h
theorem KH {q:ZH} {f:FuncId} (hf:F f=age (.MU (PB q))) {R':Type} {args:List SV} {s:List SB} {z:List Nat} {k:SV->List SB->List Nat->fG R'} {ρ:Type} {w:R'->ρ} {y:ρ} {pa:List PV} {ps:bY}
 {Q:R'->PV->bY->List Nat->Prop} (ha:RL s args pa) (hS:cd s ps) (he:ZN q args s z k ρ w=age y)
 (hk: ∀v s' z' p vv vu (w':R'->vu) y',R s' v p->cd s' vv->k v s' z' vu w'=age y'-> ∃r,y'=w' r/\Q r p vv z'): ∃r,y=w r/\yh F f pa ps z (fun p vv z'=>Q r p vv z'):=by
 have key: ∀(t len:Nat) (l m':List (RT q.r)) (ex:Bool) (cap:Nat) (pr:List PV) (a:List SV),s[t]? =age (.arr q.r l)->has z t=ah0->BC q.g a=agV->RL s a pr->pa= .own t (agd q.r) 0 len cap ex::pr->len<=agd l->C7 q.fn (l.take len)=age m'->
  k (.cj []) (fk.lN s {v:= .cj [],wr:=[(t,.arr q.r (m'++l.drop len))]}) z ρ w=age y-> ∃r,y=w r/\yh F f pa ps z (fun p vv z'=>Q r p vv z'):=by
  intro t len l m' ex cap pr a ht hz hg har OX cy BZ he;subst OX;obtain ⟨s1,s2,s3⟩:=KG BZ;obtain ⟨b1,JF,GD⟩:=hS.at_ t _ ht;have GD:b1= .arr (agd q.r) (l.map (RT.pv q.r)):=GD;subst GD;have yo:(l.take len).length=len:=by rw [ae8];omega
  have G9:(m'++l.drop len).length=(agd l):=by rw [aeL,afK,s3,yo];omega
  have G:=Good.put hS (b:= .arr q.r (m'++l.drop len)) (q:= .arr (agd q.r) ((m'++l.drop len).map (RT.pv q.r))) (l:=[]) (ql:=[]) (v:= .cj []) (p:= .cj []) (rd:=[]) ht (.inl ⟨_,rfl,G9⟩) rfl rfl
   (fun j b hj=>by simp at hj) ⟨[],rfl,rfl⟩
  obtain ⟨rr,hr,hq⟩:=hk _ _ _ _ _ _ _ _ G.v G.aD he;refine ⟨rr,hr,1,_,_,_,?_,hq⟩;rw [jX];have hg':=SJ hg har;have hrt:BA q.r ((l.map (RT.pv q.r)).take len)=age (l.take len):=by rw [<- aen];exact Iu q.r _
  have hbl:NE len (agd l)=agV:=by simpa using cy
  have Zs:NE len jU=agV:=by simp [jU];omega
  have hbe:PP (agd m') (l.take len).length=agV:=by rw [s3];exact ae5 _
  simp only [step,hf,PB,JF,ae0,ae5,hbl,Zs,hz,hg',hrt,s2,hbe,aev,aeF,if_true,Option.map_some,fw,Hj,aes,aez]
 unfold ZN at he;cases hA:Sl q.r q.g args s z with
 |none=>rw [hA] at he;cases he
 |some u=>
  obtain ⟨t,o,l⟩:=u;rw [hA] at he;obtain ⟨x,a,rfl,ht,hz,hg,h⟩:=NS hA;obtain ⟨p0,pr,rfl,h0,ha⟩:=ha;rw [bU] at ht;rcases h with ⟨rfl,ex,rfl⟩|⟨len,cap,ex,rfl,rfl⟩
  · obtain ⟨m,hm,he⟩:=cp he
    obtain ⟨e0,n0,rfl,o0⟩:=h0;obtain ⟨rfl,rfl⟩:e0=agd q.r/\n0=(agd l):=by
     rcases o0 with ⟨r1,l1,a,b,c⟩|a
     · rw [ht] at a;injection a with a;injection a with a1 a2;subst a1;cases a2;exact ⟨b,c⟩
     rw [ht] at a;cases a
    refine key t (agd l) l m ex (agd l) pr a ht hz hg ha rfl (af2 _) (by rw [List.take_length];exact hm) ?_;rw [List.drop_length,adZ];exact he
  obtain ⟨m,hm,he⟩:=cp he
  obtain ⟨e0,rfl,o0⟩:=h0;obtain rfl:e0=(agd q.r):=by
   rcases o0 with ⟨r1,l1,a,b⟩|a|⟨_,a,_⟩
   · rw [ht] at a;injection a with a;injection a with a1 a2;subst a1;exact b
   · rw [ht] at a;cases a
   rw [ht] at a;cases a
  obtain ⟨hn,m',BZ,rfl⟩:=GF hm;exact key t len l m' ex cap pr a ht hz hg ha rfl hn BZ he
theorem GG (B3:mF F cx): ∀n,Ip F (PG cx n)
 |0=>fun f args s z R' k ρ w y pa ps Q _ _ h _=>by cases h
 |n+1=>fun f args s z R' k ρ w y pa ps Q ha hS h hk=>by
  simp only [PG] at h;cases hx:cx.code f with
  |none=>rw [hx] at h;cases h
  |some x=>
   rw [hx] at h;cases x with
   |code x=>exact wa B3 (GG B3 n) (B3.code f _ hx) ha hS h hk
   |ins e=>exact KE (B3.code f _ hx) ha hS h hk
   |srt q=>exact KH (B3.code f _ hx) ha hS h hk
   |cat=>exact KF (B3.code f _ hx) ha hS h hk
def SK:Kd->Bool->Bool
 | .own,b=>b
 |_,b=>!b
def Qe (kd:Kd) {β:Type} (res:Arg β) (b:β) (p:PV) (ps:bY) (z:List Nat):Prop:=
 match kd with
 | .pure=>p.jx=agV/\qt (res.enc b)=age p
 | .vp=>p.jx=ah0/\ ∃q,wT ps p=age q/\qt (res.enc b)=age q
 | .own=> ∀nx,∃p0 p' q seen,xK ps z nx [] p=age (p',q,seen)/\qt (res.enc b)=age p0/\Dw nx p0=age (p',q)
mutual
theorem Iv {s:List SB}: ∀{v:SV} {p:PV},R s v p->yA v=agV->qt v=age p
 | .int _ _,p,h,_| .bool _,p,h,_| .str _,p,h,_=>by rw [show p=_ from h];rfl
 | .agg cs,p,h,hn=>by obtain ⟨q,rfl,h⟩:=h;simp only [qt,DE h hn]
 | .cj cs,p,h,hn=>by obtain ⟨q,rfl,h⟩:=h;simp only [qt,DE h hn]
 | .ga,_,_,h| .undef,_,_,h| .iB,_,_,h| .dw,_,_,h| .sl _ _,_,_,h| .nil _ _,_,_,h| .own _ _,_,_,h| .pre _ _ _ _,_,_,h| .part _ _ _ _ _,_,_,h| .pa _ _ _ _ _,_,_,h| .pb _ _ _,_,_,h| .bp _ _ _,_,_,h| .bw _ _,_,_,h| .ef _ _ _,_,_,h| .mp _,_,_,h=>by cases h
theorem DE {s:List SB}: ∀{v:List SV} {p:List PV},RL s v p->pR v=agV->pq v=age p
 | [],p,h,_=>by rw [show p=_ from h];rfl
 |x::xs,p,h,hn=>by obtain ⟨a,as,rfl,h1,h2⟩:=h.cons_inv;simp only [pR,v6] at hn;exact dS.2 ⟨_,_,rfl,Iv h1 hn.1,DE h2 hn.2⟩
end
theorem KI {kd:Kd} {β:Type} {res:Arg β} {v:SV} {s:List SB} {z:List Nat} {p:PV} {ps:bY} {ρ:Type} {w:β->ρ} {y:ρ} (hv:R s v p) (hS:cd s ps) (h:PH kd res v s z ρ w=age y):
 ∃b,y=w b/\Qe kd res b p ps z:=by
 unfold PH at h;cases kd with
 |pure=>dsimp only at h;obtain ⟨h1,h2⟩:=cq h;obtain ⟨b,h3,h4⟩:=bB h2;injection h4 with h4;exact ⟨b,h4.symm,Il hv h1,res.law h3 (Iv hv h1)⟩
 |vp=>dsimp only at h;obtain ⟨h1,h2⟩:=qc h;obtain ⟨u,h3,h4⟩:=bB h2;obtain ⟨b,h5,h6⟩:=bB h4;injection h6 with h6;obtain ⟨q,h7,h8⟩:=YT hS hv h3;exact ⟨b,h6.symm,Fk hv h1 h3,q,h7,res.law h5 h8⟩
 |own=>dsimp only at h;obtain ⟨u,h3,h4⟩:=bB h;obtain ⟨b,h5,h6⟩:=bB h4;injection h6 with h6;refine ⟨b,h6.symm,fun nx=>?_⟩;obtain ⟨p0,p',q,h7,h8,h9⟩:=P8 hS (v':=u.1) (seen':=u.2) nx hv h3;exact ⟨p0,p',q,u.2,h9,res.law h5 h7,h8⟩
theorem cd.nil:cd [] []:=⟨rfl,fun t b h=>by simp at h⟩
theorem eg.of {f:FuncId} {x:aL} {α β:Type} {args:aC α} {res:Arg β} {kd:Kd} {fn:α->Option β} {ow:Bool} (hf:F f=age (.code x)) (ho:SK kd ow=agV) (B3:mF F cx)
 (h: ∀a,YO cx x args res kd a=fn a):eg F f ⟨args,res,fn,kd,ow⟩:=by
 intro a b as pa aD fz hb OX hex;have hb:fn a=age b:=hb;rw [<- h a] at hb;obtain ⟨r,hr,n,v,s,z,bQ,hl⟩:=wa B3 (GG B3 8) hf (Q:=fun r p ps z=>Qe kd res r p ps z) (Dz OX) cd.nil hb (fun v s' z' p vv vu w' y' hv hS hk=>KI hv hS hk);have ZT:b=r:=hr;subst ZT;cases kd with
 |pure=>
  obtain ⟨h1,h2⟩:=hl;have how:ow=ah0:=by simpa [SK] using ho
  subst how;refine ⟨n,{v:=v,rd:=dd (cP aD deep) as},?_,v,h2,rfl⟩;simp only [cW,hex,hf,bQ,UV,if_false,h1,if_true]
 |vp=>
  obtain ⟨h1,q,h2,h3⟩:=hl;have how:ow=ah0:=by simpa [SK] using ho
  subst how;refine ⟨n,{v:=q,rd:=dd (cP aD deep) as,fr:=dd (cP aD deep) as},?_,q,h3,rfl⟩;simp only [cW,hex,hf,bQ,UV,if_false,h1,h2]
 |own=>have how:ow=agV:=ho;subst how;obtain ⟨p0,p',q,seen,h1,h2,h3⟩:=hl (agd aD);refine ⟨n,{v:=p',news:=q,rd:=dd (cP aD deep) as},?_,p0,p',q,h2,h3,rfl⟩;simp only [cW,hex,hf,bQ,if_true,h1]
theorem Iw: ∀(s:List SB) (q:List vt),(yC s q).1.length=agd s
 | [],q=>rfl
 |b::r,q=>by simp only [yC,adT,Iw r]
mutual
theorem R.take {s:List SB} {k:Nat}: ∀{v:SV} {p:PV},R s v p->(∀t∈Kh qO v,t<k)->R (s.take k) v p
 | .ga,_,_,_=>trivial
 | .undef,_,h,_| .iB,_,h,_| .dw,_,h,_| .int _ _,_,h,_| .bool _,_,h,_| .str _,_,h,_| .sl _ _,_,h,_| .nil _ _,_,h,_| .bp _ _ _,_,h,_| .mp _,_,h,_=>h
 | .agg cs,_,h,ht=>by obtain ⟨q,rfl,h⟩:=h;exact ⟨q,rfl,RL.DF h ht⟩
 | .cj cs,_,h,ht=>by obtain ⟨q,rfl,h⟩:=h;exact ⟨q,rfl,RL.DF h ht⟩
 | .bw cs o,_,h,ht=>by obtain ⟨q,rfl,h⟩:=h;exact ⟨q,rfl,RL.DF h ht⟩
 | .ef f a b,_,h,ht=>by obtain ⟨pa,pb,rfl,h1,h2⟩:=h;exact ⟨pa,pb,rfl,RL.DF h1 (fun t h=>ht t (aeH _ h)),RL.DF h2 (fun t h=>ht t (aeE _ h))⟩
 | .own t ex,_,h,ht=>by
  obtain ⟨e,n,rfl,cL⟩:=h;have hk:=ht t (aeB.2 rfl);refine ⟨e,n,rfl,?_⟩;rcases cL with ⟨r,l,h1,h2,h3⟩|h1
  · exact .inl ⟨r,l,by rw [IR hk];exact h1,h2,h3⟩
  exact .inr (by rw [IR hk];exact h1)
 | .pre t a b c,_,h,ht=>by
  obtain ⟨e,rfl,cL⟩:=h;have hk:=ht t (aeB.2 rfl);refine ⟨e,rfl,?_⟩;rcases cL with ⟨r,l,h1,h2⟩|h1
  · exact .inl ⟨r,l,by rw [IR hk];exact h1,h2⟩
  exact .inr (by rw [IR hk];exact h1)
 | .part t o a b c,_,h,ht=>by
  obtain ⟨e,rfl,cL⟩:=h;have hk:=ht t (aeB.2 rfl);refine ⟨e,rfl,?_⟩;rcases cL with ⟨r,l,h1,h2⟩|h1
  · exact .inl ⟨r,l,by rw [IR hk];exact h1,h2⟩
  exact .inr (by rw [IR hk];exact h1)
 | .pa t r i a o,_,h,ht=>by
  obtain ⟨rfl,cL⟩:=h;have hk:=ht t (aeA ..);refine ⟨rfl,?_⟩;rcases cL with ⟨l,h1,h2⟩|h1
  · exact .inl ⟨l,by rw [IR hk];exact h1,h2⟩
  exact .inr (by rw [IR hk];exact h1)
 | .pb t i o,_,h,ht=>by
  obtain ⟨e,rfl,cL⟩:=h;have hk:=ht t (aeA ..);refine ⟨e,rfl,?_⟩;rcases cL with ⟨r,l,h1,h2⟩|h1
  · exact .inl ⟨r,l,by rw [IR hk];exact h1,h2⟩
  exact .inr (by rw [IR hk];exact h1)
theorem RL.DF {s:List SB} {k:Nat}: ∀{v:List SV} {p:List PV},RL s v p->(∀t∈pQ qO v,t<k)->RL (s.take k) v p
 | [],_,h,_=>h
 |x::xs,_,h,ht=>by obtain ⟨a,as,rfl,h1,h2⟩:=h.cons_inv;exact RL.cons (R.take h1 (fun t h=>ht t (aeH _ h))) (RL.DF h2 (fun t h=>ht t (aeE _ h)))
end
theorem DG {R' ρ:Type} {w:R'->ρ} {y:ρ}: ∀{s s':List SB} {k:fG R'},zI s s' k ρ w=age y->k ρ w=age y/\agd s'=agd s/\ ∀(t:Nat) (x z:SB),s[t]? =age x->s'[t]? =age z->P' x z
 | [],[],k,h=>⟨h,rfl,fun t x z h=>by simp at h⟩
 | [],_::_,k,h=>by cases h
 |_::_,[],k,h=>by cases h
 |x::xs,y'::ys,k,h=>by
  have step: ∀(_:zI xs ys k ρ w=age y) (_:P' x y'),k ρ w=age y/\(y'::ys).length=(x::xs).length/\ ∀(t:Nat) (a b:SB),(x::xs)[t]? =age a->(y'::ys)[t]? =age b->P' a b:=by
   intro h hx;obtain ⟨h1,h2,h3⟩:=DG h;refine ⟨h1,by simpa using h2,fun t a b ha hb=>?_⟩;cases t with
   |zero=>simp at ha hb;subst ha hb;exact hx
   |succ t=>exact h3 t a b (by simpa using ha) (by simpa using hb)
  cases x with
  |arr r l=>
   cases y' with
   |arr q m=>obtain ⟨hr,h2⟩:=cq (a:=fv (agd m==agd l) (zI xs ys k) aN) h;obtain ⟨hl,h3⟩:=gy h2;exact step h3 ⟨sX hr,by simpa using hl⟩
   |_=>cases h
  |dead=>cases y' with
   |dead=>exact step h trivial
   |_=>cases h
  |box cs=>cases y' with
   |box _=>exact step h trivial
   |_=>cases h
  |set l=>cases y' with
   |set _=>exact step h trivial
   |_=>cases h
  |bH p l=>cases y' with
   |bH _ _=>exact step h trivial
   |_=>cases h
theorem DH: ∀{s:List SB},Dg s=agV-> ∀(t:Nat) (b:SB),s[t]? =age b->xd b=agV
 | [],_,t,b,h=>by simp at h
 |x::xs,hs,0,b,h=>by simp only [Dg,v6] at hs;simp at h;subst h;exact hs.1
 |x::xs,hs,t+1,b,h=>by simp only [Dg,v6] at hs;exact DH hs.2 t b (by simpa using h)
theorem s7.of {f:FuncId} {x:aL} {wd:Bool} {ka ko:List AK} {ta:List SV} {tb to:List SB} {tv:SV} {fn:gd ka->Option (gd ko)} (hf:F f=age (.code x)) (B3:mF F cx)
 (h: ∀a,ajG wd cx x ka ta tb ko tv to a=fn a):s7 F f ⟨ka,ta,tb,ko,tv,to,fn⟩:=by
 intro a b pa ps hb ha hS;rw [show (⟨ka,ta,tb,ko,tv,to,fn⟩:eO).fn a=fn a from rfl,<- h a] at hb;have cy:(eO.sa ⟨ka,ta,tb,ko,tv,to,fn⟩ a).length=(agd tb):=Iw _ _;obtain ⟨r,hr,n,v,s,z,bQ,hz,hq⟩:=wa B3 (GG B3 8) hf (Q:=fun (r:gd ko) p vv z'=>z'=[]/\gu (agd tb) p vv=agV/\
  R (eO.sb ⟨ka,ta,tb,ko,tv,to,fn⟩ r) (eO.vb ⟨ka,ta,tb,ko,tv,to,fn⟩ r) p/\cd (eO.sb ⟨ka,ta,tb,ko,tv,to,fn⟩ r) (vv.take (agd tb))/\
  (eO.sb ⟨ka,ta,tb,ko,tv,to,fn⟩ r).length=(eO.sa ⟨ka,ta,tb,ko,tv,to,fn⟩ a).length/\
  ∀(t:Nat) (x y:SB),(eO.sa ⟨ka,ta,tb,ko,tv,to,fn⟩ a)[t]? =age x->(eO.sb ⟨ka,ta,tb,ko,tv,to,fn⟩ r)[t]? =age y->P' x y) ha hS hb (fun v s' z' p vv vu w' y' hv hS' hk=>by
  cases z' with
  |cons _ _=>cases hk
  |nil=>
   dsimp only at hk;obtain ⟨hc,hk⟩:=cq hk;simp only [v6] at hc;obtain ⟨⟨⟨⟨c1,c2⟩,c3⟩,c4⟩,c5⟩:=hc;obtain ⟨hk,f1,f2⟩:=DG hk;obtain ⟨r,hr,hk⟩:=bB hk;injection hk with hk;have hu:R s' (bif wd then E' s' v else v) p:=by
    cases wd with
    |true=>exact Mc hv
    |false=>exact hv
   generalize (bif wd then E' s' v else v)=u at c1 c3 c4 hr hu;have CO:=nB hr;have hvb:eO.vb ⟨ka,ta,tb,ko,tv,to,fn⟩ r=u:=by show (qS tv (jR ko r)).1=u;rw [CO,Cj _ c1]
   have hsb:eO.sb ⟨ka,ta,tb,ko,tv,to,fn⟩ r=s'.take (agd tb):=by show (yC to (qS tv (jR ko r)).2).1=_;rw [CO,Cj _ c1];have:=zS [] c2;rw [adZ] at this;rw [this]
   have kC:(agd tb)<=(agd s'):=by
    have:=f1;rw [ae8] at this;have h2:(eO.sa ⟨ka,ta,tb,ko,tv,to,fn⟩ a).length=(agd tb):=cy;have h3:min (agd tb) (agd s')=(agd tb):=by rw [this];exact h2
    omega
   unfold YN at c3;rw [aep] at c3;have hkv: ∀t∈Kh qO u,t<(agd tb):=fun t ht=>by simpa using c3 t (aeH _ ht)
   have hkb: ∀b∈s'.take (agd tb),∀t∈C' b,t<(agd tb):=fun b hb t ht=>by simpa using c3 t (aeE _ (afL.2 ⟨b,hb,ht⟩))
   have oK:cd (s'.take (agd tb)) (vv.take (agd tb)):=⟨by simp [hS'.len],fun t x hx=>by
    have dz:t<(agd tb):=by have:=(ww.1 hx).1;rw [ae8] at this;omega
    have hx':=hx;rw [IR dz] at hx';obtain ⟨q,q1,q2⟩:=hS'.at_ t x hx';refine ⟨q,by rw [IR dz];exact q1,?_⟩;cases x with
    |box cs=>obtain ⟨pc,rfl,hpc⟩:=q2;exact ⟨pc,rfl,RL.DF hpc (hkb _ (aew hx))⟩
    |_=>exact q2⟩
   refine ⟨r,hk.symm,rfl,?_,by rw [hvb,hsb];exact R.take hu hkv,by rw [hsb];exact oK,by rw [hsb];exact f1,by rw [hsb];exact f2⟩;unfold gu;rw [aep];intro t ht;rw [afZ] at ht;rcases ht with ht|ht
   · rw [<- P2 (bx:=qO) (fun _=>rfl) hu c4] at ht
     simpa using hkv t ht
   rw [afL] at ht
   obtain ⟨q,hq,ht⟩:=ht;obtain ⟨j,hj,he⟩:=aeI hq;have JM:j<(s'.take (agd tb)).length:=by rw [<- oK.len];exact hj
   obtain ⟨x,hx⟩: ∃x,(s'.take (agd tb))[j]? =age x:=⟨_,If JM⟩;obtain ⟨q',q1,q2⟩:=oK.at_ j x hx;rw [If hj,he] at q1;injection q1 with q1;subst q1;rw [<- Gv q2 (DH c5 j x hx)] at ht;simpa using hkb x (aew hx) t ht)
 have ZT:b=r:=hr;subst ZT;subst hz;refine ⟨n,v,s,bQ,?_⟩;rw [cy];obtain ⟨h1,h2,h3,h4,h5⟩:=hq;exact ⟨h1,h2,h3,by rw [h4,cy],h5⟩
theorem KJ {f:FuncId} {r:List PT} (hf:F f=age (.jf ah0 (eJ (agd r)))) (l:List (RT r)) (hl:(agd l)<=1048576) {as:List PV} {aD:bY} {fz:List Nat} (hex:As aD (vw aD deep) as=age [.sl (agd r) ah0 (l.map (RT.pv r))]):
 ∃n x,cW F (run F n) ah0 f as aD fz=age x/\YU .own (agd aD) (dd (cP aD deep) as) (.sl r l) x:=by
 refine ⟨0,{v:= .own (agd aD) (agd r) 0 (agd l) (agd l) ah0,news:=[.arr (agd r) (l.map (RT.pv r))],rd:=dd (cP aD deep) as},?_,.sl (agd r) ah0 (l.map (RT.pv r)),.own (agd aD) (agd r) 0 (agd l) (agd l) ah0,[.arr (agd r) (l.map (RT.pv r))],rfl,by simp only [Dw,ae0],rfl⟩;simp only [cW,hex,hf];cases l with
 |nil=>rfl
 |cons a l=>
  have h2:NE ((l.map (RT.pv r)).length+1) jU=agV:=by simp [jU] at hl ⊢;omega
  simp only [ae1,eJ,ae5,h2,ae2,if_true,xK];simp [has]
theorem eg.clone {f:FuncId} {n:Nat} {r:List PT} (hf:F f=age (.jf ah0 (eJ n))) (hn:n=agd r):eg F f (sZ.clone r):=by
 intro (a:List (RT r)) (b:List (RT r)) as pa aD fz hb OX hex;subst hn;have hb:cD a=age b:=hb;obtain ⟨rfl,hl⟩:=yH hb;have Z3:pa=[.sl (agd r) ah0 (b.map (RT.pv r))]:=by have:age [PV.sl (agd r) ah0 (b.map (RT.pv r))]=age pa:=OX;exact (aet this).symm
 subst Z3;exact KJ hf b hl hex
theorem eg.L7 {f:FuncId} (hf:F f=age (.jf ah0 yf)):eg F f sZ.L7:=by
 intro a b as pa aD fz hb OX hex;obtain ⟨x,y,c⟩:=a;have wW:nA x y c=age b:=hb;unfold nA at wW;cases hc:(ah1 (0<=x)&&ah1 (0<=y)&&ah1 (0<=c)&&ah1 (c<=1)) with
 |false=>rw [hc] at wW;cases wW
 |true=>
  rw [hc] at wW;injection wW with wW;subst wW;simp only [v6,decide_eq_true_eq] at hc;obtain ⟨⟨⟨h1,h2⟩,h3⟩,h4⟩:=hc;obtain ⟨x,rfl⟩:=adc h1;obtain ⟨y,rfl⟩:=adc h2;obtain ⟨c,rfl⟩:=adc h3;have Z3:pa=[.int .u64 (.ofNat x),.int .u64 (.ofNat y),.int .u64 (.ofNat c)]:=by have:age [PV.int .u64 (x:Int),.int .u64 (y:Int),.int .u64 (c:Int)]=age pa:=OX;exact (aet this).symm
  subst Z3;have hcb:NE c 1=agV:=by simp;omega
  refine ⟨0,{v:= .cj [.int .u64 (.ofNat ((x+y+c)%18446744073709551616)),.int .u64 (.ofNat ((x+y+c) / 18446744073709551616))],rd:=dd (cP aD deep) as},?_,_,rfl,rfl⟩;show cW F (run F 0) ah0 f as aD fz=_;simp only [cW,hex,hf,yf,hcb,if_true];rfl
theorem s7.zero {f:FuncId} {c:eO} (h: ∀a,c.fn a=agn):s7 F f c:=fun a b pa ps hb=>by rw [h a] at hb;cases hb
theorem eg.zero {f:FuncId} {c:sZ} (h: ∀a,c.fn a=agn):eg F f c:=fun a b as pa aD fz hb=>by rw [h a] at hb;cases hb
theorem eg.at0 {f:FuncId} {fn:Unit->Option Bool} (h:eg F f ⟨aC.nil,Arg.bool,fn,.pure,ah0⟩) (hb:fn ()=age agV):eg F f ⟨aC.nil,Arg.bool,fun _=>age agV,.pure,ah0⟩:=by intro a b as args aD fz hr hp hx;obtain rfl:agV=b:=aet hr;exact h () agV as args aD fz hb hp hx
end
end Go.Vm
/- What comes in to a law, as typed values; a law from a contract. -/
namespace Go.Vm
open Go.ChangeShapes Go.WideShapes Go.ChangeAt Go.RowKit
def PT.wf:(p:PT)->p.T->Prop
 | .i k,n=>(Lit.int k n).wf=agV
 | .b,_=>True
def RT.wf:(r:List PT)->RT r->Prop
 | [],_=>True
 | [p],a=>p.wf a
 |p::q::r,a=>p.wf a.1/\RT.wf (q::r) a.2
def fc (r:List PT) (vs:List SV):Prop:= ∃a:RT r,vs=RT.sv r a/\RT.wf r a
def EM (r:List PT) (vs:List SV):Prop:= ∃l:List (RT r),vs=[.sl r l]/\ ∀a∈l,RT.wf r a
def SL:List (List SV->Prop)->List SV->Prop
 | [],vs=>vs=[]
 |K::Ks,vs=> ∃a b,vs=a++b/\K a/\SL Ks b
theorem fc.cons {p:PT}: ∀{r:List PT} {a b:List SV},fc [p] a->fc r b->fc (p::r) (a++b)
 | [],a,b,⟨x,hx,wx⟩,⟨y,hy,_⟩=>⟨x,by rw [hx,hy];rfl,wx⟩
 |q::r,a,b,⟨x,hx,wx⟩,⟨y,hy,wy⟩=>⟨(x,y),by rw [hx,hy];rfl,wx,wy⟩
theorem fc.split {p q:PT} {r:List PT} {vs:List SV}:fc (p::q::r) vs-> ∃a b,vs=a++b/\fc [p] a/\fc (q::r) b
 |⟨x,hx,wx⟩=>⟨[p.sv x.1],RT.sv (q::r) x.2,hx,⟨x.1,rfl,wx.1⟩,⟨x.2,rfl,wx.2⟩⟩
theorem fc.app: ∀{r s:List PT} {a b:List SV},fc r a->fc s b->fc (r++s) (a++b)
 | [],s,a,b,⟨x,hx,_⟩,h=>by have:a=[]:=hx;subst this;exact h
 | [p],s,a,b,h,k=>fc.cons h k
 |p::q::r,s,a,b,h,k=>by
  obtain ⟨a1,a2,rfl,h1,h2⟩:=fc.split h
  rw [adV];exact fc.cons h1 (fc.app h2 k)
theorem kF: ∀{rs:List (List PT)} {vs:List SV},SL (rs.map fc) vs->fc rs.flatten vs
 | [],vs,h=>by have:vs=[]:=h;subst this;exact ⟨(),rfl,trivial⟩
 |r::rs,vs,⟨a,b,h1,h2,h3⟩=>by subst h1;rw [List.flatten_cons];exact fc.app h2 (kF h3)
def bE (P : Program) (t : TypeId) (K : List SV -> Prop) : Prop :=
  ∀ (H : Type) (enc : TypeId × Value -> H) (w : World) (yv : Nat) (cs : List Value) (x : DataW H × List MemPlace), DataW.trod enc P w 0 (fun _ => agV) agV yv t cs = age x ->
    ∃ vs q, K vs /\ pq vs = age q /\ eh (EJ w) fB q cs
section
variable {P : Program}
theorem bE.mono {t:TypeId} {K K':List SV->Prop} (h:bE P t K) (hk: ∀vs,K vs->K' vs):bE P t K':=fun H enc w yv cs x hx=>by obtain ⟨vs,q,h1,h2,h3⟩:=h H enc w yv cs x hx;exact ⟨vs,q,hk vs h1,h2,h3⟩
theorem bE.int {t:TypeId} {k:IntKind} (ht:P.underlying t=age (.int k)):bE P t (fc [.i k]):=fun H enc w yv cs x h=>by obtain ⟨n,rfl,_,hw⟩:=DataW.trod_int ht h;exact ⟨[.int k n],[.int k n],⟨n,rfl,hw⟩,rfl,.cons _ _ _ _ (.int k n) .nil⟩
theorem bE.bool {t:TypeId} (ht:P.underlying t=age .bool):bE P t (fc [.b]):=fun H enc w yv cs x h=>by obtain ⟨b,rfl,_⟩:=DataW.trod_bool ht h;exact ⟨[.bool b],[.bool b],⟨b,rfl,trivial⟩,rfl,.cons _ _ _ _ (.bool b) .nil⟩
def aO (P:Program):List Field->List (List SV->Prop)->Nat->Prop
 | [],[],_=>True
 |f::fs,K::Ks,off=>f.offset=off/\bE P f.type K/\aO P fs Ks (off+P.cellsOf f.type)
 |_,_,_=>False
theorem aO.nil {off:Nat}:aO P [] [] off:=trivial
theorem aO.cons {f:Field} {fs:List Field} {K:List SV->Prop} {Ks:List (List SV->Prop)} {off:Nat} (h1:f.offset=off) (h2:bE P f.type K) (h3:aO P fs Ks (off+P.cellsOf f.type)):aO P (f::fs) (K::Ks) off:=⟨h1,h2,h3⟩
def wb (P:Program):List Field->Nat
 | []=>0
 |f::fs=>P.cellsOf f.type+wb P fs
theorem DI {im:Im} {loc:Loc}: ∀{p:List PV} {vs:List Value} {q:List PV} {us:List Value},eh im loc p vs->eh im loc q us->eh im loc (p++q) (vs++us)
 | [],[],_,_,.nil,h=>h
 |_::_,_::_,_,_,.cons x v xs ws h hs,k=> .cons x v _ _ h (DI hs k)
theorem DJ {H:Type} {enc:TypeId×Value->H} {w:World} {n:Nat} {cs:List Value}: ∀{fs:List Field} {Ks:List (List SV->Prop)} {off:Nat},aO P fs Ks off->agd cs=off+wb P fs->
 (∀f∈fs,∃x,DataW.trod enc P w 0 (fun _=>agV) agV n f.type ((cs.drop f.offset).take (P.cellsOf f.type))=age x)-> ∃vs q,SL Ks vs/\pq vs=age q/\eh (EJ w) fB q (cs.drop off)
 | [],[],off,_,hl,_=>⟨[],[],rfl,rfl,by rw [List.drop_eq_nil_of_le (by simp [wb] at hl;omega)];exact .nil⟩
 |f::fs,K::Ks,off,⟨h1,h2,h3⟩,hl,hx=>by
  obtain ⟨x,Oo⟩:=hx f (by simp);obtain ⟨vs,q,k1,k2,k3⟩:=h2 H enc w n _ x Oo;obtain ⟨JD,q',k1',k2',k3'⟩:=DJ (n:=n) h3 (by simp only [wb] at hl;omega) (fun g hg=>hx g (by simp [hg]));refine ⟨vs++JD,q++q',⟨vs,JD,rfl,k1,k1'⟩,yE k2 k2',?_⟩;rw [h1] at k3;have:cs.drop off=(cs.drop off).take (P.cellsOf f.type)++cs.drop (off+P.cellsOf f.type):=by rw [<- List.drop_drop,List.take_append_drop]
  rw [this];exact DI k3 k3'
 | [],_::_,_,h,_,_=>h.elim
 |_::_,[],_,h,_,_=>h.elim
theorem bE.struct {t:TypeId} {fs:Array Field} {Ks:List (List SV->Prop)} (ht:P.underlying t=age (.struct fs)) (hF:aO P fs.toList Ks 0) (hc:P.cellsOf t=wb P fs.toList):bE P t (SL Ks):=fun H enc w yv cs x h=>by
 obtain ⟨xs,n,rfl,_,hl,hxl,pN⟩:=DataW.trod_struct ht h;have:=DJ (P:=P) (enc:=enc) (w:=w) (n:=n) (cs:=cs) hF (by omega) (fun f hf=>by
  obtain ⟨i,hi,he⟩:=List.mem_iff_getElem.1 hf;have pE:i<fs.size:=by simpa using hi
  have hg:fs[i]? =age f:=by rw [Array.getElem?_eq_getElem pE];simpa using he
  have:=pN i f hg;rw [If (by omega)] at this;exact ⟨_,this⟩)
 rwa [aeq] at this
theorem RT.vrl {r:List PT} {a:RT r} {q:List PV} (h:pq (RT.sv r a)=age q):q=RT.pv r a:=by rw [RT.Fb] at h;exact (aet h).symm
theorem eh.nth {im:Im} {loc:Loc}: ∀{p:List PV} {vs:List Value},eh im loc p vs-> ∀(k:Nat) (c:PV),p[k]? =age c-> ∃v,vs[k]? =age v/\VR im loc c v
 |_::_,_::_,.cons x v xs ws h hs,0,c,hc=>by simp at hc;subst hc;exact ⟨v,by simp,h⟩
 |_::_,_::_,.cons x v xs ws h hs,k+1,c,hc=>by obtain ⟨u,h1,h2⟩:=eh.nth hs k c (by simpa using hc);exact ⟨u,by simpa using h1,h2⟩
theorem bE.slice {t e:TypeId} {r:List PT} (ht:P.underlying t=age (.slice e)) (he:bE P e (fc r)) (hc:P.cellsOf e=agd r) (hr:0<agd r):bE P t (EM r):=fun H enc w yv cs x h=>by
 rcases Go.Deep.open_slice ht h with ⟨rfl,_⟩|⟨a,len,cap,m,n,D,Pl,rfl,_,hl,hm,hmm,_,hx⟩
 · exact ⟨[.sl r []],[.sl (agd r) ah0 []],⟨[],rfl,by simp⟩,rfl,.cons _ _ _ _ (.sl (agd r) ah0 [] agn 0 (af2 _) (fun h=>by cases h) (fun h=>absurd rfl h)) .nil⟩
 have AM:len<=m:=by rw [hmm];split<;>omega
 have each: ∀i,i<len-> ∃A:RT r,RT.wf r A/\ ∃ET,w.cells? 0 (a.add (i*agd r)) (agd r)=age ET/\eh (EJ w) fB (RT.pv r A) ET:=by intro i hi;obtain ⟨ET,h1,h2⟩:=hx i (by omega);obtain ⟨vs,q,⟨A,hA,wA⟩,k2,k3⟩:=he H enc w n ET _ h2;subst hA;rw [RT.vrl k2] at k3;rw [hc] at h1;exact ⟨A,wA,ET,h1,k3⟩
 have ch: ∃A:Nat->RT r,∀i,i<len->RT.wf r (A i)/\ ∃ET,w.cells? 0 (a.add (i*agd r)) (agd r)=age ET/\eh (EJ w) fB (RT.pv r (A i)) ET:=by
  classical
  refine ⟨fun i=>if h:i<len then (each i h).choose else RT.zero r,fun i hi=>?_⟩;simp only [dif_pos hi];exact (each i hi).choose_spec
 obtain ⟨A,hA⟩:=ch;refine ⟨[.sl r ((afl len).map A)],[.sl (agd r) ah0 (((afl len).map A).map (RT.pv r))],⟨_,rfl,fun x hx=>?_⟩,rfl,.cons _ _ _ _ ?_ .nil⟩
 · obtain ⟨i,hi,rfl⟩:=afC.1 hx
   exact (hA i (List.mem_range.1 hi)).1
 have cy:(((afl len).map A).map (RT.pv r)).length=len:=by simp
 have:=VR.sl (im:=EJ w) (loc:=fB) (agd r) ah0 (((afl len).map A).map (RT.pv r)) (age a) cap (by rw [cy];exact hl) (fun h=>by cases h) (fun dZ=>by
  have M3:0<len:=by
   rcases afk len with h|h
   · subst h;exact absurd rfl dZ
   exact h
  obtain ⟨_,cs0,h0,_⟩:=hA 0 M3;obtain ⟨_,G7,Ey⟩:=afF h0;obtain ⟨b,off,spot⟩:=a;have agf:spot=agn:=by have h1:=Ey 0 hr;rw [If (by omega)] at h1;simpa [Addr.add] using World.cell?_spot h1
  subst agf;refine ⟨b,off,rfl,fun i row sL=>?_⟩;simp only [List.map_map,List.getElem?_map,ae6] at sL;obtain ⟨j,hj,rfl⟩:=sL;have JM:=ck hj;have:j=i:=by rw [List.getElem?_range (by simpa using JM)] at hj;exact (aet hj).symm
  subst this;have agh:j<len:=by simpa using JM
  obtain ⟨_,ET,h1,h2⟩:=hA j agh;obtain ⟨_,Lz,ze⟩:=afF h1;refine ⟨RT.tT r (A j),fun k c hk=>?_⟩;obtain ⟨v,hv,nb⟩:=eh.nth h2 k c hk;have hkr:k<(agd r):=by
   have:=ck hk
   rwa [Function.comp,RT.tT] at this
  have cc:=ze k hkr;rw [hv] at cc;rw [Go.WideShapes.add_plain,Go.WideShapes.add_plain] at cc;have JL:c.plain=agV:=aep.1 (RT.plain r (A j)) c (aew hk);exact ⟨v,nb.plain JL,Nx cc⟩)
 rw [cy] at this;exact this
theorem bE.agi {t:TypeId} {fs:Array Field} {K:List SV->Prop} (h:bE P t K) (ht:P.underlying t=age (.struct fs)) {H:Type} {enc:TypeId×Value->H} {w:World} {qo:Nat} {v:Value} {d:DataW H} {p:List MemPlace}
 (hv:Value.okWide P w .any qo t v) (hd:DataW.Trod enc P w 0 (fun _=>agV) agV t v d p): ∃vs q,K vs/\pq vs=age q/\VR (EJ w) fB (.agg q) v:=by
 obtain ⟨cs,rfl,_⟩:=okWide_struct ht hv;obtain ⟨yv,hf⟩:=hd;obtain ⟨vs,q,k1,k2,k3⟩:=h H enc w yv _ _ hf;exact ⟨vs,q,k1,k2,.agg q _ k3⟩
theorem wf_i64 {n:Int} (h:(Lit.int .i64 n).wf=agV): -9223372036854775808<=n/\n<9223372036854775808:=by
 simp only [Lit.wf,v6,decide_eq_true_eq] at h;have e1:IntKind.i64.min= -9223372036854775808:=by decide
 have e2:IntKind.i64.max=9223372036854775807:=by decide
 rw [e1,e2] at h;omega
end
theorem eg.aj0 {F:kW} {f:FuncId} {x:aL} {α:Type} {A:aC α} {fn:α->Option Bool} (h:eg F f ⟨A,Arg.bool,fn,.pure,ah0⟩) (hf:F f=age (.code x)) {a:α} (hb:fn a=age agV) {ps:List PV} (hp:pq (A.enc a)=age ps) (hx:As [] (vw [] deep) ps=age ps):
 ∃n s z,run F n (.func f ps [] [])=age (.func (.bool agV) s z):=by
 obtain ⟨n,r,h1,p,h2,rfl⟩:=h a agV ps ps [] [] hb hp hx;have hp':p= .bool agV:=(aet h2).symm;subst hp';refine ⟨n,?_⟩;simp only [cW,hx,hf] at h1;split at h1
 · rename_i v s z hr
   simp only [UV,if_false] at h1;split at h1
   · injection h1 with h1
     injection h1 with h1;subst h1;exact ⟨s,z,hr⟩
   rename_i hn
   split at h1
   · rename_i v' hv
     injection h1 with h1;injection h1 with h1;subst h1;exfalso;cases v with
     |bool b=>exact hn rfl
     |int _ _|str _|sl _ _ _=>injection hv with hv;cases hv
     |agg cs=>simp only [wT,ae6] at hv;obtain ⟨_,_,hv⟩:=hv;cases hv
     |cj cs=>simp only [wT,ae6] at hv;obtain ⟨_,_,hv⟩:=hv;cases hv
     |own t e off len cap ex=>simp only [wT] at hv;split at hv<;>first|(injection hv with hv;cases hv)|cases hv
     |_=>cases hv
   cases h1
 cases h1
end Go.Vm
