/- The logical machine, part 3: SvCod, SvRel, SvOps1, SvOps2, SvOps3, SvOps4, SvNorm, SvCall, SvFp, SvRun, SvCon, SvLaw. -/
import Derived.Test.YtclphlgnjkajbaaGreatSVm2
open Nat renaming eq_of_beq_eq_true->v6,ble->PP,beq->UV,le_of_ble_eq_true->aah,beq_refl->ac0,lt_or_ge->aeh,zero_add->aeu,beq_eq->aeB,min_eq_left->aeH,le_refl->aeJ,blt->aeK,eq_zero_or_pos->aeP,le_of_lt->aeS,sub_self->afi
open Bool renaming and_eq_true->ww,false_eq_true->WF,not_eq_true'->aav,and_self->aaS,not_false->aeb,and_true->aew,not_true->aeN,or_eq_true->afg,true->aft,false->afu
open List renaming getElem?_eq_some_iff->AC,getElem?_append_left->Do,getElem?_append_right->EQ,getElem?_eq_getElem->IR,getElem?_take_of_lt->M2,getElem?_set->NE,length_cons->aax,append_assoc->aaz,append_nil->aaB,length_map->aaC,map_cons->aaG,replicate->ac2,length_take->acl,map_take->acZ,take_of_length_le->ad2,all_eq_true->ad8,drop_zero->ae1,getElem?_cons_succ->ae6,map_append->ae7,mem_of_getElem?->aeg,getElem?_eq_none_iff->aep,map_drop->aeq,mem_cons_self->aer,mem_singleton->aes,length_eq_zero_iff->aet,mem_append_right->aev,mem_cons_of_mem->aex,mem_append_left->aey,getElem_of_mem->aez,length_append->aeC,getElem?_cons_zero->aeE,cons_append->aeG,nodup_cons->aeI,take_succ_cons->aeL,all_cons->aeM,cons_beq_cons->aeO,range->aeQ,map_set->aeR,ext_getElem?->aeT,map_nil->aeX,flatMap_cons->aeY,mem_map->aeZ,any_eq_true->afa,length_drop->afb,mem_flatMap->afc,all_append->afd,mem_append->afe,any_cons->afh,all_map->afj,length->afk
open Option.some renaming injEq->If,inj->adc
open Int renaming eq_ofNat_of_zero_le->aal,ofNat->ae8,le_trans->aeA
open Prod.mk renaming injEq->aau
open Option renaming map_eq_some_iff->ac1,isSome_iff_exists->aeD,getD_none->aeF,getD_some->af6,some->afr,none->afs
open Go.World renaming cells?_some->af5
open Decidable renaming decide->afv
/- The types of arguments and results, as cells. -/
namespace Go.Vm
theorem od {r q:List PT} {l:List (RT r)} {m:List (RT q)} (h:qJ r q l=afr m): ∃e:r=q,m=e▸l:=by
 unfold qJ at h;split at h
 · rename_i hs
   injection h with h;exact ⟨ui hs,h.symm⟩
 cases h
theorem AS {r q:List PT} {l:List (RT r)} {m:List (RT q)} (h:qJ r q l=afr m):r=q/\m.map (RT.pv q)=l.map (RT.pv r)/\afk m=(afk l):=by obtain ⟨rfl,rfl⟩:=od h;exact ⟨rfl,rfl,rfl⟩
theorem ek {x:SV} {xs:List SV} {ps:List PV}:qM (x::xs)=afr ps↔ ∃p qs,ps=p::qs/\qL x=afr p/\qM xs=afr qs:=by
 simp only [qM];constructor
 · intro h
   split at h
   · rename_i y ys h1 h2
     injection h with h;exact ⟨y,ys,h.symm,h1,h2⟩
   cases h
 rintro ⟨p,qs,rfl,h1,h2⟩
 rw [h1,h2]
theorem zL: ∀{xs ys:List SV} {p q:List PV},qM xs=afr p->qM ys=afr q->qM (xs++ys)=afr (p++q)
 | [],ys,p,q,h,k=>by simp only [qM,If] at h;subst h;exact k
 |x::xs,ys,p,q,h,k=>by obtain ⟨a,as,rfl,h1,h2⟩:=ek.1 h;exact ek.2 ⟨a,as++q,rfl,h1,zL h2 k⟩
theorem PT.oO: ∀{p:PT} {v:SV} {a:p.T},p.of v=afr a->v=p.sv a
 | .i k,.int l n,a,h=>by
  simp only [PT.of] at h;cases hk:fk l k with
  |false=>rw [hk] at h;cases h
  |true=>rw [hk] at h;injection h with h;subst h;rw [eU.1 hk];rfl
 | .b,.bool x,a,h=>by injection h with h;subst h;rfl
 | .i k,.bool _,a,h=>by cases h
 | .b,.int _ _,a,h=>by cases h
 | .i _,.gH,a,h| .i _,.undef,a,h| .i _,.jd,a,h| .i _,.dH,a,h| .i _,.str _,a,h| .i _,.agg _,a,h| .i _,.cy _,a,h| .i _,.sl _ _,a,h| .i _,.nil _ _,a,h| .i _,.own _ _,a,h| .i _,.pre _ _ _ _,a,h| .i _,.part _ _ _ _ _,a,h| .i _,.pa _ _ _ _ _,a,h| .i _,.pb _ _ _,a,h| .i _,.bp _ _ _,a,h| .i _,.bD _ _,a,h| .i _,.ez _ _ _,a,h| .i _,.mp _,a,h=>by cases h
 | .b,.gH,a,h| .b,.undef,a,h| .b,.jd,a,h| .b,.dH,a,h| .b,.str _,a,h| .b,.agg _,a,h| .b,.cy _,a,h| .b,.sl _ _,a,h| .b,.nil _ _,a,h| .b,.own _ _,a,h| .b,.pre _ _ _ _,a,h| .b,.part _ _ _ _ _,a,h| .b,.pa _ _ _ _ _,a,h| .b,.pb _ _ _,a,h| .b,.bp _ _ _,a,h| .b,.bD _ _,a,h| .b,.ez _ _ _,a,h| .b,.mp _,a,h=>by cases h
theorem RT.oO: ∀{r:List PT} {vs:List SV} {a:RT r},RT.of r vs=afr a->vs=RT.sv r a
 | [],[],a,_=>rfl
 | [p],[v],a,h=>by have:=PT.oO (p:=p) h;rw [this];rfl
 |p::q::r,v::vs,a,h=>by
  simp only [RT.of] at h;split at h
  · rename_i x y h1 h2
    injection h with h;subst h;rw [PT.oO h1,RT.oO h2];rfl
  cases h
 | [],_::_,a,h=>by simp [RT.of] at h
 | [p],[],a,h=>by simp [RT.of] at h
 | [p],_::_::_,a,h=>by simp [RT.of] at h
 |_::_::_,[],a,h=>by simp [RT.of] at h
theorem PT.GO (p:PT) (a:p.T):qL (p.sv a)=afr (p.pv a):=by cases p<;>rfl
theorem RT.GO: ∀(r:List PT) (a:RT r),qM (RT.sv r a)=afr (RT.pv r a)
 | [],_=>rfl
 | [p],a=>ek.2 ⟨_,_,rfl,PT.GO p a,rfl⟩
 |p::q::r,a=>ek.2 ⟨_,_,rfl,PT.GO p a.1,RT.GO (q::r) a.2⟩
theorem RT.u5: ∀(r:List PT) (a:RT r),(RT.pv r a).length=afk r
 | [],_=>rfl
 | [p],a=>rfl
 |p::q::r,a=>by simp [RT.pv,RT.u5 (q::r) a.2]
theorem RT.Ij: ∀(r:List PT) (a:RT r),(RT.sv r a).length=afk r
 | [],_=>rfl
 | [p],a=>rfl
 |p::q::r,a=>by simp [RT.sv,RT.Ij (q::r) a.2]
theorem GP: ∀(n:Nat) {vs:List SV} {ps:List PV},qM vs=afr ps-> ∃p q,ps=p++q/\qM (vs.take n)=afr p/\qM (vs.drop n)=afr q
 |0,vs,ps,h=>⟨[],ps,rfl,by simp [qM],by simpa using h⟩
 |n+1,[],ps,h=>⟨[],ps,rfl,by simp [qM],by simpa using h⟩
 |n+1,v::vs,ps,h=>by obtain ⟨p,qs,rfl,h1,h2⟩:=ek.1 h;obtain ⟨a,b,rfl,h3,h4⟩:=GP n h2;exact ⟨p::a,b,rfl,by rw [aeL];exact ek.2 ⟨p,a,rfl,h1,h3⟩,by simpa using h4⟩
def dY.int (k:IntKind):dY Int where
 enc n:=[.int k n]
 dec vs:=match vs with
  | .int l n::r=>bif fk l k then afr (n,r) else afs
  |_=>afs
 law:=fun {vs a rest ps} h hp=>by
  split at h
  · rename_i l n r
    cases hk:fk l k with
    |false=>rw [hk] at h;cases h
    |true=>rw [hk] at h;simp only [lw,If,aau] at h;obtain ⟨rfl,rfl⟩:=h;obtain ⟨p,qs,rfl,h1,h2⟩:=ek.1 hp;rw [eU.1 hk] at h1;exact ⟨[p],qs,rfl,ek.2 ⟨p,[],rfl,h1,rfl⟩,h2⟩
  cases h
def dY.bool:dY Bool where
 enc n:=[.bool n]
 dec vs:=match vs with
  | .bool n::r=>afr (n,r)
  |_=>afs
 law:=fun {vs a rest ps} h hp=>by
  split at h
  · simp only [If,aau] at h
    obtain ⟨rfl,rfl⟩:=h;obtain ⟨p,qs,rfl,h1,h2⟩:=ek.1 hp;exact ⟨[p],qs,rfl,ek.2 ⟨p,[],rfl,h1,rfl⟩,h2⟩
  cases h
def NY (r:List PT):SV->Option (List (RT r))
 | .sl q l=>qJ q r l
 | .nil e c=>bif UV e (afk r)&&!c then afr [] else afs
 |_=>afs
theorem GQ {r:List PT} {v:SV} {l:List (RT r)} {p:PV} (h:NY r v=afr l) (hp:qL v=afr p):qL (.sl r l)=afr p:=by
 cases v with
 |sl q m=>obtain ⟨rfl,h2,_⟩:=AS h;rw [<- hp];simp only [qL,h2]
 |nil e c=>
  simp only [NY] at h;cases hc:(UV e (afk r)&&!c) with
  |false=>rw [hc] at h;cases h
  |true=>rw [hc] at h;injection h with h;subst h;simp only [ww,aeB,aav] at hc;obtain ⟨rfl,rfl⟩:=hc;rw [<- hp];rfl
 |_=>cases h
def dY.sl (r:List PT):dY (List (RT r)) where
 enc l:=[.sl r l]
 dec vs:=match vs with
  |v::rest=>match NY r v with
   |some l=>afr (l,rest)
   |none=>afs
  | []=>afs
 law:=fun {vs a rest ps} h hp=>by
  split at h
  · split at h
    · rename_i v r' x l hl
      simp only [If,aau] at h;obtain ⟨rfl,rfl⟩:=h;obtain ⟨p,qs,rfl,h1,h2⟩:=ek.1 hp;exact ⟨[p],qs,rfl,ek.2 ⟨p,[],rfl,GQ hl h1,rfl⟩,h2⟩
    cases h
  cases h
def dY.row (r:List PT):dY (RT r) where
 enc:=RT.sv r
 dec vs:=match RT.of r (vs.take (afk r)) with
  |some a=>afr (a,vs.drop (afk r))
  |none=>afs
 law:=fun {vs a rest ps} h hp=>by
  split at h
  · rename_i x hx
    simp only [If,aau] at h;obtain ⟨rfl,rfl⟩:=h;obtain ⟨p,q,rfl,h1,h2⟩:=GP (afk r) hp;rw [RT.oO hx] at h1;exact ⟨p,q,rfl,h1,h2⟩
  cases h
def dY.prod {α β:Type} (A:dY α) (B:dY β):dY (α×β) where
 enc p:=A.enc p.1++B.enc p.2
 dec vs:=match A.dec vs with
  |some p=>match B.dec p.2 with
   |some q=>afr ((p.1,q.1),q.2)
   |none=>afs
  |none=>afs
 law:=fun {vs a rest ps} h hp=>by
  split at h
  · rename_i p hA
    split at h
    · rename_i q hB
      simp only [If,aau] at h;obtain ⟨rfl,rfl⟩:=h;obtain ⟨p1,p2,rfl,h1,h2⟩:=A.law (a:=p.1) (rest:=p.2) hA hp;obtain ⟨q1,q2,rfl,h3,h4⟩:=B.law (a:=q.1) (rest:=q.2) hB h2;exact ⟨p1++q1,q2,by simp,zL h1 h3,h4⟩
    cases h
  cases h
def dY.iso {α β:Type} (A:dY α) (f:α->β) (g:β->α) (h: ∀a,g (f a)=a):dY β where
 enc b:=A.enc (g b)
 dec vs:=match A.dec vs with
  |some p=>afr (f p.1,p.2)
  |none=>afs
 law:=fun {vs a rest ps} hd hp=>by
  split at hd
  · rename_i p hA
    simp only [If,aau] at hd;obtain ⟨rfl,rfl⟩:=hd;rw [h];exact A.law hA hp
  cases hd
def Arg.int (k:IntKind):Arg Int where
 enc n:= .int k n
 dec v:=match v with
  | .int l n=>bif fk l k then afr n else afs
  |_=>afs
 law:=fun {v a p} h hp=>by
  split at h
  · rename_i l n
    cases hk:fk l k with
    |false=>rw [hk] at h;cases h
    |true=>rw [hk] at h;injection h with h;subst h;rw [eU.1 hk] at hp;exact hp
  cases h
def Arg.bool:Arg Bool where
 enc n:= .bool n
 dec v:=match v with
  | .bool n=>afr n
  |_=>afs
 law:=fun {v a p} h hp=>by
  split at h
  · injection h with h;subst h;exact hp
  cases h
def Arg.sl (r:List PT):Arg (List (RT r)) where
 enc l:= .sl r l
 dec:=NY r
 law:=GQ
def Arg.agg {α:Type} (A:dY α):Arg α where
 enc a:= .agg (A.enc a)
 dec v:=match v with
  | .agg cs=>match A.dec cs with
   |some p=>match p.2 with
    | []=>afr p.1
    |_=>afs
   |none=>afs
  |_=>afs
 law:=fun {v a p} h hp=>by
  split at h
  · rename_i cs
    split at h
    · rename_i q hA
      obtain ⟨x,rest⟩:=q;dsimp only at h;cases rest with
      |cons _ _=>cases h
      |nil=>
       injection h with h;subst h;simp only [qL] at hp;cases hc:qM cs with
       |none=>rw [hc] at hp;cases hp
       |some l=>rw [hc] at hp;injection hp with hp;subst hp;obtain ⟨p1,p2,rfl,h1,h2⟩:=A.law hA hc;simp only [qM,If] at h2;subst h2;simp only [qL,h1,aaB]
    cases h
  cases h
def Arg.ref {α:Type} (A:dY α):Arg α where
 enc a:= .bD (A.enc a) 0
 dec v:=match v with
  | .bD cs 0=>match A.dec cs with
   |some p=>match p.2 with
    | []=>afr p.1
    |_=>afs
   |none=>afs
  |_=>afs
 law:=fun {v a p} h hp=>by
  split at h
  · rename_i cs
    split at h
    · rename_i q hA
      obtain ⟨x,rest⟩:=q;dsimp only at h;cases rest with
      |cons _ _=>cases h
      |nil=>
       injection h with h;subst h;simp only [qL] at hp;cases hc:qM cs with
       |none=>rw [hc] at hp;cases hp
       |some l=>rw [hc] at hp;injection hp with hp;subst hp;obtain ⟨p1,p2,rfl,h1,h2⟩:=A.law hA hc;simp only [qM,If] at h2;subst h2;simp only [qL,h1,aaB]
    cases h
  cases h
def ay.nil:ay Unit where
 enc _:=[]
 dec vs:=match vs with
  | []=>afr ()
  |_=>afs
 law:=fun {vs a ps} h hp=>by
  split at h
  · exact hp
  cases h
def ay.one {α:Type} (A:Arg α):ay α where
 enc a:=[A.enc a]
 dec vs:=match vs with
  | [v]=>A.dec v
  |_=>afs
 law:=fun {vs a ps} h hp=>by
  split at h
  · obtain ⟨p,qs,rfl,h1,h2⟩:=ek.1 hp
    exact ek.2 ⟨p,qs,rfl,A.law h h1,h2⟩
  cases h
def ay.cons {α β:Type} (A:Arg α) (B:ay β):ay (α×β) where
 enc a:=A.enc a.1::B.enc a.2
 dec vs:=match vs with
  |v::r=>match A.dec v with
   |some x=>match B.dec r with
    |some y=>afr (x,y)
    |none=>afs
   |none=>afs
  | []=>afs
 law:=fun {vs a ps} h hp=>by
  split at h
  · split at h
    · rename_i x hx
      split at h
      · rename_i y hy
        injection h with h;subst h;obtain ⟨p,qs,rfl,h1,h2⟩:=ek.1 hp;exact ek.2 ⟨p,qs,rfl,A.law hx h1,B.law hy h2⟩
      cases h
    cases h
  cases h
def Arg.cy {α:Type} (A:ay α):Arg α where
 enc a:= .cy (A.enc a)
 dec v:=match v with
  | .cy vs=>A.dec vs
  |_=>afs
 law:=fun {v a p} h hp=>by
  split at h
  · rename_i vs
    simp only [qL] at hp;cases hc:qM vs with
    |none=>rw [hc] at hp;cases hp
    |some l=>rw [hc] at hp;injection hp with hp;subst hp;simp only [qL,A.law h hc]
  cases h
def Arg.ez {α:Type} (f:FuncId) (A:ay α):Arg α where
 enc a:= .ez f [] (A.enc a)
 dec v:=match v with
  | .ez g [] b=>bif UV g f then A.dec b else afs
  |_=>afs
 law:=fun {v a p} h hp=>by
  split at h
  · rename_i g b
    cases hg:UV g f with
    |false=>rw [hg] at h;cases h
    |true=>
     rw [hg] at h;have:=v6 hg;subst this;simp only [qL,qM] at hp ⊢;cases hc:qM b with
     |none=>rw [hc] at hp;cases hp
     |some l=>rw [hc] at hp;rw [A.law h hc];exact hp
  cases h
def rI.rows {α:Type} (A:Arg α) (q r:List PT) (g:α->List (RT q)) (fn:List (RT q)->Option (List (RT r))):rI:=⟨.one A,.sl r,fun a=>fn (g a),.own,afu⟩
def rI.clone (r:List PT):rI:=⟨.one (.sl r),.sl r,bL,.own,afu⟩
def oe (a b c:Int):Option (Int×Int):=bif afv (0<=a)&&afv (0<=b)&&afv (0<=c)&&afv (c<=1) then afr ((a+b+c)%18446744073709551616,(a+b+c) / 18446744073709551616) else afs
def rI.NZ:rI:=⟨.cons (.int .u64) (.cons (.int .u64) (.one (.int .u64))),.cy (.cons (.int .u64) (.one (.int .u64))),fun a=>oe a.1 a.2.1 a.2.2,.pure,afu⟩
def J8:List (Nat×rI)->FuncId->List rI
 | [],_=>[]
 |(g,c)::r,f=>bif UV g f then c::J8 r f else J8 r f
def J9:List (Nat×eS)->FuncId->List eS
 | [],_=>[]
 |(g,c)::r,f=>bif UV g f then c::J9 r f else J9 r f
def Ik:List (Nat×Cd)->FuncId->Option Cd
 | [],_=>afs
 |(g,c)::r,f=>bif UV g f then afr c else Ik r f
def kS (lp:Option Nat) (c:List (Nat×rI)) (p:List (Nat×eS)) (x:List (Nat×Cd)) (rk:List (Nat×List PT)):Ctx:=⟨lp,J8 c,J9 p,Ik x,rk,afu⟩
end Go.Vm
/- What a typed value says of a value of the logical machine. -/
namespace Go.Vm
def OwnAt (s:List SB) (t e n:Nat):Prop:=(∃r l,s[t]? =afr (.arr r l)/\e=afk r/\n=afk l)\/s[t]? =afr .dead
def y4 (s:List SB) (t e:Nat):Prop:=(∃r l,s[t]? =afr (.arr r l)/\e=afk r)\/s[t]? =afr .dead\/(∃cs,s[t]? =afr (.box cs)/\e=1)
def RD (s:List SB) (t:Nat) (r:List PT) (i:Int) (a:RT r):Prop:=(∃l,s[t]? =afr (.arr r l)/\aH l i=afr a)\/s[t]? =afr .dead
def aaH (s:List SB) (t:Nat) (i:Int):Prop:=(∃r l,s[t]? =afr (.arr r l)/\(aH l i).isSome=aft)\/s[t]? =afr .dead
mutual
def R (s:List SB):SV->PV->Prop
 | .gH,_=>True
 | .undef,v=>v= .undef
 | .jd,v=>v= .jd
 | .dH,v=>v= .dH
 | .int k n,v=>v= .int k n
 | .bool b,v=>v= .bool b
 | .str x,v=>v= .str x
 | .agg cs,v=> ∃ps,v= .agg ps/\RL s cs ps
 | .cy cs,v=> ∃ps,v= .cy ps/\RL s cs ps
 | .sl r l,v=>v= .sl (afk r) afu (l.map (RT.pv r))
 | .nil e c,v=>v= .sl e c []
 | .own t ex,v=> ∃e n,v= .own t e 0 n n ex/\OwnAt s t e n
 | .pre t len cap ex,v=> ∃e,v= .own t e 0 len cap ex/\y4 s t e
 | .part t off len cap ex,v=> ∃e,v= .own t e off len cap ex/\y4 s t e
 | .pa t r i a off,v=>v= .ptr t (afk r) i.toNat off/\RD s t r i a
 | .pb t i off,v=> ∃e,v= .ptr t e i.toNat off/\aaH s t i
 | .bp t n off,v=>v= .ptr t n 0 off
 | .bD cs off,v=> ∃ps,v= .bD ps off/\RL s cs ps
 | .ez f a b,v=> ∃pa pb,v= .ez f pa pb/\RL s a pa/\RL s b pb
 | .mp t,v=>v= .mp t
def RL (s:List SB):List SV->List PV->Prop
 | [],ps=>ps=[]
 |x::xs,ps=> ∃p q,ps=p::q/\R s x p/\RL s xs q
end
def rO:List Int->PV
 | [a]=> .int .i64 a
 |l=> .agg (l.map (.int .i64))
def AT (k:List Int):PV×PV:=(rO k,.bool aft)
def C' (p:PT) (a:RT [.i .i64,p]):PV×PV:=(.int .i64 a.1,p.pv a.2)
def RB (s:List SB):SB->jx->Prop
 | .arr r l,b=>b= .arr (afk r) (l.map (RT.pv r))
 | .box cs,b=> ∃ps,b= .box ps/\RL s cs ps
 | .set l,b=>b= .map (l.map AT)
 | .cj p l,b=>b= .map (l.map (C' p))
 | .dead,b=>b= .dead
structure cA (s:List SB) (p:cw):Prop where
 len:(afk p)=afk s
 at_: ∀(t:Nat) (b:SB),s[t]? =afr b-> ∃q,p[t]? =afr q/\RB s b q
def dF (s:List SB):SE->Env->Prop
 | [],e=>e=[]
 |(t,v)::r,e=> ∃p q,e=(t,p)::q/\R s v p/\dF s r q
structure ym (st:ob) (p:St):Prop where
 env:dF st.ax st.env p.env
 ax:cA st.ax p.ax
 fz:p.fz=st.fz
 kn:p.kn=st.kn
theorem lK: ∀(s l:List SB),apS s l=s++l
 | [],_=>rfl
 |b::r,l=>by simp [apS,lK r l]
theorem AU: ∀(s:List SB) (t:Nat) (b:SB),Rx s t b=s.set t b
 | [],_,_=>by simp [Rx]
 |_::_,0,_=>rfl
 |x::r,n+1,b=>by simp [Rx,AU r n b]
theorem RL.nil {s:List SB}:RL s [] []:=rfl
theorem RL.cons {s:List SB} {x:SV} {xs:List SV} {p:PV} {q:List PV} (h:R s x p) (k:RL s xs q):RL s (x::xs) (p::q):=⟨p,q,rfl,h,k⟩
theorem RL.cons_inv {s:List SB} {x:SV} {xs:List SV} {ps:List PV} (h:RL s (x::xs) ps): ∃p q,ps=p::q/\R s x p/\RL s xs q:=h
theorem RL.mj {s:List SB}: ∀{xs:List SV} {ps:List PV},RL s xs ps->afk ps=afk xs
 | [],ps,h=>by rw [show ps=[] from h];rfl
 |x::xs,ps,h=>by obtain ⟨p,q,rfl,_,h2⟩:=h.cons_inv;simp [h2.mj]
theorem RL.append {s:List SB}: ∀{xs:List SV} {ps:List PV},RL s xs ps-> ∀{ys:List SV} {qs:List PV},RL s ys qs->RL s (xs++ys) (ps++qs)
 | [],ps,h,_,_,k=>by rw [show ps=[] from h];exact k
 |x::xs,ps,h,_,_,k=>by obtain ⟨p,q,rfl,h1,h2⟩:=h.cons_inv;exact RL.cons h1 (h2.append k)
theorem RL.take {s:List SB}: ∀{xs:List SV} {ps:List PV},RL s xs ps-> ∀n,RL s (xs.take n) (ps.take n)
 | [],ps,h,n=>by rw [show ps=[] from h];simp;exact RL.nil
 |x::xs,ps,h,0=>by simp;exact RL.nil
 |x::xs,ps,h,n+1=>by obtain ⟨p,q,rfl,h1,h2⟩:=h.cons_inv;exact RL.cons h1 (h2.take n)
theorem RL.drop {s:List SB}: ∀{xs:List SV} {ps:List PV},RL s xs ps-> ∀n,RL s (xs.drop n) (ps.drop n)
 | [],ps,h,n=>by rw [show ps=[] from h];simp;exact RL.nil
 |x::xs,ps,h,0=>h
 |x::xs,ps,h,n+1=>by obtain ⟨p,q,rfl,h1,h2⟩:=h.cons_inv;exact h2.drop n
theorem RL.nth {s:List SB}: ∀{xs:List SV} {ps:List PV},RL s xs ps-> ∀{n:Nat} {v:SV},Vm.nth xs n=afr v-> ∃p,ps[n]? =afr p/\R s v p
 | [],_,_,_,_,e=>by cases e
 |x::xs,ps,h,0,v,e=>by obtain ⟨p,q,rfl,h1,_⟩:=h.cons_inv;injection e with e;subst e;exact ⟨p,rfl,h1⟩
 |x::xs,ps,h,n+1,v,e=>by obtain ⟨p,q,rfl,_,h2⟩:=h.cons_inv;obtain ⟨p',h3,h4⟩:=h2.nth (n:=n) e;exact ⟨p',by simpa using h3,h4⟩
mutual
theorem Mp (s:List SB): ∀v:PV,R s (UC v) v
 | .undef=>rfl
 | .jd=>rfl
 | .dH=>rfl
 | .int _ _=>rfl
 | .bool _=>rfl
 | .str _=>rfl
 | .agg cs=>⟨cs,rfl,u6 s cs⟩
 | .cy cs=>⟨cs,rfl,u6 s cs⟩
 | .sl e c rows=>by
  cases rows with
  |nil=>exact rfl
  |cons _ _=>trivial
 | .ez f a b=>⟨a,b,rfl,u6 s a,u6 s b⟩
 | .own .. =>trivial
 | .ptr .. =>trivial
 | .bD .. =>trivial
 | .mp _=>trivial
theorem u6 (s:List SB): ∀l:List PV,RL s (AN l) l
 | []=>rfl
 |x::xs=>RL.cons (Mp s x) (u6 s xs)
end
theorem dF.lk {s:List SB}: ∀{e:SE} {p:Env},dF s e p-> ∀t,R s (CL t e) (Vm.lk t p)
 | [],p,h,t=>by rw [show p=[] from h];rfl
 |(u,v)::r,p,h,t=>by
  obtain ⟨q,qs,rfl,h1,h2⟩:=h;simp only [CL,Vm.lk];cases hb:UV u t with
  |true=>exact h1
  |false=>exact dF.lk h2 t
theorem dF.zG {s:List SB}: ∀{e:SE} {p:Env},dF s e p-> ∀{t:Nat} {v:SV},R s v (Vm.lk t p)->dF s (Vm.zG t v e) p
 | [],p,h,t,v,_=>h
 |(u,x)::r,p,h,t,v,hv=>by
  obtain ⟨q,qs,rfl,h1,h2⟩:=h;simp only [Vm.zG];simp only [Vm.lk] at hv;cases hb:UV u t with
  |true=>rw [hb] at hv;exact ⟨q,qs,rfl,hv,h2⟩
  |false=>rw [hb] at hv;exact ⟨q,qs,rfl,h1,dF.zG h2 hv⟩
theorem dA {s:List SB} {e:SE} {p:Env} (h:dF s e p): ∀x:fv,R s (bP e x) (x.ev p)
 | .t n=>h.lk n
 | .c v=>Mp s v
theorem yn {s:List SB} {e:SE} {p:Env} (h:dF s e p): ∀l:List fv,RL s (ji e l) (DI p l)
 | []=>rfl
 |x::xs=>RL.cons (dA h x) (yn h xs)
def Fr (bad:List Nat) (s s':List SB):Prop:= ∀(t:Nat) (b:SB),s[t]? =afr b->match b with
 | .arr r l=>(∃l',s'[t]? =afr (.arr r l')/\afk l'=afk l/\(has bad t=afu->l'=l))\/s'[t]? =afr .dead
 | .dead=>s'[t]? =afr .dead
 | .box _=>(∃cs,s'[t]? =afr (.box cs))\/s'[t]? =afr .dead
 |_=>True
theorem Fr.refl (bad:List Nat) (s:List SB):Fr bad s s:=fun t b h=>by
 cases b with
 |arr r l=>exact .inl ⟨l,h,rfl,fun _=>rfl⟩
 |dead=>exact h
 |box cs=>exact .inl ⟨cs,h⟩
 |_=>trivial
theorem Fr.app (bad:List Nat) (s l:List SB):Fr bad s (s++l):=fun t b h=>by
 have h':(s++l)[t]? =afr b:=by have:=(AC.1 h).1;rw [Do this];exact h
 cases b with
 |arr r l=>exact .inl ⟨l,h',rfl,fun _=>rfl⟩
 |dead=>exact h'
 |box cs=>exact .inl ⟨cs,h'⟩
 |_=>trivial
theorem Fr.trans {bad:List Nat} {a b c:List SB} (h:Fr bad a b) (k:Fr bad b c):Fr bad a c:=fun t x hx=>by
 have h1:=h t x hx;cases x with
 |arr r l=>
  rcases h1 with ⟨l',h2,h3,h4⟩|h2
  · have k1:=k t _ h2
    rcases k1 with ⟨l2,k2,k3,k4⟩|k2
    · exact .inl ⟨l2,k2,k3.trans h3,fun hb=>(k4 hb).trans (h4 hb)⟩
    exact .inr k2
  exact .inr (k t _ h2)
 |dead=>exact k t _ h1
 |box cs=>
  rcases h1 with ⟨c2,h2⟩|h2
  · exact k t _ h2
  exact .inr (k t _ h2)
 |_=>trivial
theorem CR {α:Type} {l m:List α} {i:Int} (h:(aH l i).isSome=aft) (hl:(afk m)=afk l):(aH m i).isSome=aft:=by
 cases i with
 |ofNat n=>simp only [aH] at h ⊢;rw [aeD] at h;obtain ⟨a,ha⟩:=h;have:=(AC.1 ha).1;rw [IR (by omega)];rfl
 |negSucc n=>simp [aH] at h
mutual
theorem R.fr {bad:List Nat} {s s':List SB} (hf:Fr bad s s'): ∀{v:SV} {p:PV},R s v p->R s' (TZ bad v) p
 | .gH,_,_=>trivial
 | .undef,_,h=>h
 | .jd,_,h=>h
 | .dH,_,h=>h
 | .int _ _,_,h=>h
 | .bool _,_,h=>h
 | .str _,_,h=>h
 | .agg cs,_,h=>by obtain ⟨ps,rfl,h⟩:=h;exact ⟨ps,rfl,RL.fr hf h⟩
 | .cy cs,_,h=>by obtain ⟨ps,rfl,h⟩:=h;exact ⟨ps,rfl,RL.fr hf h⟩
 | .sl _ _,_,h=>h
 | .nil _ _,_,h=>h
 | .own t ex,_,h=>by
  obtain ⟨e,n,rfl,h⟩:=h;refine ⟨e,n,rfl,?_⟩;rcases h with ⟨r,l,h1,h2,h3⟩|h1
  · rcases hf t _ h1 with ⟨l',k1,k2,_⟩|k1
    · exact .inl ⟨r,l',k1,h2,by rw [h3,k2]⟩
    exact .inr k1
  exact .inr (hf t _ h1)
 | .pre t len cap ex,_,h=>by
  obtain ⟨e,rfl,h⟩:=h;refine ⟨e,rfl,?_⟩;rcases h with ⟨r,l,h1,h2⟩|h1|⟨cs,h1,h2⟩
  · rcases hf t _ h1 with ⟨l',k1,_,_⟩|k1
    · exact .inl ⟨r,l',k1,h2⟩
    exact .inr (.inl k1)
  · exact .inr (.inl (hf t _ h1))
  rcases hf t _ h1 with ⟨c2,k1⟩|k1
  · exact .inr (.inr ⟨c2,k1,h2⟩)
  exact .inr (.inl k1)
 | .part t off len cap ex,_,h=>by
  obtain ⟨e,rfl,h⟩:=h;refine ⟨e,rfl,?_⟩;rcases h with ⟨r,l,h1,h2⟩|h1|⟨cs,h1,h2⟩
  · rcases hf t _ h1 with ⟨l',k1,_,_⟩|k1
    · exact .inl ⟨r,l',k1,h2⟩
    exact .inr (.inl k1)
  · exact .inr (.inl (hf t _ h1))
  rcases hf t _ h1 with ⟨c2,k1⟩|k1
  · exact .inr (.inr ⟨c2,k1,h2⟩)
  exact .inr (.inl k1)
 | .pa t r i a off,_,h=>by
  obtain ⟨rfl,h⟩:=h;simp only [TZ];cases hb:has bad t with
  |true=>
   refine ⟨_,rfl,?_⟩;rcases h with ⟨l,h1,h2⟩|h1
   · rcases hf t _ h1 with ⟨l',k1,k2,_⟩|k1
     · exact .inl ⟨r,l',k1,CR (by rw [h2];rfl) k2⟩
     exact .inr k1
   exact .inr (hf t _ h1)
  |false=>
   refine ⟨rfl,?_⟩;rcases h with ⟨l,h1,h2⟩|h1
   · rcases hf t _ h1 with ⟨l',k1,_,k3⟩|k1
     · exact .inl ⟨l',k1,by rw [k3 hb];exact h2⟩
     exact .inr k1
   exact .inr (hf t _ h1)
 | .pb t i off,_,h=>by
  obtain ⟨e,rfl,h⟩:=h;refine ⟨e,rfl,?_⟩;rcases h with ⟨r,l,h1,h2⟩|h1
  · rcases hf t _ h1 with ⟨l',k1,k2,_⟩|k1
    · exact .inl ⟨r,l',k1,CR h2 k2⟩
    exact .inr k1
  exact .inr (hf t _ h1)
 | .bp _ _ _,_,h=>h
 | .bD cs off,_,h=>by obtain ⟨ps,rfl,h⟩:=h;exact ⟨ps,rfl,RL.fr hf h⟩
 | .ez f a b,_,h=>by obtain ⟨pa,pb,rfl,h1,h2⟩:=h;exact ⟨pa,pb,rfl,RL.fr hf h1,RL.fr hf h2⟩
 | .mp _,_,h=>h
theorem RL.fr {bad:List Nat} {s s':List SB} (hf:Fr bad s s'): ∀{v:List SV} {p:List PV},RL s v p->RL s' (Rw bad v) p
 | [],_,h=>h
 |x::xs,_,h=>by obtain ⟨p,q,rfl,h1,h2⟩:=h.cons_inv;exact RL.cons (R.fr hf h1) (RL.fr hf h2)
end
mutual
theorem N0: ∀v:SV,TZ [] v=v
 | .gH| .undef| .jd| .dH| .int _ _| .bool _| .str _| .sl _ _| .nil _ _| .own _ _| .pre _ _ _ _| .part _ _ _ _ _| .pb _ _ _| .bp _ _ _| .mp _=>rfl
 | .agg cs=>by simp only [TZ,si cs]
 | .cy cs=>by simp only [TZ,si cs]
 | .bD cs _=>by simp only [TZ,si cs]
 | .ez _ a b=>by simp only [TZ,si a,si b]
 | .pa t r i a off=>by simp [TZ,has]
theorem si: ∀v:List SV,Rw [] v=v
 | []=>rfl
 |x::xs=>by simp only [Rw,N0 x,si xs]
end
theorem R.ext {s s':List SB} (hf:Fr [] s s') {v:SV} {p:PV} (h:R s v p):R s' v p:=by
 have:=R.fr hf h
 rwa [N0] at this
theorem RL.ext {s s':List SB} (hf:Fr [] s s') {v:List SV} {p:List PV} (h:RL s v p):RL s' v p:=by
 have:=RL.fr hf h
 rwa [si] at this
theorem RB.fr {bad:List Nat} {s s':List SB} (hf:Fr bad s s') {b:SB} {p:jx} (h:RB s b p):RB s' (UI bad b) p:=by
 cases b with
 |box cs=>obtain ⟨ps,rfl,h⟩:=h;exact ⟨ps,rfl,RL.fr hf h⟩
 |_=>exact h
theorem RB.ext {s s':List SB} (hf:Fr [] s s') {b:SB} {p:jx} (h:RB s b p):RB s' b p:=by
 cases b with
 |box cs=>obtain ⟨ps,rfl,h⟩:=h;exact ⟨ps,rfl,RL.ext hf h⟩
 |_=>exact h
theorem dF.fr {bad:List Nat} {s s':List SB} (hf:Fr bad s s'): ∀{e:SE} {p:Env},dF s e p->dF s' (dgE bad e) p
 | [],_,h=>h
 |(t,v)::r,_,h=>by obtain ⟨p,q,rfl,h1,h2⟩:=h;exact ⟨p,q,rfl,R.fr hf h1,dF.fr hf h2⟩
theorem dF.ext {s s':List SB} (hf:Fr [] s s'): ∀{e:SE} {p:Env},dF s e p->dF s' e p
 | [],_,h=>h
 |(t,v)::r,_,h=>by obtain ⟨p,q,rfl,h1,h2⟩:=h;exact ⟨p,q,rfl,R.ext hf h1,dF.ext hf h2⟩
theorem cA.app {s:List SB} {p:cw} (h:cA s p) {l:List SB} {q:cw} (hl:(afk q)=afk l) (hb: ∀(j:Nat) (b:SB),l[j]? =afr b-> ∃x,q[j]? =afr x/\RB (s++l) b x):cA (s++l) (p++q) where
 len:=by simp [h.len,hl]
 at_:=fun t b ht=>by
  rcases aeh t (afk s) with dz|TR
  · rw [Do dz] at ht
    obtain ⟨x,h1,h2⟩:=h.at_ t b ht;exact ⟨x,by rw [Do (by rw [h.len];exact dz)];exact h1,h2.ext (Fr.app [] s l)⟩
  rw [EQ TR] at ht
  obtain ⟨x,h1,h2⟩:=hb _ b ht;exact ⟨x,by rw [EQ (by rw [h.len];exact TR),h.len];exact h1,h2⟩
theorem qk (ts:List Nat): ∀(s:List SB) (t:Nat),(Bt ts s)[t]? =(s[t]?).map (UI ts)
 | [],t=>by simp [Bt]
 |b::r,0=>by simp [Bt]
 |b::r,t+1=>by simp [Bt,qk ts r t]
theorem u7 (ts:List Nat): ∀(s:List SB),(Bt ts s).length=afk s
 | []=>rfl
 |b::r=>by simp [Bt,u7 ts r]
theorem Fr.dg {bad ts:List Nat} {s s':List SB} (h:Fr bad s s'):Fr bad s (Bt ts s'):=fun t b hb=>by
 have h1:=h t b hb;cases b with
 |arr r l=>
  rcases h1 with ⟨l',h2,h3,h4⟩|h2
  · exact .inl ⟨l',by rw [qk,h2];rfl,h3,h4⟩
  exact .inr (by rw [qk,h2];rfl)
 |dead=>show (Bt ts s')[t]? =_;rw [qk,h1];rfl
 |box cs=>
  rcases h1 with ⟨c2,h2⟩|h2
  · exact .inl ⟨Rw ts c2,by rw [qk,h2];rfl⟩
  exact .inr (by rw [qk,h2];rfl)
 |_=>trivial
theorem GR {s:List SB}: ∀(r:List PT) (a:RT r),RL s (RT.sv r a) (RT.pv r a)
 | [],_=>rfl
 | [p],a=>by refine RL.cons ?_ RL.nil;cases p<;>rfl
 |p::q::r,a=>by refine RL.cons ?_ (GR (q::r) a.2);cases p<;>rfl
theorem yo {s:List SB}: ∀(r:List PT) (a:RT r) {ps:List PV},RL s (RT.sv r a) ps->ps=RT.pv r a
 | [],_,ps,h=>h
 | [p],a,ps,h=>by obtain ⟨x,q,rfl,h1,h2⟩:=h.cons_inv;have Pq:q=[]:=h2;subst Pq;cases p<;>(have Ly:=h1;simp only [PT.sv,R] at Ly;rw [Ly];rfl)
 |p::q::r,a,ps,h=>by obtain ⟨x,qs,rfl,h1,h2⟩:=h.cons_inv;rw [yo (q::r) a.2 h2];cases p<;>(have Ly:=h1;simp only [PT.sv,R] at Ly;rw [Ly];rfl)
theorem RT.plain: ∀(r:List PT) (a:RT r),(RT.pv r a).all PV.plain=aft
 | [],_=>rfl
 | [p],a=>by cases p<;>rfl
 |p::q::r,a=>by have:=RT.plain (q::r) a.2;cases p<;>(simp only [RT.pv,aeM,this,aew];rfl)
theorem R.cells {s:List SB} {v:SV} {p:PV} (h:R s v p) (hj:v≠ .gH):RL s v.cells p.cells:=by
 cases v with
 |gH=>exact absurd rfl hj
 |agg cs=>obtain ⟨ps,rfl,h⟩:=h;exact h
 |undef=>rw [show p= .undef from h];exact RL.cons rfl RL.nil
 |jd=>rw [show p= .jd from h];exact RL.cons rfl RL.nil
 |dH=>rw [show p= .dH from h];exact RL.cons rfl RL.nil
 |int k n=>rw [show p= .int k n from h];exact RL.cons rfl RL.nil
 |bool b=>rw [show p= .bool b from h];exact RL.cons rfl RL.nil
 |str x=>rw [show p= .str x from h];exact RL.cons rfl RL.nil
 |sl r l=>rw [show p=_ from h];exact RL.cons rfl RL.nil
 |nil e c=>rw [show p=_ from h];exact RL.cons rfl RL.nil
 |bp t n o=>rw [show p=_ from h];exact RL.cons rfl RL.nil
 |mp t=>rw [show p=_ from h];exact RL.cons rfl RL.nil
 |cy cs=>obtain ⟨ps,rfl,h⟩:=h;exact RL.cons ⟨ps,rfl,h⟩ RL.nil
 |own t ex=>obtain ⟨e,n,rfl,h⟩:=h;exact RL.cons ⟨e,n,rfl,h⟩ RL.nil
 |pre t a b c=>obtain ⟨e,rfl,h⟩:=h;exact RL.cons ⟨e,rfl,h⟩ RL.nil
 |part t o a b c=>obtain ⟨e,rfl,h⟩:=h;exact RL.cons ⟨e,rfl,h⟩ RL.nil
 |pa t r i a o=>obtain ⟨rfl,h⟩:=h;exact RL.cons ⟨rfl,h⟩ RL.nil
 |pb t i o=>obtain ⟨e,rfl,h⟩:=h;exact RL.cons ⟨e,rfl,h⟩ RL.nil
 |bD cs o=>obtain ⟨ps,rfl,h⟩:=h;exact RL.cons ⟨ps,rfl,h⟩ RL.nil
 |ez f a b=>obtain ⟨pa,pb,rfl,h⟩:=h;exact RL.cons ⟨pa,pb,rfl,h⟩ RL.nil
theorem R.o7 {s:List SB} {v:SV} {p:PV} (h:R s v p) (ho:v.o7=aft):p.o7=aft:=by
 cases v with
 |gH|undef|jd|agg _|cy _=>cases ho
 |dH|int _ _|bool _|str _|sl _ _|nil _ _|bp _ _ _|mp _=>rw [show p=_ from h];rfl
 |own t ex=>obtain ⟨e,n,rfl,h⟩:=h;rfl
 |pre t a b c=>obtain ⟨e,rfl,h⟩:=h;rfl
 |part t o a b c=>obtain ⟨e,rfl,h⟩:=h;rfl
 |pa t r i a o=>obtain ⟨rfl,h⟩:=h;rfl
 |pb t i o=>obtain ⟨e,rfl,h⟩:=h;rfl
 |bD cs o=>obtain ⟨ps,rfl,h⟩:=h;rfl
 |ez f a b=>obtain ⟨pa,pb,rfl,h⟩:=h;rfl
theorem RL.xe {s:List SB}: ∀{cs:List SV} {ps:List PV},RL s cs ps->Vm.xe cs=aft->ps.all PV.o7=aft
 | [],ps,h,_=>by rw [show ps=[] from h];rfl
 |x::xs,ps,h,ho=>by obtain ⟨p,q,rfl,h1,h2⟩:=h.cons_inv;simp only [Vm.xe,ww] at ho;simp only [aeM,ww];exact ⟨h1.o7 ho.1,h2.xe ho.2⟩
theorem R.stored {s:List SB} {v:SV} {p:PV} {w:List SV} (h:R s v p) (hs:v.stored=afr w): ∃q,p.stored=afr q/\RL s w q:=by
 unfold SV.stored at hs;cases ha:Vm.xe v.cells with
 |false=>rw [ha] at hs;cases hs
 |true=>
  rw [ha] at hs;injection hs with hs;subst hs;have hj:v≠ .gH:=by intro e;subst e;cases ha
  have hc:=h.cells hj;exact ⟨p.cells,by unfold PV.stored;rw [rc (hc.xe ha)],hc⟩
theorem R.ofRow {s:List SB} {v:SV} {p:PV} {r:List PT} {a:RT r} (h:R s v p) (hr:RT.of r v.cells=afr a):p.cz=afr (RT.pv r a)/\afk v.cells=(afk r):=by
 have hc:=RT.oO hr;have hl:(afk v.cells)=(afk r):=by rw [hc,RT.Ij]
 refine ⟨?_,hl⟩;have hj:v≠ .gH:=by
  intro e;subst e;cases r with
  |nil=>simp [SV.cells,RT.of] at hr
  |cons p q=>cases q with
   |nil=>cases p<;>simp [SV.cells,RT.of,PT.of] at hr
   |cons _ _=>simp only [SV.cells,RT.of] at hr;split at hr<;>cases hr<;>(rename_i x y h1 h2;simp at h2)
 have h1:=h.cells hj;rw [hc] at h1;have h2:=yo r a h1;unfold PV.cz;rw [h2,rc (RT.plain r a)]
theorem sj {s:List SB} {agg:Option Nat} {off:Nat} {cs:List SV} {ps:List PV} {v:SV} (h:RL s cs ps) (hp:yX agg off cs=afr v): ∃p,part agg off ps=afr p/\R s v p:=by
 cases agg with
 |none=>obtain ⟨p,h1,h2⟩:=h.nth hp;exact ⟨p,h1,h2⟩
 |some n=>
  simp only [yX] at hp;cases hb:PP (off+n) (afk cs) with
  |false=>rw [hb] at hp;cases hp
  |true=>
   rw [hb] at hp;injection hp with hp;subst hp;have:off+n<=(afk ps):=by rw [h.mj];exact aah hb
   exact ⟨.agg ((ps.drop off).take n),by simp only [part,rc this],_,rfl,(h.drop off).take n⟩
theorem yp {s:List SB} {off:Nat} {new old:List SV} {pn po:List PV} (h:RL s new pn) (k:RL s old po):RL s (oM off new old) (mS off pn po):=by unfold oM mS;rw [h.mj];exact ((k.take off).append h).append (k.drop _)
theorem N1 {s:List SB} {ps:cw} {v:SV} {p:PV} {r:List PT} {l:List (RT r)} (hs:cA s ps) (h:R s v p) (hc:yY s v=afr ⟨r,l⟩):
 rowsOf ps (afk r) p=afr (l.map (RT.pv r))/\iv p=uZ v:=by
 cases v with
 |sl q m=>
  have BE:(⟨q,m⟩:Rows)=⟨r,l⟩:=by injection hc
  cases BE;rw [show p=_ from h];refine ⟨?_,rfl⟩;cases l with
  |nil=>rfl
  |cons a l=>simp [rowsOf]
 |own t ex=>
  simp only [yY,cd] at hc;split at hc
  · rename_i q m bW
    have BE:(⟨q,m⟩:Rows)=⟨r,l⟩:=by injection hc
    cases BE;obtain ⟨e,n,rfl,cW⟩:=h;rcases cW with ⟨q',m',h1,rfl,rfl⟩|h1
    · rw [bW] at h1
      injection h1 with h1;cases h1;obtain ⟨b,h2,h3⟩:=hs.at_ t _ bW;rw [show b=_ from h3] at h2;refine ⟨?_,rfl⟩;simp only [rowsOf,ac0,if_true,h2,ae1];rw [ad2 (by simp)]
    rw [bW] at h1;cases h1
  cases hc
 |pre t len cap ex=>
  simp only [yY,cd] at hc;split at hc
  · rename_i q m bW
    have BE:(⟨q,m.take len⟩:Rows)=⟨r,l⟩:=by injection hc
    cases BE;obtain ⟨e,rfl,cW⟩:=h;rcases cW with ⟨q',m',h1,rfl⟩|h1|⟨_,h1,_⟩
    · rw [bW] at h1
      injection h1 with h1;cases h1;obtain ⟨b,h2,h3⟩:=hs.at_ t _ bW;rw [show b=_ from h3] at h2;refine ⟨?_,rfl⟩;simp only [rowsOf,ac0,if_true,h2];simp
    · rw [bW] at h1;cases h1
    rw [bW] at h1;cases h1
  cases hc
 |part t off len cap ex=>
  simp only [yY,cd] at hc;split at hc
  · rename_i q m bW
    have BE:(⟨q,(m.drop off).take len⟩:Rows)=⟨r,l⟩:=by injection hc
    cases BE;obtain ⟨e,rfl,cW⟩:=h;rcases cW with ⟨q',m',h1,rfl⟩|h1|⟨_,h1,_⟩
    · rw [bW] at h1
      injection h1 with h1;cases h1;obtain ⟨b,h2,h3⟩:=hs.at_ t _ bW;rw [show b=_ from h3] at h2;refine ⟨?_,rfl⟩;simp only [rowsOf,ac0,if_true,h2];simp
    · rw [bW] at h1;cases h1
    rw [bW] at h1;cases h1
  cases hc
 |_=>cases hc
end Go.Vm
/- Operation by operation: what the typed machine does, the logical machine does; the easy ones. -/
namespace Go.Vm
structure Good (s:List SB) (ps:cw) (sr:fM) (pr:mT):Prop where
 rd:pr.rd=sr.rd
 fr:pr.fr=sr.fr
 wr:pr.wr.map (·.1)=xi sr.wr
 nw:uN pr.wr=aft
 nl:(afk pr.news)=afk sr.news
 ax:cA (sr.mH s) (Jk (fU pr.wr ps) pr.news)
 v:R (sr.mH s) sr.v pr.v
 fra:Fr (xi sr.wr) s (sr.mH s)
section
variable {s : List SB} {ps : cw}
theorem Good.val (hS:cA s ps) {v:SV} {p:PV} {rd fr:List Nat} (hv:R s v p):Good s ps {v,rd,fr} {v:=p,rd,fr} where
 rd:=rfl
 fr:=rfl
 wr:=rfl
 nw:=rfl
 nl:=rfl
 ax:=by simp only [fM.mH,lK,aaB,fU,Jk];exact hS
 v:=by simp only [fM.mH,lK,aaB];exact hv
 fra:=by simp only [fM.mH,lK,aaB];exact Fr.refl _ _
theorem Good.news (hS:cA s ps) {v:SV} {p:PV} {l:List SB} {q:cw} {rd:List Nat} (hl:(afk q)=afk l) (hb: ∀(j:Nat) (b:SB),l[j]? =afr b-> ∃x,q[j]? =afr x/\RB (s++l) b x) (hv:R (s++l) v p):
 Good s ps {v,news:=l,rd} {v:=p,news:=q,rd} where
 rd:=rfl
 fr:=rfl
 wr:=rfl
 nw:=rfl
 nl:=hl
 ax:=by simp only [fM.mH,lK,fU,p9];exact hS.app hl hb
 v:=by simp only [fM.mH,lK];exact hv
 fra:=by simp only [fM.mH,lK];exact Fr.app _ _ _
theorem Good.new (hS:cA s ps) {v:SV} {p:PV} {b:SB} {q:jx} {rd:List Nat} (hb:RB (s++[b]) b q) (hv:R (s++[b]) v p):Good s ps {v,news:=[b],rd} {v:=p,news:=[q],rd}:=
 Good.news hS rfl (fun j x h=>by
  cases j with
  |zero=>simp at h;subst h;exact ⟨q,rfl,hb⟩
  |succ j=>simp at h) hv
def N2 (b0 b:SB):Prop:=
 match b0 with
 | .arr r l=>(∃l',b= .arr r l'/\afk l'=afk l)\/b= .dead
 | .dead=>b= .dead
 | .box _=>(∃cs,b= .box cs)\/b= .dead
 |_=>True
theorem Fr.set {t:Nat} {b0 b:SB} (h0:s[t]? =afr b0) (hk:N2 b0 b):Fr [t] s (s.set t b):=fun u x hu=>by
 by_cases Lz:t=u
 · subst Lz
   rw [h0] at hu;injection hu with hu;subst hu;have dz:=(AC.1 h0).1;have hb:(s.set t b)[t]? =afr b:=by simp [dz]
   cases b0 with
   |arr r l=>
    rcases hk with ⟨l',rfl,hl⟩|rfl
    · exact .inl ⟨l',hb,hl,fun h=>by simp [has] at h⟩
    exact .inr hb
   |dead=>rw [show b= .dead from hk] at hb ⊢;exact hb
   |box cs=>
    rcases hk with ⟨c2,rfl⟩|rfl
    · exact .inl ⟨c2,hb⟩
    exact .inr hb
   |_=>trivial
 have hb:(s.set t b)[u]? =afr x:=by rw [NE];simp [Lz,hu]
 cases x with
 |arr r l=>exact .inl ⟨l,hb,rfl,fun _=>rfl⟩
 |dead=>exact hb
 |box cs=>exact .inl ⟨cs,hb⟩
 |_=>trivial
theorem cA.put (hS:cA s ps) {t:Nat} {b0 b:SB} {q:jx} (h0:s[t]? =afr b0) (hk:N2 b0 b) (hq:RB (Bt [t] (s.set t b)) (UI [t] b) q):cA (Bt [t] (s.set t b)) (ps.set t q) where
 len:=by simp [u7,hS.len]
 at_:=fun u x hu=>by
  have dz:=(AC.1 h0).1;rw [qk] at hu
  by_cases Lz:t=u
  · subst Lz
    have hb:(s.set t b)[t]? =afr b:=by simp [dz]
    rw [hb] at hu;simp at hu;subst hu;exact ⟨q,by rw [NE];simp [hS.len,dz],hq⟩
  rw [NE] at hu
  simp only [Lz,if_false,ac1] at hu;obtain ⟨y,hy,rfl⟩:=hu;obtain ⟨q',h1,h2⟩:=hS.at_ u y hy;exact ⟨q',by rw [NE];simp [Lz,h1],h2.fr (Fr.dg (Fr.set h0 hk))⟩
theorem Good.put (hS:cA s ps) {v:SV} {p:PV} {t:Nat} {b0 b:SB} {q:jx} {l:List SB} {ql:cw} {rd:List Nat} (h0:s[t]? =afr b0) (hk:N2 b0 b) (hq:RB (Bt [t] (s.set t b)) (UI [t] b) q)
 (hl:(afk ql)=afk l) (hb: ∀(j:Nat) (x:SB),l[j]? =afr x-> ∃y,ql[j]? =afr y/\RB (Bt [t] (s.set t b)++l) x y) (hv:R (Bt [t] (s.set t b)++l) v p):
 Good s ps {v,wr:=[(t,b)],news:=l,rd} {v:=p,wr:=[(t,q)],news:=ql,rd} where
 rd:=rfl
 fr:=rfl
 wr:=rfl
 nw:=rfl
 nl:=hl
 ax:=by simp only [fM.mH,lK,fU,p9,xi,pS,AU];exact (hS.put h0 hk hq).app hl hb
 v:=by simp only [fM.mH,lK,xi,pS,AU];exact hv
 fra:=by simp only [fM.mH,lK,xi,pS,AU];exact (Fr.dg (Fr.set h0 hk)).trans (Fr.app _ _ _)
theorem Good.RE (hS:cA s ps) {t:Nat} {b0 b:SB} {q:jx} {rd:List Nat} (h0:s[t]? =afr b0) (hk:N2 b0 b) (hq:RB (Bt [t] (s.set t b)) (UI [t] b) q):
 Good s ps {v:= .undef,wr:=[(t,b)],rd} {v:= .undef,wr:=[(t,q)],rd}:=
 Good.put hS h0 hk hq rfl (fun j x h=>by simp at h) rfl
end
section
variable {R' ρ : Type} {w : R' -> ρ} {y : ρ}
theorem bG {α:Type} {x:Option α} {k:α->fZ R'} (h:kO x k ρ w=afr y): ∃a,x=afr a/\k a ρ w=afr y:=by
 cases x with
 |none=>cases h
 |some a=>exact ⟨a,rfl,h⟩
theorem cH {α:Type} {x:Option α} {k:α->fZ R'} (h:kB x k ρ w=afr y): ∃a,x=afr a/\k a ρ w=afr y:=L9 h
theorem eV {c:Bool} {a b:fZ R'} (h:fR c a b ρ w=afr y):(c=aft/\a ρ w=afr y)\/(c=afu/\b ρ w=afr y):=L' h
theorem cI {c:Bool} {a:fZ R'} (h:(bif c then a else aK) ρ w=afr y):c=aft/\a ρ w=afr y:=by
 cases c
 · cases h
 exact ⟨rfl,h⟩
theorem qA {c:Bool} {a:fZ R'} (h:(bif c then aK else a) ρ w=afr y):c=afu/\a ρ w=afr y:=by
 cases c
 · exact ⟨rfl,h⟩
 cases h
theorem hJ {c:Bool} {a:fZ R'} (h:fR c a aK ρ w=afr y):c=aft/\a ρ w=afr y:=by
 rcases eV h with ⟨h1,h2⟩|⟨_,h2⟩
 · exact ⟨h1,h2⟩
 cases h2
theorem u9 {c:Bool} {a:fZ R'} (h:fR c aK a ρ w=afr y):c=afu/\a ρ w=afr y:=by
 rcases eV h with ⟨_,h2⟩|⟨h1,h2⟩
 · cases h2
 exact ⟨h1,h2⟩
end
def gy {R':Type} (s:List SB) (ps:cw) (po:Option mT) (k:fM->fZ R') (ρ:Type) (w:R'->ρ) (y:ρ):Prop:=
 ∃sr pr,po=afr pr/\Good s ps sr pr/\k sr ρ w=afr y
section
variable {R' ρ : Type} {w : R' -> ρ} {y : ρ} {s : List SB} {ps : cw} {e : SE} {pe : Env} {z : List Nat} {k : fM -> fZ R'}
theorem gy.val (hS:cA s ps) {po:Option mT} {v:SV} {p:PV} (h:k {v} ρ w=afr y) (hp:po=afr {v:=p}) (hv:R s v p):gy s ps po k ρ w y:=
 ⟨_,_,hp,Good.val hS hv,h⟩
theorem gy.rd (hS:cA s ps) {po:Option mT} {v:SV} {p:PV} {rd:List Nat} (h:k {v,rd} ρ w=afr y) (hp:po=afr {v:=p,rd}) (hv:R s v p):gy s ps po k ρ w y:=
 ⟨_,_,hp,Good.val hS hv,h⟩
theorem mr (hE:dF s e pe) {x:fv} {a:IntKind} {n:Int} (h:bP e x= .int a n):x.ev pe= .int a n:=by have:=dA hE x;rw [h] at this;exact this
theorem AV (hE:dF s e pe) {x:fv} {b:Bool} (h:bP e x= .bool b):x.ev pe= .bool b:=by have:=dA hE x;rw [h] at this;exact this
theorem Pr (hE:dF s e pe) {x:fv} {v:SV} (h:bP e x=v):R s v (x.ev pe):=by have:=dA hE x;rwa [h] at this
theorem J' (k:IntKind):fk k k=aft:=by cases k<;>rfl
theorem Mq (hS:cA s ps) {op:BinOp} {a:IntKind} {m n:Int} (h:Mc op a m n (ofV k) ρ w=afr y): ∃p,arith op a m n=afr p/\gy s ps (afr {v:=p}) k ρ w y:=by
 cases op with
 |quo=>
  obtain ⟨h1,h2⟩:=u9 h;have hn:n≠0:=by intro e;subst e;cases h1
  exact ⟨_,by simp only [arith,ut hn],gy.val hS h2 rfl rfl⟩
 |rem=>
  obtain ⟨h1,h2⟩:=u9 h;have hn:n≠0:=by intro e;subst e;cases h1
  exact ⟨_,by simp only [arith,ut hn],gy.val hS h2 rfl rfl⟩
 |shl=>cases h
 |shr=>cases h
 |_=>exact ⟨_,rfl,gy.val hS h rfl rfl⟩
theorem UN (hE:dF s e pe) (hS:cA s ps) {op:BinOp} {a b:fv} (h:lJ e s z (.bin op a b) k ρ w=afr y):gy s ps (bA pe ps z (.bin op a b)) k ρ w y:=by
 simp only [lJ] at h;generalize ha:bP e a=va at h;cases va with
 |int ka m=>
  generalize hb:bP e b=vb at h;cases vb with
  |int kb n=>
   have h1:=mr hE ha;have h2:=mr hE hb;have key:(op≠ .shl)->(op≠ .shr)->(bif fk ka kb then Mc op ka m n (ofV k) else aK) ρ w=afr y->gy s ps (bA pe ps z (.bin op a b)) k ρ w y:=by
    intro n1 n2 h;obtain ⟨hk,h⟩:=cI h;obtain ⟨p,hp,hs⟩:=Mq hS h;have:bA pe ps z (.bin op a b)=afr {v:=p}:=by simp only [bA,h1,h2];cases op<;>first|exact absurd rfl n1|exact absurd rfl n2|(simp only [ON,hk,if_true,hp];rfl)
    rw [this];exact hs
   cases op with
   |shl=>
    obtain ⟨hc,h⟩:=u9 h;have BE: ¬n<0:=by simpa using hc
    exact gy.val hS h (by simp only [bA,h1,h2,ON,Bu,ut BE];rfl) rfl
   |shr=>
    obtain ⟨hc,h⟩:=u9 h;have BE: ¬n<0:=by simpa using hc
    exact gy.val hS h (by simp only [bA,h1,h2,ON,Bu,ut BE];rfl) rfl
   |_=>exact key (by intro e;cases e) (by intro e;cases e) h
  |_=>cases h
 |_=>cases h
theorem RF (hE:dF s e pe) (hS:cA s ps) {neg:Bool} {a b:fv} (h:lJ e s z (.Jd neg a b) k ρ w=afr y):gy s ps (bA pe ps z (.Jd neg a b)) k ρ w y:=by
 simp only [lJ] at h;generalize ha:bP e a=va at h;cases va with
 |bool x=>
  generalize hb:bP e b=vb at h;cases vb with
  |bool x'=>refine gy.val hS h ?_ rfl;simp only [bA,AV hE ha,AV hE hb];cases neg<;>rfl
  |_=>cases h
 |_=>cases h
theorem RG: ∀{xs ys:List SV} {ps qs:List PV} {r:Bool},RL s xs ps->RL s ys qs->eqS xs ys=afr r->dj ps qs=afr r
 | [],[],ps,qs,r,h1,h2,h=>by rw [show ps=[] from h1,show qs=[] from h2];exact h
 |x::xs,b::ys,ps,qs,r,h1,h2,h=>by
  obtain ⟨p,ps,rfl,a1,a2⟩:=h1.cons_inv;obtain ⟨q,qs,rfl,b1,b2⟩:=h2.cons_inv;simp only [eqS] at h;split at h
  · rename_i ka m kb n
    have a1':p= .int ka m:=a1;have b1':q= .int kb n:=b1;subst a1' b1';cases hk:fk ka kb with
    |false=>rw [hk] at h;cases h
    |true=>
     rw [hk] at h;have hc:pN (.int ka m) (.int kb n)=afr (m==n):=by simp only [pN,hk,if_true]
     simp only [dj,hc];cases xs with
     |nil=>
      cases ys with
      |nil=>simp only [lw,If] at h;subst h;rw [show ps=[] from a2,show qs=[] from b2];cases m==n<;>rfl
      |cons _ _=>cases h
     |cons x2 xs2=>
      simp only [lw] at h;split at h
      · rename_i r' hr
        injection h with h;subst h;rw [RG a2 b2 hr];cases m==n<;>rfl
      cases h
  cases h
 | [],_::_,ps,qs,r,h1,h2,h=>by cases h
 |_::_,[],ps,qs,r,h1,h2,h=>by cases h
theorem UO (hE:dF s e pe) (hS:cA s ps) {n:Nat} {neg:Bool} {a b:fv} (h:lJ e s z (.Y1 n neg a b) k ρ w=afr y):gy s ps (bA pe ps z (.Y1 n neg a b)) k ρ w y:=by
 simp only [lJ] at h;generalize ha:bP e a=va at h;cases va with
 |agg xs=>
  generalize hb:bP e b=vb at h;cases vb with
  |agg ys=>obtain ⟨hl,h⟩:=cI h;obtain ⟨r,hr,h⟩:=bG h;obtain ⟨p,hp,h1⟩:=Pr hE ha;obtain ⟨q,hq,h2⟩:=Pr hE hb;refine gy.val hS h ?_ rfl;simp only [bA,hp,hq,h1.mj,h2.mj];rw [rc hl,RG h1 h2 hr];cases neg<;>rfl
  |_=>cases h
 |_=>cases h
theorem aaI (hE:dF s e pe) (hS:cA s ps) {op:UnOp} {a:fv} (h:lJ e s z (.un op a) k ρ w=afr y):gy s ps (bA pe ps z (.un op a)) k ρ w y:=by
 simp only [lJ] at h;cases op with
 |neg=>
  dsimp only at h;generalize ha:bP e a=va at h;cases va with
  |int ka n=>exact gy.val hS h (by simp only [bA,mr hE ha];rfl) rfl
  |_=>cases h
 |not=>
  dsimp only at h;generalize ha:bP e a=va at h;cases va with
  |bool b=>exact gy.val hS h (by simp only [bA,AV hE ha];rfl) rfl
  |_=>cases h
 |_=>cases h
theorem RH (hE:dF s e pe) (hS:cA s ps) {a:IntKind} {x:fv} (h:lJ e s z (.conv a x) k ρ w=afr y):gy s ps (bA pe ps z (.conv a x)) k ρ w y:=by
 simp only [lJ] at h;generalize ha:bP e x=va at h;cases va with
 |int ka n=>exact gy.val hS h (by simp only [bA,mr hE ha]) rfl
 |_=>cases h
theorem UP (hE:dF s e pe) (hS:cA s ps) {x:fv} (h:lJ e s z (.len x) k ρ w=afr y):gy s ps (bA pe ps z (.len x)) k ρ w y:=by
 simp only [lJ] at h;have hx:=dA hE x;generalize bP e x=v at h hx;cases v with
 |nil e' c=>exact gy.val hS h (by simp only [bA,show x.ev pe= .sl e' c [] from hx];rfl) rfl
 |pre t len cap ex=>obtain ⟨e',hx,_⟩:=hx;exact gy.val hS h (by simp only [bA,hx]) rfl
 |part t off len cap ex=>obtain ⟨e',hx,_⟩:=hx;exact gy.val hS h (by simp only [bA,hx]) rfl
 |sl q m=>exact gy.val hS h (by simp only [bA,show x.ev pe=_ from hx,aaC]) rfl
 |own t ex=>
  obtain ⟨c,hc,h⟩:=bG h;simp only [yY,cd] at hc;split at hc
  · rename_i q m bW
    injection hc with hc;subst hc;obtain ⟨e',n,hx,cW⟩:=hx;rcases cW with ⟨q',m',h1,rfl,rfl⟩|h1
    · rw [bW] at h1;injection h1 with h1;cases h1
      exact gy.val hS h (by simp only [bA,hx]) rfl
    rw [bW] at h1;cases h1
  cases hc
 |_=>obtain ⟨c,hc,h⟩:=bG h;cases hc
theorem AW: ∀{l:List (Nat×Nat×SV)} {pl:List (Nat×Nat×PV)} {cs:List SV} {pc:List PV} {r:List SV},
 (afk pl=afk l/\ ∀(j:Nat) (a:Nat×Nat×SV),l[j]? =afr a-> ∃b,pl[j]? =afr (a.1,a.2.1,b)/\R s a.2.2 b)->RL s cs pc->u4 l cs=afr r-> ∃q,mA pl pc=afr q/\RL s r q
 | [],pl,cs,pc,r,hl,hc,h=>by have:pl=[]:=aet.1 hl.1;subst this;injection h with h;subst h;exact ⟨pc,rfl,hc⟩
 |(off,sz,v)::l,pl,cs,pc,r,hl,hc,h=>by
  cases pl with
  |nil=>simp at hl
  |cons p pl=>
   obtain ⟨b,h1,h2⟩:=hl.2 0 _ rfl;simp at h1;subst h1;simp only [u4] at h;split at h
   · rename_i w hw
     obtain ⟨q,hq,ZD⟩:=h2.stored hw;cases UQ:(UV (afk w) sz&&PP (off+sz) (afk cs)) with
     |false=>rw [UQ] at h;cases h
     |true=>rw [UQ] at h;simp only [lw] at h;obtain ⟨q2,h3,h4⟩:=AW (pl:=pl) ⟨by simpa using hl.1,fun j a ha=>hl.2 (j+1) a (by simpa using ha)⟩ (yp ZD hc) h;refine ⟨q2,?_,h4⟩;simp only [mA,hq,ZD.mj,hc.mj];rw [rc UQ];exact h3
   cases h
theorem Ka (hE:dF s e pe): ∀(l:List (Nat×Nat×fv)),((l.map fun p=>(p.1,p.2.1,p.2.2.ev pe)).length=(xf e l).length/\ ∀(j:Nat) (a:Nat×Nat×SV),(xf e l)[j]? =afr a-> ∃b,(l.map fun p=>(p.1,p.2.1,p.2.2.ev pe))[j]? =afr (a.1,a.2.1,b)/\R s a.2.2 b)
 | []=>⟨rfl,fun j a h=>by simp [xf] at h⟩
 |p::l=>by
  obtain ⟨h1,h2⟩:=Ka hE l;refine ⟨by simp [xf] at h1 ⊢;omega,fun j a h=>?_⟩;cases j with
  |zero=>simp [xf] at h;subst h;exact ⟨_,rfl,dA hE _⟩
  |succ j=>simp only [xf,ae6] at h;obtain ⟨b,h3,h4⟩:=h2 j a h;exact ⟨b,by simpa using h3,h4⟩
theorem Ps (hE:dF s e pe) (hS:cA s ps) {zero:List PV} {parts:List (Nat×Nat×fv)} (h:lJ e s z (.build zero parts) k ρ w=afr y):gy s ps (bA pe ps z (.build zero parts)) k ρ w y:=by simp only [lJ] at h;obtain ⟨cs,hc,h⟩:=bG h;obtain ⟨q,hq,hr⟩:=AW (Ka hE parts) (u6 s zero) hc;exact gy.val hS h (by simp only [bA,hq];rfl) ⟨q,rfl,hr⟩
theorem UR (hE:dF s e pe) (hS:cA s ps) {x:fv} (h:lJ e s z (.box x) k ρ w=afr y):gy s ps (bA pe ps z (.box x)) k ρ w y:=by simp only [lJ] at h;obtain ⟨cs,hc,h⟩:=bG h;obtain ⟨q,hq,hr⟩:=(dA hE x).stored hc;refine ⟨_,_,?_,Good.new hS (b:= .box cs) (q:= .box q) (v:= .bp (afk s) (afk cs) 0) (p:= .ptr (afk s) (afk cs) 0 0) (rd:=[]) ⟨q,rfl,hr.ext (Fr.app _ _ _)⟩ rfl,h⟩;simp only [bA,hq,hS.len,hr.mj]
theorem Pu (hS:cA s ps) {cells:List PV} (h:lJ e s z (.alloc cells) k ρ w=afr y):gy s ps (bA pe ps z (.alloc cells)) k ρ w y:=by simp only [lJ] at h;refine ⟨_,_,?_,Good.new hS (b:= .box (AN cells)) (q:= .box cells) (v:= .bp (afk s) (afk cells) 0) (p:= .ptr (afk s) (afk cells) 0 0) (rd:=[]) ⟨cells,rfl,u6 _ _⟩ rfl,h⟩;simp only [bA,hS.len]
theorem RI (hE:dF s e pe) (hS:cA s ps) {x:fv} (h:lJ e s z (.Je x) k ρ w=afr y):gy s ps (bA pe ps z (.Je x)) k ρ w y:=by
 simp only [lJ] at h;have hx:=dA hE x;generalize bP e x=v at h hx;cases v with
 |pa t r i a o=>exact gy.val hS h (by simp only [bA,hx.1]) ⟨rfl,hx.2⟩
 |pb t i o=>obtain ⟨e',h1,h2⟩:=hx;exact gy.val hS h (by simp only [bA,h1]) ⟨e',rfl,h2⟩
 |bp t n o=>exact gy.val hS h (by simp only [bA,show x.ev pe=_ from hx]) rfl
 |bD c o=>obtain ⟨q,h1,h2⟩:=hx;exact gy.val hS h (by simp only [bA,h1]) ⟨q,rfl,h2⟩
 |ez f a b=>obtain ⟨pa,pb,h1,h2⟩:=hx;exact gy.val hS h (by simp only [bA,h1]) ⟨pa,pb,rfl,h2⟩
 |_=>cases h
theorem RJ (hE:dF s e pe) (hS:cA s ps) {off:Nat} {x:fv} (h:lJ e s z (.Jf off x) k ρ w=afr y):gy s ps (bA pe ps z (.Jf off x)) k ρ w y:=by
 simp only [lJ] at h;have hx:=dA hE x;generalize bP e x=v at h hx;cases v with
 |pa t r i a o=>exact gy.val hS h (by simp only [bA,hx.1]) ⟨rfl,hx.2⟩
 |pb t i o=>obtain ⟨e',h1,h2⟩:=hx;exact gy.val hS h (by simp only [bA,h1]) ⟨e',rfl,h2⟩
 |bp t n o=>exact gy.val hS h (by simp only [bA,show x.ev pe=_ from hx]) rfl
 |bD c o=>obtain ⟨q,h1,h2⟩:=hx;exact gy.val hS h (by simp only [bA,h1]) ⟨q,rfl,h2⟩
 |_=>cases h
theorem US (hE:dF s e pe) (hS:cA s ps) {agg:Option Nat} {off:Nat} {x:fv} (h:lJ e s z (.j0 agg off x) k ρ w=afr y):gy s ps (bA pe ps z (.j0 agg off x)) k ρ w y:=by
 simp only [lJ] at h;generalize hv:bP e x=v at h;cases v with
 |agg cs=>obtain ⟨v,h1,h⟩:=bG h;obtain ⟨q,h2,h3⟩:=Pr hE hv;obtain ⟨p,h4,h5⟩:=sj h3 h1;exact gy.val hS h (by simp only [bA,h2,h4];rfl) h5
 |_=>cases h
theorem UT (hE:dF s e pe) (hS:cA s ps) {i:Nat} {x:fv} (h:lJ e s z (.ext i x) k ρ w=afr y):gy s ps (bA pe ps z (.ext i x)) k ρ w y:=by
 simp only [lJ] at h;generalize hv:bP e x=v at h;cases v with
 |cy cs=>obtain ⟨v,h1,h⟩:=bG h;obtain ⟨q,h2,h3⟩:=Pr hE hv;obtain ⟨p,h4,h5⟩:=h3.nth h1;exact gy.val hS h (by simp only [bA,h2,h4];rfl) h5
 |_=>cases h
theorem UU (hE:dF s e pe) (hS:cA s ps) {f:FuncId} {a b:List fv} (h:lJ e s z (.Y3 f a b) k ρ w=afr y):gy s ps (bA pe ps z (.Y3 f a b)) k ρ w y:=by simp only [lJ] at h;exact gy.val hS h rfl ⟨_,_,rfl,yn hE a,yn hE b⟩
theorem UW (hS:cA s ps) {m:Option PV} (h:lJ e s z (.Y4 m) k ρ w=afr y):gy s ps (bA pe ps z (.Y4 m)) k ρ w y:=by
 simp only [lJ] at h;cases m with
 |none=>refine ⟨_,_,?_,Good.new hS (b:= .set []) (q:= .map []) (v:= .mp (afk s)) (p:= .mp (afk s)) (rd:=[]) rfl rfl,h⟩;simp only [bA,hS.len]
 |some m=>obtain ⟨p,_,h⟩:=bG h;refine ⟨_,_,?_,Good.new hS (b:= .cj p []) (q:= .map []) (v:= .mp (afk s)) (p:= .mp (afk s)) (rd:=[]) rfl rfl,h⟩;simp only [bA,hS.len]
theorem ZE: ∀{l:List SV} {q:List PV} {m:Bool} {a:IntKind} {n:Int} {v:SV},RL s l q->mmS m a n l=afr v-> ∃p,ZY m a n q=afr p/\R s v p
 | [],q,m,a,n,v,hl,h=>by rw [show q=[] from hl];injection h with h;subst h;exact ⟨_,rfl,rfl⟩
 |x::l,q,m,a,n,v,hl,h=>by
  obtain ⟨p,q,rfl,h1,h2⟩:=hl.cons_inv;simp only [mmS] at h;split at h
  · rename_i b c
    have Ly:p= .int b c:=h1;subst Ly;cases hk:fk a b with
    |true=>rw [hk] at h;obtain ⟨p,h3,h4⟩:=ZE h2 h;refine ⟨p,?_,h4⟩;simp only [ZY,hk,if_true];rw [<- h3];cases m<;>rfl
    |false=>rw [hk] at h;cases h
  cases h
theorem aaJ (hE:dF s e pe) (hS:cA s ps) {m:Bool} {x:fv} {xs:List fv} (h:lJ e s z (.mm m x xs) k ρ w=afr y):gy s ps (bA pe ps z (.mm m x xs)) k ρ w y:=by
 simp only [lJ] at h;generalize hv:bP e x=v at h;cases v with
 |int a n=>obtain ⟨v,h1,h⟩:=bG h;obtain ⟨p,h2,h3⟩:=ZE (yn hE xs) h1;exact gy.val hS h (by simp only [bA,mr hE hv,h2];rfl) h3
 |_=>cases h
theorem RK (hE:dF s e pe) (hS:cA s ps) {c a b:fv} (h:lJ e s z (.pick c a b) k ρ w=afr y):gy s ps (bA pe ps z (.pick c a b)) k ρ w y:=by
 simp only [lJ] at h;generalize hv:bP e c=v at h;cases v with
 |bool x=>
  rcases eV h with ⟨rfl,h⟩|⟨rfl,h⟩
  · exact gy.val hS h (by simp only [bA,AV hE hv]) (dA hE a)
  exact gy.val hS h (by simp only [bA,AV hE hv]) (dA hE b)
 |_=>cases h
end
end Go.Vm
/- Operation by operation, second part: elements, blocks, slices, sets. -/
namespace Go.Vm
section
variable {R' ρ : Type} {w : R' -> ρ} {y : ρ} {s : List SB} {ps : cw} {e : SE} {pe : Env} {z : List Nat} {k : fM -> fZ R'}
theorem cA.arr (hS:cA s ps) {t:Nat} {r:List PT} {l:List (RT r)} (h:s[t]? =afr (.arr r l)):ps[t]? =afr (.arr (afk r) (l.map (RT.pv r))):=by obtain ⟨q,h1,h2⟩:=hS.at_ t _ h;rw [show q=_ from h2] at h1;exact h1
theorem cA.box (hS:cA s ps) {t:Nat} {cs:List SV} (h:s[t]? =afr (.box cs)): ∃q,ps[t]? =afr (.box q)/\RL s cs q:=by obtain ⟨q,h1,q',rfl,h2⟩:=hS.at_ t _ h;exact ⟨q',h1,h2⟩
theorem cA.af1 (hS:cA s ps) {t:Nat} {l:List (List Int)} (h:s[t]? =afr (.set l)):ps[t]? =afr (.map (l.map AT)):=by obtain ⟨q,h1,h2⟩:=hS.at_ t _ h;rw [show q=_ from h2] at h1;exact h1
theorem cA.UX (hS:cA s ps) {t:Nat} {p:PT} {l:List (RT [.i .i64,p])} (h:s[t]? =afr (.cj p l)):ps[t]? =afr (.map (l.map (C' p))):=by obtain ⟨q,h1,h2⟩:=hS.at_ t _ h;rw [show q=_ from h2] at h1;exact h1
theorem OwnAt.inv {t e n:Nat} {r:List PT} {l:List (RT r)} (h:OwnAt s t e n) (hs:s[t]? =afr (.arr r l)):e=afk r/\n=(afk l):=by
 rcases h with ⟨q,m,h1,rfl,rfl⟩|h1
 · rw [hs] at h1;injection h1 with h1;cases h1;exact ⟨rfl,rfl⟩
 rw [hs] at h1;cases h1
theorem y4.inv {t e:Nat} {r:List PT} {l:List (RT r)} (h:y4 s t e) (hs:s[t]? =afr (.arr r l)):e=(afk r):=by
 rcases h with ⟨q,m,h1,rfl⟩|h1|⟨cs,h1,_⟩
 · rw [hs] at h1;injection h1 with h1;cases h1;rfl
 · rw [hs] at h1;cases h1
 rw [hs] at h1;cases h1
theorem RD.inv {t:Nat} {q r:List PT} {i:Int} {a:RT q} {l:List (RT r)} (h:RD s t q i a) (hs:s[t]? =afr (.arr r l)): ∃e:q=r,aH l i=afr (e▸a):=by
 rcases h with ⟨m,h1,h2⟩|h1
 · rw [hs] at h1;injection h1 with h1;cases h1;exact ⟨rfl,h2⟩
 rw [hs] at h1;cases h1
theorem aaH.inv {t:Nat} {r:List PT} {i:Int} {l:List (RT r)} (h:aaH s t i) (hs:s[t]? =afr (.arr r l)):(aH l i).isSome=aft:=by
 rcases h with ⟨q,m,h1,h2⟩|h1
 · rw [hs] at h1;injection h1 with h1;cases h1;exact h2
 rw [hs] at h1;cases h1
theorem fG {α:Type} {l:List α} {n:Nat} {i:Int} {a:α} (h:aH (l.take n) i=afr a): ∃m:Nat,i=ae8 m/\m<n/\l[m]? =afr a:=by
 obtain ⟨m,rfl,hm⟩:=mG h;have dz:=(AC.1 hm).1;rw [acl] at dz;have hmn:m<n:=by omega
 rw [M2 hmn] at hm;exact ⟨m,rfl,hmn,hm⟩
theorem RM (hE:dF s e pe) (hS:cA s ps) {esz:Nat} {x i:fv} (h:lJ e s z (.Jg esz x i) k ρ w=afr y):gy s ps (bA pe ps z (.Jg esz x i)) k ρ w y:=by
 simp only [lJ] at h;generalize hi:bP e i=vi at h;cases vi with
 |int ki n=>
  have hi:=mr hE hi;have hx:=dA hE x;dsimp only at h;unfold Zw at h;generalize bP e x=v at h hx;cases v with
  |sl r l=>
   obtain ⟨he,h⟩:=cI h;obtain ⟨a,ha,hk⟩:=cH h;obtain ⟨m,rfl,hm⟩:=mG ha;refine gy.val hS (p:= .bD (RT.pv r a) 0) hk ?_ ⟨_,rfl,GR r a⟩;have hr:(l.map (RT.pv r))[m]? =afr (RT.pv r a):=by simp [hm]
   simp only [bA,hi,jy,show x.ev pe=_ from hx,hr,he,if_true]
  |own t ex=>
   simp only [cd] at h;generalize bW:s[t]? =b at h;cases b with
   |none=>cases h
   |some b=>
    cases b with
    |arr r l=>
     obtain ⟨he,h⟩:=cI h;obtain ⟨a,ha,hk⟩:=cH h;obtain ⟨m,rfl,hm⟩:=mG ha;obtain ⟨e',n',hx,cW⟩:=hx;obtain ⟨rfl,rfl⟩:=cW.inv bW;have dz:=(AC.1 hm).1;have h1:aeK m (afk l)=aft:=by simpa using dz
     refine gy.val hS (p:= .ptr t (afk r) m 0) hk ?_ ⟨rfl,.inl ⟨l,bW,ha⟩⟩;simp only [bA,hi,jy,hx,h1,he,aaS,if_true,aeu]
    |_=>cases h
  |pre t len cap ex=>
   simp only [cd] at h;generalize bW:s[t]? =b at h;cases b with
   |none=>cases h
   |some b=>
    cases b with
    |arr r l=>
     obtain ⟨he,h⟩:=cI h;obtain ⟨a,ha,hk⟩:=cH h;obtain ⟨m,rfl,dz,hm⟩:=fG ha;obtain ⟨e',hx,cW⟩:=hx;have:=cW.inv bW;subst this;have h1:aeK m len=aft:=by simpa using dz
     refine gy.val hS (p:= .ptr t (afk r) m 0) hk ?_ ⟨rfl,.inl ⟨l,bW,hm⟩⟩;simp only [bA,hi,jy,hx,h1,he,aaS,if_true,aeu]
    |_=>cases h
  |part t off len cap ex=>
   simp only [cd] at h;generalize bW:s[t]? =b at h;cases b with
   |none=>cases h
   |some b=>
    cases b with
    |arr r l=>
     obtain ⟨he,h⟩:=cI h;obtain ⟨a,ha,hk⟩:=cH h;obtain ⟨m,rfl,dz,hm⟩:=fG ha;rw [List.getElem?_drop] at hm;obtain ⟨e',hx,cW⟩:=hx;have:=cW.inv bW;subst this;have h1:aeK m len=aft:=by simpa using dz
     refine gy.val hS (p:= .ptr t (afk r) (off+m) 0) hk ?_ ⟨rfl,.inl ⟨l,bW,hm⟩⟩;simp only [bA,hi,jy,hx,h1,he,aaS,if_true]
    |_=>cases h
  |_=>cases h
 |_=>cases h
theorem zM {n:Nat} {i:Int} {j:Nat} {f:Nat->fZ R'}:J2 n i j f ρ w=afr y-> ∃m,i=ae8 m/\j<=m/\m<j+n/\f m ρ w=afr y:=by
 induction n generalizing j with
 |zero=>intro h;cases h
 |succ n ih=>
  intro h;rcases eV h with ⟨h1,h2⟩|⟨_,h2⟩
  · exact ⟨j,by simpa using h1,aeJ _,by omega,h2⟩
  obtain ⟨m,h3,h4,h5,h6⟩:=ih h2
  exact ⟨m,h3,by omega,by omega,h6⟩
theorem Pv (hE:dF s e pe) (hS:cA s ps) {n esz:Nat} {p i:fv} (h:lJ e s z (.CA n esz p i) k ρ w=afr y):gy s ps (bA pe ps z (.CA n esz p i)) k ρ w y:=by
 simp only [lJ] at h;generalize hi:bP e i=vi at h;cases vi with
 |int ki j=>
  have hi:=mr hE hi;have hx:=dA hE p;generalize bP e p=v at h hx;cases v with
  |bp t m o=>
   obtain ⟨j',rfl,_,h2,h⟩:=zM h;have h1:aeK j' n=aft:=by simp;omega
   exact gy.val hS h (by simp only [bA,hi,jy,h1,if_true,show p.ev pe=_ from hx]) rfl
  |bD c o=>
   obtain ⟨j',rfl,_,h2,h⟩:=zM h;have h1:aeK j' n=aft:=by simp;omega
   obtain ⟨q,hq,hr⟩:=hx;exact gy.val hS h (by simp only [bA,hi,jy,h1,if_true,hq]) ⟨q,rfl,hr⟩
  |_=>cases h
 |_=>cases h
theorem UY (hE:dF s e pe) (hS:cA s ps) {n esz:Nat} {agg:Option Nat} {x i:fv} (h:lJ e s z (.idx n esz agg x i) k ρ w=afr y):gy s ps (bA pe ps z (.idx n esz agg x i)) k ρ w y:=by
 simp only [lJ] at h;generalize hi:bP e i=vi at h;cases vi with
 |int ki j=>
  have hi:=mr hE hi;generalize hx:bP e x=v at h;cases v with
  |agg cs=>
   obtain ⟨j',rfl,_,h2,h⟩:=zM h;have h1:aeK j' n=aft:=by simp;omega
   obtain ⟨v,hv,h⟩:=bG h;obtain ⟨q,hq,hr⟩:=Pr hE hx;obtain ⟨p,hp,hpr⟩:=sj hr hv;exact gy.val hS h (by simp only [bA,hi,jy,h1,if_true,hq,hp];rfl) hpr
  |_=>cases h
 |_=>cases h
theorem RN (hE:dF s e pe) (hS:cA s ps) {x i:fv} (h:lJ e s z (.Jh x i) k ρ w=afr y):gy s ps (bA pe ps z (.Jh x i)) k ρ w y:=by
 simp only [lJ] at h;generalize hi:bP e i=vi at h;cases vi with
 |int ki j=>
  have hi:=mr hE hi;generalize hx:bP e x=v at h;cases v with
  |str t=>
   obtain ⟨b,hb,h⟩:=cH h;have hx:=Pr hE hx;cases j with
   |negSucc _=>cases hb
   |ofNat m=>simp only [Zv,ac1] at hb;obtain ⟨c,hc,rfl⟩:=hb;exact gy.val hS h (by simp only [bA,hi,jy,show x.ev pe=_ from hx,hc]) rfl
  |_=>cases h
 |_=>cases h
theorem RO (hE:dF s e pe) (hS:cA s ps) {agg:Option Nat} {p:fv} (h:lJ e s z (.load agg p) k ρ w=afr y):gy s ps (bA pe ps z (.load agg p)) k ρ w y:=by
 simp only [lJ] at h;have hx:=dA hE p;unfold Zx at h;generalize bP e p=v at h hx;cases v with
 |bp t n off=>
  simp only [cd] at h;generalize bW:s[t]? =b at h;cases b with
  |none=>cases h
  |some b=>
   cases b with
   |box cs=>obtain ⟨v,hv,h⟩:=bG h;obtain ⟨q,h1,h2⟩:=hS.box bW;obtain ⟨u,h3,h4⟩:=sj h2 hv;refine gy.rd hS h ?_ h4;show nS ps agg (p.ev pe)=_;rw [show p.ev pe=_ from hx];simp only [nS,h1,ac0,if_true,h3];rfl
   |_=>cases h
 |pa t r i a off=>
  simp only [cd] at h;generalize bW:s[t]? =b at h;cases b with
  |none=>cases h
  |some b=>
   cases b with
   |arr q l=>
    obtain ⟨v,hv,hk⟩:=bG h;obtain ⟨hx,cW⟩:=hx;obtain ⟨rfl,hg⟩:=cW.inv bW;obtain ⟨u,h3,h4⟩:=sj (GR r a) hv;obtain ⟨m,rfl,hm⟩:=mG hg;refine gy.rd hS hk ?_ h4;show nS ps agg (p.ev pe)=_;rw [hx];have BM:(l.map (RT.pv r))[m]? =afr (RT.pv r a):=by simp [hm]
    have e1:(ae8 m).toNat=m:=rfl;simp only [nS,hS.arr bW,e1,BM,h3];rfl
   |_=>cases h
 |pb t i off=>
  simp only [cd] at h;generalize bW:s[t]? =b at h;cases b with
  |none=>cases h
  |some b=>
   cases b with
   |arr r l=>
    obtain ⟨a,ha,h⟩:=cH h;obtain ⟨v,hv,hk⟩:=bG h;obtain ⟨e',hx,cW⟩:=hx;obtain ⟨u,h3,h4⟩:=sj (GR r a) hv;obtain ⟨m,rfl,hm⟩:=mG ha;refine gy.rd hS hk ?_ h4;show nS ps agg (p.ev pe)=_;rw [hx];have BM:(l.map (RT.pv r))[m]? =afr (RT.pv r a):=by simp [hm]
    have e1:(ae8 m).toNat=m:=rfl;simp only [nS,hS.arr bW,e1,BM,h3];rfl
   |_=>cases h
 |bD cs off=>obtain ⟨v,hv,h⟩:=bG h;obtain ⟨q,hq,hr⟩:=hx;obtain ⟨u,h3,h4⟩:=sj hr hv;refine gy.val hS h ?_ h4;show nS ps agg (p.ev pe)=_;rw [hq];simp only [nS,h3];rfl
 |_=>cases h
theorem Il (hS:cA s ps) {t:Nat} {r:List PT} {l:List (RT r)} (bW:s[t]? =afr (.arr r l)) {i:Int} {b:RT r} {rd:List Nat}:
 Good s ps {v:= .undef,wr:=[(t,.arr r (bU l i b))],rd} {v:= .undef,wr:=[(t,.arr (afk r) ((l.map (RT.pv r)).set i.toNat (RT.pv r b)))],rd}:=
 Good.RE hS bW (.inl ⟨_,rfl,by simp⟩) (by show _=_;simp [bU,aeR])
theorem Pw (hE:dF s e pe) (hS:cA s ps) {sz:Nat} {p x:fv} (h:lJ e s z (.store sz p x) k ρ w=afr y):gy s ps (bA pe ps z (.store sz p x)) k ρ w y:=by
 simp only [lJ] at h;have hx:=dA hE p;have hv:=dA hE x;unfold Ro at h;generalize bP e p=v at h hx;generalize bP e x=u at h hv;cases v with
 |bp t n off=>
  simp only [cd] at h;generalize bW:s[t]? =b at h;cases b with
  |none=>cases h
  |some b=>
   cases b with
   |box cs=>
    obtain ⟨w',hw,h⟩:=bG h;obtain ⟨hc,h⟩:=cI h;obtain ⟨q,h1,h2⟩:=hv.stored hw;obtain ⟨b,h3,h4⟩:=hS.box bW;have qG:=Fr.dg (ts:=[t]) (Fr.set (b:= .box (oM off w' cs)) bW (.inl ⟨_,rfl⟩));refine ⟨_,_,?_,Good.RE hS (b:= .box (oM off w' cs)) (q:= .box (mS off q b)) (rd:=[]) bW (.inl ⟨_,rfl⟩) ⟨_,rfl,RL.fr qG (yp h2 h4)⟩,h⟩
    show qD ps z sz (x.ev pe) (p.ev pe)=_
    rw [show p.ev pe=_ from hx];simp only [qD,h3,h1,h2.mj,h4.mj];rw [rc (by simpa using hc)]
   |_=>cases h
 |pa t r i a off=>
  simp only [cd] at h;generalize bW:s[t]? =b at h;cases b with
  |none=>cases h
  |some b=>
   cases b with
   |arr q l=>
    obtain ⟨hc,h⟩:=cI h;obtain ⟨a',Ei,hk⟩:=bG h;obtain ⟨hx,cW⟩:=hx;obtain ⟨rfl,hg⟩:=cW.inv bW;obtain ⟨m,rfl,hm⟩:=mG hg;refine ⟨_,_,?_,Il hS bW (rd:=[]),hk⟩;show qD ps z sz (x.ev pe) (p.ev pe)=_;rw [hx];have BM:(l.map (RT.pv r))[m]? =afr (RT.pv r a):=by simp [hm]
    have e1:(ae8 m).toNat=m:=rfl;simp only [ww,aav] at hc;obtain ⟨⟨c1,c2⟩,c3⟩:=hc;have hj:u≠ .gH:=by
     intro e;subst e;have:=RT.oO Ei;have hq:=congrArg (fun l=>l[off]?) this;have kI:=aah c2;have pL:sz=1:=by have:=v6 c1;simpa [SV.cells] using this.symm
     have dz:off<(afk r):=by omega
     have Gw:off<(RT.sv r a).length:=by rw [RT.Ij];exact dz
     simp only [oM,SV.cells] at hq;rw [Do (by simp;omega),EQ (by simp;omega)] at hq;simp only [acl,aeH (aeS Gw),afi,aeE] at hq;have: ∀(r:List PT) (b:RT r) (n:Nat),(RT.sv r b)[n]?≠afr .gH:=by
      intro r
      induction r with
      |nil=>intro b n h;simp [RT.sv] at h
      |cons p rest ih=>
       intro b n;cases rest with
       |nil=>cases n<;>cases p<;>simp [RT.sv,PT.sv]
       |cons p2 af2=>cases n with
        |zero=>cases p<;>simp [RT.sv,PT.sv]
        |succ n=>simpa [RT.sv] using ih b.2 n
     exact this r a' off hq.symm
    have Ex:=hv.cells hj;have tP:=RT.oO Ei;have h5:RL s (RT.sv r a') (mS off (x.ev pe).cells (RT.pv r a)):=by rw [<- tP];exact yp Ex (GR r a)
    have h6:=yo r a' h5;have Mr:(x.ev pe).cz=afr (x.ev pe).cells:=by unfold PV.cz;rw [rc ?_];have qe:=RT.plain r a';rw [<- h6] at qe;unfold mS at qe;simp only [afd,ww] at qe;exact qe.1.2
    simp only [qD,hS.arr bW,e1,BM,Mr,Ex.mj,RT.u5];rw [rc (by simp [c1,c2,c3])];simp only [h6]
   |_=>cases h
 |pb t i off=>
  simp only [cd] at h;generalize bW:s[t]? =b at h;cases b with
  |none=>cases h
  |some b=>
   cases b with
   |arr r l=>
    obtain ⟨hc,h⟩:=cI h;obtain ⟨e',hx,cW⟩:=hx;have qI:=cW.inv bW;rw [aeD] at qI;obtain ⟨a0,hg⟩:=qI;obtain ⟨m,rfl,hm⟩:=mG hg;have BM:(l.map (RT.pv r))[m]? =afr (RT.pv r a0):=by simp [hm]
    have e1:(ae8 m).toNat=m:=rfl;simp only [ww,aav] at hc;obtain ⟨⟨c1,c2⟩,c3⟩:=hc;cases pL:UV sz (afk r) with
    |true=>
     rw [pL] at h;obtain ⟨a',Ei,hk⟩:=bG h;obtain ⟨hp,hl⟩:=hv.ofRow Ei;have LR:=v6 pL;have BC:off=0:=by have:=aah c2;omega
     subst BC;refine ⟨_,_,?_,Il hS bW (rd:=[]),hk⟩;show qD ps z sz (x.ev pe) (p.ev pe)=_;rw [hx];simp only [qD,hS.arr bW,e1,BM,hp,RT.u5];rw [rc (by rw [aeu,LR];simp [c3])];have:mS 0 (RT.pv r a') (RT.pv r a0)=RT.pv r a':=by unfold mS;rw [RT.u5,List.drop_of_length_le (by rw [RT.u5];omega)];simp
     rw [this]
    |false=>
     rw [pL] at h;obtain ⟨a,ha,h⟩:=cH h;obtain ⟨a',Ei,hk⟩:=bG h;rw [hg] at ha;injection ha with ha;subst ha;refine ⟨_,_,?_,Il hS bW (rd:=[]),hk⟩;show qD ps z sz (x.ev pe) (p.ev pe)=_;rw [hx];have hj:u≠ .gH:=by
      intro e;subst e;have:=RT.oO Ei;have hq:=congrArg (fun l=>l[off]?) this;have kI:=aah c2;have pL:sz=1:=by have:=v6 c1;simpa [SV.cells] using this.symm
      have dz:off<(afk r):=by omega
      have Gw:off<(RT.sv r a0).length:=by rw [RT.Ij];exact dz
      simp only [oM,SV.cells] at hq;rw [Do (by simp;omega),EQ (by simp;omega)] at hq;simp only [acl,aeH (aeS Gw),afi,aeE] at hq;have: ∀(r:List PT) (b:RT r) (n:Nat),(RT.sv r b)[n]?≠afr .gH:=by
       intro r
       induction r with
       |nil=>intro b n h;simp [RT.sv] at h
       |cons p rest ih=>
        intro b n;cases rest with
        |nil=>cases n<;>cases p<;>simp [RT.sv,PT.sv]
        |cons p2 af2=>cases n with
         |zero=>cases p<;>simp [RT.sv,PT.sv]
         |succ n=>simpa [RT.sv] using ih b.2 n
      exact this r a' off hq.symm
     have Ex:=hv.cells hj;have tP:=RT.oO Ei;have h5:RL s (RT.sv r a') (mS off (x.ev pe).cells (RT.pv r a0)):=by rw [<- tP];exact yp Ex (GR r a0)
     have h6:=yo r a' h5;have Mr:(x.ev pe).cz=afr (x.ev pe).cells:=by unfold PV.cz;rw [rc ?_];have qe:=RT.plain r a';rw [<- h6] at qe;unfold mS at qe;simp only [afd,ww] at qe;exact qe.1.2
     simp only [qD,hS.arr bW,e1,BM,Mr,Ex.mj,RT.u5];rw [rc (by simp [c1,c2,c3])];simp only [h6]
   |_=>cases h
 |_=>cases h
end
end Go.Vm
/- Operation by operation, third part: slices, new blocks, append, sets; all of them together. -/
namespace Go.Vm
section
variable {R' ρ : Type} {w : R' -> ρ} {y : ρ} {s : List SB} {ps : cw} {e : SE} {pe : Env} {z : List Nat} {k : fM -> fZ R'}
def Ey (pe:Env) (o:Option fv):Option (Option Nat):=match o with|none=>afr afs|some a=>(jy (a.ev pe)).map afr
theorem uo (hE:dF s e pe) {o:Option fv} {d a:Int} {n:Nat} (h:BS e d o=afr a) (hd:d=ae8 n) (h0:0<=a): ∃b,Ey pe o=afr b/\b.getD n=a.toNat:=by
 cases o with
 |none=>injection h with h;subst h hd;exact ⟨afs,rfl,rfl⟩
 |some x=>
  simp only [BS] at h;split at h
  · rename_i ka m hx
    injection h with h;subst h;obtain ⟨b,rfl⟩:=aal h0;refine ⟨afr b,?_,rfl⟩;simp only [Ey,mr hE hx];rfl
  cases h
theorem zN {esz:Nat} {x:fv} {lo hi mx:Option fv} {l h m:Option Nat} {v:PV} (he:tK esz (x.ev pe)=aft) (h1:Ey pe lo=afr l) (h2:Ey pe hi=afr h) (h3:Ey pe mx=afr m) (hv:pO (x.ev pe) l h m=afr v):
 bA pe ps z (.OM esz x lo hi mx)=afr {v:=v}:=by
 have e:bA pe ps z (.OM esz x lo hi mx)=(match Ey pe lo,Ey pe hi,Ey pe mx with|some l,afr h,afr m=>(pO (x.ev pe) l h m).map fun v=>({v}:mT)|_,_,_=>afs):=by simp only [bA,he,aeN,WF,if_false];rfl
 rw [e,h1,h2,h3];simp only [hv];rfl
theorem Ez {α:Type} {l r:List α} {lo hi:Int} (h:fL l lo hi=afr r): ∃a b:Nat,lo=ae8 a/\hi=ae8 b/\a<=b/\b<=afk l/\r=(l.drop a).take (b-a):=by
 unfold fL at h;split at h
 · rename_i hc
   obtain ⟨a,rfl⟩:=aal hc.1;obtain ⟨b,rfl⟩:=aal (aeA hc.1 hc.2.1);injection h with h;exact ⟨a,b,rfl,rfl,by omega,by omega,by rw [<- h];simp⟩
 cases h
theorem Io (hE:dF s e pe) (hS:cA s ps) {esz t off len cap:Nat} {ex:Bool} {x:fv} {lo hi mx:Option fv} (hx:x.ev pe= .own t esz off len cap ex) (cW:y4 s t esz) (h:Md e t off len cap ex lo hi mx k ρ w=afr y):
 gy s ps (bA pe ps z (.OM esz x lo hi mx)) k ρ w y:=by
 unfold Md at h;obtain ⟨a,ha,h⟩:=bG h;obtain ⟨b,hb,h⟩:=bG h;have he:tK esz (x.ev pe)=aft:=by rw [hx];simp [tK]
 cases mx with
 |none=>
  obtain ⟨hc,h⟩:=hJ h;simp only [ww,decide_eq_true_eq] at hc;obtain ⟨⟨c1,c2⟩,c3⟩:=hc;obtain ⟨l,h1,h2⟩:=uo hE (n:=0) ha rfl c1;obtain ⟨u,h3,h4⟩:=uo hE (n:=len) hb rfl (aeA c1 c2);refine gy.val hS h (zN he h1 h3 (m:=afs) rfl ?_) ⟨esz,rfl,cW⟩;rw [hx];have c4:(PP a.toNat b.toNat&&PP b.toNat cap)=aft:=by have c3':b<=(cap:Int):=c3;simp;omega
  simp only [pO,h2,h4,c4,if_true]
 |some mo=>
  dsimp only at h;generalize hm:bP e mo=vm at h;cases vm with
  |int km c=>
   obtain ⟨hc,h⟩:=hJ h;simp only [ww,decide_eq_true_eq] at hc;obtain ⟨⟨⟨c1,c2⟩,c3⟩,c4⟩:=hc;obtain ⟨l,h1,h2⟩:=uo hE (n:=0) ha rfl c1;obtain ⟨u,h3,h4⟩:=uo hE (n:=len) hb rfl (aeA c1 c2);have D':0<=c:=aeA (aeA c1 c2) c3;obtain ⟨c,rfl⟩:=aal D';refine gy.val hS h (zN he h1 h3 (m:=afr c) (by simp only [Ey,mr hE hm];rfl) ?_) ⟨esz,rfl,cW⟩;rw [hx];have c5:(PP a.toNat b.toNat&&PP b.toNat c&&PP c cap)=aft:=by have c4':(c:Int)<=(cap:Int):=c4;simp;omega
   simp only [pO,h2,h4,c5,if_true];rfl
  |_=>cases h
theorem UZ (hE:dF s e pe) (hS:cA s ps) {esz:Nat} {x:fv} {lo hi mx:Option fv} (h:lJ e s z (.OM esz x lo hi mx) k ρ w=afr y):gy s ps (bA pe ps z (.OM esz x lo hi mx)) k ρ w y:=by
 simp only [lJ] at h;have hx:=dA hE x;unfold afX at h;generalize bP e x=v at h hx;cases v with
 |sl r l=>
  cases mx with
  |some _=>cases h
  |none=>
   dsimp only at h;obtain ⟨he,h⟩:=cI h;have he:=v6 he;obtain ⟨a,ha,h⟩:=bG h;obtain ⟨b,hb,h⟩:=bG h;obtain ⟨m,hm,hk⟩:=cH h;obtain ⟨n1,n2,rfl,rfl,c1,c2,rfl⟩:=Ez hm;obtain ⟨u1,h1,h2⟩:=uo hE (n:=0) ha rfl (by simp);obtain ⟨u2,h3,h4⟩:=uo hE (n:=afk l) hb rfl (by simp);have hx':x.ev pe= .sl (afk r) afu (l.map (RT.pv r)):=hx;subst he;refine gy.val hS (p:= .sl (afk r) afu ((((l.drop n1).take (n2-n1))).map (RT.pv r))) hk (zN (m:=afs) (by rw [hx'];simp [tK]) h1 h3 rfl ?_) rfl;rw [hx'];have Pq:u1.getD 0=n1:=by rw [h2];rfl
   have h4':u2.getD (l.map (RT.pv r)).length=n2:=by rw [aaC,h4];rfl
   have c3:(PP n1 n2&&PP n2 (l.map (RT.pv r)).length)=aft:=by simp [c1,c2]
   simp only [pO,Pq,h4',c3,if_true,Bool.false_and,acZ,aeq]
 |own t ex=>
  simp only [cd] at h;generalize bW:s[t]? =b at h;cases b with
  |none=>cases h
  |some b=>
   cases b with
   |arr r l=>
    dsimp only at h;obtain ⟨he,hk⟩:=cI h;have he:=v6 he;obtain ⟨e',n',hx,cW⟩:=hx;obtain ⟨rfl,rfl⟩:=cW.inv bW;subst he;have C6:y4 s t (afk r):= .inl ⟨r,l,bW,rfl⟩;have gen:Md e t 0 (afk l) (afk l) ex lo hi mx k ρ w=afr y->gy s ps (bA pe ps z (.OM (afk r) x lo hi mx)) k ρ w y:=fun h=>Io hE hS hx C6 h
    have he:tK (afk r) (x.ev pe)=aft:=by rw [hx];simp [tK]
    cases mx with
    |some m=>cases lo<;>cases hi<;>exact gen hk
    |none=>
     cases lo with
     |some _=>cases hi<;>exact gen hk
     |none=>
      cases hi with
      |none=>refine gy.val hS hk (zN (l:=afs) (h:=afs) (m:=afs) he rfl rfl rfl ?_) ⟨afk r,afk l,rfl,cW⟩;rw [hx];simp [pO]
      |some ho=>
       dsimp only at hk;generalize hh:bP e ho=vh at hk;cases vh with
       |int kh b=>
        obtain ⟨m,hm,hk⟩:=cH hk;obtain ⟨n1,n2,h0,rfl,c1,c2,rfl⟩:=Ez hm;refine gy.val hS hk (zN (l:=afs) (h:=afr n2) (m:=afs) he rfl (by simp only [Ey,mr hE hh];rfl) rfl ?_) ⟨afk r,rfl,C6⟩;rw [hx];have c3:(PP 0 n2&&PP n2 (afk l))=aft:=by simp [c2]
        simp only [pO,aeF,af6,c3,if_true];rfl
       |_=>cases hk
   |_=>cases h
 |pre t len cap ex=>
  simp only [cd] at h;generalize bW:s[t]? =b at h;cases b with
  |none=>cases h
  |some b=>
   cases b with
   |arr r l=>
    dsimp only at h;obtain ⟨he,hk⟩:=cI h;have he:=v6 he;obtain ⟨e',hx,cW⟩:=hx;have:=cW.inv bW;subst this;subst he;have gen:Md e t 0 len cap ex lo hi mx k ρ w=afr y->gy s ps (bA pe ps z (.OM (afk r) x lo hi mx)) k ρ w y:=fun h=>Io hE hS hx cW h
    have he:tK (afk r) (x.ev pe)=aft:=by rw [hx];simp [tK]
    cases mx with
    |some m=>cases lo<;>cases hi<;>exact gen hk
    |none=>
     cases lo with
     |some _=>cases hi<;>exact gen hk
     |none=>
      cases hi with
      |none=>
       obtain ⟨hlc,hk⟩:=hJ hk;refine gy.val hS hk (zN (l:=afs) (h:=afs) (m:=afs) he rfl rfl rfl ?_) ⟨afk r,rfl,cW⟩;rw [hx];have c3:(PP 0 len&&PP len cap)=aft:=by simp [hlc]
       simp only [pO,aeF,c3,if_true];simp
      |some ho=>
       dsimp only at hk;generalize hh:bP e ho=vh at hk;cases vh with
       |int kh b=>
        obtain ⟨hc,hk⟩:=hJ hk;simp only [ww,decide_eq_true_eq] at hc;obtain ⟨c1,c2⟩:=hc;obtain ⟨b,rfl⟩:=aal c1;refine gy.val hS hk (zN (l:=afs) (h:=afr b) (m:=afs) he rfl (by simp only [Ey,mr hE hh];rfl) rfl ?_) ⟨afk r,rfl,cW⟩;rw [hx];have c3:(PP 0 b&&PP b cap)=aft:=by have c2':(b:Int)<=(cap:Int):=c2;simp;omega
        simp only [pO,aeF,af6,c3,if_true];rfl
       |_=>cases hk
   |_=>cases h
 |part t off len cap ex=>
  simp only [cd] at h;generalize bW:s[t]? =b at h;cases b with
  |none=>cases h
  |some b=>
   cases b with
   |arr r l=>dsimp only at h;obtain ⟨he,hk⟩:=cI h;have he:=v6 he;obtain ⟨e',hx,cW⟩:=hx;have:=cW.inv bW;subst this;subst he;exact Io hE hS hx cW hk
   |_=>cases h
 |_=>cases h
theorem lP {b:SB}:(s++[b])[afk s]? =afr b:=by simp
theorem eb: ∀{v:PV} {p:PT},iA v=afr p->p.pv p.zero=v
 | .int k n,p,h=>by
  simp only [iA] at h;split at h
  · injection h with h;subst h;rfl
  cases h
 | .bool b,p,h=>by
  simp only [iA] at h;split at h
  · injection h with h;subst h;rfl
  cases h
 | .undef,_,h| .jd,_,h| .str _,_,h| .agg _,_,h| .cy _,_,h| .sl _ _ _,_,h| .own _ _ _ _ _ _,_,h| .ptr _ _ _ _,_,h| .bD _ _,_,h| .mp _,_,h| .ez _ _ _,_,h| .dH,_,h=>by cases h
theorem AX : ∀ {l : List PV} {r : List PT}, El l = afr r -> RT.pv r (RT.zero r) = l
  | [], r, h => by injection h with h; subst h; rfl
  | v :: vs, r, h => by
    simp only [El] at h
    split at h
    · rename_i p q h1 h2
      injection h with h; subst h
      have e1 := eb h1
      have e2 := AX h2
      cases q with
      | nil =>
        have : vs = [] := by
          cases vs with
          | nil => rfl
          | cons a b => simp only [RT.pv] at e2; cases e2
        subst this
        show [p.pv p.zero] = _
        rw [e1]
      | cons p2 q2 =>
        show p.pv p.zero :: RT.pv (p2 :: q2) (RT.zero (p2 :: q2)) = _
        rw [e1, e2]
    cases h
theorem U0 (hE:dF s e pe) (hS:cA s ps) {esz:Nat} {zero:Row} {l c:fv} (h:lJ e s z (.Y2 esz zero l c) k ρ w=afr y):gy s ps (bA pe ps z (.Y2 esz zero l c)) k ρ w y:=by
 simp only [lJ] at h;generalize hl:bP e l=vl at h;cases vl with
 |int kl n=>
  generalize hc:bP e c=vc at h;cases vc with
  |int kc m=>
   obtain ⟨hnm,h1⟩:=hJ h;obtain ⟨r,hr,h2⟩:=bG h1;obtain ⟨he,h3⟩:=cI h2;obtain ⟨x,hx,hk⟩:=cH h3;have hnm:n=m:=by simpa using hnm
   subst hnm;have he:=v6 he;subst he;unfold sd at hx;split at hx
   · rename_i I'
     injection hx with hx;subst hx;obtain ⟨a,rfl⟩:=aal I'.1;have h1:(PP a a&&PP a eA)=aft:=by simp [eA];omega
     refine ⟨_,_,?_,Good.new hS (b:= .arr r (ac2 (ae8 a).toNat (RT.zero r))) (q:= .arr (afk r) (ac2 a zero)) (v:= .own (afk s) aft) (p:= .own (afk s) (afk r) 0 a a aft) (rd:=[]) ?_ ?_,hk⟩
     · have e1:jy (.int kl (a:Int))=afr a:=rfl
       have e2:jy (.int kc (a:Int))=afr a:=rfl;simp only [bA,mr hE hl,mr hE hc,e1,e2];rw [rc h1,hS.len]
     · show _=_
       simp [AX hr]
     exact ⟨afk r,a,rfl,.inl ⟨r,_,lP,rfl,by simp⟩⟩
   cases hx
  |_=>cases h
 |_=>cases h
def vd {α:Type}:List α->List (Nat×α)->List α
 |l,[]=>l
 |l,(i,a)::r=>vd (l.set i a) r
theorem EA {α : Type} : ∀ (q : List (Nat × α)) (l : List α) (i : Nat), (vd l q)[i]? = (l[i]?).map fun z => rowAt i z q
  | [], l, i => by simp [vd, rowAt]
  | (j, a) :: q, l, i => by
    simp only [vd, rowAt]
    rw [EA q (l.set j a) i, NE]
    by_cases Um : j = i
    · subst Um
      cases hl : l[j]? with
      | none =>
        have : ¬ j < (afk l) := by intro h; rw [IR h] at hl; cases hl
        simp [this]
      | some z =>
        have : j < (afk l) := (AC.1 hl).1
        simp [this]
    have : UV j i = afu := by
      cases hb : UV j i with
      | false => rfl
      | true => exact absurd (v6 hb) Um
    simp [Um, this]
theorem Kb {α:Type} (f:Nat->α): ∀(n i j:Nat),(Ic f i n)[j]? =if j<n then afr (f (i+j)) else afs
 |0,i,j=>by simp [Ic]
 |n+1,i,0=>by simp [Ic]
 |n+1,i,j+1=>by
  simp only [Ic,ae6];rw [Kb f n (i+1) j,show i+1+j=i+(j+1) by omega]
  by_cases h:j<n
  · simp [h]
  simp [h]
theorem EB {α:Type} (z:α) (n:Nat) (q:List (Nat×α)):vd (ac2 n z) q=Ic (fun i=>rowAt i z q) 0 n:=by
 apply aeT;intro i;rw [EA,Kb]
 by_cases h:i<n
 · simp [h]
 simp [h]
theorem EC (hE:dF s e pe) {r:List PT} {n:Nat}: ∀{parts:List (Nat×fv)} {q:List (Nat×RT r)} {l:List (RT r)},NP r e n parts=afr q->afk l=n->
 o8 (parts.map fun p=>(p.1,p.2.ev pe)) (l.map (RT.pv r)) (afk r)=afr ((vd l q).map (RT.pv r))
 | [],q,l,h,hl=>by injection h with h;subst h;rfl
 |p::parts,q,l,h,hl=>by
  simp only [NP] at h;split at h
  · rename_i a q' h1 h2
    cases hb:aeK p.1 n with
    |false=>rw [hb] at h;cases h
    |true=>rw [hb] at h;injection h with h;subst h;have hp:=((dA hE p.2).ofRow h1).1;simp only [aaG,o8,hp,RT.u5,aaC,hl,hb,ac0,aaS,if_true,vd];rw [<- aeR];exact EC hE h2 (by simp [hl])
  cases h
theorem Px (hE:dF s e pe) (hS:cA s ps) {esz n:Nat} {zero:Row} {parts:List (Nat×fv)} (h:lJ e s z (.Am esz n zero parts) k ρ w=afr y):gy s ps (bA pe ps z (.Am esz n zero parts)) k ρ w y:=by
 simp only [lJ] at h;obtain ⟨r,hr,h1⟩:=bG h;obtain ⟨he,h2⟩:=cI h1;obtain ⟨q,hq,hk⟩:=bG h2;have he:=v6 he;subst he;have hf:=EC hE (l:=ac2 n (RT.zero r)) hq (by simp);rw [EB] at hf;have hz:(ac2 n (RT.zero r)).map (RT.pv r)=ac2 n zero:=by simp [AX hr]
 rw [hz] at hf;refine ⟨_,_,?_,Good.new hS (b:= .arr r (Ic (fun i=>rowAt i (RT.zero r) q) 0 n)) (q:= .arr (afk r) ((Ic (fun i=>rowAt i (RT.zero r) q) 0 n).map (RT.pv r))) (v:= .own (afk s) aft) (p:= .own (afk s) (afk r) 0 n n aft) (rd:=[]) rfl ?_,hk⟩
 · simp only [bA,hf,hS.len]
   rfl
 refine ⟨afk r,n,rfl,.inl ⟨r,_,lP,rfl,?_⟩⟩
 rw [<- EB];have: ∀(q:List (Nat×RT r)) (l:List (RT r)),(vd l q).length=(afk l):=by
  intro q
  induction q with
  |nil=>intro l;rfl
  |cons p q ih=>intro l;simp [vd,ih]
 rw [this];simp
theorem N3: ∀{cs:List SV} {q:List PV} {l:List Int},RL s cs q->NQ cs=afr l->q=l.map (.int .i64)
 | [],q,l,h,hi=>by injection hi with hi;subst hi;exact h
 |x::xs,q,l,h,hi=>by
  obtain ⟨p,q,rfl,h1,h2⟩:=h.cons_inv;simp only [NQ] at hi;split at hi
  · rename_i n l' hx
    injection hi with hi;subst hi;rw [show p= .int .i64 n from h1,N3 h2 hx];rfl
  cases hi
theorem RP {v:SV} {p:PV} {n:Option Nat} {l:List Int} (h:R s v p) (hk:UE n v=afr l):p=rO l/\je n (rO l)=aft/\(rO l).cz=afr (rO l).cells/\(rO l).cells=l.map (.int .i64)/\(n=afs->afk l=1)/\(∀m,n=afr m->afk l=m/\m≠1):=by
 cases n with
 |none=>
  cases v with
  |int kk a=>
   cases kk with
   |i64=>injection hk with hk;subst hk;exact ⟨h,rfl,rfl,rfl,fun _=>rfl,fun m hm=>by cases hm⟩
   |_=>cases hk
  |_=>cases hk
 |some m=>
  cases v with
  |agg cs=>
   simp only [UE] at hk;cases hc:(UV (afk cs) m&&!Nat.beq m 1) with
   |false=>rw [hc] at hk;cases hk
   |true=>
    rw [hc] at hk;simp only [lw] at hk;simp only [ww,aeB,aav] at hc;obtain ⟨c1,c2⟩:=hc;obtain ⟨q,rfl,hq⟩:=h;have Ql:=N3 hq hk;have cO:(afk l)=m:=by have:=hq.mj;rw [Ql] at this;simp at this;omega
    have N4:m≠1:=by intro e;subst e;cases c2
    have TQ:rO l= .agg (l.map (.int .i64)):=by
     unfold rO;split
     · simp at cO;omega
     rfl
    refine ⟨by rw [TQ,Ql],by rw [TQ];simp [je,cO],?_,by rw [TQ];rfl,(fun h=>by cases h),fun m' hm=>by injection hm with hm;subst hm;exact ⟨cO,N4⟩⟩;rw [TQ];unfold PV.cz;rw [rc];simp [PV.cells,PV.plain]
  |_=>cases hk
theorem ve: ∀(a b:List Int),afk a=afk b->dj (a.map (.int .i64)) (b.map (.int .i64))=afr (a==b)
 | [],[],_=>rfl
 |x::a,y::b,h=>by
  have ih:=ve a b (by simpa using h);simp only [aaG,dj,pN,J',if_true];cases Ue:x==y with
  |true=>simp only [ih];simp [aeO,Ue]
  |false=>simp [aeO,Ue]
 | [],_::_,h=>by simp at h
 |_::_,[],h=>by simp at h
theorem BX {n : Option Nat} {a : List Int} (ha : (rO a).cells = a.map (.int .i64)) (hn : (n = afs -> (afk a) = 1) /\ (∀ m, n = afr m -> (afk a) = m /\ m ≠ 1)) : ∀ (l : List (List Int)) (i : Nat), (∀ r, fj n (rO a) (l.map AT) i = afr r -> (match r with | none => C9 l a = afu | some j => i <= j /\ C9 l a = aft /\ l[j - i]? = afr a))
  | [], i, r, h => by
    simp only [aeX, fj, If] at h
    subst h; rfl
  | b :: l, i, r, h => by
    simp only [aaG, AT, fj] at h
    split at h
    · rename_i hk
      have hb : (rO b).cells = b.map (.int .i64) /\ (afk a) = (afk b) := by
        cases n with
        | none =>
          have hl := hn.1 rfl
          unfold rO at hk ⊢
          split at hk
          · exact ⟨rfl, by simpa using hl⟩
          cases hk
        | some m =>
          obtain ⟨hl, hm⟩ := hn.2 m rfl
          unfold rO at hk ⊢
          split at hk
          · cases hk
          simp only [je, aaC, aeB] at hk
          exact ⟨rfl, by omega⟩
      rw [ha, hb.1, ve a b hb.2] at h
      cases OX : a == b with
      | true =>
        rw [OX] at h
        injection h with h; subst h
        have : a = b := by simpa using OX
        subst this
        exact ⟨aeJ _, by simp [C9], by simp⟩
      | false =>
        rw [OX] at h
        have := BX ha hn l (i + 1) r h
        cases r with
        | none => simpa [C9, OX] using this
        | some j =>
          obtain ⟨h1, h2, h3⟩ := this
          refine ⟨by omega, by simp only [C9] at h2; simp [C9, h2], ?_⟩
          rw [show j - i = (j - (i + 1)) + 1 by omega]; simpa using h3
    cases h
theorem AY {n:Option Nat} {a:List Int} (ha:(rO a).cells=a.map (.int .i64)) (hn:(n=afs->afk a=1)/\(∀m,n=afr m->afk a=m/\m≠1)) {l:List (List Int)} (hl:l.all (fun b=>je n (rO b))=aft): ∀i,∃r,fj n (rO a) (l.map AT) i=afr r:=by
 induction l with
 |nil=>intro i;exact ⟨afs,rfl⟩
 |cons b l ih=>
  intro i;simp only [aeM,ww] at hl;obtain ⟨r,hr⟩:=ih hl.2 (i+1);simp only [aaG,AT,fj,hl.1,if_true];have hb:(rO b).cells=b.map (.int .i64)/\afk a=(afk b):=by
   have hk:=hl.1;cases n with
   |none=>
    have lL:=hn.1 rfl;unfold rO at hk ⊢;split at hk
    · exact ⟨rfl,by simpa using lL⟩
    cases hk
   |some m=>
    obtain ⟨lL,hm⟩:=hn.2 m rfl;unfold rO at hk ⊢;split at hk
    · cases hk
    simp only [je,aaC,aeB] at hk
    exact ⟨rfl,by omega⟩
  rw [ha,hb.1,ve a b hb.2];cases OX:a==b with
  |true=>exact ⟨afr i,rfl⟩
  |false=>exact ⟨r,hr⟩
theorem CS {n:Option Nat} {a:List Int} (hn:(n=afs->afk a=1)/\(∀m,n=afr m->afk a=m/\m≠1)) {l:List (List Int)} (hl: ∀b∈l,afk b=afk a):l.all (fun b=>je n (rO b))=aft:=by
 rw [ad8];intro b hb;have cO:=hl b hb;cases n with
 |none=>
  have h1:=hn.1 rfl;rw [h1] at cO
  match b,cO with
  | [x],_=>rfl
 |some m=>
  obtain ⟨h1,h2⟩:=hn.2 m rfl;unfold rO;split
  · rename_i x;simp at cO;omega
  simp [je];omega
theorem AZ {a:List Int} {l:List (List Int)} (h:ng a l=aft): ∀b∈l,afk b=(afk a):=by intro b hb;exact v6 (ad8.1 h b hb)
theorem PT.af3 {s:List SB} {p:PT} {v:SV} {q:PV} {a:p.T} (h:R s v q) (ho:p.of v=afr a):q=p.pv a:=by
 cases p with
 |i k=>
  cases v with
  |int l n=>
   simp only [PT.of] at ho;cases hk:fk l k with
   |false=>rw [hk] at ho;cases ho
   |true=>rw [hk] at ho;obtain rfl:=eU.1 hk;injection ho with ho;subst ho;exact h
  |_=>cases ho
 |b=>
  cases v with
  |bool x=>injection ho with ho;subst ho;exact h
  |_=>cases ho
theorem ED {β:Type} (g:Int×β->PV×PV) (hg: ∀x,(g x).1= .int .i64 x.1) (k:Int): ∀(l:List (Int×β)) (i:Nat),
 (∃j x,fj afs (.int .i64 k) (l.map g) i=afr (afr (i+j))/\l[j]? =afr x/\(∀z,px z l k=x.2)/\ ∀a,nU l k a=l.set j (k,a))\/
 (fj afs (.int .i64 k) (l.map g) i=afr afs/\(∀z,px z l k=z)/\ ∀a,nU l k a=l++[(k,a)])
 | [],i=> .inr ⟨rfl,fun _=>rfl,fun _=>rfl⟩
 |x::l,i=>by
  have hk:je afs (g x).1=aft:=by rw [hg];rfl
  have he:dj (PV.int .i64 k).cells (g x).1.cells=afr (k==x.1):=by rw [hg];show dj [.int .i64 k] [.int .i64 x.1]=_;simp only [dj,pN,fk,if_true];cases k==x.1<;>rfl
  have hf:fj afs (.int .i64 k) ((x::l).map g) i=(match afr (k==x.1) with
   |some aft=>afr (afr i)
   |some afu=>fj afs (.int .i64 k) (l.map g) (i+1)
   |none=>afs):=by
   rw [aaG];show (if je afs (g x).1 then _ else afs)=_;rw [rc hk,he];cases k==x.1<;>rfl
  cases hb:k==x.1 with
  |true=>rw [hb] at hf;exact .inl ⟨0,x,hf,rfl,fun z=>by simp only [px,hb,lw],fun a=>by simp only [nU,hb,lw,List.set_cons_zero]⟩
  |false=>
   rw [hb] at hf;rcases ED g hg k l (i+1) with ⟨j,y,h1,h2,h3,h4⟩|⟨h1,h2,h3⟩
   · refine .inl ⟨j+1,y,?_,by simpa using h2,fun z=>?_,fun a=>?_⟩
     · rw [hf];show fj afs (.int .i64 k) (l.map g) (i+1)=_
       rw [h1,show i+1+j=i+(j+1) by omega]
     · simp only [px,hb,pp,h3]
     simp only [nU,hb,pp,h4,List.set_cons_succ]
   exact .inr ⟨hf.trans h1,fun z=>by simp only [px,hb,pp,h2],fun a=>by simp only [nU,hb,pp,h3,aeG]⟩
theorem EE (p:PT) (k:Int) (l:List (RT [.i .i64,p])):
 (∃(j:Nat) (x:RT [.i .i64,p]),fj afs (.int .i64 k) (l.map (C' p)) 0=afr (afr j)/\l[j]? =afr x/\(∀z,p.get z l k=x.2)/\ ∀a,p.put l k a=l.set j (k,a))\/
 (fj afs (.int .i64 k) (l.map (C' p)) 0=afr afs/\(∀z,p.get z l k=z)/\ ∀a,p.put l k a=l++[(k,a)]):=by
 cases p with
 |i d=>
  rcases ED (β:=Int) (C' (.i d)) (fun _=>rfl) k l 0 with ⟨j,x,h1,h2,h3,h4⟩|h
  · exact .inl ⟨j,x,by rw [h1,aeu],h2,h3,h4⟩
  exact .inr h
 |b=>
  rcases ED (β:=Bool) (C' .b) (fun _=>rfl) k l 0 with ⟨j,x,h1,h2,h3,h4⟩|h
  · exact .inl ⟨j,x,by rw [h1,aeu],h2,h3,h4⟩
  exact .inr h
theorem PT.ajx {s:List SB} (p:PT) (a:p.T):R s (p.sv a) (p.pv a):=by cases p<;>rfl
theorem PT.Kc (p:PT) (a:p.T):(p.pv a).cz=afr [p.pv a]:=by cases p<;>rfl
theorem Ms (hE:dF s e pe) (hS:cA s ps) {n:Option Nat} {zero:PV} {ok:Bool} {m q:fv} (h:lJ e s z (.lookup n zero ok m q) k ρ w=afr y):gy s ps (bA pe ps z (.lookup n zero ok m q)) k ρ w y:=by
 simp only [lJ] at h;have hx:=dA hE m;generalize bP e m=v at h hx;cases v with
 |mp t=>
  simp only [cd] at h;generalize bW:s[t]? =b at h;cases b with
  |none=>cases h
  |some b=>
   cases b with
   |set l=>
    dsimp only at h;unfold NS at h;cases zero with
    |bool b=>
     cases b with
     |true=>cases h
     |false=>
      cases ok with
      |true=>cases h
      |false=>
       obtain ⟨a,ha,h1⟩:=bG h;obtain ⟨b,hb,hk⟩:=cH h1;obtain ⟨k1,k2,k3,k4,k5⟩:=RP (dA hE q) ha;unfold J0 at hb;cases sW:ng a l with
       |false=>rw [sW] at hb;cases hb
       |true=>
        rw [sW] at hb;injection hb with hb;subst hb;obtain ⟨r,hr⟩:=AY k4 k5 (CS k5 (AZ sW)) 0;have hf:=BX k4 k5 l 0 r hr;refine gy.rd hS hk ?_ rfl;show rR ps n (.bool afu) afu (m.ev pe) (q.ev pe)=_;rw [show m.ev pe=_ from hx,k1];simp only [rR,hS.af1 bW,k2,if_true,hr];cases r with
        |none=>simp only at hf;simp [hf]
        |some j=>
         obtain ⟨_,h2,h3⟩:=hf;have:(l.map AT)[j]? =afr (AT a):=by simp at h3;simp [h3]
         simp [this,h2,AT]
    |_=>cases h
   |cj p l=>
    dsimp only at h;unfold NT at h;cases n with
    |some _=>cases h
    |none=>
     cases ok with
     |true=>cases h
     |false=>
      have hq:=dA hE q;generalize bP e q=u at h hq;cases u with
      |int d a=>
       cases d with
       |i64=>
        obtain ⟨zv,hz,hk⟩:=bG h;have af4:=PT.af3 (Mp s zero) hz;refine gy.rd hS hk ?_ (PT.ajx p _);show rR ps afs zero afu (m.ev pe) (q.ev pe)=_;rw [show m.ev pe=_ from hx,show q.ev pe=_ from hq];rcases EE p a l with ⟨j,x,h1,h2,h3,_⟩|⟨h1,h2,_⟩
        · have h5:(l.map (C' p))[j]? =afr (C' p x):=by simp [h2]
          simp only [rR,hS.UX bW,je,if_true,h1,h5,h3,C',WF,if_false]
        simp only [rR,hS.UX bW,je,if_true,h1,h2,af4,WF,if_false]
       |_=>cases h
      |_=>cases h
   |_=>cases h
 |_=>cases h
theorem RQ (hE:dF s e pe) (hS:cA s ps) {n:Option Nat} {m q x:fv} (h:lJ e s z (.HA n m q x) k ρ w=afr y):gy s ps (bA pe ps z (.HA n m q x)) k ρ w y:=by
 simp only [lJ] at h;have hx:=dA hE m;generalize bP e m=v at h hx;cases v with
 |mp t=>
  simp only [cd] at h;generalize bW:s[t]? =b at h;cases b with
  |none=>cases h
  |some b=>
   cases b with
   |set l=>
    obtain ⟨hz,h0⟩:=qA h;unfold Rq at h0;have hv:=dA hE x;generalize bP e x=u at h0 hv;cases u with
    |bool b=>
     cases b with
     |false=>cases h0
     |true=>
      obtain ⟨a,ha,h1⟩:=bG h0;obtain ⟨b,hb,hk⟩:=cH h1;obtain ⟨k1,k2,k3,k4,k5⟩:=RP (dA hE q) ha;unfold J1 at hb;cases sW:ng a l with
      |false=>rw [sW] at hb;cases hb
      |true=>
       rw [sW] at hb;injection hb with hb;subst hb;obtain ⟨r,hr⟩:=AY k4 k5 (CS k5 (AZ sW)) 0;have hf:=BX k4 k5 l 0 r hr;refine ⟨_,_,?_,Good.RE hS (b:= .set (Mb l a)) (q:= .map ((Mb l a).map AT)) (rd:=[]) bW trivial rfl,hk⟩;show CC ps z n (m.ev pe) (q.ev pe) (x.ev pe)=_;rw [show m.ev pe=_ from hx,k1,show x.ev pe= .bool aft from hv];have p2:(PV.bool aft).cz=afr [.bool aft]:=rfl;simp only [CC,hS.af1 bW,k2,hz,aeb,aaS,if_true,k3,p2,hr];cases r with
       |none=>simp only at hf;simp [Mb,hf,AT]
       |some j=>
        obtain ⟨_,h2,h3⟩:=hf;have h5:l[j]? =afr a:=by simpa using h3
        have:(l.map AT).set j (rO a,.bool aft)=l.map AT:=by
         apply aeT;intro i;rw [NE];split
         · rename_i kL
           subst kL;have dz:=(AC.1 h5).1;have h6:l[j]=a:=(AC.1 h5).2;simp [dz,h6,AT]
         rfl
        simp [Mb,h2,this]
    |_=>cases h0
   |cj p l=>
    obtain ⟨hz,h0⟩:=qA h;unfold Rr at h0;cases n with
    |some _=>cases h0
    |none=>
     have hq:=dA hE q;generalize bP e q=u at h0 hq;cases u with
     |int d a=>
      cases d with
      |i64=>
       obtain ⟨xv,hxv,hk⟩:=bG h0;have U1:=PT.af3 (dA hE x) hxv;refine ⟨_,_,?_,Good.RE hS (b:= .cj p (p.put l a xv)) (q:= .map ((p.put l a xv).map (C' p))) (rd:=[]) bW trivial rfl,hk⟩;show CC ps z afs (m.ev pe) (q.ev pe) (x.ev pe)=_;rw [show m.ev pe=_ from hx,show q.ev pe=_ from hq,U1];have p1:(PV.int .i64 a).cz=afr [.int .i64 a]:=rfl;rcases EE p a l with ⟨j,x,h1,_,_,h3⟩|⟨h1,_,h3⟩
       · simp only [CC,hS.UX bW,je,hz,aeb,aaS,if_true,p1,PT.Kc,h1,h3,aeR,C']
       simp only [CC,hS.UX bW,je,hz,aeb,aaS,if_true,p1,PT.Kc,h1,h3,ae7,aaG,aeX,C']
      |_=>cases h0
     |_=>cases h0
   |_=>cases h
 |_=>cases h
theorem y4.fr' {s s':List SB} {bad:List Nat} {t e:Nat} (h:y4 s t e) (hf:Fr bad s s'):y4 s' t e:=by
 rcases h with ⟨r,l,h1,h2⟩|h1|⟨cs,h1,h2⟩
 · rcases hf t _ h1 with ⟨l',k1,_,_⟩|k1
   · exact .inl ⟨r,l',k1,h2⟩
   exact .inr (.inl k1)
 · exact .inr (.inl (hf t _ h1))
 rcases hf t _ h1 with ⟨c2,k1⟩|k1
 · exact .inr (.inr ⟨c2,k1,h2⟩)
 exact .inr (.inl k1)
theorem zO {α:Type} {l r:List α} (h:bL l=afr r):r=l/\afk l<=1048576:=by
 unfold bL at h;split at h
 · injection h with h;exact ⟨h.symm,by assumption⟩
 cases h
theorem xk {α:Type} {l m r:List α} (h:bk l m=afr r):r=l++m/\afk l+afk m<=1048576:=by
 unfold bk at h;split at h
 · injection h with h;exact ⟨h.symm,by assumption⟩
 cases h
theorem sk: ∀(m l:List Row) (n:Nat),n+afk m<=afk l->kz n m l=eK l n m
 | [],l,n,h=>by simp [kz,eK]
 |a::m,l,n,h=>by
  simp only [aax] at h;rw [kz,sk m (l.set n a) (n+1) (by simp;omega)];unfold eK;rw [List.take_set,List.drop_set];have hn:n<(afk l):=by omega
  have h1: ¬(n+1+afk m<=n):=by omega
  rw [rc (by omega)];have:(l.take (n+1)).set n a=l.take n++[a]:=by rw [List.take_succ_eq_append_getElem hn,List.set_append_right _ _ (by simp;omega)];simp [aeH (aeS hn)]
  rw [this];simp only [aaz,aeG,List.nil_append,aax];rw [show n+1+afk m=n+(afk m+1) by omega]
theorem EF {α β:Type} (f:α->β) (l m:List α) (n:Nat):(eK l n m).map f=eK (l.map f) n (m.map f):=by simp [eK,acZ,aeq]
theorem A0 {α:Type} (l m:List α) (n:Nat) (h:n+afk m<=afk l):(eK l n m).length=(afk l):=by simp [eK];omega
theorem Mt (hE:dF s e pe) (hS:cA s ps) {esz:Nat} {x yy:fv} (h:lJ e s z (.append esz x yy) k ρ w=afr y):gy s ps (bA pe ps z (.append esz x yy)) k ρ w y:=by
 simp only [lJ] at h;have hx:=dA hE x;have Q7:=dA hE yy;unfold NR at h;generalize bP e yy=vy at h Q7;cases hc:yY s vy with
 |none=>rw [hc] at h;cases h
 |some cc=>
  obtain ⟨q,m⟩:=cc;rw [hc] at h;dsimp only at h;obtain ⟨he,h⟩:=cI h;have he:=v6 he;obtain ⟨Ak,BH⟩:=N1 hS Q7 hc;rw [he] at Ak;have vf:bA pe ps z (.append esz x yy)=iw ps z esz (x.ev pe) (yy.ev pe):=rfl;generalize bP e x=v at h hx;cases v with
  |nil e' c=>
   dsimp only at h;obtain ⟨Aj,h⟩:=cI h;obtain ⟨m',BM,hk⟩:=cH h;obtain ⟨rfl,kI⟩:=zO BM;refine ⟨_,_,?_,Good.new hS (b:= .arr q m') (q:= .arr esz (m'.map (RT.pv q))) (v:= .own (afk s) afu) (p:= .own (afk s) esz 0 (afk m') (afk m') afu) (rd:=uZ vy) (by rw [<- he];rfl) ⟨esz,afk m',rfl,.inl ⟨q,m',lP,he.symm,rfl⟩⟩,hk⟩;rw [vf];have ajy:c=aft:=Aj;subst ajy;rw [show x.ev pe= .sl e' aft [] from hx];unfold iw;rw [Ak];cases m' with
   |nil=>simp [hS.len,BH]
   |cons a m'=>
    have h2:PP ((a::m').length) eA=aft:=by simp [eA] at kI ⊢;omega
    simp only [aax] at h2;simp [hS.len,BH,h2]
  |own t ex=>
   dsimp only at h;simp only [cd] at h;generalize bW:s[t]? =b at h;cases b with
   |none=>cases h
   |some b=>
    cases b with
    |arr r l=>
     dsimp only at h;cases RR:qJ q r m with
     |none=>rw [RR] at h;cases h
     |some m2=>
      rw [RR] at h;dsimp only at h;obtain ⟨rfl,hmp,Ja⟩:=AS RR;obtain ⟨e',n',hx,cW⟩:=hx;obtain ⟨rfl,rfl⟩:=cW.inv bW;rw [<- hmp] at Ak;have F9:=hS.arr bW;cases ex with
      |true=>
       dsimp only at h;rcases eV h with ⟨hl,h⟩|⟨hl,h⟩
       · obtain ⟨m',BM,hk⟩:=cH h
         obtain ⟨rfl,kI⟩:=zO BM;have hl:l=[]:=by simpa using hl
         subst hl;refine ⟨_,_,?_,Good.new hS (b:= .arr q m') (q:= .arr (afk q) (m'.map (RT.pv q))) (v:= .own (afk s) afu) (p:= .own (afk s) (afk q) 0 (afk m') (afk m') afu) (rd:=t::uZ vy) rfl ⟨afk q,afk m',rfl,.inl ⟨q,m',lP,rfl,rfl⟩⟩,hk⟩;rw [vf,hx];unfold iw;rw [Ak];subst he;cases m' with
         |nil=>simp [hS.len,BH]
         |cons a m'=>
          have h2:PP ((a::m').length) eA=aft:=by simp [eA] at kI ⊢;omega
          simp only [aax] at h2;simp [hS.len,BH,h2,F9]
       have hl:l≠[]:=by intro e;subst e;cases hl
       have I9:(afk l)≠0:=by intro e;exact hl (aet.1 e)
       have hb0:UV (afk l) 0=afu:=by
        cases hb:UV (afk l) 0 with
        |false=>rfl
        |true=>exact absurd (v6 hb) I9
       rcases eV h with ⟨hm,h⟩|⟨hm,h⟩
       · have hm:m2=[]:=by simpa using hm
         subst hm;refine gy.rd hS h ?_ ⟨_,_,rfl,cW⟩;rw [vf,hx];unfold iw;rw [Ak];simp [hb0,BH]
       obtain ⟨l',lL,hk⟩:=cH h
       obtain ⟨rfl,kI⟩:=xk lL;refine ⟨_,_,?_,Good.new hS (b:= .arr q (l++m2)) (q:= .arr (afk q) ((l++m2).map (RT.pv q))) (v:= .own (afk s) afu) (p:= .own (afk s) (afk q) 0 (l++m2).length (l++m2).length afu) (rd:=t::uZ vy) rfl ⟨afk q,(l++m2).length,rfl,.inl ⟨q,l++m2,lP,rfl,rfl⟩⟩,hk⟩;rw [vf,hx];unfold iw;rw [Ak];subst he;cases m2 with
       |nil=>cases hm
       |cons a m2=>
        have h2:PP (afk l+(a::m2).length) eA=aft:=by simp [eA] at kI ⊢;omega
        have h3:PP (afk l+(afk m2+1)) (afk l)=afu:=by
         cases hb:PP (afk l+(afk m2+1)) (afk l) with
         |false=>rfl
         |true=>have:=aah hb;omega
        simp only [aax] at h2;simp [hS.len,BH,h2,h3,F9,ad2]
      |false=>
       dsimp only at h;rcases eV h with ⟨hm,h⟩|⟨hm,h⟩
       · have hm:m2=[]:=by simpa using hm
         subst hm;refine gy.rd hS h ?_ ⟨_,_,rfl,cW⟩;rw [vf,hx];unfold iw;rw [Ak];simp [BH]
       obtain ⟨hz,h⟩:=qA h
       obtain ⟨l',lL,hk⟩:=cH h;obtain ⟨rfl,kI⟩:=xk lL;have cO:(Bt [t] (s.set t .dead)).length=(afk s):=by rw [u7];simp
       refine ⟨_,_,?_,Good.put hS (b:= .dead) (q:= .dead) (l:=[.arr q (l++m2)]) (ql:=[.arr (afk q) ((l++m2).map (RT.pv q))]) (v:= .own (afk s) afu) (p:= .own (afk s) (afk q) 0 (l++m2).length (l++m2).length afu) (rd:=uZ vy) bW (.inr rfl) rfl rfl
        (fun j b hj=>by
         cases j with
         |zero=>simp at hj;subst hj;exact ⟨_,rfl,rfl⟩
         |succ j=>simp at hj)
        ⟨afk q,(l++m2).length,rfl,.inl ⟨q,l++m2,by rw [<- cO];exact lP,rfl,rfl⟩⟩,hk⟩
       rw [vf,hx];unfold iw;rw [Ak];subst he;cases m2 with
       |nil=>cases hm
       |cons a m2=>
        have h2:PP (afk l+(a::m2).length) eA=aft:=by simp [eA] at kI ⊢;omega
        have h3:PP (afk l+(afk m2+1)) (afk l)=afu:=by
         cases hb:PP (afk l+(afk m2+1)) (afk l) with
         |false=>rfl
         |true=>have:=aah hb;omega
        simp only [aax] at h2;simp [hS.len,BH,h2,h3,F9,hz,ad2]
    |_=>cases h
  |pre t len cap ex=>
   dsimp only at h;simp only [cd] at h;generalize bW:s[t]? =b at h;cases b with
   |none=>cases h
   |some b=>
    cases b with
    |arr r l=>
     dsimp only at h;cases RR:qJ q r m with
     |none=>rw [RR] at h;cases h
     |some m2=>
      rw [RR] at h;dsimp only at h;obtain ⟨rfl,hmp,Ja⟩:=AS RR;obtain ⟨e',hx,cW⟩:=hx;have:=cW.inv bW;subst this;rw [<- hmp] at Ak;have F9:=hS.arr bW;obtain ⟨hex,h⟩:=qA h;subst hex;rcases eV h with ⟨hm,h⟩|⟨hm,h⟩
      · have hm:m2=[]:=by simpa using hm
        subst hm;refine gy.rd hS h ?_ ⟨_,rfl,cW⟩;rw [vf,hx];unfold iw;rw [Ak];simp [BH]
      rcases eV h with ⟨c1,h⟩|⟨c1,h⟩
      · obtain ⟨I',hk⟩:=hJ h
        simp only [ww,aav] at I';obtain ⟨c2,c3⟩:=I';have c2':=aah c2;refine ⟨_,_,?_,Good.put hS (b:= .arr q (eK l len m2)) (q:= .arr (afk q) ((eK l len m2).map (RT.pv q))) (l:=[]) (ql:=[]) (v:= .pre t (len+afk m2) cap afu) (p:= .own t (afk q) 0 (len+afk m2) cap afu) (rd:=uZ vy) bW (.inl ⟨_,rfl,A0 _ _ _ c2'⟩) rfl rfl
         (fun j b hj=>by simp at hj) ⟨afk q,rfl,?_⟩,hk⟩
        · rw [vf,hx]
          unfold iw;rw [Ak];subst he;have jS:kz (0+len) (m2.map (RT.pv q)) (l.map (RT.pv q))=(eK l len m2).map (RT.pv q):=by rw [sk _ _ _ (by simp;omega),EF,aeu]
          cases m2 with
          |nil=>cases hm
          |cons a m2=>simp only [aax] at c1;simp only [aaG] at jS ⊢;simp only [F9,ac0,aeN,WF,if_false,aax,aaC,c1,if_true,c3,jS,BH]
        have:=y4.fr' (s:=s) (s':=Bt [t] (s.set t (.arr q (eK l len m2)))++[]) cW ((Fr.dg (ts:=[t]) (Fr.set bW (.inl ⟨_,rfl,A0 _ _ _ c2'⟩))).trans (Fr.app [t] _ []))
        exact this
      obtain ⟨hz0,h⟩:=qA h
      have hz:has z t=afu:=by
       cases hh:has z t with
       |false=>rfl
       |true=>rw [hh] at hz0;cases hz0
      obtain ⟨l',lL,h⟩:=cH h;obtain ⟨zw,hk⟩:=hJ h;obtain ⟨ajz,kI⟩:=xk lL;subst ajz;have an4:=aah zw;have L1:(l.take len).length=len:=by rw [acl];omega
      rw [L1] at kI;have cO:(Bt [t] (s.set t .dead)).length=(afk s):=by rw [u7];simp
      have hal:(l.take len++m2).length=len+(afk m2):=by rw [aeC,L1]
      refine ⟨_,_,?_,Good.put hS (b:= .dead) (q:= .dead) (l:=[.arr q (l.take len++m2)]) (ql:=[.arr (afk q) ((l.take len++m2).map (RT.pv q))]) (v:= .own (afk s) afu) (p:= .own (afk s) (afk q) 0 (l.take len++m2).length (l.take len++m2).length afu) (rd:=uZ vy) bW (.inr rfl) rfl rfl
       (fun j b hj=>by
        cases j with
        |zero=>simp at hj;subst hj;exact ⟨_,rfl,rfl⟩
        |succ j=>simp at hj)
       ⟨afk q,(l.take len++m2).length,rfl,.inl ⟨q,l.take len++m2,by rw [<- cO];exact lP,rfl,rfl⟩⟩,hk⟩
      rw [vf,hx];unfold iw;rw [Ak];subst he;cases m2 with
      |nil=>cases hm
      |cons a m2=>
       have h2:PP (len+(afk m2+1)) eA=aft:=by simp [eA] at kI ⊢;omega
       simp only [aax] at c1 hal;simp only [aaG,aax,aaC,F9,ac0,aeN,WF,if_false,c1,h2,hz,hS.len,BH,hal,ae1,ae7,acZ]
    |_=>cases h
  |_=>cases h
end
end Go.Vm
/- Operation by operation: all of them. -/
namespace Go.Vm
section
variable {R' ρ : Type} {w : R' -> ρ} {y : ρ} {s : List SB} {ps : cw} {e : SE} {pe : Env} {z : List Nat} {k : fM -> fZ R'}
theorem Py (hE:dF s e pe) (hS:cA s ps) {esz:Nat} {zero:Row} {x:fv} (h:lJ e s z (.clear esz zero x) k ρ w=afr y):gy s ps (bA pe ps z (.clear esz zero x)) k ρ w y:=by
 simp only [lJ] at h;have hx:=dA hE x;unfold Rp at h;generalize bP e x=v at h hx;cases v with
 |part t off len cap ex=>
  simp only [cd] at h;generalize bW:s[t]? =b at h;cases b with
  |none=>cases h
  |some b=>
   cases b with
   |arr r l=>
    dsimp only at h;cases hq:El zero with
    |none=>rw [hq] at h;cases h
    |some q=>
     rw [hq] at h;dsimp only at h;obtain ⟨hc,h1⟩:=cI h;simp only [ww] at hc;obtain ⟨ZD,he⟩:=hc;have ZD:=ui ZD;have he:=v6 he;obtain ⟨e',hx,cW⟩:=hx;have:=cW.inv bW;subst this;subst ZD;subst he;rcases eV h1 with ⟨hl,hk⟩|⟨hl,hk⟩
     · have hl:=v6 hl
       subst hl;exact gy.val hS hk (by simp only [bA,hx]) rfl
     obtain ⟨I',hk⟩:=hJ hk
     simp only [ww,aav] at I';obtain ⟨c1,c2⟩:=I';have c1':=aah c1;have cO:=A0 l (ac2 len (RT.zero q)) off (by simpa using c1');refine ⟨_,_,?_,Good.RE hS (b:= .arr q (eK l off (ac2 len (RT.zero q)))) (q:= .arr (afk q) ((eK l off (ac2 len (RT.zero q))).map (RT.pv q))) (rd:=[]) bW (.inl ⟨_,rfl,cO⟩) rfl,hk⟩;cases len with
     |zero=>cases hl
     |succ len=>
      have jS:kz off (ac2 (len+1) zero) (l.map (RT.pv q))=(eK l off (ac2 (len+1) (RT.zero q))).map (RT.pv q):=by rw [EF,sk _ _ _ (by simpa using c1')];simp [AX hq]
      simp only [bA,hx,hS.arr bW,ac0,c2,aeb,aaS,if_true,jS]
   |_=>cases h
 |_=>cases h
theorem zP (hS:cA s ps) {t off len cap:Nat} {ex:Bool} {r:List PT} {l:List (RT r)} {x yy:fv} {vy:SV} (bW:s[t]? =afr (.arr r l)) (hx:x.ev pe= .own t (afk r) off len cap ex) (Q7:R s vy (yy.ev pe))
 (h:Em s z t r l off len vy k ρ w=afr y):gy s ps (bA pe ps z (.copy (afk r) x yy)) k ρ w y:=by
 unfold Em at h;cases hc:yY s vy with
 |none=>rw [hc] at h;cases h
 |some cc=>
  obtain ⟨q,m⟩:=cc;rw [hc] at h;dsimp only at h;cases RR:qJ q r m with
  |none=>rw [RR] at h;cases h
  |some m2=>
   rw [RR] at h;dsimp only at h;obtain ⟨ZD,hmp,Ja⟩:=AS RR;subst ZD;obtain ⟨Ak,BH⟩:=N1 hS Q7 hc;rw [<- hmp] at Ak;have EG:(m2.map (RT.pv q)).take len=(m2.take len).map (RT.pv q):=by rw [acZ]
   generalize m2.take len=mm at h EG;rcases eV h with ⟨hm,hk⟩|⟨hm,hk⟩
   · have hm:mm=[]:=by simpa using hm
     subst hm;refine gy.rd hS hk ?_ rfl;simp only [bA,Ak,hx,EG,aeX,BH]
   obtain ⟨I',hk⟩:=hJ hk
   simp only [ww,aav] at I';obtain ⟨c1,c2⟩:=I';have c1':=aah c1;have cO:=A0 l mm off c1';refine ⟨_,_,?_,Good.put hS (b:= .arr q (eK l off mm)) (q:= .arr (afk q) ((eK l off mm).map (RT.pv q))) (l:=[]) (ql:=[]) (v:= .int .i64 (.ofNat (afk mm))) (p:= .int .i64 (.ofNat (afk mm))) (rd:=uZ vy) bW (.inl ⟨_,rfl,cO⟩) rfl rfl (fun j b hj=>by simp at hj) rfl,hk⟩;have jS:kz off (mm.map (RT.pv q)) (l.map (RT.pv q))=(eK l off mm).map (RT.pv q):=by rw [EF,sk _ _ _ (by simpa using c1')]
   cases mm with
   |nil=>cases hm
   |cons a mm=>simp only [aaG] at jS EG;simp only [bA,Ak,hx,EG,hS.arr bW,ac0,c2,aeb,aaS,if_true,jS,BH,aaC,aax]
theorem RS (hE:dF s e pe) (hS:cA s ps) {esz:Nat} {x yy:fv} (h:lJ e s z (.copy esz x yy) k ρ w=afr y):gy s ps (bA pe ps z (.copy esz x yy)) k ρ w y:=by
 simp only [lJ] at h;have hx:=dA hE x;have Q7:=dA hE yy;unfold Zy at h;generalize bP e yy=vy at h Q7;generalize bP e x=v at h hx;cases v with
 |own t ex=>
  simp only [cd] at h;generalize bW:s[t]? =b at h;cases b with
  |none=>cases h
  |some b=>
   cases b with
   |arr r l=>obtain ⟨he,hk⟩:=cI h;have he:=v6 he;subst he;obtain ⟨e',n',hx,cW⟩:=hx;obtain ⟨rfl,rfl⟩:=cW.inv bW;exact zP hS bW hx Q7 hk
   |_=>cases h
 |pre t len cap ex=>
  simp only [cd] at h;generalize bW:s[t]? =b at h;cases b with
  |none=>cases h
  |some b=>
   cases b with
   |arr r l=>obtain ⟨he,hk⟩:=cI h;have he:=v6 he;subst he;obtain ⟨e',hx,cW⟩:=hx;have:=cW.inv bW;subst this;exact zP hS bW hx Q7 hk
   |_=>cases h
 |part t off len cap ex=>
  simp only [cd] at h;generalize bW:s[t]? =b at h;cases b with
  |none=>cases h
  |some b=>
   cases b with
   |arr r l=>obtain ⟨he,hk⟩:=cI h;have he:=v6 he;subst he;obtain ⟨e',hx,cW⟩:=hx;have:=cW.inv bW;subst this;exact zP hS bW hx Q7 hk
   |_=>cases h
 |_=>cases h
theorem Pz (hE:dF s e pe) (hS:cA s ps) {x1 x2:fv} (h:lJ e s z (.Cz x1 x2) k ρ w=afr y):gy s ps (bA pe ps z (.Cz x1 x2)) k ρ w y:=by
 simp only [lJ] at h;have hx:=dA hE x1;have hy:=dA hE x2;generalize bP e x1=v at h hx;generalize bP e x2=u at h hy;cases v with
 |sl r l=>
  cases u with
  |sl q m=>have hx:x1.ev pe= .sl (afk r) afu (l.map (RT.pv r)):=hx;have hy:x2.ev pe= .sl (afk q) afu (m.map (RT.pv q)):=hy;refine ⟨_,_,?_,Good.new hS (b:= .box [.sl r l,.sl q m]) (q:= .box [.sl (afk r) afu (l.map (RT.pv r)),.sl (afk q) afu (m.map (RT.pv q))]) (v:= .part (afk s) 0 2 2 aft) (p:= .own (afk s) 1 0 2 2 aft) (rd:=[]) ⟨_,rfl,_,_,rfl,rfl,_,_,rfl,rfl,rfl⟩ ⟨1,rfl,.inr (.inr ⟨_,lP,rfl⟩)⟩,h⟩;simp only [bA,hx,hy,hS.len];rfl
  |_=>cases h
 |_=>cases h
theorem U2 (hE:dF s e pe) (hS:cA s ps) {op:kv} (h:lJ e s z op k ρ w=afr y):gy s ps (bA pe ps z op) k ρ w y:=by
 cases op with
 |Qk x=>exact gy.val hS h rfl (dA hE x)
 |pick c a b=>exact RK hE hS h
 |bin op a b=>exact UN hE hS h
 |Jd n a b=>exact RF hE hS h
 |Y1 n g a b=>exact UO hE hS h
 |un op a=>exact aaI hE hS h
 |conv a x=>exact RH hE hS h
 |len x=>exact UP hE hS h
 |LB n=>exact gy.val hS h rfl rfl
 |box x=>exact UR hE hS h
 |alloc c=>exact Pu hS h
 |build z p=>exact Ps hE hS h
 |Am a b c d=>exact Px hE hS h
 |Cz a b=>exact Pz hE hS h
 |load a p=>exact RO hE hS h
 |store a p x=>exact Pw hE hS h
 |Je x=>exact RI hE hS h
 |Jf o x=>exact RJ hE hS h
 |j0 a o x=>exact US hE hS h
 |Jg a x i=>exact RM hE hS h
 |CA n a x i=>exact Pv hE hS h
 |idx n a g x i=>exact UY hE hS h
 |Jh x i=>exact RN hE hS h
 |OM a x l h' m=>exact UZ hE hS h
 |Y2 a z l c=>exact U0 hE hS h
 |Y3 f a b=>exact UU hE hS h
 |Y4 m=>exact UW hS h
 |lookup n z o m q=>exact Ms hE hS h
 |HA n m q x=>exact RQ hE hS h
 |ext i x=>exact UT hE hS h
 |append a x b=>exact Mt hE hS h
 |copy a x b=>exact RS hE hS h
 |clear a z x=>exact Py hE hS h
 |mm m x xs=>exact aaJ hE hS h
 |call m f a=>cases h
 |vY x a=>cases h
 |bad=>cases h
mutual
theorem af7 {bx:Nat->Option (List SV)} {RU:Nat->Option (List PV)} (hS:cA s ps) (hb: ∀t l,bx t=afr l-> ∃q,RU t=afr q/\qM l=afr q): ∀{v u:SV} {p:PV},R s v p->GL s bx v=afr u-> ∃q,Bv ps RU p=afr q/\qL u=afr q
 | .int k n,u,p,h,hx=>by injection hx with hx;subst hx;rw [show p=_ from h];exact ⟨_,rfl,rfl⟩
 | .bool b,u,p,h,hx=>by injection hx with hx;subst hx;rw [show p=_ from h];exact ⟨_,rfl,rfl⟩
 | .str x,u,p,h,hx=>by injection hx with hx;subst hx;rw [show p=_ from h];exact ⟨_,rfl,rfl⟩
 | .dH,u,p,h,hx=>by injection hx with hx;subst hx;rw [show p=_ from h];exact ⟨_,rfl,rfl⟩
 | .agg cs,u,p,h,hx=>by
  obtain ⟨q,rfl,h⟩:=h;simp only [GL] at hx;split at hx
  · rename_i l hl
    injection hx with hx;subst hx;obtain ⟨q',h1,h2⟩:=sZ hS hb h hl;exact ⟨.agg q',by simp only [Bv,h1];rfl,by simp only [qL,h2]⟩
  cases hx
 | .cy cs,u,p,h,hx=>by
  obtain ⟨q,rfl,h⟩:=h;simp only [GL] at hx;split at hx
  · rename_i l hl
    injection hx with hx;subst hx;obtain ⟨q',h1,h2⟩:=sZ hS hb h hl;exact ⟨.cy q',by simp only [Bv,h1];rfl,by simp only [qL,h2]⟩
  cases hx
 | .sl r l,u,p,h,hx=>by injection hx with hx;subst hx;rw [show p=_ from h];exact ⟨_,rfl,rfl⟩
 | .nil e c,u,p,h,hx=>by injection hx with hx;subst hx;rw [show p=_ from h];exact ⟨_,rfl,rfl⟩
 | .own t ex,u,p,h,hx=>by
  simp only [GL,cd] at hx;split at hx
  · rename_i r l bW
    injection hx with hx;subst hx;obtain ⟨e,n,rfl,cW⟩:=h;obtain ⟨rfl,rfl⟩:=cW.inv bW;refine ⟨.sl (afk r) afu (l.map (RT.pv r)),?_,rfl⟩;simp only [Bv,hS.arr bW,ae1];rw [ad2 (by simp)]
  cases hx
 | .pre t len cap ex,u,p,h,hx=>by
  simp only [GL,cd] at hx;split at hx
  · rename_i r l bW
    injection hx with hx;subst hx;obtain ⟨e,rfl,cW⟩:=h;have:=cW.inv bW;subst this;refine ⟨.sl (afk r) afu ((l.take len).map (RT.pv r)),?_,rfl⟩;simp only [Bv,hS.arr bW,ae1,acZ]
  cases hx
 | .part t off len cap ex,u,p,h,hx=>by
  simp only [GL,cd] at hx;split at hx
  · rename_i r l bW
    injection hx with hx;subst hx;obtain ⟨e,rfl,cW⟩:=h;have:=cW.inv bW;subst this;refine ⟨.sl (afk r) afu (((l.drop off).take len).map (RT.pv r)),?_,rfl⟩;simp only [Bv,hS.arr bW,acZ,aeq]
  cases hx
 | .pa t r i a off,u,p,h,hx=>by
  simp only [GL,cd] at hx;split at hx
  · rename_i q l bW
    injection hx with hx;subst hx;obtain ⟨rfl,cW⟩:=h;obtain ⟨rfl,hg⟩:=cW.inv bW;obtain ⟨m,rfl,hm⟩:=mG hg;refine ⟨.bD (RT.pv r a) off,?_,by simp only [qL,RT.GO]⟩;have BM:(l.map (RT.pv r))[m]? =afr (RT.pv r a):=by simp [hm]
    have e1:(ae8 m).toNat=m:=rfl;simp only [Bv,hS.arr bW,e1,BM];rfl
  cases hx
 | .bp t n off,u,p,h,hx=>by
  simp only [GL,cd] at hx;split at hx
  · rename_i cs bW
    split at hx
    · rename_i l hl
      injection hx with hx;subst hx;rw [show p=_ from h];obtain ⟨q,h1,h2⟩:=hb t l hl;obtain ⟨c,h3,_⟩:=hS.box bW;refine ⟨.bD q off,?_,by simp only [qL,h2]⟩;simp only [Bv,h3,ac0,if_true,h1];rfl
    cases hx
  cases hx
 | .bD cs off,u,p,h,hx=>by
  obtain ⟨q,rfl,h⟩:=h;simp only [GL] at hx;split at hx
  · rename_i l hl
    injection hx with hx;subst hx;obtain ⟨q',h1,h2⟩:=sZ hS hb h hl;exact ⟨.bD q' off,by simp only [Bv,h1];rfl,by simp only [qL,h2]⟩
  cases hx
 | .ez f a b,u,p,h,hx=>by
  obtain ⟨pa,pb,rfl,h1,h2⟩:=h;simp only [GL] at hx;split at hx
  · rename_i x y' h3 h4
    injection hx with hx;subst hx;obtain ⟨qa,h5,h6⟩:=sZ hS hb h1 h3;obtain ⟨qb,h7,h8⟩:=sZ hS hb h2 h4;exact ⟨.ez f qa qb,by simp only [Bv,h5,h7],by simp only [qL,h6,h8]⟩
  cases hx
 | .gH,_,_,_,hx| .undef,_,_,_,hx| .jd,_,_,_,hx| .pb _ _ _,_,_,_,hx| .mp _,_,_,_,hx=>by cases hx
theorem sZ {bx:Nat->Option (List SV)} {RU:Nat->Option (List PV)} (hS:cA s ps) (hb: ∀t l,bx t=afr l-> ∃q,RU t=afr q/\qM l=afr q): ∀{v u:List SV} {p:List PV},RL s v p->qK s bx v=afr u-> ∃q,Bw ps RU p=afr q/\qM u=afr q
 | [],u,p,h,hx=>by injection hx with hx;subst hx;rw [show p=_ from h];exact ⟨_,rfl,rfl⟩
 |x::xs,u,p,h,hx=>by
  obtain ⟨q,qs,rfl,h1,h2⟩:=h.cons_inv;simp only [qK] at hx;split at hx
  · rename_i y' ys h3 h4
    injection hx with hx;subst hx;obtain ⟨a,h5,h6⟩:=af7 hS hb h1 h3;obtain ⟨as,h7,h8⟩:=sZ hS hb h2 h4;exact ⟨a::as,by simp only [Bw,h5,h7],ek.2 ⟨a,as,rfl,h6,h8⟩⟩
  cases hx
end
theorem Dv (hS:cA s ps): ∀(n t:Nat) (l:List SV),jU s n t=afr l-> ∃q,wN ps n t=afr q/\qM l=afr q
 |0,t,l,h=>by cases h
 |n+1,t,l,h=>by
  simp only [jU,cd] at h;split at h
  · rename_i cs bW
    obtain ⟨q,h1,h2⟩:=hS.box bW;obtain ⟨u,h3,h4⟩:=sZ hS (Dv hS n) h2 h;exact ⟨u,by simp only [wN,h1,h3],h4⟩
  cases h
mutual
theorem RW {bx RU:Nat->List Nat} (hb: ∀t,bx t=RU t): ∀{v:SV} {p:PV},R s v p->v.sure=aft->Mf bx v=iH RU p
 | .gH,_,_,h=>by cases h
 | .undef,p,h,_| .jd,p,h,_| .dH,p,h,_| .int _ _,p,h,_| .bool _,p,h,_| .str _,p,h,_| .sl _ _,p,h,_| .nil _ _,p,h,_=>by rw [show p=_ from h];rfl
 | .agg cs,p,h,hs=>by obtain ⟨q,rfl,h⟩:=h;exact zQ hb h hs
 | .cy cs,p,h,hs=>by obtain ⟨q,rfl,h⟩:=h;exact zQ hb h hs
 | .own t ex,p,h,_=>by obtain ⟨e,n,rfl,_⟩:=h;rfl
 | .pre t a b c,p,h,_=>by obtain ⟨e,rfl,_⟩:=h;rfl
 | .part t o a b c,p,h,_=>by obtain ⟨e,rfl,_⟩:=h;rfl
 | .pa t r i a o,p,h,_=>by obtain ⟨rfl,_⟩:=h;simp only [Mf,iH,hb]
 | .pb t i o,p,h,_=>by obtain ⟨e,rfl,_⟩:=h;simp only [Mf,iH,hb]
 | .bp t n o,p,h,_=>by rw [show p=_ from h];simp only [Mf,iH,hb]
 | .bD cs o,p,h,hs=>by obtain ⟨q,rfl,h⟩:=h;exact zQ hb h hs
 | .mp t,p,h,_=>by rw [show p=_ from h];rfl
 | .ez f a b,p,h,hs=>by obtain ⟨pa,pb,rfl,h1,h2⟩:=h;simp only [SV.sure,ww] at hs;simp only [Mf,iH,zQ hb h1 hs.1,zQ hb h2 hs.2]
theorem zQ {bx RU:Nat->List Nat} (hb: ∀t,bx t=RU t): ∀{v:List SV} {p:List PV},RL s v p->lI v=aft->qh bx v=dm RU p
 | [],p,h,_=>by rw [show p=_ from h];rfl
 |x::xs,p,h,hs=>by obtain ⟨q,qs,rfl,h1,h2⟩:=h.cons_inv;simp only [lI,ww] at hs;simp only [qh,dm,RW hb h1 hs.1,zQ hb h2 hs.2]
end
end
end Go.Vm
/- The head of a loop: what the typed machine keeps there, the logical machine keeps there. -/
namespace Go.Vm
section
variable {s : List SB} {ps : cw}
mutual
theorem af8 {n:Nat} (hS:cA s ps) (hB: ∀t l,jU s n t=afr l->wE s n t=c7 ps n t): ∀{v u:SV} {p:PV},R s v p->GL s (jU s n) v=afr u->Mf (wE s n) v=iH (c7 ps n) p
 | .int _ _,_,p,h,_| .bool _,_,p,h,_| .str _,_,p,h,_| .dH,_,p,h,_| .sl _ _,_,p,h,_| .nil _ _,_,p,h,_=>by rw [show p=_ from h];rfl
 | .agg cs,u,p,h,hx=>by
  obtain ⟨q,rfl,h⟩:=h;simp only [GL] at hx;split at hx
  · rename_i l hl;exact y5 hS hB h hl
  cases hx
 | .cy cs,u,p,h,hx=>by
  obtain ⟨q,rfl,h⟩:=h;simp only [GL] at hx;split at hx
  · rename_i l hl;exact y5 hS hB h hl
  cases hx
 | .own t ex,_,p,h,_=>by obtain ⟨e,n,rfl,_⟩:=h;rfl
 | .pre t a b c,_,p,h,_=>by obtain ⟨e,rfl,_⟩:=h;rfl
 | .part t o a b c,_,p,h,_=>by obtain ⟨e,rfl,_⟩:=h;rfl
 | .pa t r i a o,_,p,h,hx=>by
  obtain ⟨rfl,cW⟩:=h;simp only [GL,cd] at hx;split at hx
  · rename_i q l bW
    simp only [Mf,iH];cases n with
    |zero=>rfl
    |succ n=>simp only [wE,c7,cd,bW,hS.arr bW]
  cases hx
 | .bp t m o,u,p,h,hx=>by
  rw [show p=_ from h];simp only [GL,cd] at hx;split at hx
  · split at hx
    · rename_i l hl
      simp only [Mf,iH,hB t l hl]
    cases hx
  cases hx
 | .bD cs o,u,p,h,hx=>by
  obtain ⟨q,rfl,h⟩:=h;simp only [GL] at hx;split at hx
  · rename_i l hl;exact y5 hS hB h hl
  cases hx
 | .ez f a b,u,p,h,hx=>by
  obtain ⟨pa,pb,rfl,h1,h2⟩:=h;simp only [GL] at hx;split at hx
  · rename_i x y h3 h4
    simp only [Mf,iH,y5 hS hB h1 h3,y5 hS hB h2 h4]
  cases hx
 | .gH,_,_,_,hx| .undef,_,_,_,hx| .jd,_,_,_,hx| .pb _ _ _,_,_,_,hx| .mp _,_,_,_,hx=>by cases hx
theorem y5 {n:Nat} (hS:cA s ps) (hB: ∀t l,jU s n t=afr l->wE s n t=c7 ps n t): ∀{v u:List SV} {p:List PV},RL s v p->qK s (jU s n) v=afr u->qh (wE s n) v=dm (c7 ps n) p
 | [],_,p,h,_=>by rw [show p=_ from h];rfl
 |x::xs,u,p,h,hx=>by
  obtain ⟨q,qs,rfl,h1,h2⟩:=h.cons_inv;simp only [qK] at hx;split at hx
  · rename_i a b h3 h4
    simp only [qh,dm,af8 hS hB h1 h3,y5 hS hB h2 h4]
  cases hx
end
theorem RX {n:Nat} (hS:cA s ps) (hB: ∀t l,jU s n t=afr l->wE s n t=c7 ps n t): ∀{v:List SV} {p:List PV},RL s v p->Me s (jU s n) v=aft->qh (wE s n) v=dm (c7 ps n) p
 | [],p,h,_=>by rw [show p=[] from h];rfl
 |x::xs,p,h,hx=>by
  obtain ⟨a,as,rfl,h1,h2⟩:=h.cons_inv;have other: ∀u,GL s (jU s n) x=afr u->Me s (jU s n) xs=aft->qh (wE s n) (x::xs)=dm (c7 ps n) (a::as):=fun u h3 h4=>by simp only [qh,dm,af8 hS hB h1 h3,RX hS hB h2 h4]
  unfold Me at hx;split at hx
  · rename_i t
    rw [show a= .mp t from h1];simp only [qh,dm,Mf,iH,RX hS hB h2 hx]
  split at hx
  · rename_i u h3
    exact other u h3 hx
  cases hx
theorem EH (hS:cA s ps): ∀(n t:Nat) (l:List SV),jU s n t=afr l->wE s n t=c7 ps n t
 |0,t,l,h=>rfl
 |n+1,t,l,h=>by
  simp only [jU,cd] at h;split at h
  · rename_i cs bW
    obtain ⟨q,h1,h2⟩:=hS.box bW;simp only [wE,c7,cd,bW,h1];exact y5 hS (EH hS n) h2 h
  cases h
theorem Ip {b:SB} {q:jx} (h:RB s b q) (hs:yk b=aft):En b=p6 q:=by
 cases b with
 |box cs=>obtain ⟨c,rfl,h⟩:=h;exact zQ (fun _=>rfl) h hs
 |arr r l=>rw [show q=_ from h];rfl
 |set l=>rw [show q=_ from h];rfl
 |cj p l=>rw [show q=_ from h];rfl
 |dead=>rw [show q=_ from h];rfl
theorem EI (hS:cA s ps): ∀(n:Nat) (ts seen m:List Nat),BT s n ts seen=afr m->reach ps n ts seen=afr m
 |n,[],seen,m,h=>by cases n<;>(simp only [BT] at h;exact h)
 |0,_::_,_,_,h=>by cases h
 |n+1,t::ts,seen,m,h=>by
  simp only [BT,cd] at h;simp only [reach];cases hh:has seen t with
  |true=>rw [hh] at h;simp only [lw] at h;simp only [if_true];exact EI hS n ts seen m h
  |false=>
   rw [hh] at h;simp only [pp] at h;simp only [WF,if_false];split at h
   · rename_i b bW
     obtain ⟨q,h1,h2⟩:=hS.at_ t b bW;cases hb:yk b with
     |false=>rw [hb] at h;cases h
     |true=>rw [hb] at h;simp only [lw] at h;rw [h1,Ip h2 hb] at*;exact EI hS n _ _ m h
   cases h
theorem EJ: ∀{t u:Nat} {m:List Nat},idxOf t m=afr u->m[u]? =afr t
 |t,u,[],h=>by cases h
 |t,u,x::m,h=>by
  simp only [idxOf] at h;cases hb:UV x t with
  |true=>rw [hb] at h;simp at h;subst h;simp [v6 hb]
  |false=>rw [hb] at h;simp only [WF,if_false,ac1] at h;obtain ⟨v,hv,rfl⟩:=h;simpa using EJ hv
def EK (m:List Nat) (s s':List SB):Prop:= ∀(t u:Nat) (b:SB),idxOf t m=afr u->s[t]? =afr b->match b with
 | .arr r l=>s'[u]? =afr (.arr r l)
 | .dead=>s'[u]? =afr .dead
 | .box _=> ∃cs,s'[u]? =afr (.box cs)
 |_=>True
mutual
theorem RY {m:List Nat} {s':List SB} (hr:EK m s s'): ∀{v u:SV} {p:PV},R s v p->py m v=afr u-> ∃q,yP m p=afr q/\R s' u q
 | .gH,_,_,_,hx=>by cases hx
 | .undef,u,p,h,hx| .jd,u,p,h,hx| .dH,u,p,h,hx| .int _ _,u,p,h,hx| .bool _,u,p,h,hx| .str _,u,p,h,hx| .sl _ _,u,p,h,hx| .nil _ _,u,p,h,hx=>by injection hx with hx;subst hx;rw [show p=_ from h];exact ⟨_,rfl,rfl⟩
 | .agg cs,u,p,h,hx=>by
  obtain ⟨q,rfl,h⟩:=h;simp only [py] at hx;split at hx
  · rename_i l hl
    injection hx with hx;subst hx;obtain ⟨q',h1,h2⟩:=sm hr h hl;exact ⟨.agg q',by simp only [yP,h1];rfl,q',rfl,h2⟩
  cases hx
 | .cy cs,u,p,h,hx=>by
  obtain ⟨q,rfl,h⟩:=h;simp only [py] at hx;split at hx
  · rename_i l hl
    injection hx with hx;subst hx;obtain ⟨q',h1,h2⟩:=sm hr h hl;exact ⟨.cy q',by simp only [yP,h1];rfl,q',rfl,h2⟩
  cases hx
 | .own t ex,u,p,h,hx=>by
  obtain ⟨e,n,rfl,cW⟩:=h;simp only [py] at hx;split at hx
  · rename_i v hv
    injection hx with hx;subst hx;refine ⟨.own v e 0 n n ex,by simp only [yP,hv];rfl,e,n,rfl,?_⟩;rcases cW with ⟨r,l,h1,h2,h3⟩|h1
    · exact .inl ⟨r,l,hr t v _ hv h1,h2,h3⟩
    exact .inr (hr t v _ hv h1)
  cases hx
 | .pre t len cap ex,u,p,h,hx=>by
  obtain ⟨e,rfl,cW⟩:=h;simp only [py] at hx;split at hx
  · rename_i v hv
    injection hx with hx;subst hx;refine ⟨.own v e 0 len cap ex,by simp only [yP,hv];rfl,e,rfl,?_⟩;rcases cW with ⟨r,l,h1,h2⟩|h1|⟨cs,h1,h2⟩
    · exact .inl ⟨r,l,hr t v _ hv h1,h2⟩
    · exact .inr (.inl (hr t v _ hv h1))
    obtain ⟨c2,h3⟩:=hr t v _ hv h1
    exact .inr (.inr ⟨c2,h3,h2⟩)
  cases hx
 | .part t off len cap ex,u,p,h,hx=>by
  obtain ⟨e,rfl,cW⟩:=h;simp only [py] at hx;split at hx
  · rename_i v hv
    injection hx with hx;subst hx;refine ⟨.own v e off len cap ex,by simp only [yP,hv];rfl,e,rfl,?_⟩;rcases cW with ⟨r,l,h1,h2⟩|h1|⟨cs,h1,h2⟩
    · exact .inl ⟨r,l,hr t v _ hv h1,h2⟩
    · exact .inr (.inl (hr t v _ hv h1))
    obtain ⟨c2,h3⟩:=hr t v _ hv h1
    exact .inr (.inr ⟨c2,h3,h2⟩)
  cases hx
 | .pa t r i a off,u,p,h,hx=>by
  obtain ⟨rfl,cW⟩:=h;simp only [py] at hx;split at hx
  · rename_i v hv
    injection hx with hx;subst hx;refine ⟨.ptr v (afk r) i.toNat off,by simp only [yP,hv];rfl,afk r,rfl,?_⟩;rcases cW with ⟨l,h1,h2⟩|h1
    · exact .inl ⟨r,l,hr t v _ hv h1,by rw [h2];rfl⟩
    exact .inr (hr t v _ hv h1)
  cases hx
 | .pb t i off,u,p,h,hx=>by
  obtain ⟨e,rfl,cW⟩:=h;simp only [py] at hx;split at hx
  · rename_i v hv
    injection hx with hx;subst hx;refine ⟨.ptr v e i.toNat off,by simp only [yP,hv];rfl,e,rfl,?_⟩;rcases cW with ⟨r,l,h1,h2⟩|h1
    · exact .inl ⟨r,l,hr t v _ hv h1,h2⟩
    exact .inr (hr t v _ hv h1)
  cases hx
 | .bp t n off,u,p,h,hx=>by
  rw [show p=_ from h];simp only [py] at hx;split at hx
  · rename_i v hv
    injection hx with hx;subst hx;exact ⟨.ptr v n 0 off,by simp only [yP,hv];rfl,rfl⟩
  cases hx
 | .bD cs off,u,p,h,hx=>by
  obtain ⟨q,rfl,h⟩:=h;simp only [py] at hx;split at hx
  · rename_i l hl
    injection hx with hx;subst hx;obtain ⟨q',h1,h2⟩:=sm hr h hl;exact ⟨.bD q' off,by simp only [yP,h1];rfl,q',rfl,h2⟩
  cases hx
 | .mp t,u,p,h,hx=>by
  rw [show p=_ from h];simp only [py] at hx;split at hx
  · rename_i v hv
    injection hx with hx;subst hx;exact ⟨.mp v,by simp only [yP,hv];rfl,rfl⟩
  cases hx
 | .ez f a b,u,p,h,hx=>by
  obtain ⟨pa,pb,rfl,h1,h2⟩:=h;simp only [py] at hx;split at hx
  · rename_i x y h3 h4
    injection hx with hx;subst hx;obtain ⟨qa,h5,h6⟩:=sm hr h1 h3;obtain ⟨qb,h7,h8⟩:=sm hr h2 h4;exact ⟨.ez f qa qb,by simp only [yP,h5,h7],qa,qb,rfl,h6,h8⟩
  cases hx
theorem sm {m:List Nat} {s':List SB} (hr:EK m s s'): ∀{v u:List SV} {p:List PV},RL s v p->sg m v=afr u-> ∃q,yM m p=afr q/\RL s' u q
 | [],u,p,h,hx=>by injection hx with hx;subst hx;rw [show p=_ from h];exact ⟨_,rfl,rfl⟩
 |x::xs,u,p,h,hx=>by
  obtain ⟨q,qs,rfl,h1,h2⟩:=h.cons_inv;simp only [sg] at hx;split at hx
  · rename_i a b h3 h4
    injection hx with hx;subst hx;obtain ⟨a',h5,h6⟩:=RY hr h1 h3;obtain ⟨b',h7,h8⟩:=sm hr h2 h4;exact ⟨a'::b',by simp only [yM,h5,h7],RL.cons h6 h8⟩
  cases hx
end
theorem aaK {m:List Nat} {s':List SB} (hr:EK m s s') {b c:SB} {q:jx} (h:RB s b q) (hx:Mh m b=afr c): ∃q',mU m q=afr q'/\RB s' c q':=by
 cases b with
 |box cs=>
  obtain ⟨p,rfl,h⟩:=h;simp only [Mh] at hx;split at hx
  · rename_i l hl
    injection hx with hx;subst hx;obtain ⟨q',h1,h2⟩:=sm hr h hl;exact ⟨.box q',by simp only [mU,h1];rfl,q',rfl,h2⟩
  cases hx
 |arr r l=>injection hx with hx;subst hx;rw [show q=_ from h];exact ⟨_,rfl,rfl⟩
 |set l=>injection hx with hx;subst hx;rw [show q=_ from h];exact ⟨_,rfl,rfl⟩
 |cj p l=>injection hx with hx;subst hx;rw [show q=_ from h];exact ⟨_,rfl,rfl⟩
 |dead=>injection hx with hx;subst hx;rw [show q=_ from h];exact ⟨_,rfl,rfl⟩
theorem xl {m:List Nat}: ∀{ts:List Nat} {s1:List SB},Gc s m ts=afr s1->afk s1=afk ts/\ ∀(j t:Nat),ts[j]? =afr t-> ∃b c,s[t]? =afr b/\Mh m b=afr c/\s1[j]? =afr c
 | [],s1,h=>by injection h with h;subst h;exact ⟨rfl,fun j t h=>by simp at h⟩
 |t::ts,s1,h=>by
  simp only [Gc,cd] at h;split at h
  · rename_i b hb
    split at h
    · rename_i c r hc hr
      injection h with h;subst h;obtain ⟨h1,h2⟩:=xl hr;refine ⟨by simp [h1],fun j u hj=>?_⟩;cases j with
      |zero=>simp at hj;subst hj;exact ⟨b,c,hb,hc,rfl⟩
      |succ j=>simpa using h2 j u (by simpa using hj)
    cases h
  cases h
theorem BY (hS:cA s ps) {m:List Nat} {s':List SB} (hr:EK m s s'): ∀{ts:List Nat} {s1:List SB},Gc s m ts=afr s1-> ∃p1,wO ps m ts=afr p1/\afk p1=afk s1/\ ∀(j:Nat) (b:SB),s1[j]? =afr b-> ∃q,p1[j]? =afr q/\RB s' b q
 | [],s1,h=>by injection h with h;subst h;exact ⟨[],rfl,rfl,fun j b h=>by simp at h⟩
 |t::ts,s1,h=>by
  simp only [Gc,cd] at h;split at h
  · rename_i b hb
    split at h
    · rename_i c r hc T0
      injection h with h;subst h;obtain ⟨q,h1,h2⟩:=hS.at_ t b hb;obtain ⟨q',h3,h4⟩:=aaK hr h2 hc;obtain ⟨p1,h5,h6,h7⟩:=BY hS hr T0;refine ⟨q'::p1,by simp only [wO,h1,h3,h5],by simp [h6],fun j x hj=>?_⟩;cases j with
      |zero=>simp at hj;subst hj;exact ⟨q',rfl,h4⟩
      |succ j=>simpa using h7 j x (by simpa using hj)
    cases h
  cases h
theorem EK.of {m:List Nat} {s1 l:List SB} (h:Gc s m m=afr s1):EK m s (s1++l):=fun t u b hu hb=>by
 have hm:=EJ hu;obtain ⟨h1,h2⟩:=xl h;obtain ⟨b',c,h3,h4,h5⟩:=h2 u t hm;rw [hb] at h3;injection h3 with h3;subst h3;have dz:=(AC.1 h5).1;cases b with
 |arr r l'=>injection h4 with h4;subst h4;rw [Do dz];exact h5
 |dead=>injection h4 with h4;subst h4;rw [Do dz];exact h5
 |box cs=>
  simp only [Mh] at h4;split at h4
  · injection h4 with h4;subst h4;exact ⟨_,by rw [Do dz];exact h5⟩
  cases h4
 |_=>trivial
theorem uq: ∀(rk:List (Nat×List PT)) (n:Nat),(rowOf rk n).length=n
 | [],n=>by simp [rowOf]
 |(m,r)::q,n=>by
  simp only [rowOf];cases hc:(UV m n&&UV (afk r) n) with
  |true=>simp only [ww] at hc;exact v6 hc.2
  |false=>exact uq q n
theorem BZ {rk:List (Nat×List PT)} {e:SE} {m:List Nat}: ∀{live:List (Nat×Option Nat)} {nx:Nat} {e1:SE} {s2:List SB},wg rk e m nx live=afr (e1,s2)-> ∀(j:Nat) (b:SB),s2[j]? =afr b-> ∃r,b= .arr r []
 | [],nx,e1,s2,h,j,b,hj=>by simp only [wg,If,aau] at h;rw [<- h.2] at hj;simp at hj
 |(t,k)::live,nx,e1,s2,h,j,b,hj=>by
  simp only [wg] at h;split at h
  · split at h
    · rename_i p hp
      simp only [If,aau] at h;obtain ⟨rfl,rfl⟩:=h;cases j with
      |zero=>simp at hj;exact ⟨_,hj.symm⟩
      |succ j=>exact BZ (e1:=p.1) (s2:=p.2) hp j b (by simpa using hj)
    cases h
  split at h
  · rename_i v' p hv hp
    simp only [If,aau] at h;obtain ⟨rfl,rfl⟩:=h;exact BZ (e1:=p.1) (s2:=p.2) hp j b hj
  cases h
mutual
theorem B0 {m:List Nat}: ∀{v u:SV},py m v=afr u->u.sure=aft
 | .gH,_,h=>by cases h
 | .undef,u,h| .jd,u,h| .dH,u,h| .int _ _,u,h| .bool _,u,h| .str _,u,h| .sl _ _,u,h| .nil _ _,u,h=>by injection h with h;subst h;rfl
 | .agg cs,u,h=>by
  simp only [py] at h;split at h
  · rename_i l hl;injection h with h;subst h;exact mu hl
  cases h
 | .cy cs,u,h=>by
  simp only [py] at h;split at h
  · rename_i l hl;injection h with h;subst h;exact mu hl
  cases h
 | .bD cs _,u,h=>by
  simp only [py] at h;split at h
  · rename_i l hl;injection h with h;subst h;exact mu hl
  cases h
 | .own _ _,u,h=>by simp only [py] at h;split at h<;>first|(injection h with h;subst h;rfl)|cases h
 | .pre _ _ _ _,u,h=>by simp only [py] at h;split at h<;>first|(injection h with h;subst h;rfl)|cases h
 | .part _ _ _ _ _,u,h=>by simp only [py] at h;split at h<;>first|(injection h with h;subst h;rfl)|cases h
 | .pa _ _ _ _ _,u,h=>by simp only [py] at h;split at h<;>first|(injection h with h;subst h;rfl)|cases h
 | .pb _ _ _,u,h=>by simp only [py] at h;split at h<;>first|(injection h with h;subst h;rfl)|cases h
 | .bp _ _ _,u,h=>by simp only [py] at h;split at h<;>first|(injection h with h;subst h;rfl)|cases h
 | .mp _,u,h=>by simp only [py] at h;split at h<;>first|(injection h with h;subst h;rfl)|cases h
 | .ez f a b,u,h=>by
  simp only [py] at h;split at h
  · rename_i x y h1 h2
    injection h with h;subst h;simp only [SV.sure,mu h1,mu h2,aaS]
  cases h
theorem mu {m:List Nat}: ∀{v u:List SV},sg m v=afr u->lI u=aft
 | [],u,h=>by injection h with h;subst h;rfl
 |x::xs,u,h=>by
  simp only [sg] at h;split at h
  · rename_i a b h1 h2
    injection h with h;subst h;simp only [lI,B0 h1,mu h2,aaS]
  cases h
end
theorem U3 {s:List SB} {v:SV} {p:PV} (h:R s v p): ∀k:Option Nat,v.sure=aft->R s (Ie k v) (Gs k p)
 |none,_=>h
 |some _,hs=>by
  cases v with
  |own t ex=>obtain ⟨e,n,rfl,h⟩:=h;exact ⟨e,n,rfl,h⟩
  |pre t l c ex=>obtain ⟨e,rfl,h⟩:=h;exact ⟨e,rfl,h⟩
  |part t o l c ex=>obtain ⟨e,rfl,h⟩:=h;exact ⟨e,rfl,h⟩
  |gH=>cases hs
  |undef|jd|dH|int _ _|bool _|str _|bp _ _ _|mp _|sl _ _|nil _ _=>rw [show p=_ from h];rfl
  |agg _|cy _|bD _ _=>obtain ⟨q,rfl,h⟩:=h;exact ⟨q,rfl,h⟩
  |ez _ _ _=>obtain ⟨q,q2,rfl,h⟩:=h;exact ⟨q,q2,rfl,h⟩
  |pa _ _ _ _ _=>obtain ⟨rfl,h⟩:=h;exact ⟨rfl,h⟩
  |pb _ _ _=>obtain ⟨q,rfl,h⟩:=h;exact ⟨q,rfl,h⟩
theorem Mu {v:SV} (h:v.sure=aft) (k:Option Nat):(Ie k v).sure=aft:=by unfold Ie;split<;>first|rfl|exact h
theorem Iq {rk:List (Nat×List PT)} {e:SE} {pe:Env} (hE:dF s e pe) {m:List Nat} {s':List SB} (hr:EK m s s'): ∀{live:List (Nat×Option Nat)} {nx:Nat} {e1:SE} {s2:List SB},wg rk e m nx live=afr (e1,s2)->(∀(j:Nat) (b:SB),s2[j]? =afr b->s'[nx+j]? =afr b)->
 ∃p1 q2,p7 pe m nx live=afr (p1,q2)/\dF s' e1 p1/\afk q2=afk s2/\ ∀(j:Nat) (b:SB),s2[j]? =afr b-> ∃q,q2[j]? =afr q/\RB s' b q
 | [],nx,e1,s2,h,_=>by simp only [wg,If,aau] at h;obtain ⟨rfl,rfl⟩:=h;exact ⟨[],[],rfl,rfl,rfl,fun j b h=>by simp at h⟩
 |(t,k)::live,nx,e1,s2,h,hs=>by
  have sW:=hE.lk t;simp only [wg] at h;split at h
  · rename_i kk esz en hv
    split at h
    · rename_i p hp
      simp only [If,aau] at h;obtain ⟨rfl,rfl⟩:=h;rw [hv] at sW;obtain ⟨p1,q2,h1,h2,h3,h4⟩:=Iq (live:=live) (nx:=nx+1) (e1:=p.1) (s2:=p.2) hE hr hp (fun j b hj=>by have:=hs (j+1) b (by simpa using hj);rw [show nx+1+j=nx+(j+1) by omega];exact this);refine ⟨(t,.own nx esz 0 0 0 afu)::p1,.arr esz []::q2,?_,⟨_,_,rfl,⟨esz,0,rfl,.inl ⟨rowOf rk esz,[],by simpa using hs 0 _ rfl,(uq rk esz).symm,rfl⟩⟩,h2⟩,by simp [h3],fun j b hj=>?_⟩
      · have aaL:lk t pe= .sl en aft []:=sW
        simp only [p7,aaL,h1];rfl
      cases j with
      |zero=>simp at hj;subst hj;exact ⟨_,rfl,by show _=_;rw [uq];rfl⟩
      |succ j=>simpa using h4 j b (by simpa using hj)
    cases h
  rename_i dK
  split at h
  · rename_i v' p hv hp
    simp only [If,aau] at h;obtain ⟨rfl,rfl⟩:=h;obtain ⟨q',h5,h6⟩:=RY hr sW hv;obtain ⟨p1,q2,h1,h2,h3,h4⟩:=Iq (live:=live) (e1:=p.1) (s2:=p.2) hE hr hp hs;refine ⟨(t,Gs _ q')::p1,q2,?_,⟨_,_,rfl,U3 h6 _ (B0 hv),h2⟩,h3,h4⟩;simp only [p7];split
    · rename_i esz x hx
      exfalso;rw [hx] at sW;generalize CL t e=v0 at sW hv dK;cases v0 with
      |gH=>cases hv
      |nil e' c=>have aaL:PV.sl x aft []= .sl e' c []:=sW;injection aaL with h1 h2;subst h2;exact dK _ _ rfl rfl
      |undef|jd|dH|int _ _|bool _|str _|bp _ _ _|mp _=>cases (show PV.sl x aft []=_ from sW)
      |sl r l=>cases (show PV.sl x aft []=_ from sW)
      |agg _|cy _|bD _ _=>obtain ⟨q,hq,_⟩:=sW;cases hq
      |ez _ _ _=>obtain ⟨q,q2,hq,_⟩:=sW;cases hq
      |own _ _=>obtain ⟨q,q2,hq,_⟩:=sW;cases hq
      |pre _ _ _ _=>obtain ⟨q,hq,_⟩:=sW;cases hq
      |part _ _ _ _ _=>obtain ⟨q,hq,_⟩:=sW;cases hq
      |pa _ _ _ _ _=>obtain ⟨hq,_⟩:=sW;cases hq
      |pb _ _ _=>obtain ⟨q,hq,_⟩:=sW;cases hq
    simp only [h5,h1]
  cases h
def ZF (s:List SB):Prop:= ∀(t:Nat) (cs:List SV),s[t]? =afr (.box cs)->lI cs=aft
def GS:SE->Prop
 | []=>True
 |(_,v)::r=>v.sure=aft/\GS r
theorem GS.lk: ∀{e:SE},GS e-> ∀t,(CL t e).sure=aft
 | [],_,t=>rfl
 |(u,v)::r,h,t=>by
  simp only [CL];cases hb:UV u t with
  |true=>exact h.1
  |false=>exact GS.lk h.2 t
theorem zR {rk:List (Nat×List PT)} {e:SE} {m:List Nat}: ∀{live:List (Nat×Option Nat)} {nx:Nat} {e1:SE} {s2:List SB},wg rk e m nx live=afr (e1,s2)->GS e1
 | [],nx,e1,s2,h=>by simp only [wg,If,aau] at h;rw [<- h.1];trivial
 |(t,k)::live,nx,e1,s2,h=>by
  simp only [wg] at h;split at h
  · split at h
    · rename_i p hp
      simp only [If,aau] at h;obtain ⟨rfl,rfl⟩:=h;exact ⟨rfl,zR (e1:=p.1) (s2:=p.2) hp⟩
    cases h
  split at h
  · rename_i v' p hv hp
    simp only [If,aau] at h;obtain ⟨rfl,rfl⟩:=h;exact ⟨Mu (B0 hv) _,zR (e1:=p.1) (s2:=p.2) hp⟩
  cases h
theorem GU: ∀{l:List SV},lI l=aft-> ∀{n:Nat} {v:SV},nth l n=afr v->v.sure=aft
 | [],_,_,_,h=>by cases h
 |x::xs,hs,0,v,h=>by injection h with h;subst h;simp only [lI,ww] at hs;exact hs.1
 |x::xs,hs,n+1,v,h=>by simp only [lI,ww] at hs;exact GU hs.2 (n:=n) h
theorem GV: ∀{l:List SV},lI l=aft-> ∀(n:Nat) {v:SV},v.sure=aft->lI (l.set n v)=aft
 | [],_,n,v,_=>rfl
 |x::xs,hs,0,v,h=>by simp only [lI,ww] at hs;simp [lI,h,hs.2]
 |x::xs,hs,n+1,v,h=>by simp only [lI,ww] at hs;simp [lI,hs.1,GV hs.2 n h]
theorem RL.set {s:List SB}: ∀{xs:List SV} {ps:List PV},RL s xs ps-> ∀(n:Nat) {v:SV} {p:PV},R s v p->RL s (xs.set n v) (ps.set n p)
 | [],ps,h,n,v,p,_=>by rw [show ps=[] from h];exact RL.nil
 |x::xs,ps,h,0,v,p,hv=>by obtain ⟨a,q,rfl,h1,h2⟩:=h.cons_inv;exact RL.cons hv h2
 |x::xs,ps,h,n+1,v,p,hv=>by obtain ⟨a,q,rfl,h1,h2⟩:=h.cons_inv;exact RL.cons h1 (RL.set h2 n hv)
structure U4 (st:ob) (p:St):Prop where
 r:ym st p
 s:ZF st.ax
 e:GS st.env
theorem Mv {rk:List (Nat×List PT)} {st:ob} {p:St} (h:U4 st p) (t c esz:Nat):U4 (Eo rk st t c esz) (p8 p t c esz):=by
 unfold Eo p8;rw [cd];cases bW:st.ax[t]? with
 |none=>
  have:p.ax[t]? =afs:=by rw [aep] at bW ⊢;rw [h.r.ax.len];exact bW
  rw [this];exact h
 |some b=>
  obtain ⟨q,h1,h2⟩:=h.r.ax.at_ t b bW;rw [h1];cases b with
  |arr r l=>rw [show q=_ from h2];exact h
  |set l=>rw [show q=_ from h2];exact h
  |cj p l=>rw [show q=_ from h2];exact h
  |dead=>rw [show q=_ from h2];exact h
  |box cs=>
   obtain ⟨pc,rfl,h3⟩:=h2;dsimp only;cases hc:nth cs c with
   |none=>
    have:pc[c]? =afs:=by rw [cd,aep] at hc;rw [aep,h3.mj];exact hc
    rw [this];exact h
   |some v=>
    obtain ⟨pv,h4,h5⟩:=h3.nth hc;rw [h4];have af9:=GU (h.s t cs bW) hc;have lO:=h.s t cs bW;have other:(∀e,pv≠ .sl e aft [])->(∀e,v≠ .nil e aft)->U4 (match afr v with
     |some (.nil _ aft)=>{st with ax:=st.ax.set t (.box (cs.set c (.own (afk st.ax) afu)))++[.arr (rowOf rk esz) []]}
     |_=>st) (match afr pv with
     |some (.sl _ aft [])=>{p with ax:=p.ax.set t (.box (pc.set c (.own (afk p.ax) esz 0 0 0 afu)))++[.arr esz []]}
     |_=>p):=by
     intro n1 n2;split
     · rename_i e he;injection he with he;exact absurd he (n2 e)
     split
     · rename_i e he;injection he with he;exact absurd he (n1 e)
     exact h
    cases v with
    |gH=>cases af9
    |nil e' cl=>
     have h5':pv= .sl e' cl []:=h5;subst h5';cases cl with
     |false=>exact other (fun e he=>by cases he) (fun e he=>by cases he)
     |true=>
      dsimp only;have dz:=(AC.1 bW).1;have qG:Fr [] st.ax (st.ax.set t (.box (cs.set c (.own (afk st.ax) afu)))++[.arr (rowOf rk esz) []]):=fun u x hu=>by
       by_cases Lz:t=u
       · subst Lz;rw [bW] at hu;injection hu with hu;subst hu;exact .inl ⟨_,by rw [Do (by simpa using dz),NE];simp [dz];rfl⟩
       have N5:=(AC.1 hu).1
       have:(st.ax.set t (.box (cs.set c (.own (afk st.ax) afu)))++[.arr (rowOf rk esz) []])[u]? =afr x:=by rw [Do (by simpa using N5),NE];simp [Lz,hu]
       cases x with
       |arr r l=>exact .inl ⟨l,this,rfl,fun _=>rfl⟩
       |dead=>exact this
       |box c2=>exact .inl ⟨c2,this⟩
       |_=>trivial
      have cO:(st.ax.set t (.box (cs.set c (.own (afk st.ax) afu)))).length=(afk st.ax):=by simp
      have ajA:R (st.ax.set t (.box (cs.set c (.own (afk st.ax) afu)))++[.arr (rowOf rk esz) []]) (.own (afk st.ax) afu) (.own (afk p.ax) esz 0 0 0 afu):=by refine ⟨esz,0,by rw [h.r.ax.len],.inl ⟨rowOf rk esz,[],?_,(uq rk esz).symm,rfl⟩⟩;rw [EQ (by simp)];simp
      refine ⟨⟨dF.ext qG h.r.env,⟨by simp [h.r.ax.len],fun u x hu=>?_⟩,h.r.fz,h.r.kn⟩,fun u x hu=>?_,h.e⟩
      · rcases aeh u (afk st.ax) with N5|N5
        · rw [Do (by simpa using N5),NE] at hu
          by_cases Lz:t=u
          · subst Lz
            simp [dz] at hu;subst hu;refine ⟨.box (pc.set c (.own (afk p.ax) esz 0 0 0 afu)),?_,_,rfl,RL.set (RL.ext qG h3) c ajA⟩;rw [Do (by simp [h.r.ax.len,N5]),NE];simp [h.r.ax.len,N5]
          simp [Lz] at hu
          obtain ⟨q,h6,h7⟩:=h.r.ax.at_ u x hu;refine ⟨q,?_,h7.ext qG⟩;rw [Do (by simp [h.r.ax.len,N5]),NE];simp [Lz,h6]
        rw [EQ (by simpa using N5)] at hu
        simp only [cO] at hu;have Uk:u-(afk st.ax)=0:=by
         rcases aeP (u-(afk st.ax)) with h|h
         · exact h
         rw [List.getElem?_eq_none (by simp;omega)] at hu;cases hu
        rw [Uk] at hu;simp at hu;subst hu;refine ⟨.arr esz [],?_,by show _=_;rw [uq];rfl⟩;rw [EQ (by simp [h.r.ax.len];omega)];simp [h.r.ax.len,Uk]
      rcases aeh u (afk st.ax) with N5|N5
      · rw [Do (by simpa using N5),NE] at hu
        by_cases Lz:t=u
        · subst Lz
          simp [dz] at hu;subst hu;exact GV lO c rfl
        simp [Lz] at hu;exact h.s u x hu
      rw [EQ (by simpa using N5)] at hu
      cases hj:u- (st.ax.set t (.box (cs.set c (.own (afk st.ax) afu)))).length with
      |zero=>rw [hj] at hu;simp at hu
      |succ j=>rw [hj] at hu;simp at hu
    |undef|jd|dH|int _ _|bool _|str _|bp _ _ _|mp _=>exact other (fun e he=>by rw [show pv=_ from h5] at he;cases he) (fun e he=>by cases he)
    |sl r l=>exact other (fun e he=>by rw [show pv=_ from h5] at he;cases he) (fun e he=>by cases he)
    |agg _|cy _|bD _ _=>exact other (fun e he=>by obtain ⟨q,hq,_⟩:=h5;rw [hq] at he;cases he) (fun e he=>by cases he)
    |ez _ _ _=>exact other (fun e he=>by obtain ⟨q,q2,hq,_⟩:=h5;rw [hq] at he;cases he) (fun e he=>by cases he)
    |own _ _=>exact other (fun e he=>by obtain ⟨q,q2,hq,_⟩:=h5;rw [hq] at he;cases he) (fun e he=>by cases he)
    |pre _ _ _ _|part _ _ _ _ _|pb _ _ _=>exact other (fun e he=>by obtain ⟨q,hq,_⟩:=h5;rw [hq] at he;cases he) (fun e he=>by cases he)
    |pa _ _ _ _ _=>exact other (fun e he=>by obtain ⟨hq,_⟩:=h5;rw [hq] at he;cases he) (fun e he=>by cases he)
theorem Ir {p:St} {t c esz:Nat} (h: ∀cs,p.ax[t]?≠afr (.box cs)):p8 p t c esz=p:=by
 unfold p8;split
 · rename_i cs lO;exact absurd lO (h cs)
 rfl
theorem RZ {st:ob} {p:St} (h:U4 st p) {v:SV} {q:PV} (hv:R st.ax v q) (hs:v≠ .gH):(∃t,Rt v=afr t/\DJ q=afr t)\/(Rt v=afs/\ ∀t,DJ q=afr t-> ∀cs,p.ax[t]?≠afr (.box cs)):=by
 cases v with
 |gH=>exact absurd rfl hs
 |bp u m off=>
  have hq:q= .ptr u m 0 off:=hv;subst hq;cases off with
  |zero=>exact .inl ⟨u,rfl,rfl⟩
  |succ off=>exact .inr ⟨rfl,fun t ht=>by cases ht⟩
 |pb u i off=>
  obtain ⟨e',hq,cW⟩:=hv;subst hq;refine .inr ⟨rfl,fun t ht cs lO=>?_⟩;have:t=u:=by
   unfold DJ at ht;split at ht
   · rename_i heq;injection heq with e1;injection ht with ht;rw [<- ht,e1]
   cases ht
  subst this;rcases cW with ⟨r,l,h1,_⟩|h1
  · rw [h.r.ax.arr h1] at lO;cases lO
  obtain ⟨q,h2,h3⟩:=h.r.ax.at_ t _ h1
  rw [lO] at h2;injection h2 with h2;subst h2;cases (show jx.box cs= .dead from h3)
 |pa u r i a off=>
  obtain ⟨hq,cW⟩:=hv;subst hq;refine .inr ⟨rfl,fun t ht cs lO=>?_⟩;have:t=u:=by
   unfold DJ at ht;split at ht
   · rename_i heq;injection heq with e1;injection ht with ht;rw [<- ht,e1]
   cases ht
  subst this;rcases cW with ⟨l,h1,_⟩|h1
  · rw [h.r.ax.arr h1] at lO;cases lO
  obtain ⟨q,h2,h3⟩:=h.r.ax.at_ t _ h1
  rw [lO] at h2;injection h2 with h2;subst h2;cases (show jx.box cs= .dead from h3)
 |undef|jd|dH|int _ _|bool _|str _|mp _|sl _ _|nil _ _=>exact .inr ⟨rfl,fun t ht=>by rw [show q=_ from hv] at ht;cases ht⟩
 |agg _|cy _|bD _ _=>exact .inr ⟨rfl,fun t ht=>by obtain ⟨_,rfl,_⟩:=hv;cases ht⟩
 |ez _ _ _=>exact .inr ⟨rfl,fun t ht=>by obtain ⟨_,_,rfl,_⟩:=hv;cases ht⟩
 |own _ _=>exact .inr ⟨rfl,fun t ht=>by obtain ⟨_,_,rfl,_⟩:=hv;cases ht⟩
 |pre _ _ _ _|part _ _ _ _ _=>exact .inr ⟨rfl,fun t ht=>by obtain ⟨_,rfl,_⟩:=hv;cases ht⟩
theorem aaM {st:ob} {p:St} (h:U4 st p) {v:SV} {q:PV} (hv:R st.ax v q) (hs:v.sure=aft):(∃t,UF v=afr t/\Ji q=afr t)\/(UF v=afs/\ ∀t,Ji q=afr t-> ∀cs,p.ax[t]?≠afr (.box cs)):=by
 have hj:v≠ .gH:=fun e=>by subst e;cases hs
 by_cases hc: ∃f a b,v= .ez f a b
 · obtain ⟨f,a,b,rfl⟩:=hc
   obtain ⟨pa,pb,rfl,h1,h2⟩:=hv;cases b with
   |nil=>have:pb=[]:=h2;subst this;exact .inr ⟨rfl,fun t ht=>by cases ht⟩
   |cons y ys=>obtain ⟨z,zs,rfl,g1,g2⟩:=h2;exact RZ h g1 (fun e=>by subst e;simp [SV.sure,lI] at hs)
 have e1:UF v=Rt v:=by
  cases v with
  |ez f a b=>exact absurd ⟨f,a,b,rfl⟩ hc
  |_=>rfl
 have e2:Ji q=DJ q:=by
  cases q with
  |ez f a b=>
   exfalso;cases v with
   |gH=>exact hj rfl
   |ez f a b=>exact hc ⟨f,a,b,rfl⟩
   |bp _ _ _|undef|jd|dH|int _ _|bool _|str _|mp _|sl _ _|nil _ _=>cases (show PV.ez f a b=_ from hv)
   |agg _|cy _|bD _ _|pre _ _ _ _|part _ _ _ _ _|pb _ _ _=>obtain ⟨_,hq,_⟩:=hv;cases hq
   |own _ _=>obtain ⟨_,_,hq,_⟩:=hv;cases hq
   |pa _ _ _ _ _=>obtain ⟨hq,_⟩:=hv;cases hq
  |_=>rfl
 rw [e1,e2];exact RZ h hv hj
theorem mI {rk:List (Nat×List PT)}: ∀(live:List (Nat×Option Nat)) {st:ob} {p:St},U4 st p->U4 (lx rk live st) (jQ live p)
 | [],st,p,h=>h
 |(t,k)::live,st,p,h=>by
  cases k with
  |none=>simp only [lx,jQ];exact mI live h
  |some n=>
   simp only [lx,jQ];cases hn:PP 1000 n with
   |false=>simp only [pp,WF,if_false];exact mI live h
   |true=>
    simp only [lw,if_true];have sW:=h.r.env.lk t;have hsu:=h.e.lk t;rcases aaM h sW hsu with ⟨u,e1,e2⟩|⟨e1,e2⟩
    · rw [e1,e2]
      exact mI live (Mv h u _ _)
    rw [e1]
    cases hb:Ji (lk t p.env) with
    |none=>exact mI live h
    |some u=>show U4 (lx rk live st) (jQ live (p8 p u (n / 1000-1) (n%1000)));rw [Ir (e2 u hb)];exact mI live h
theorem Ke {e:SE} {pe:Env} (hE:dF s e pe): ∀{live:List (Nat×Option Nat)},AP e live=aft->Ep e live=live.flatMap fun p=>iH rJ (lk p.1 pe)
 | [],_=>rfl
 |(t,k)::live,h=>by simp only [AP,ww] at h;simp only [Ep,aeY,Ke hE h.2];rw [RW (fun _=>rfl) (hE.lk t) h.1]
theorem R0: ∀{s':List SB} {s:List SB} {ps:cw} (n:Nat),(afk ps=afk s/\ ∀(t:Nat) (b:SB),s[t]? =afr b-> ∃q,ps[t]? =afr q/\RB s' b q)->Er s n=aft->Mi s n=(ps.take n).flatMap p6
 |s',[],ps,n,h,_=>by have:ps=[]:=aet.1 (by simpa using h.1);subst this;cases n<;>simp [Mi]
 |s',b::s,ps,0,h,_=>by simp [Mi]
 |s',b::s,ps,n+1,h,hk=>by
  cases ps with
  |nil=>have:=h.1;simp at this
  |cons q ps=>simp only [Er,ww] at hk;obtain ⟨q',h1,h2⟩:=h.2 0 b rfl;simp at h1;subst h1;simp only [Mi,aeL,aeY,Ip h2 hk.1];rw [R0 (s':=s') (ps:=ps) n ⟨by simpa using h.1,fun t x hx=>by simpa using h.2 (t+1) x (by simpa using hx)⟩ hk.2]
theorem N6 {s:List SB} {v:SV} {p:PV} (h:R s v p):R s (GM s v) p:=by
 unfold GM;split
 · rename_i t ex
   rw [cd];split
   · rename_i r l bW
     obtain ⟨e,n,rfl,cW⟩:=h;obtain ⟨rfl,rfl⟩:=cW.inv bW;exact ⟨afk r,rfl,.inl ⟨r,l,bW,rfl⟩⟩
   exact h
 exact h
theorem N7 {s:List SB} (c:Nat): ∀{e:SE} {p:Env},dF s e p->dF s (NU s c e) p
 | [],_,h=>h
 |(t,v)::r,_,h=>by
  obtain ⟨q,qs,rfl,h1,h2⟩:=h;simp only [NU];cases hb:UV t c with
  |true=>exact ⟨q,qs,rfl,N6 h1,h2⟩
  |false=>exact ⟨q,qs,rfl,h1,N7 c h2⟩
theorem B1: ∀(live:List (Nat×Option Nat)) {st:ob} {p:St},ym st p->ym (AO live st) p
 | [],st,p,h=>h
 |(t,k)::r,st,p,h=>by
  simp only [AO];cases hn:PP 1000000 t with
  |true=>exact B1 r ⟨N7 _ h.env,h.ax,h.fz,h.kn⟩
  |false=>exact B1 r h
theorem Kf {rk:List (Nat×List PT)} {live:List (Nat×Option Nat)} {st mW:ob} {p:St} (h:ym st p) (hn:Es rk live st=afr mW): ∃p1,DK live p=afr p1/\ym mW p1:=by
 unfold Es at hn;cases hc:(AP st.env live&&Er st.ax st.kn) with
 |false=>rw [hc] at hn;cases hn
 |true=>
  rw [hc] at hn;simp only [lw] at hn;simp only [ww] at hc;split at hn
  · cases hn
  rename_i m hm
  split at hn
  · rename_i s1 e1 s2 h1 h2
    injection hn with hn;subst hn;have ht:Mi st.ax st.kn++Ep st.env live=(p.ax.take p.kn).flatMap p6++live.flatMap fun q=>iH rJ (lk q.1 p.env):=by rw [Ke h.env hc.1,R0 (s':=st.ax) st.kn ⟨h.ax.len,h.ax.at_⟩ hc.2,h.kn]
    rw [ht] at hm;have BM:=EI h.ax _ _ _ _ hm;have hr:EK m st.ax (s1++s2):=EK.of h1;obtain ⟨p1,a1,a2,a3⟩:=BY h.ax hr h1;have cO:(afk s1)=(afk m):=(xl h1).1;obtain ⟨pe1,q2,b1,b2,b3,b4⟩:=Iq h.env hr h2 (fun j b hj=>by rw [<- cO,EQ (by omega)];simpa using hj);have pj:cA (s1++s2) (p1++q2):=⟨by simp [a2,b3],fun t b ht=>by
     rcases aeh t (afk s1) with hl|hl
     · rw [Do hl] at ht
       obtain ⟨q,c1,c2⟩:=a3 t b ht;exact ⟨q,by rw [Do (by omega)];exact c1,c2⟩
     rw [EQ hl] at ht
     obtain ⟨q,c1,c2⟩:=b4 _ b ht;exact ⟨q,by rw [EQ (by omega),a2];exact c1,c2⟩⟩
    have hs:ZF (s1++s2):=fun t cs ht=>by
     rcases aeh t (afk s1) with hl|hl
     · rw [Do hl] at ht
       obtain ⟨b,c,d1,d2,d3⟩:=(xl h1).2 t (m[t]'(by omega)) (IR (by omega));rw [ht] at d3;injection d3 with d3;subst d3;cases b with
       |box x=>
        simp only [Mh] at d2;split at d2
        · rename_i l lL;injection d2 with d2;injection d2 with d2;subst d2;exact mu lL
        cases d2
       |arr _ _=>injection d2 with d2;cases d2
       |set _=>injection d2 with d2;cases d2
       |cj _ _=>injection d2 with d2;cases d2
       |dead=>injection d2 with d2;cases d2
     rw [EQ hl] at ht
     obtain ⟨r,T0⟩:=BZ h2 _ _ ht;cases T0
    have hR:U4 {env:=e1,ax:=s1++s2,fz:=wP st.fz 0 m,kn:=st.kn} {env:=pe1,ax:=p1++q2,fz:=wP p.fz 0 m,kn:=p.kn}:=
     ⟨⟨b2,pj,by rw [h.fz],h.kn⟩,hs,zR h2⟩
    refine ⟨_,?_,B1 live (mI live hR).r⟩;unfold DK;rw [h.kn] at BM;rw [h.kn];rw [BM];dsimp only;rw [a1,b1]
  cases hn
theorem N8 {rk:List (Nat×List PT)} {live:List (Nat×Option Nat)} {st mW:ob} {p:St} (h:ym st p) (hn:Et rk live st=afr mW): ∃p1,norm live p=afr p1/\ym mW p1:=by
 unfold Et at hn;cases h1:Es rk live st with
 |none=>rw [h1] at hn;cases hn
 |some s=>
  rw [h1] at hn;dsimp only at hn;obtain ⟨p1,h2,h3⟩:=Kf h h1;unfold norm;rw [h2];dsimp only;cases ha:(live.any fun p=>p.2.isSome) with
  |true=>rw [ha] at hn;simp only [lw] at hn;rw [rc rfl];exact Kf h3 hn
  |false=>rw [ha] at hn;injection hn with hn;subst hn;exact ⟨p1,by rw [ut (by simp)],h3⟩
mutual
theorem Dw: ∀{a b:SV} (q:List wJ),wj a b=aft->rN a (BU b++q)=(b,q)
 | .undef,.undef,q,_=>rfl
 | .jd,.jd,q,_=>rfl
 | .dH,.dH,q,_=>rfl
 | .int k _,.int l n,q,h=>by rw [eU.1 h];rfl
 | .bool _,.bool _,q,_=>rfl
 | .agg a,.agg b,q,h=>by simp only [rN,BU,nj q h]
 | .cy a,.cy b,q,h=>by simp only [rN,BU,nj q h]
 | .sl r _,.sl r' l,q,h=>rfl
 | .nil e c,.nil f d,q,h=>by simp only [wj,ww,beq_iff_eq] at h;rw [v6 h.1,h.2];rfl
 | .own t x,.own u y,q,h=>by simp only [wj,ww,beq_iff_eq] at h;rw [v6 h.1,h.2];rfl
 | .pre t _ _ x,.pre u _ _ y,q,h=>by simp only [wj,ww,beq_iff_eq] at h;rw [v6 h.1,h.2];rfl
 | .part t _ _ _ x,.part u _ _ _ y,q,h=>by simp only [wj,ww,beq_iff_eq] at h;rw [v6 h.1,h.2];rfl
 | .pb t _ o,.pb u _ p,q,h=>by simp only [wj,ww] at h;rw [v6 h.1,v6 h.2];rfl
 | .bp t n o,.bp u m p,q,h=>by simp only [wj,ww] at h;rw [v6 h.1.1,v6 h.1.2,v6 h.2];rfl
 | .bD a o,.bD b p,q,h=>by simp only [wj,ww] at h;simp only [rN,BU,nj q h.1,v6 h.2]
 | .ez f a b,.ez g c d,q,h=>by simp only [wj,ww] at h;simp only [rN,BU,aaz,nj _ h.1.2,nj q h.2,v6 h.1.1]
 | .mp t,.mp u,q,h=>by rw [v6 h];rfl
 | .gH,.gH,q,_=>rfl
theorem nj: ∀{a b:List SV} (q:List wJ),xh a b=aft->qj a (BV b++q)=(b,q)
 | [],[],q,_=>rfl
 |x::xs,y::ys,q,h=>by simp only [xh,ww] at h;simp only [qj,BV,aaz,Dw _ h.1,nj q h.2]
 | [],_::_,_,h=>by cases h
 |_::_,[],_,h=>by cases h
end
theorem R2: ∀{a b:SB} (q:List wJ),Zz a b=aft->Mj a (Ru b++q)=(b,q)
 | .arr r _,.arr r' l,q,h=>rfl
 | .box a,.box b,q,h=>by simp only [Mj,Ru,nj q h]
 | .set _,.set _,q,_=>rfl
 | .cj p _,.cj p' l,q,h=>by obtain rfl:p=p':=PT.NO h;rfl
 | .dead,.dead,q,_=>rfl
 | .arr _ _,.box _,_,h| .arr _ _,.set _,_,h| .arr _ _,.dead,_,h| .box _,.arr _ _,_,h| .box _,.set _,_,h| .box _,.dead,_,h| .set _,.arr _ _,_,h| .set _,.box _,_,h| .set _,.dead,_,h| .dead,.arr _ _,_,h| .dead,.box _,_,h| .dead,.set _,_,h
 | .cj _ _,.arr _ _,_,h| .cj _ _,.box _,_,h| .cj _ _,.set _,_,h| .cj _ _,.dead,_,h| .arr _ _,.cj _ _,_,h| .box _,.cj _ _,_,h| .set _,.cj _ _,_,h| .dead,.cj _ _,_,h=>by cases h
theorem A2: ∀{a b:List SB} (q:List wJ),Eu a b=aft->zJ a (Ig b++q)=(b,q)
 | [],[],q,_=>rfl
 |x::xs,y::ys,q,h=>by simp only [Eu,ww] at h;simp only [zJ,Ig,aaz,R2 _ h.1,A2 q h.2]
 | [],_::_,_,h=>by cases h
 |_::_,[],_,h=>by cases h
theorem Kg: ∀{a b:SE} (q:List wJ),NV a b=aft->J4 a (Po b++q)=(b,q)
 | [],[],q,_=>rfl
 |(t,x)::xs,(u,y)::ys,q,h=>by simp only [NV,ww] at h;simp only [J4,Po,aaz,Dw _ h.1.2,Kg q h.2,v6 h.1.1]
 | [],_::_,_,h=>by cases h
 |_::_,[],_,h=>by cases h
theorem Kh: ∀{a b:List Nat},NW a b=aft->a=b
 | [],[],_=>rfl
 |x::xs,y::ys,h=>by simp only [NW,ww] at h;rw [v6 h.1,Kh h.2]
 | [],_::_,h=>by cases h
 |_::_,[],h=>by cases h
theorem GW {a b:ob} (h:zI a b=aft):uj a (ni b)=b:=by obtain ⟨e1,s1,z1,k1⟩:=a;obtain ⟨e2,s2,z2,k2⟩:=b;simp only [zI,ww] at h;obtain ⟨⟨⟨h1,h2⟩,h3⟩,h4⟩:=h;have hs:=A2 [] h2;rw [aaB] at hs;simp only [uj,ni,Kg _ h1,hs,Kh h3,v6 h4]
theorem AK.ZG: ∀{a:AK} {x:wJ} {y:a.T},a.of x=afr y->a.at y=x
 | .i,.i _,y,h=>by injection h with h;subst h;rfl
 | .b,.b _,y,h=>by injection h with h;subst h;rfl
 | .n,.n _,y,h=>by injection h with h;subst h;rfl
 | .l r,.l q x,y,h=>by obtain ⟨rfl,rfl⟩:=od h;rfl
 | .s,.s _,y,h=>by injection h with h;subst h;rfl
 | .i,.b _,_,h| .i,.n _,_,h| .i,.l _ _,_,h| .i,.s _,_,h| .b,.i _,_,h| .b,.n _,_,h| .b,.l _ _,_,h| .b,.s _,_,h| .n,.i _,_,h| .n,.b _,_,h| .n,.l _ _,_,h| .n,.s _,_,h
 | .l _,.i _,_,h| .l _,.b _,_,h| .l _,.n _,_,h| .l _,.s _,_,h| .s,.i _,_,h| .s,.b _,_,h| .s,.n _,_,h| .s,.l _ _,_,h=>by cases h
theorem og: ∀{ks:List AK} {l:List wJ} {y:gM ks},kQ ks l=afr y->kC ks y=l
 | [],[],y,_=>rfl
 | [a],[x],y,h=>by have:=AK.ZG (a:=a) h;simp only [kC,this]
 |a::q::r,x::xs,y,h=>by
  simp only [kQ] at h;split at h
  · rename_i u v h1 h2
    injection h with h;subst h;simp only [kC,AK.ZG h1,og h2]
  cases h
 | [],_::_,_,h=>by cases h
 | [_],[],_,h=>by cases h
 | [_],_::_::_,_,h=>by cases h
 |_::_::_,[],_,h=>by cases h
end
end Go.Vm
/- What is known of functions, and what a call of one comes to. -/
namespace Go.Vm
mutual
def EL:Nat->PV->Option (PV×cw)
 |_,.int k n=>afr (.int k n,[])
 |_,.bool b=>afr (.bool b,[])
 |nx,.agg cs=>match EM nx cs with|some r=>afr (.agg r.1,r.2)|none=>afs
 |nx,.cy cs=>match EM nx cs with|some r=>afr (.cy r.1,r.2)|none=>afs
 |nx,.sl e afu rows=>afr (.own nx e 0 (afk rows) (afk rows) afu,[.arr e rows])
 |_,_=>afs
def EM:Nat->List PV->Option (List PV×cw)
 |_,[]=>afr ([],[])
 |nx,x::xs=>match EL nx x with
  |some a=>match EM (nx+afk a.2) xs with
   |some b=>afr (a.1::b.1,a.2++b.2)
   |none=>afs
  |none=>afs
end
def vg (s:List SB) (n:Nat) (l:List SB):Prop:= ∀(j:Nat) (b:SB),l[j]? =afr b->s[n+j]? =afr b
theorem vg.left {s:List SB} {n:Nat} {l m:List SB} (h:vg s n (l++m)):vg s n l:=fun j b hj=>h j b (by rw [Do (AC.1 hj).1];exact hj)
theorem vg.right {s:List SB} {n:Nat} {l m:List SB} (h:vg s n (l++m)):vg s (n+afk l) m:=fun j b hj=>by
 have:=h (afk l+j) b (by rw [EQ (by omega)];simpa using hj)
 rwa [Nat.add_assoc]
def Mw (s:List SB) (l:List SB) (q:cw):Prop:=afk q=afk l/\ ∀(j:Nat) (b:SB),l[j]? =afr b-> ∃x,q[j]? =afr x/\RB s b x
theorem Mw.append {s l m:List SB} {q r:cw} (h:Mw s l q) (k:Mw s m r):Mw s (l++m) (q++r):=by
 refine ⟨by simp [h.1,k.1],fun j b hj=>?_⟩;rcases aeh j (afk l) with hl|hl
 · rw [Do hl] at hj
   obtain ⟨x,h1,h2⟩:=h.2 j b hj;exact ⟨x,by rw [Do (by rw [h.1];exact hl)];exact h1,h2⟩
 rw [EQ hl] at hj
 obtain ⟨x,h1,h2⟩:=k.2 _ b hj;exact ⟨x,by rw [EQ (by rw [h.1];exact hl),h.1];exact h1,h2⟩
theorem Mw.nil {s:List SB}:Mw s [] []:=⟨rfl,fun j b h=>by simp at h⟩
theorem Mw.one {s:List SB} {b:SB} {x:jx} (h:RB s b x):Mw s [b] [x]:=⟨rfl,fun j c hc=>by
 cases j with
 |zero=>simp at hc;subst hc;exact ⟨x,rfl,h⟩
 |succ j=>simp at hc⟩
mutual
theorem N9: ∀{v:SV} {nx:Nat} {p0 p:PV} {q:cw},qL v=afr p0->EL nx p0=afr (p,q)-> ∀{s:List SB},vg s nx (xg nx v).2->R s (xg nx v).1 p/\Mw s (xg nx v).2 q
 | .int k n,nx,p0,p,q,h0,h,s,_=>by injection h0 with h0;subst h0;injection h with h;injection h with h1 h2;subst h1 h2;exact ⟨rfl,Mw.nil⟩
 | .bool b,nx,p0,p,q,h0,h,s,_=>by injection h0 with h0;subst h0;injection h with h;injection h with h1 h2;subst h1 h2;exact ⟨rfl,Mw.nil⟩
 | .agg cs,nx,p0,p,q,h0,h,s,hb=>by
  simp only [qL] at h0;split at h0
  · rename_i l hl
    injection h0 with h0;subst h0;simp only [EL] at h;split at h
    · rename_i r hr
      injection h with h;injection h with h1 h2;subst h1 h2;obtain ⟨h3,h4⟩:=EN (p:=r.1) (q:=r.2) hl hr hb;exact ⟨⟨r.1,rfl,h3⟩,h4⟩
    cases h
  cases h0
 | .cy cs,nx,p0,p,q,h0,h,s,hb=>by
  simp only [qL] at h0;split at h0
  · rename_i l hl
    injection h0 with h0;subst h0;simp only [EL] at h;split at h
    · rename_i r hr
      injection h with h;injection h with h1 h2;subst h1 h2;obtain ⟨h3,h4⟩:=EN (p:=r.1) (q:=r.2) hl hr hb;exact ⟨⟨r.1,rfl,h3⟩,h4⟩
    cases h
  cases h0
 | .sl r l,nx,p0,p,q,h0,h,s,hb=>by injection h0 with h0;subst h0;injection h with h;injection h with h1 h2;subst h1 h2;refine ⟨⟨afk r,afk l,by simp,.inl ⟨r,l,hb 0 _ rfl,rfl,rfl⟩⟩,Mw.one rfl⟩
 | .nil e c,nx,p0,p,q,h0,h,s,hb=>by
  injection h0 with h0;subst h0;cases c with
  |true=>simp [EL] at h
  |false=>injection h with h;injection h with h1 h2;subst h1 h2;exact ⟨⟨e,0,rfl,.inl ⟨_,[],hb 0 _ rfl,by simp,rfl⟩⟩,Mw.one (by show _=_;simp)⟩
 | .str _,nx,p0,p,q,h0,h,s,_=>by injection h0 with h0;subst h0;cases h
 | .dH,nx,p0,p,q,h0,h,s,_=>by injection h0 with h0;subst h0;cases h
 | .bD cs o,nx,p0,p,q,h0,h,s,_=>by
  simp only [qL] at h0;split at h0
  · injection h0 with h0;subst h0;cases h
  cases h0
 | .ez f a b,nx,p0,p,q,h0,h,s,_=>by
  simp only [qL] at h0;split at h0
  · injection h0 with h0;subst h0;cases h
  cases h0
 | .gH,_,_,_,_,h0,_,_,_| .undef,_,_,_,_,h0,_,_,_| .jd,_,_,_,_,h0,_,_,_| .own _ _,_,_,_,_,h0,_,_,_| .pre _ _ _ _,_,_,_,_,h0,_,_,_| .part _ _ _ _ _,_,_,_,_,h0,_,_,_
 | .pa _ _ _ _ _,_,_,_,_,h0,_,_,_| .pb _ _ _,_,_,_,_,h0,_,_,_| .bp _ _ _,_,_,_,_,h0,_,_,_| .mp _,_,_,_,_,h0,_,_,_=>by cases h0
theorem EN: ∀{v:List SV} {nx:Nat} {p0 p:List PV} {q:cw},qM v=afr p0->EM nx p0=afr (p,q)-> ∀{s:List SB},vg s nx (sY nx v).2->RL s (sY nx v).1 p/\Mw s (sY nx v).2 q
 | [],nx,p0,p,q,h0,h,s,_=>by injection h0 with h0;subst h0;injection h with h;injection h with h1 h2;subst h1 h2;exact ⟨rfl,Mw.nil⟩
 |x::xs,nx,p0,p,q,h0,h,s,hb=>by
  obtain ⟨a,as,rfl,h1,h2⟩:=ek.1 h0;simp only [EM] at h;split at h
  · rename_i ra hra
    split at h
    · rename_i rb hrb
      injection h with h;injection h with e1 e2;subst e1 e2;simp only [sY] at hb ⊢;obtain ⟨k1,k2⟩:=N9 (p:=ra.1) (q:=ra.2) h1 hra hb.left;rw [k2.1] at hrb;obtain ⟨k3,k4⟩:=EN (p:=rb.1) (q:=rb.2) h2 hrb hb.right;exact ⟨RL.cons k1 k3,k2.append k4⟩
    cases h
  cases h
end
mutual
theorem R3 {s:List SB} {ps:cw} {z:List Nat} (hS:cA s ps): ∀{v v':SV} {p:PV} {seen seen':List Nat} (nx:Nat),R s v p->Pn s z seen v=afr (v',seen')-> ∃p0 p' q,qL v'=afr p0/\EL nx p0=afr (p',q)/\yO ps z nx seen p=afr (p',q,seen')
 | .int k n,v',p,seen,seen',nx,h,hx=>by injection hx with hx;injection hx with h1 h2;subst h1 h2;rw [show p=_ from h];exact ⟨_,_,_,rfl,rfl,rfl⟩
 | .bool k,v',p,seen,seen',nx,h,hx=>by injection hx with hx;injection hx with h1 h2;subst h1 h2;rw [show p=_ from h];exact ⟨_,_,_,rfl,rfl,rfl⟩
 | .agg cs,v',p,seen,seen',nx,h,hx=>by
  obtain ⟨q,rfl,h⟩:=h;simp only [Pn] at hx;split at hx
  · rename_i r hr
    injection hx with hx;injection hx with h1 h2;subst h1 h2;obtain ⟨p0,p',q',h3,h4,h5⟩:=Is hS (v':=r.1) (seen':=r.2) nx h hr;exact ⟨.agg p0,.agg p',q',by simp only [qL,h3],by simp only [EL,h4],by simp only [yO,h5];rfl⟩
  cases hx
 | .cy cs,v',p,seen,seen',nx,h,hx=>by
  obtain ⟨q,rfl,h⟩:=h;simp only [Pn] at hx;split at hx
  · rename_i r hr
    injection hx with hx;injection hx with h1 h2;subst h1 h2;obtain ⟨p0,p',q',h3,h4,h5⟩:=Is hS (v':=r.1) (seen':=r.2) nx h hr;exact ⟨.cy p0,.cy p',q',by simp only [qL,h3],by simp only [EL,h4],by simp only [yO,h5];rfl⟩
  cases hx
 | .nil e c,v',p,seen,seen',nx,h,hx=>by
  cases c with
  |false=>cases hx
  |true=>injection hx with hx;injection hx with h1 h2;subst h1 h2;rw [show p=_ from h];exact ⟨_,_,_,rfl,rfl,rfl⟩
 | .own t ex,v',p,seen,seen',nx,h,hx=>by
  obtain ⟨e,n,rfl,cW⟩:=h;simp only [Pn,cd] at hx;split at hx
  · rename_i r l bW
    obtain ⟨rfl,rfl⟩:=cW.inv bW;cases hc:(has seen t||has z t) with
    |true=>rw [hc] at hx;cases hx
    |false=>rw [hc] at hx;injection hx with hx;injection hx with h1 h2;subst h1 h2;refine ⟨_,_,_,rfl,rfl,?_⟩;simp only [yO,hS.arr bW,hc];simp
  cases hx
 | .gH,_,_,_,_,_,_,hx| .undef,_,_,_,_,_,_,hx| .jd,_,_,_,_,_,_,hx| .dH,_,_,_,_,_,_,hx| .str _,_,_,_,_,_,_,hx| .sl _ _,_,_,_,_,_,_,hx| .pre _ _ _ _,_,_,_,_,_,_,hx| .part _ _ _ _ _,_,_,_,_,_,_,hx
 | .pa _ _ _ _ _,_,_,_,_,_,_,hx| .pb _ _ _,_,_,_,_,_,_,hx| .bp _ _ _,_,_,_,_,_,_,hx| .bD _ _,_,_,_,_,_,_,hx| .ez _ _ _,_,_,_,_,_,_,hx| .mp _,_,_,_,_,_,_,hx=>by cases hx
theorem Is {s:List SB} {ps:cw} {z:List Nat} (hS:cA s ps): ∀{v v':List SV} {p:List PV} {seen seen':List Nat} (nx:Nat),RL s v p->J3 s z seen v=afr (v',seen')-> ∃p0 p' q,qM v'=afr p0/\EM nx p0=afr (p',q)/\HC ps z nx seen p=afr (p',q,seen')
 | [],v',p,seen,seen',nx,h,hx=>by injection hx with hx;injection hx with h1 h2;subst h1 h2;rw [show p=_ from h];exact ⟨_,_,_,rfl,rfl,rfl⟩
 |x::xs,v',p,seen,seen',nx,h,hx=>by
  obtain ⟨a,as,rfl,h1,h2⟩:=h.cons_inv;simp only [J3] at hx;split at hx
  · rename_i r hr
    split at hx
    · rename_i r2 Lx
      injection hx with hx;injection hx with e1 e2;subst e1 e2;obtain ⟨p0,p',q,k1,k2,k3⟩:=R3 hS (v':=r.1) (seen':=r.2) nx h1 hr;obtain ⟨p02,p'2,q2,k4,k5,k6⟩:=Is hS (v':=r2.1) (seen':=r2.2) (nx+afk q) h2 Lx;exact ⟨p0::p02,p'::p'2,q++q2,ek.2 ⟨_,_,rfl,k1,k4⟩,by simp only [EM,k2,k5],by simp only [HC,k3,k6]⟩
    cases hx
  cases hx
end
mutual
theorem Ki {s:List SB}: ∀{v:SV} {p:PV},R s v p->zH v=aft->p.jP=aft
 | .int _ _,p,h,_| .bool _,p,h,_| .str _,p,h,_=>by rw [show p=_ from h];rfl
 | .agg cs,p,h,hn=>by obtain ⟨q,rfl,h⟩:=h;exact B2 h hn
 | .cy cs,p,h,hn=>by obtain ⟨q,rfl,h⟩:=h;exact B2 h hn
 | .gH,_,_,h| .undef,_,_,h| .jd,_,_,h| .dH,_,_,h| .sl _ _,_,_,h| .nil _ _,_,_,h| .own _ _,_,_,h| .pre _ _ _ _,_,_,h| .part _ _ _ _ _,_,_,h| .pa _ _ _ _ _,_,_,h| .pb _ _ _,_,_,h| .bp _ _ _,_,_,h| .bD _ _,_,_,h| .ez _ _ _,_,_,h| .mp _,_,_,h=>by cases h
theorem B2 {s:List SB}: ∀{v:List SV} {p:List PV},RL s v p->qi v=aft->uL p=aft
 | [],p,h,_=>by rw [show p=_ from h];rfl
 |x::xs,p,h,hn=>by obtain ⟨a,as,rfl,h1,h2⟩:=h.cons_inv;simp only [qi,ww] at hn;simp only [uL,Ki h1 hn.1,B2 h2 hn.2,aaS]
end
mutual
theorem GX {s:List SB} {u:SV}: ∀{v:SV} {p:PV},R s v p->zH v=afu->Rs s v=afr u->p.jP=afu
 | .int _ _,p,h,hn,_| .bool _,p,h,hn,_| .str _,p,h,hn,_=>by cases hn
 | .agg cs,p,h,hn,hi=>by
  obtain ⟨q,rfl,h⟩:=h;simp only [Rs] at hi;split at hi
  · rename_i l hl;exact zS h hn hl
  cases hi
 | .cy cs,p,h,hn,hi=>by
  obtain ⟨q,rfl,h⟩:=h;simp only [Rs] at hi;split at hi
  · rename_i l hl;exact zS h hn hl
  cases hi
 | .sl _ _,p,h,_,_=>by rw [show p=_ from h];rfl
 | .nil _ _,p,h,_,_=>by rw [show p=_ from h];rfl
 | .own _ _,p,h,_,_=>by obtain ⟨e,n,rfl,_⟩:=h;rfl
 | .pre _ _ _ _,p,h,_,_=>by obtain ⟨e,rfl,_⟩:=h;rfl
 | .part _ _ _ _ _,p,h,_,_=>by obtain ⟨e,rfl,_⟩:=h;rfl
 | .gH,_,_,_,h| .undef,_,_,_,h| .jd,_,_,_,h| .dH,_,_,_,h| .pa _ _ _ _ _,_,_,_,h| .pb _ _ _,_,_,_,h| .bp _ _ _,_,_,_,h| .bD _ _,_,_,_,h| .ez _ _ _,_,_,_,h| .mp _,_,_,_,h=>by cases h
theorem zS {s:List SB}: ∀{v u:List SV} {p:List PV},RL s v p->qi v=afu->Mg s v=afr u->uL p=afu
 | [],u,p,h,hn,_=>by cases hn
 |x::xs,u,p,h,hn,hi=>by
  obtain ⟨a,as,rfl,h1,h2⟩:=h.cons_inv;simp only [Mg] at hi;split at hi
  · rename_i y ys h3 h4
    simp only [qi] at hn;simp only [uL];cases hx:zH x with
    |false=>rw [GX h1 hx h3];rfl
    |true=>rw [hx] at hn;rw [zS h2 (by simpa using hn) h4];simp
  cases hi
end
mutual
theorem ZH {s:List SB} {ps:cw} (hS:cA s ps): ∀{v u:SV} {p:PV},R s v p->Rs s v=afr u-> ∃q,x5 ps p=afr q/\qL u=afr q
 | .int k n,u,p,h,hx=>by injection hx with hx;subst hx;rw [show p=_ from h];exact ⟨_,rfl,rfl⟩
 | .bool b,u,p,h,hx=>by injection hx with hx;subst hx;rw [show p=_ from h];exact ⟨_,rfl,rfl⟩
 | .str x,u,p,h,hx=>by injection hx with hx;subst hx;rw [show p=_ from h];exact ⟨_,rfl,rfl⟩
 | .agg cs,u,p,h,hx=>by
  obtain ⟨q,rfl,h⟩:=h;simp only [Rs] at hx;split at hx
  · rename_i l hl
    injection hx with hx;subst hx;obtain ⟨q',h1,h2⟩:=Mx hS h hl;exact ⟨.agg q',by simp only [x5,h1];rfl,by simp only [qL,h2]⟩
  cases hx
 | .cy cs,u,p,h,hx=>by
  obtain ⟨q,rfl,h⟩:=h;simp only [Rs] at hx;split at hx
  · rename_i l hl
    injection hx with hx;subst hx;obtain ⟨q',h1,h2⟩:=Mx hS h hl;exact ⟨.cy q',by simp only [x5,h1];rfl,by simp only [qL,h2]⟩
  cases hx
 | .sl r l,u,p,h,hx=>by injection hx with hx;subst hx;rw [show p=_ from h];exact ⟨_,rfl,rfl⟩
 | .nil e c,u,p,h,hx=>by injection hx with hx;subst hx;rw [show p=_ from h];exact ⟨_,rfl,rfl⟩
 | .own t ex,u,p,h,hx=>by
  simp only [Rs,cd] at hx;split at hx
  · rename_i r l bW
    injection hx with hx;subst hx;obtain ⟨e,n,rfl,cW⟩:=h;obtain ⟨rfl,rfl⟩:=cW.inv bW;refine ⟨.sl (afk r) afu (l.map (RT.pv r)),?_,rfl⟩;simp only [x5,hS.arr bW,ae1];rw [ad2 (by simp)]
  cases hx
 | .pre t len cap ex,u,p,h,hx=>by
  simp only [Rs,cd] at hx;split at hx
  · rename_i r l bW
    injection hx with hx;subst hx;obtain ⟨e,rfl,cW⟩:=h;have:=cW.inv bW;subst this;refine ⟨.sl (afk r) afu ((l.take len).map (RT.pv r)),?_,rfl⟩;simp only [x5,hS.arr bW,ae1,acZ]
  cases hx
 | .part t off len cap ex,u,p,h,hx=>by
  simp only [Rs,cd] at hx;split at hx
  · rename_i r l bW
    injection hx with hx;subst hx;obtain ⟨e,rfl,cW⟩:=h;have:=cW.inv bW;subst this;refine ⟨.sl (afk r) afu (((l.drop off).take len).map (RT.pv r)),?_,rfl⟩;simp only [x5,hS.arr bW,acZ,aeq]
  cases hx
 | .gH,_,_,_,hx| .undef,_,_,_,hx| .jd,_,_,_,hx| .dH,_,_,_,hx| .pa _ _ _ _ _,_,_,_,hx| .pb _ _ _,_,_,_,hx| .bp _ _ _,_,_,_,hx| .bD _ _,_,_,_,hx| .ez _ _ _,_,_,_,hx| .mp _,_,_,_,hx=>by cases hx
theorem Mx {s:List SB} {ps:cw} (hS:cA s ps): ∀{v u:List SV} {p:List PV},RL s v p->Mg s v=afr u-> ∃q,HB ps p=afr q/\qM u=afr q
 | [],u,p,h,hx=>by injection hx with hx;subst hx;rw [show p=_ from h];exact ⟨_,rfl,rfl⟩
 |x::xs,u,p,h,hx=>by
  obtain ⟨a,as,rfl,h1,h2⟩:=h.cons_inv;simp only [Mg] at hx;split at hx
  · rename_i y ys h3 h4
    injection hx with hx;subst hx;obtain ⟨q,h5,h6⟩:=ZH hS h1 h3;obtain ⟨qs,h7,h8⟩:=Mx hS h2 h4;exact ⟨q::qs,by simp only [HB,h5,h7],ek.2 ⟨_,_,rfl,h6,h8⟩⟩
  cases hx
end
mutual
theorem R4 {s:List SB}: ∀{v:SV} {p:PV},qL v=afr p->R s v p
 | .int _ _,p,h| .bool _,p,h| .str _,p,h| .dH,p,h| .sl _ _,p,h| .nil _ _,p,h=>by injection h with h;exact h.symm
 | .agg cs,p,h=>by
  simp only [qL] at h;split at h
  · rename_i l hl;injection h with h;exact ⟨l,h.symm,EO hl⟩
  cases h
 | .cy cs,p,h=>by
  simp only [qL] at h;split at h
  · rename_i l hl;injection h with h;exact ⟨l,h.symm,EO hl⟩
  cases h
 | .bD cs o,p,h=>by
  simp only [qL] at h;split at h
  · rename_i l hl;injection h with h;exact ⟨l,h.symm,EO hl⟩
  cases h
 | .ez f a b,p,h=>by
  simp only [qL] at h;split at h
  · rename_i x y h1 h2;injection h with h;exact ⟨x,y,h.symm,EO h1,EO h2⟩
  cases h
 | .gH,_,h| .undef,_,h| .jd,_,h| .own _ _,_,h| .pre _ _ _ _,_,h| .part _ _ _ _ _,_,h| .pa _ _ _ _ _,_,h| .pb _ _ _,_,h| .bp _ _ _,_,h| .mp _,_,h=>by cases h
theorem EO {s:List SB}: ∀{v:List SV} {p:List PV},qM v=afr p->RL s v p
 | [],p,h=>by injection h with h;exact h.symm
 |x::xs,p,h=>by obtain ⟨a,as,rfl,h1,h2⟩:=ek.1 h;exact RL.cons (R4 h1) (EO h2)
end
def ZI (kd:Kd) (n:Nat) (tk:List Nat) (v:SV) (r:mT):Prop:=
 match kd with
 | .pure=> ∃p,qL v=afr p/\r={v:=p,rd:=tk}
 | .tJ=> ∃p,qL v=afr p/\r={v:=p,rd:=tk,fr:=tk}
 | .own=> ∃p0 p q,qL v=afr p0/\EL n p0=afr (p,q)/\r={v:=p,news:=q,rd:=tk}
def dy (F : lM) (f : FuncId) (c : rI) : Prop :=
  ∀ (a : c.α) (b : c.β) (as args : List PV) (ax : cw) (fz : List Nat), c.fn a = afr b -> qM (c.args.enc a) = afr args -> Bw ax (wN ax deep) as = afr args ->
    ∃ n r, dh F (run F n) c.ow f as ax fz = afr r /\ ZI c.kd (afk ax) (dm (c7 ax deep) as) (c.res.enc b) r
def eS.va (c:eS) (a:gM c.ka):List SV:=(qj c.ta (kC c.ka a)).1
def eS.sa (c:eS) (a:gM c.ka):List SB:=(zJ c.tb (qj c.ta (kC c.ka a)).2).1
def eS.vb (c:eS) (b:gM c.ko):SV:=(rN c.tv (kC c.ko b)).1
def eS.sb (c:eS) (b:gM c.ko):List SB:=(zJ c.to (rN c.tv (kC c.ko b)).2).1
def R5:SB->SB->Prop
 | .arr r l,.arr q m=>r=q/\afk m=afk l
 | .box _,.box _=>True
 | .set _,.set _=>True
 | .cj _ _,.cj _ _=>True
 | .dead,.dead=>True
 |_,_=>False
def pz (F : lM) (f : FuncId) (c : eS) : Prop :=
  ∀ (a : gM c.ka) (b : gM c.ko) (pa : List PV) (ps : cw), c.fn a = afr b -> RL (c.sa a) (c.va a) pa -> cA (c.sa a) ps ->
    ∃ n v s, run F n (.func f pa ps []) = afr (.func v s []) /\ gW (c.sa a).length v s = aft /\ R (c.sb b) (c.vb b) v /\ cA (c.sb b) (s.take (c.sa a).length) /\ (c.sb b).length = (c.sa a).length /\
      ∀ (t : Nat) (x y : SB), (c.sa a)[t]? = afr x -> (c.sb b)[t]? = afr y -> R5 x y
def zT (F:lM):List (Nat×rI)->Prop
 | []=>True
 |(f,c)::r=>dy F f c/\zT F r
def GY (F:lM):List (Nat×eS)->Prop
 | []=>True
 |(f,c)::r=>pz F f c/\GY F r
def A3 (F:lM):List (Nat×Cd)->Prop
 | []=>True
 |(f,x)::r=>F f=afr x.ent/\A3 F r
structure iU (F:lM) (cx:Ctx):Prop where
 ZA: ∀f c,c∈cx.ZA f->dy F f c
 fpc: ∀f c,c∈cx.fpc f->pz F f c
 code: ∀f x,cx.code f=afr x->F f=afr x.ent
theorem zT.mem {F:lM}: ∀{l:List (Nat×rI)},zT F l-> ∀f c,c∈J8 l f->dy F f c
 | [],_,f,c,h=>by cases h
 |(g,d)::r,hl,f,c,h=>by
  simp only [J8] at h;cases hb:UV g f with
  |true=>
   rw [hb] at h;have:=v6 hb;subst this;simp only [lw] at h;rcases h with _|⟨_,h⟩
   · exact hl.1
   exact zT.mem hl.2 _ c h
  |false=>rw [hb] at h;exact zT.mem hl.2 f c h
theorem GY.mem {F:lM}: ∀{l:List (Nat×eS)},GY F l-> ∀f c,c∈J9 l f->pz F f c
 | [],_,f,c,h=>by cases h
 |(g,d)::r,hl,f,c,h=>by
  simp only [J9] at h;cases hb:UV g f with
  |true=>
   rw [hb] at h;have:=v6 hb;subst this;simp only [lw] at h;rcases h with _|⟨_,h⟩
   · exact hl.1
   exact GY.mem hl.2 _ c h
  |false=>rw [hb] at h;exact GY.mem hl.2 f c h
theorem A3.mem {F:lM}: ∀{l:List (Nat×Cd)},A3 F l-> ∀f x,Ik l f=afr x->F f=afr x.ent
 | [],_,f,c,h=>by cases h
 |(g,d)::r,hl,f,c,h=>by
  simp only [Ik] at h;cases hb:UV g f with
  |true=>rw [hb] at h;have:=v6 hb;subst this;injection h with h;subst h;exact hl.1
  |false=>rw [hb] at h;exact A3.mem hl.2 f c h
theorem iU.make {F:lM} {lp:Option Nat} {c:List (Nat×rI)} {p:List (Nat×eS)} {x:List (Nat×Cd)} {rk:List (Nat×List PT)} (h1:zT F c) (h2:GY F p) (h3:A3 F x):iU F (kS lp c p x rk):=
 ⟨h1.mem,h2.mem,h3.mem⟩
section
variable {F : lM} {R' ρ : Type} {w : R' -> ρ} {y : ρ} {s : List SB} {ps : cw} {z : List Nat}
theorem xm {f:FuncId} {m:Bool} {tk:List Nat} {vs:List SV} {k:XRS->fZ R'} (hS:cA s ps) {as args:List PV} (hx:Bw ps (wN ps deep) as=afr args) (hv:qM vs=afr args) (BH:tk=dm (c7 ps deep) as):
 ∀{l:List rI},(∀c∈l,dy F f c)->Ml f m s tk vs k l ρ w=afr y-> ∃sr pr,(∃n,dh F (run F n) m f as ps z=afr pr)/\Good s ps sr pr/\k (.loc sr) ρ w=afr y
 | [],_,h=>by cases h
 |c::l,hl,h=>by
  simp only [Ml] at h;cases hd:c.args.dec vs with
  |none=>rw [hd] at h;exact xm hS hx hv BH (fun c hc=>hl c (aex _ hc)) h
  |some a=>
   rw [hd] at h;cases hmo:(m==c.ow) with
   |false=>rw [hmo] at h;exact xm hS hx hv BH (fun c hc=>hl c (aex _ hc)) h
   |true=>
   rw [hmo] at h;obtain ⟨b,hb,h2⟩:=cH h;have hm:m=c.ow:=by simpa using hmo
   subst hm;have ajB:=c.args.law hd hv;obtain ⟨n,r,hr,AJ⟩:=hl c (aer ..) a b as args ps z hb ajB hx;cases hkd:c.kd with
   |pure=>rw [hkd] at h2 AJ;obtain ⟨p,h3,rfl⟩:=AJ;exact ⟨_,_,⟨n,hr⟩,by rw [<- BH];exact Good.val hS (R4 h3),h2⟩
   |tJ=>rw [hkd] at h2 AJ;obtain ⟨p,h3,rfl⟩:=AJ;exact ⟨_,_,⟨n,hr⟩,by rw [<- BH];exact Good.val hS (R4 h3),h2⟩
   |own=>
    rw [hkd] at h2 AJ;obtain ⟨p0,p,q,h3,h4,rfl⟩:=AJ;rw [hS.len] at h4;have hbh:vg (s++(xg (afk s) (c.res.enc b)).2) (afk s) (xg (afk s) (c.res.enc b)).2:=fun j x hj=>by rw [EQ (by omega)];simpa using hj
    obtain ⟨k1,k2⟩:=N9 h3 h4 hbh;exact ⟨_,_,⟨n,hr⟩,by rw [<- BH];exact Good.news hS k2.1 k2.2 k1,h2⟩
end
end Go.Vm
/- A call of a function that works on the blocks that are lent to it. -/
namespace Go.Vm
def pT {α:Type}:List (Nat×α)->List α->List α
 | [],s=>s
 |(t,b)::r,s=>pT r (s.set t b)
theorem vj: ∀(l:List (Nat×SB)) (s:List SB),pS l s=pT l s
 | [],s=>rfl
 |(t,b)::r,s=>by simp only [pS,pT,AU,vj r]
theorem CT: ∀(l:List (Nat×jx)) (s:cw),fU l s=pT l s
 | [],s=>rfl
 |(t,b)::r,s=>by simp only [fU,pT,CT r]
theorem zU {α:Type}: ∀(l:List (Nat×α)) (s:List α),(pT l s).length=afk s
 | [],s=>rfl
 |(t,b)::r,s=>by simp [pT,zU r]
theorem vn {α:Type}: ∀(l:List (Nat×α)) (s:List α) (t:Nat),t∉l.map (·.1)->(pT l s)[t]? =s[t]?
 | [],s,t,_=>rfl
 |(u,b)::r,s,t,h=>by simp only [aaG,List.mem_cons,not_or] at h;simp only [pT];rw [vn r _ t h.2,NE];simp [Ne.symm h.1]
theorem B3 {α:Type}: ∀(l:List (Nat×α)) (s:List α) (j t:Nat) (b:α),(l.map (·.1)).Nodup->l[j]? =afr (t,b)->t<afk s->(pT l s)[t]? =afr b
 | [],s,j,t,b,_,h,_=>by simp at h
 |(u,c)::r,s,0,t,b,hn,h,ht=>by simp at h;obtain ⟨rfl,rfl⟩:=h;simp only [aaG,aeI] at hn;simp only [pT];rw [vn r _ u hn.1,NE];simp [ht]
 |(u,c)::r,s,j+1,t,b,hn,h,ht=>by simp only [aaG,aeI] at hn;simp only [pT];exact B3 r _ j t b hn.2 (by simpa using h) (by simpa using ht)
theorem A4: ∀(l:List (Nat×SB)),xi l=l.map (·.1)
 | []=>rfl
 |(t,b)::r=>by simp [xi,A4 r]
theorem GZ (g:Nat->Nat): ∀(tk:List Nat) (s:List SB),afk s=afk tk->(yZ g tk s).map (·.1)=tk/\ ∀(j t:Nat) (b:SB),tk[j]? =afr t->s[j]? =afr b->(yZ g tk s)[j]? =afr (t,Rz g b)
 | [],s,h=>⟨by simp [yZ],fun j t b hj=>by simp at hj⟩
 |t::tk,[],h=>by simp at h
 |t::tk,b::s,h=>by
  obtain ⟨h1,h2⟩:=GZ g tk s (by simpa using h);refine ⟨by simp [yZ,h1],fun j u c hj hc=>?_⟩;cases j with
  |zero=>simp at hj hc;subst hj hc;rfl
  |succ j=>simp only [yZ,ae6];exact h2 j u c (by simpa using hj) (by simpa using hc)
theorem EP (g:Nat->Nat): ∀(tk:List Nat) (s:cw),afk tk<=afk s->(nX g tk s).map (·.1)=tk/\ ∀(j t:Nat) (b:jx),tk[j]? =afr t->s[j]? =afr b->(nX g tk s)[j]? =afr (t,yQ g b)
 | [],s,h=>⟨by simp [nX],fun j t b hj=>by simp at hj⟩
 |t::tk,[],h=>by simp at h
 |t::tk,b::s,h=>by
  obtain ⟨h1,h2⟩:=EP g tk s (by simpa using h);refine ⟨by simp [nX,h1],fun j u c hj hc=>?_⟩;cases j with
  |zero=>simp at hj hc;subst hj hc;rfl
  |succ j=>simp only [nX,ae6];exact h2 j u c (by simpa using hj) (by simpa using hc)
theorem G0: ∀{l:List (Nat×jx)},(l.map (·.1)).Nodup->uN l=aft
 | [],_=>rfl
 |p::r,h=>by
  simp only [aaG,aeI] at h;simp only [uN,ww,ad8,aav];refine ⟨fun q hq=>?_,G0 h.2⟩;cases hb:UV q.1 p.1 with
  |false=>rfl
  |true=>exact absurd (aeZ.2 ⟨q,hq,v6 hb⟩) h.1
theorem It: ∀(s:List SB),Bt [] s=s
 | []=>rfl
 |b::r=>by simp only [Bt,It r];cases b<;>simp [UI,si]
theorem Kj (s:List SB) (r:fM):r.mH s=Bt (xi r.wr) (pS r.wr s)++r.news:=by
 unfold fM.mH;split
 · rename_i h;rw [h];simp only [xi,pS,It,lK]
 simp only [lK]
def aaN (g:Nat->Nat) (s s2:List SB):Prop:= ∀(u:Nat) (x:SB),s[u]? =afr x->match x with
 | .arr r l=>s2[g u]? =afr (.arr r l)
 | .dead=>s2[g u]? =afr .dead
 | .box _=> ∃cs,s2[g u]? =afr (.box cs)
 |_=>True
mutual
theorem Oa {g:Nat->Nat} {s s2:List SB} (hb:aaN g s s2): ∀{v:SV} {p:PV},R s v p->R s2 (J5 g v) (Bx g p)
 | .gH,_,_=>trivial
 | .undef,p,h| .jd,p,h| .dH,p,h| .int _ _,p,h| .bool _,p,h| .str _,p,h| .sl _ _,p,h| .nil _ _,p,h| .bp _ _ _,p,h| .mp _,p,h=>by rw [show p=_ from h];rfl
 | .agg cs,p,h=>by obtain ⟨q,rfl,h⟩:=h;exact ⟨_,rfl,vo hb h⟩
 | .cy cs,p,h=>by obtain ⟨q,rfl,h⟩:=h;exact ⟨_,rfl,vo hb h⟩
 | .bD cs o,p,h=>by obtain ⟨q,rfl,h⟩:=h;exact ⟨_,rfl,vo hb h⟩
 | .ez f a b,p,h=>by obtain ⟨pa,pb,rfl,h1,h2⟩:=h;exact ⟨_,_,rfl,vo hb h1,vo hb h2⟩
 | .own t ex,p,h=>by
  obtain ⟨e,n,rfl,cW⟩:=h;refine ⟨e,n,rfl,?_⟩;rcases cW with ⟨r,l,h1,h2,h3⟩|h1
  · exact .inl ⟨r,l,hb t _ h1,h2,h3⟩
  exact .inr (hb t _ h1)
 | .pre t a b c,p,h=>by
  obtain ⟨e,rfl,cW⟩:=h;refine ⟨e,rfl,?_⟩;rcases cW with ⟨r,l,h1,h2⟩|h1|⟨cs,h1,h2⟩
  · exact .inl ⟨r,l,hb t _ h1,h2⟩
  · exact .inr (.inl (hb t _ h1))
  obtain ⟨c2,h3⟩:=hb t _ h1
  exact .inr (.inr ⟨c2,h3,h2⟩)
 | .part t o a b c,p,h=>by
  obtain ⟨e,rfl,cW⟩:=h;refine ⟨e,rfl,?_⟩;rcases cW with ⟨r,l,h1,h2⟩|h1|⟨cs,h1,h2⟩
  · exact .inl ⟨r,l,hb t _ h1,h2⟩
  · exact .inr (.inl (hb t _ h1))
  obtain ⟨c2,h3⟩:=hb t _ h1
  exact .inr (.inr ⟨c2,h3,h2⟩)
 | .pa t r i a o,p,h=>by
  obtain ⟨rfl,cW⟩:=h;refine ⟨_,rfl,?_⟩;rcases cW with ⟨l,h1,h2⟩|h1
  · exact .inl ⟨r,l,hb t _ h1,by rw [h2];rfl⟩
  exact .inr (hb t _ h1)
 | .pb t i o,p,h=>by
  obtain ⟨e,rfl,cW⟩:=h;refine ⟨e,rfl,?_⟩;rcases cW with ⟨r,l,h1,h2⟩|h1
  · exact .inl ⟨r,l,hb t _ h1,h2⟩
  exact .inr (hb t _ h1)
theorem vo {g:Nat->Nat} {s s2:List SB} (hb:aaN g s s2): ∀{v:List SV} {p:List PV},RL s v p->RL s2 (CP g v) (vZ g p)
 | [],p,h=>by rw [show p=_ from h];rfl
 |x::xs,p,h=>by obtain ⟨a,as,rfl,h1,h2⟩:=h.cons_inv;exact RL.cons (Oa hb h1) (vo hb h2)
end
theorem ES: ∀{a b:cw},(∀(t:Nat) (x:jx),a[t]? =afr x-> ∃y,b[t]? =afr y/\x.bH=y.bH)->uM a b=aft
 | [],b,_=>by cases b<;>rfl
 |x::a,[],h=>by obtain ⟨y,hy,_⟩:=h 0 x rfl;simp at hy
 |x::a,y::b,h=>by obtain ⟨y',h1,h2⟩:=h 0 x rfl;simp at h1;subst h1;have:=ES (a:=a) (b:=b) (fun t x hx=>by simpa using h (t+1) x (by simpa using hx));simp only [uM,this,aew,h2];cases y.bH<;>rfl
section
variable {F : lM} {R' ρ : Type} {w : R' -> ρ} {y : ρ} {s : List SB} {ps : cw} {z : List Nat}
theorem Ob {f:FuncId} {tk:List Nat} {My vs:List SV} {s0:List SB} {k:XRS->fZ R'} (hS:cA s ps) {T1:List PV} (hv:RL s My T1) (BH:tk=nT (dm (c7 ps deep) T1)) (hz:(tk.all fun t=>!has z t)=aft)
 (h1:sg tk My=afr vs) (h2:Gc s tk tk=afr s0):
 ∀{l:List eS},(∀c∈l,pz F f c)->fpS f (afk s) tk vs s0 k l ρ w=afr y-> ∃sr pr,(∃n,sM (run F n) f T1 ps z=afr pr)/\Good s ps sr pr/\k (.loc sr) ρ w=afr y
 | [],_,h=>by cases h
 |c::l,hl,h=>by
  have next:fpS f (afk s) tk vs s0 k l ρ w=afr y-> ∃sr pr,(∃n,sM (run F n) f T1 ps z=afr pr)/\Good s ps sr pr/\k (.loc sr) ρ w=afr y:=
   fun h=>Ob hS hv BH hz h1 h2 (fun c hc=>hl c (aex _ hc)) h
  simp only [fpS] at h;cases sW:(xh c.ta vs&&Eu c.tb s0) with
  |false=>rw [sW] at h;exact next h
  |true=>
   rw [sW] at h;simp only [lw] at h;cases hpo:kQ c.ka (BV vs++Ig s0) with
   |none=>rw [hpo] at h;exact next h
   |some a=>
    rw [hpo] at h;obtain ⟨b,hb,h3⟩:=cH h;simp only [ww] at sW;have D2:=og hpo;have hva:c.va a=vs:=by unfold eS.va;rw [D2,nj _ sW.1]
    have hsa:c.sa a=s0:=by unfold eS.sa;rw [D2,nj _ sW.1];have:=A2 [] sW.2;rw [aaB] at this;rw [this]
    have D6:EK tk s s0:=by have:=EK.of (l:=[]) h2;rwa [aaB] at this
    obtain ⟨pa',a1,a2⟩:=sm D6 hv h1;obtain ⟨p0,b1,b2,b3⟩:=BY hS D6 h2;have H3:cA s0 p0:=⟨b2,b3⟩;obtain ⟨U5,af'⟩:=xl h2;obtain ⟨n,v,sr,r1,r2,r3,r4,r5,r6⟩:=hl c (aer ..) a b pa' p0 hb (by rw [hva,hsa];exact a2) (by rw [hsa];exact H3);rw [hsa] at r2 r4 r5 r6;have FY:tk.Nodup:=by rw [BH];exact rY
    have L1: ∀t∈tk,t<(afk s):=fun t ht=>by obtain ⟨j,hj,he⟩:=aez ht;obtain ⟨x,c',d1,_,_⟩:=af' j t (by rw [IR hj,he]);exact (AC.1 d1).1
    have aga:(c.sb b).length=(afk tk):=by rw [r5,U5]
    have ajE:(afk tk)<=(afk sr):=by have:=r4.len;rw [acl,aga] at this;rw [U5] at this;omega
    have EG: ∀j,j<afk tk->(sr.take (afk s0))[j]? =sr[j]?:=fun j hj=>M2 (by rw [U5];exact hj)
    have QU:uM p0 sr=aft:=ES (fun t x hx=>by
     have ajF:t<(afk s0):=by have:=(AC.1 hx).1;rw [b2] at this;exact this
     obtain ⟨x0,H7⟩: ∃x0,s0[t]? =afr x0:=⟨s0[t],IR ajF⟩;obtain ⟨q,q1,q2⟩:=b3 t x0 H7;rw [hx] at q1;injection q1 with q1;subst q1;obtain ⟨y0,PA⟩: ∃y0,(c.sb b)[t]? =afr y0:=⟨(c.sb b)[t]'(by omega),IR (by omega)⟩;obtain ⟨q',q3,q4⟩:=r4.at_ t y0 PA;rw [EG t (by omega)] at q3;refine ⟨q',q3,?_⟩;have F7:=r6 t x0 y0 H7 PA;cases x0 with
     |arr r l=>cases y0 with
      |arr r' l'=>obtain ⟨rfl,zw⟩:=F7;rw [show x=_ from q2,show q'=_ from q4];cases l<;>cases l'<;>simp_all [jx.bH]
      |_=>exact F7.elim
     |box cs=>cases y0 with
      |box Gt=>obtain ⟨_,rfl,_⟩:=q2;obtain ⟨_,rfl,_⟩:=q4;rfl
      |_=>exact F7.elim
     |set l=>cases y0 with
      |set l'=>rw [show x=_ from q2,show q'=_ from q4];rfl
      |_=>exact F7.elim
     |cj p l=>cases y0 with
      |cj p' l'=>rw [show x=_ from q2,show q'=_ from q4];rfl
      |_=>exact F7.elim
     |dead=>cases y0 with
      |dead=>rw [show x=_ from q2,show q'=_ from q4]
      |_=>exact F7.elim)
    let g:=jE tk (afk s)
    have hg: ∀j t,tk[j]? =afr t->g j=t:=fun j t hj=>by show jE tk (afk s) j=t;unfold jE;rw [hj]
    obtain ⟨w1,w2⟩:=GZ g tk (c.sb b) aga;obtain ⟨u1,u2⟩:=EP g tk sr ajE
    let s2:=Bt tk (pS (yZ g tk (c.sb b)) s)
    have qI: ∀(j t:Nat) (x:SB),tk[j]? =afr t->(c.sb b)[j]? =afr x->s2[t]? =afr (UI tk (Rz g x)):=fun j t x hj hx=>by show (Bt tk _)[t]? =_;rw [qk,vj,B3 _ s j t _ (by rw [w1];exact FY) (w2 j t x hj hx) (L1 t (aeg hj))];rfl
    have agb: ∀(t:Nat),t∉tk->s2[t]? =(s[t]?).map (UI tk):=fun t ht=>by show (Bt tk _)[t]? =_;rw [qk,vj,vn _ s t (by rw [w1];exact ht)]
    have Aw: ∀t∈tk,∃j,tk[j]? =afr t:=fun t ht=>by obtain ⟨j,hj,he⟩:=aez ht;exact ⟨j,by rw [IR hj,he]⟩
    have qG:Fr tk s s2:=fun t x hx=>by
     by_cases ht:t∈tk
     · obtain ⟨j,hj⟩:=Aw t ht
       have LH:j<(afk tk):=(AC.1 hj).1;obtain ⟨x',c',d1,d2,d3⟩:=af' j t hj;rw [hx] at d1;injection d1 with d1;subst d1;obtain ⟨y0,PA⟩: ∃y0,(c.sb b)[j]? =afr y0:=⟨(c.sb b)[j]'(by omega),IR (by omega)⟩;have F7:=r6 j c' y0 d3 PA;have U6:=qI j t y0 hj PA;cases x with
       |arr r l=>
        injection d2 with d2;subst d2;cases y0 with
        |arr r' l'=>
         obtain ⟨rfl,zw⟩:=F7;refine .inl ⟨l',U6,zw,fun hb=>?_⟩;exfalso;have:has tk t=aft:=by unfold has;rw [afa];exact ⟨t,ht,by simp⟩
         rw [this] at hb;cases hb
        |_=>exact F7.elim
       |dead=>
        injection d2 with d2;subst d2;cases y0 with
        |dead=>exact U6
        |_=>exact F7.elim
       |box cs=>
        simp only [Mh] at d2;split at d2
        · injection d2 with d2;subst d2
          cases y0 with
          |box c2=>exact .inl ⟨_,U6⟩
          |_=>exact F7.elim
        cases d2
       |_=>trivial
     have:=agb t ht
     rw [hx] at this;cases x with
     |arr r l=>exact .inl ⟨l,this,rfl,fun _=>rfl⟩
     |dead=>exact this
     |box c2=>exact .inl ⟨_,this⟩
     |_=>trivial
    have ZJ:aaN g (c.sb b) s2:=fun u x hx=>by
     have N5:u<(afk tk):=by have:=(AC.1 hx).1;omega
     have hj:tk[u]? =afr tk[u]:=IR N5;have:=qI u _ x hj hx;rw [hg u _ hj];cases x with
     |arr r l=>exact this
     |dead=>exact this
     |box cs=>exact ⟨_,this⟩
     |_=>trivial
    have ajG:(∃n,sM (run F n) f T1 ps z=afr {v:=Bx g v,wr:=nX g tk sr}):=by
     refine ⟨n,?_⟩;unfold sM T5;rw [<- BH,rc hz,a1,b1];dsimp only;rw [r1];dsimp only;unfold DM;rw [rc QU,hS.len];have:gW (afk tk) v sr=aft:=by rw [<- U5];exact r2
     rw [rc this]
    refine ⟨{v:=J5 g (c.vb b),wr:=yZ g tk (c.sb b)},_,ajG,?_,h3⟩;have bW:fM.mH s {v:=J5 g (c.vb b),wr:=yZ g tk (c.sb b)}=s2:=by rw [Kj,aaB,A4,w1]
    exact {
     rd:=rfl
     fr:=rfl
     wr:=by rw [A4,w1];exact u1
     nw:=G0 (by rw [u1];exact FY)
     nl:=rfl
     ax:=by
      rw [bW];show cA s2 (fU (nX g tk sr) ps);rw [CT];refine ⟨by rw [zU,u7,vj,zU,hS.len],fun t x hx=>?_⟩
      by_cases ht:t∈tk
      · obtain ⟨j,hj⟩:=Aw t ht
        have LH:j<(afk tk):=(AC.1 hj).1;obtain ⟨y0,PA⟩: ∃y0,(c.sb b)[j]? =afr y0:=⟨(c.sb b)[j]'(by omega),IR (by omega)⟩;have U6:=qI j t y0 hj PA;rw [hx] at U6;injection U6 with U6;subst U6;obtain ⟨q',q3,q4⟩:=r4.at_ j y0 PA;rw [EG j LH] at q3;refine ⟨yQ g q',B3 _ ps j t _ (by rw [u1];exact FY) (u2 j t q' hj q3) (by rw [hS.len];exact L1 t ht),?_⟩;cases y0 with
        |box cs=>obtain ⟨pc,rfl,hpc⟩:=q4;exact ⟨_,rfl,RL.fr (Fr.refl tk s2) (vo ZJ hpc)⟩
        |arr r l=>rw [show q'=_ from q4];rfl
        |set l=>rw [show q'=_ from q4];rfl
        |cj p l=>rw [show q'=_ from q4];rfl
        |dead=>rw [show q'=_ from q4];rfl
      rw [agb t ht,ac1] at hx
      obtain ⟨x0,H7,rfl⟩:=hx;obtain ⟨q,q1,q2⟩:=hS.at_ t x0 H7;exact ⟨q,by rw [vn _ ps t (by rw [u1];exact ht)];exact q1,q2.fr qG⟩
     v:=by rw [bW];exact Oa ZJ r3
     fra:=by rw [bW,A4,w1];exact qG}
end
end Go.Vm
/- What the typed machine makes of a function is what the logical machine runs. -/
namespace Go.Vm
section
variable {F : lM}
theorem WO.aaO {o:bM} {r:List bM} {st:St} {tr:List Tr} {Q:St->List Tr->Prop} {f:FuncId} {args:List PV}
 (hw:wanted o.guard st.env=afr aft) (fo: ∀n,v7 F (run F n) st.env st.ax st.fz o.op=fK (run F n) f args st.ax st.fz)
 (h:zp F f args st.ax st.fz fun v s z=>(PP (afk st.ax) (afk s)&&st.fz.all (has z))=aft/\WO F r {st with env:=ik o.dst v st.env,ax:=s,fz:=z} (Ry::tr) Q):
 WO F (o::r) st tr Q:=by
 obtain ⟨n,v,s,z,hr,hc,hk⟩:=h;refine WO.call (.shr v s z) hw ⟨n,?_⟩ rfl hk;rw [fo];simp only [fK,hr];rw [rc hc]
theorem WP.again {live:List (Nat×Option Nat)} {b:iQ} {st s1:St} {Q:gL->St->Prop} (h0:norm live st=afr s1) (h:WP F b s1 (andThen (fun s=>WP F (.loop live b) s Q) Q)):WP F (.loop live b) st Q:=by
 obtain ⟨m,e,s,he,hq⟩:=h;cases e with
 |normal=>
  obtain ⟨k,e',s',Bq,Ql⟩:=hq;refine ⟨max m k+1,e',s',?_,Ql⟩;simp only [rL] at Bq ⊢;rw [kH];simp only [step,h0];rw [o9 (.refl _ _) (pf F (Nat.le_max_left m k)) _ _ _ he];dsimp only;split at Bq
  · rename_i e1 s1 NH
    rw [pf F (Nat.le_max_right m k) _ _ NH];exact Bq
  cases Bq
 |exit i=>exact ⟨m+1,.exit i,s,by simp only [rL];rw [kH];simp only [step,h0,he],hq⟩
 |ret=>exact ⟨m+1,.ret,s,by simp only [rL];rw [kH];simp only [step,h0,he],hq⟩
def Kk (F : lM) (inl : UJ) : Prop :=
  ∀ (f : FuncId) (args : List SV) (s : List SB) (z : List Nat) (R' : Type) (k : SV -> List SB -> List Nat -> fZ R') (ρ : Type) (w : R' -> ρ) (y : ρ) (pa : List PV) (ps : cw) (Q : R' -> PV -> cw -> List Nat -> Prop),
    RL s args pa -> cA s ps -> inl f args s z R' k ρ w = afr y ->
    (∀ v s' z' p wL wK (w' : R' -> wK) y', R s' v p -> cA s' wL -> k v s' z' wK w' = afr y' -> ∃ r, y' = w' r /\ Q r p wL z') ->
    ∃ r, y = w r /\ zp F f pa ps z (fun p wL z' => Q r p wL z')
def Oc:SB->SB->Prop
 | .arr r l,b=>(∃l',b= .arr r l'/\afk l'=afk l)\/b= .dead
 | .dead,b=>b= .dead
 | .box _,b=>(∃cs,b= .box cs)\/b= .dead
 |_,_=>True
theorem A5 {R' ρ:Type} {w:R'->ρ} {y:ρ}: ∀{s s':List SB} {k:fZ R'},oN s s' k ρ w=afr y->k ρ w=afr y/\afk s<=afk s'/\
 ∀(t:Nat) (b:SB),s[t]? =afr b-> ∃b',s'[t]? =afr b'/\Oc b b'
 | [],s',k,h=>⟨by cases s'<;>exact h,Nat.zero_le _,fun t b ht=>by simp at ht⟩
 |x::xs,[],k,h=>by cases h
 |x::xs,y'::ys,k,h=>by
  have step: ∀(_:oN xs ys k ρ w=afr y) (_:Oc x y'),k ρ w=afr y/\(x::xs).length<=(y'::ys).length/\ ∀(t:Nat) (b:SB),(x::xs)[t]? =afr b-> ∃b',(y'::ys)[t]? =afr b'/\Oc b b':=by
   intro h hx;obtain ⟨h1,h2,h3⟩:=A5 h;refine ⟨h1,by simpa using h2,fun t b ht=>?_⟩;cases t with
   |zero=>simp at ht;subst ht;exact ⟨y',rfl,hx⟩
   |succ t=>simpa using h3 t b (by simpa using ht)
  cases x with
  |arr r l=>
   cases y' with
   |arr q m=>obtain ⟨hr,h2⟩:=cI (a:=fR (afk m==afk l) (oN xs ys k) aK) h;obtain ⟨hl,h3⟩:=hJ h2;have:=ui hr;subst this;exact step h3 (.inl ⟨m,rfl,by simpa using hl⟩)
   |dead=>exact step h (.inr rfl)
   |_=>cases h
  |dead=>
   cases y' with
   |dead=>exact step h rfl
   |_=>cases h
  |box cs=>
   cases y' with
   |box c2=>exact step h (.inl ⟨c2,rfl⟩)
   |dead=>exact step h (.inr rfl)
   |_=>cases h
  |set l=>exact step h trivial
  |cj p l=>exact step h trivial
theorem R6 {n t:Nat} (h:t<n):has (tL n) t=aft:=by
 induction n with
 |zero=>omega
 |succ n ih=>
  unfold has at ih ⊢;rw [afa] at*;simp only [tL,afe,aes];rcases aeh t n with h1|h1
  · obtain ⟨x,h2,h3⟩:=ih h1
    exact ⟨x,.inl h2,h3⟩
  have:t=n:=by omega
  subst this;exact ⟨t,.inr rfl,by simp⟩
theorem Mz {s s':List SB} (h: ∀(t:Nat) (b:SB),s[t]? =afr b-> ∃b',s'[t]? =afr b'/\Oc b b'):Fr (tL (afk s)) s s':=fun t b hb=>by
 obtain ⟨b',h1,h2⟩:=h t b hb;have dz:=(AC.1 hb).1;cases b with
 |arr r l=>
  rcases h2 with ⟨l',rfl,h3⟩|rfl
  · exact .inl ⟨l',h1,h3,fun hx=>by rw [R6 dz] at hx;cases hx⟩
  exact .inr h1
 |dead=>rw [show b'= .dead from h2] at h1;exact h1
 |box cs=>
  rcases h2 with ⟨c2,rfl⟩|rfl
  · exact .inl ⟨c2,h1⟩
  exact .inr h1
 |_=>trivial
theorem agc {s:List SB} {ps:cw} {sr:fM} {pr:mT} (G:Good s ps sr pr) (hS:cA s ps):(XR.loc pr).tr (afk ps)=sr.tr (afk s):=by
 simp only [XR.tr,fM.tr,G.rd,G.fr,hS.len,<- G.wr,G.nl,afj];have:pr.news.isEmpty=sr.news.isEmpty:=by have:=G.nl;cases h1:pr.news<;>cases h2:sr.news<;>simp_all
 rw [this];rfl
theorem aaP {st:ob} {p:St} (h:ym st p) {sr:fM} {pr:mT} (G:Good st.ax p.ax sr pr) (d:Option Nat):ym (sr.next d st) ((XR.loc pr).next d p):=by
 have U7: ∀{s:List SB} {e:SE} {pe:Env} {v:SV} {q:PV},dF s e pe->R s v q->dF s (Ii d v e) (ik d q pe):=by
  intro s e pe v q he hv;cases d with
  |none=>exact he
  |some t=>exact ⟨q,pe,rfl,hv,he⟩
 have hs:=Kj st.ax sr;unfold fM.next
 split
 · rename_i hw
   rw [hw] at hs;simp only [xi,pS,It] at hs;have pj:=G.ax;have hv:=G.v;have qG:=G.fra;rw [hs] at pj hv qG;rw [hw] at qG;exact ⟨by simp only [lK];exact U7 (dF.ext qG h.env) hv,by simp only [lK];exact pj,by simp only [XR.next,G.fr,h.fz],h.kn⟩
 have pj:=G.ax
 have hv:=G.v;have qG:=G.fra;rw [hs] at pj hv qG;exact ⟨by simp only [lK];exact U7 (dF.fr qG h.env) hv,by simp only [lK];exact pj,by simp only [XR.next,G.fr,h.fz],h.kn⟩
theorem ok_eq {s:List SB} {ps:cw} {sr:fM} {pr:mT} (G:Good s ps sr pr) {z:List Nat} (h:sr.ok z=aft):(XR.loc pr).ok z=aft:=by simp only [XR.ok,G.nw,aew];unfold fM.ok at h;rw [<- G.wr,afj] at h;exact h
section
variable {cx : Ctx} {inl : UJ} {R' : Type}
def ajI (_F:lM) (k:ob->List Tr->fZ R') (Q:R'->St->List Tr->Prop):Prop:=
 ∀st p tr ρ (w:R'->ρ) y,ym st p->k st tr ρ w=afr y-> ∃r,y=w r/\Q r p tr
theorem vp {o:bM} {l:List bM} {st:ob} {p:St} {tr:List Tr} {k:ob->List Tr->fZ R'} {ρ:Type} {w:R'->ρ} {y:ρ} {Q:R'->St->List Tr->Prop}
 (hl: ∀st p tr ρ (w:R'->ρ) y,ym st p->k st tr ρ w=afr y-> ∃r,y=w r/\WO F l p tr (Q r)) (h:ym st p) {sr:fM} {pr:mT} (hw:wanted o.guard p.env=afr aft)
 (hx: ∃n,v7 F (run F n) p.env p.ax p.fz o.op=afr (.loc pr)) (G:Good st.ax p.ax sr pr) (hg:NX o.dst st tr k (.loc sr) ρ w=afr y): ∃r,y=w r/\WO F (o::l) p tr (Q r):=by
 unfold NX at hg;dsimp only at hg;obtain ⟨zo,hg⟩:=cI hg;rw [Ib] at hg;have hR:=aaP h G o.dst;obtain ⟨r,hr,U8⟩:=hl _ _ _ _ _ _ hR hg;refine ⟨r,hr,WO.call (.loc pr) hw hx (by rw [h.fz];exact ok_eq G zo) ?_⟩;rw [agc G h.ax];exact U8
theorem Kl (Da:iU F cx) (Iu:Kk F inl) {o:bM} {l:List bM} {st:ob} {p:St} {tr:List Tr} {k:ob->List Tr->fZ R'} {ρ:Type} {w:R'->ρ} {y:ρ} {Q:R'->St->List Tr->Prop}
 (hl: ∀st p tr ρ (w:R'->ρ) y,ym st p->k st tr ρ w=afr y-> ∃r,y=w r/\WO F l p tr (Q r)) (h:ym st p) (hw:wanted o.guard p.env=afr aft)
 (hg:GN cx inl st.env st.ax st.fz o.op (NX o.dst st tr k) ρ w=afr y): ∃r,y=w r/\WO F (o::l) p tr (Q r):=by
 have hS:=h.ax;have hE:=h.env;have shr: ∀(f:FuncId) (My:List SV) (T1:List PV),RL st.ax My T1->(∀n,v7 F (run F n) p.env p.ax p.fz o.op=fK (run F n) f T1 p.ax p.fz)->
  inl f My st.ax st.fz R' (fun v s' z'=>NX o.dst st tr k (.shr v s' z')) ρ w=afr y-> ∃r,y=w r/\WO F (o::l) p tr (Q r):=by
  intro f My T1 hv fo hi;obtain ⟨r,hr,hd⟩:=Iu f My st.ax st.fz R' _ ρ w y T1 p.ax (fun r v s z=>(PP (afk p.ax) (afk s)&&p.fz.all (has z))=aft/\WO F l {p with env:=ik o.dst v p.env,ax:=s,fz:=z} (Ry::tr) (Q r)) hv hS hi
   (fun v s' z' pv wL wK w' y' hR hS' hk=>by
    unfold NX at hk;dsimp only at hk;rw [Ib] at hk;obtain ⟨hk,cO,QH⟩:=A5 hk;obtain ⟨hz,hk⟩:=cI hk;have qG:=Mz QH;have U7:dF s' (Ii o.dst v (dgE (tL (afk st.ax)) st.env)) (ik o.dst pv p.env):=by
     cases o.dst with
     |none=>exact dF.fr qG hE
     |some t=>exact ⟨pv,p.env,rfl,hR,dF.fr qG hE⟩
    have hR':ym {env:=Ii o.dst v (dgE (tL (afk st.ax)) st.env),ax:=s',fz:=z',kn:=st.kn} {p with env:=ik o.dst pv p.env,ax:=wL,fz:=z'}:=⟨U7,hS',rfl,h.kn⟩;obtain ⟨r,hr,U8⟩:=hl _ _ _ _ _ _ hR' hk;refine ⟨r,hr,?_,U8⟩;rw [h.fz,hz,aew,hS.len,hS'.len];simpa using cO)
  refine ⟨r,hr,WO.aaO hw fo ?_⟩;rw [h.fz];rw [h.fz] at hd;exact hd
 have loc: ∀{k':fM->fZ R'},lJ st.env st.ax st.fz o.op k' ρ w=afr y->BQ o.op=afu->(∀sr,k' sr=NX o.dst st tr k (.loc sr))-> ∃r,y=w r/\WO F (o::l) p tr (Q r):=by intro k' hv hc hk;obtain ⟨sr,pr,h1,G,h2⟩:=U2 hE hS (pe:=p.env) hv;rw [hk] at h2;exact vp hl h hw ⟨0,by rw [H9 hc,h.fz,h1];rfl⟩ G h2
 generalize fo:o.op=op at hg;cases op with
 |call m f args=>
  have kA:=yn hE args;simp only [GN] at hg;cases m with
  |TO=>
   dsimp only at hg;cases hx:qK st.ax (jU st.ax deep) (ji st.env args) with
   |none=>rw [hx] at hg;cases hg
   |some vs=>rw [hx] at hg;obtain ⟨q,h1,h2⟩:=sZ hS (Dv hS deep) kA hx;obtain ⟨sr,pr,⟨n,h3⟩,G,h4⟩:=xm (f:=f) (z:=st.fz) hS h1 h2 (y5 hS (EH hS deep) kA hx) (fun c hc=>Da.ZA f c hc) hg;exact vp hl h hw ⟨n,by rw [fo,h.fz];simp only [v7,h3];rfl⟩ G h4
  |own=>
   dsimp only at hg;cases hx:qK st.ax (jU st.ax deep) (ji st.env args) with
   |none=>rw [hx] at hg;cases hg
   |some vs=>rw [hx] at hg;obtain ⟨q,h1,h2⟩:=sZ hS (Dv hS deep) kA hx;obtain ⟨sr,pr,⟨n,h3⟩,G,h4⟩:=xm (f:=f) (z:=st.fz) hS h1 h2 (y5 hS (EH hS deep) kA hx) (fun c hc=>Da.ZA f c hc) hg;exact vp hl h hw ⟨n,by rw [fo,h.fz];simp only [v7,h3];rfl⟩ G h4
  |shr=>exact shr f _ _ kA (fun n=>by rw [fo];rfl) hg
  |fp=>
   dsimp only at hg;cases hx:Me st.ax (jU st.ax deep) (ji st.env args) with
   |false=>rw [hx] at hg;cases hg
   |true=>
    rw [hx] at hg;dsimp only at hg;obtain ⟨hz,hg⟩:=cI hg;cases h1:sg (nT (qh (wE st.ax deep) (ji st.env args))) (ji st.env args) with
    |none=>rw [h1] at hg;cases hg
    |some vs=>
     cases h2:Gc st.ax (nT (qh (wE st.ax deep) (ji st.env args))) (nT (qh (wE st.ax deep) (ji st.env args))) with
     |none=>rw [h1,h2] at hg;cases hg
     |some s0=>rw [h1,h2] at hg;obtain ⟨sr,pr,⟨n,h3⟩,G,h4⟩:=Ob (f:=f) (z:=st.fz) hS kA (by rw [RX hS (EH hS deep) kA hx]) hz h1 h2 (fun c hc=>Da.fpc f c hc) hg;exact vp hl h hw ⟨n,by rw [fo,h.fz];simp only [v7,h3];rfl⟩ G h4
 |vY x args=>
  have kA:=yn hE args;simp only [GN] at hg;have hx:=dA hE x;generalize bP st.env x=v at hg hx;cases v with
  |ez f a b=>
   dsimp only at hg;obtain ⟨pa,pb,hx,ha,hb⟩:=hx;have ajJ: ∀{vs:List SV} {q:List PV},RL st.ax vs q->(zK vs=aft->q.any DL=aft):=by
    intro vs
    induction vs with
    |nil=>intro q _ h;cases h
    |cons v vs ih=>
     intro q hq hp;obtain ⟨a,as,rfl,h1,h2⟩:=hq.cons_inv;simp only [zK,afg] at hp;simp only [afh,afg];rcases hp with hp|hp
     · left
       cases v with
       |own _ _=>obtain ⟨_,_,rfl,_⟩:=h1;rfl
       |pre _ _ _ _=>obtain ⟨_,rfl,_⟩:=h1;rfl
       |part _ _ _ _ _=>obtain ⟨_,rfl,_⟩:=h1;rfl
       |pa _ _ _ _ _=>obtain ⟨rfl,_⟩:=h1;rfl
       |pb _ _ _=>obtain ⟨_,rfl,_⟩:=h1;rfl
       |bp _ _ _=>rw [show a=_ from h1];rfl
       |mp _=>rw [show a=_ from h1];rfl
       |_=>cases hp
     right;exact ih h2 hp
   cases hp:zK (ji st.env args++b) with
   |true=>rw [hp] at hg;have:=ajJ (kA.append hb) hp;exact shr f _ _ ((ha.append kA).append hb) (fun n=>by rw [fo];simp only [v7,hx,this,if_true]) hg
   |false=>
    rw [hp] at hg;simp only [pp] at hg;cases hxx:qK st.ax (jU st.ax deep) (a++ji st.env args++b) with
    |none=>rw [hxx] at hg;cases hg
    |some vs=>
     rw [hxx] at hg;have hno: ∀{vs u:List SV} {q:List PV},RL st.ax vs q->zK vs=afu->qK st.ax (jU st.ax deep) vs=afr u->q.any DL=afu:=by
      intro vs
      induction vs with
      |nil=>intro u q hq _ _;rw [show q=[] from hq];rfl
      |cons v vs ih=>
       intro u q hq hp hu;obtain ⟨a,as,rfl,h1,h2⟩:=hq.cons_inv;simp only [zK,Bool.or_eq_false_iff] at hp;simp only [qK] at hu;split at hu
       · rename_i y1 y2 e1 e2
         simp only [afh,ih h2 hp.2 e2,Bool.or_false];cases v with
         |agg _|cy _|bD _ _=>obtain ⟨_,rfl,_⟩:=h1;rfl
         |ez _ _ _=>obtain ⟨_,_,rfl,_⟩:=h1;rfl
         |int _ _|bool _|str _|dH|sl _ _|nil _ _|undef|jd=>rw [show a=_ from h1];rfl
         |gH=>cases e1
         |own _ _|pre _ _ _ _|part _ _ _ _ _|pa _ _ _ _ _|pb _ _ _|bp _ _ _|mp _=>cases hp.1
       cases hu
     have aaQ: ∃u2,qK st.ax (jU st.ax deep) (ji st.env args++b)=afr u2:=by
      have: ∀(l:List SV) {m u:List SV},qK st.ax (jU st.ax deep) (l++m)=afr u-> ∃u2,qK st.ax (jU st.ax deep) m=afr u2:=by
       intro l
       induction l with
       |nil=>intro m u h;exact ⟨u,h⟩
       |cons x l ih=>
        intro m u h;simp only [aeG,qK] at h;split at h
        · rename_i e1 e2;exact ih e2
        cases h
      rw [aaz] at hxx;exact this a hxx
     obtain ⟨u2,hu2⟩:=aaQ;have ajK:=hno (kA.append hb) hp hu2;have qe:=(ha.append kA).append hb;obtain ⟨q,h1,h2⟩:=sZ hS (Dv hS deep) qe hxx;obtain ⟨sr,pr,⟨n,h3⟩,G,h4⟩:=xm (f:=f) (z:=st.fz) hS h1 h2 (y5 hS (EH hS deep) qe hxx) (fun c hc=>Da.ZA f c hc) hg;exact vp hl h hw ⟨n,by rw [fo,h.fz];simp only [v7,hx,ajK,WF,if_false,h3];rfl⟩ G h4
  |_=>cases hg
 |_=>exact loc (k':=fun r=>NX o.dst st tr k (.loc r)) (by rw [fo];exact hg) (by rw [fo];rfl) (fun _=>rfl)
theorem vq (Da:iU F cx) (Iu:Kk F inl): ∀(ops:List bM) {st:ob} {p:St} {tr:List Tr} {k:ob->List Tr->fZ R'} {ρ:Type} {w:R'->ρ} {y:ρ} {Q:R'->St->List Tr->Prop},
 ajI F k Q->ym st p->oc cx inl ops st tr k ρ w=afr y-> ∃r,y=w r/\WO F ops p tr (Q r)
 | [],st,p,tr,k,ρ,w,y,Q,hk,h,he=>by obtain ⟨r,hr,hq⟩:=hk st p tr ρ w y h he;exact ⟨r,hr,WO.nil hq⟩
 |o::l,st,p,tr,k,ρ,w,y,Q,hk,h,he=>by
  have hl: ∀st p tr ρ (w:R'->ρ) y,ym st p->oc cx inl l st tr k ρ w=afr y-> ∃r,y=w r/\WO F l p tr (Q r):=fun st p tr ρ w y h he=>vq Da Iu l hk h he
  have PB: ∀{st:ob} {c:Nat} {v:SV},ym st p->R st.ax v (lk c p.env)->ym {st with env:=zG c v st.env} p:=fun h hv=>⟨h.env.zG hv,h.ax,h.fz,h.kn⟩
  have aaR: ∀{st:ob},ym st p->wanted o.guard p.env=afr aft->(match o.op with
   | .pick (.t c) a b=>match CL c st.env with
    | .bool x=>fR x (NX o.dst {st with env:=zG c (.bool aft) st.env} tr (oc cx inl l · · k) (.loc {v:=bP st.env a}))
     (NX o.dst {st with env:=zG c (.bool afu) st.env} tr (oc cx inl l · · k) (.loc {v:=bP st.env b}))
    |_=>aK
   |op=>GN cx inl st.env st.ax st.fz op (NX o.dst st tr (oc cx inl l · · k))) ρ w=afr y-> ∃r,y=w r/\WO F (o::l) p tr (Q r):=by
   intro st h hw he;have plain:GN cx inl st.env st.ax st.fz o.op (NX o.dst st tr (oc cx inl l · · k)) ρ w=afr y-> ∃r,y=w r/\WO F (o::l) p tr (Q r):=fun he=>Kl Da Iu hl h hw he
   generalize fo:o.op=op at he;cases op with
   |pick c a b=>
    cases c with
    |c v=>exact plain (by rw [fo];exact he)
    |t c=>
     dsimp only at he;generalize hv:CL c st.env=v at he;cases v with
     |bool x=>
      have hx:lk c p.env= .bool x:=by have:=h.env.lk c;rw [hv] at this;exact this
      rcases eV he with ⟨rfl,he⟩|⟨rfl,he⟩
      · have hR:=PB h (c:=c) (v:= .bool aft) hx
        exact vp (o:=o) hl hR hw ⟨0,by rw [fo];simp only [v7,bA,fv.ev,hx];rfl⟩ (Good.val hR.ax (dA h.env a)) he
      have hR:=PB h (c:=c) (v:= .bool afu) hx
      exact vp (o:=o) hl hR hw ⟨0,by rw [fo];simp only [v7,bA,fv.ev,hx];rfl⟩ (Good.val hR.ax (dA h.env b)) he
     |_=>cases he
   |_=>exact plain (by rw [fo];exact he)
  have R7: ∀{st:ob},ym st p->wanted o.guard p.env=afr afu->oc cx inl l {st with env:=Ii o.dst .jd st.env} (Tr.idle::tr) k ρ w=afr y-> ∃r,y=w r/\WO F (o::l) p tr (Q r):=by
   intro st h hw he;have hR:ym {st with env:=Ii o.dst .jd st.env} {p with env:=ik o.dst .jd p.env}:=by
    refine ⟨?_,h.ax,h.fz,h.kn⟩;cases o.dst with
    |none=>exact h.env
    |some t=>exact ⟨.jd,p.env,rfl,rfl,h.env⟩
   obtain ⟨r,hr,U8⟩:=hl _ _ _ _ _ _ hR he;exact ⟨r,hr,WO.skip hw U8⟩
  simp only [oc] at he;cases LA:o.guard with
  |none=>rw [LA] at he;exact aaR h (by rw [LA];rfl) he
  |some g=>
   obtain ⟨c,want⟩:=g;rw [LA] at he;dsimp only at he;generalize hv:CL c st.env=v at he;cases v with
   |bool x=>
    have hx:lk c p.env= .bool x:=by have:=h.env.lk c;rw [hv] at this;exact this
    have hwx: ∀b,x=b->wanted o.guard p.env=afr (b==want):=fun b hb=>by rw [LA];simp only [wanted,hx,hb]
    cases want with
    |true=>
     simp only [lw] at he;rcases eV he with ⟨rfl,he⟩|⟨rfl,he⟩
     · exact aaR (PB h (v:= .bool aft) hx) (hwx aft rfl) he
     exact R7 (PB h (v:= .bool afu) hx) (hwx afu rfl) he
    |false=>
     simp only [pp] at he;rcases eV he with ⟨rfl,he⟩|⟨rfl,he⟩
     · exact R7 (PB h (v:= .bool aft) hx) (hwx aft rfl) he
     exact aaR (PB h (v:= .bool afu) hx) (hwx afu rfl) he
   |jd=>
    have hx:lk c p.env= .jd:=by have:=h.env.lk c;rw [hv] at this;exact this
    exact R7 h (by rw [LA];simp only [wanted,hx]) he
   |_=>cases he
theorem ET {e:SE}: ∀{ft:List Nat} {k:SE->fZ R'} {ρ:Type} {w:R'->ρ} {y:ρ},J6 e ft k ρ w=afr y->k (ft.map fun s=>(s,CL s e)) ρ w=afr y
 | [],k,ρ,w,y,h=>h
 |s::r,k,ρ,w,y,h=>by simp only [J6] at h;rw [Ib] at h;have:=ET h;exact this
theorem R8 {s:List SB} {e:SE} {pe:Env} (h:dF s e pe): ∀(ft:List Nat),dF s (ft.map fun t=>(t,CL t e)) (ft.map fun t=>(t,lk t pe))
 | []=>rfl
 |t::r=>⟨_,_,rfl,h.lk t,R8 h r⟩
end
mutual
theorem G1: ∀(v:SV) (q:List wJ),rN v (BU v++q)=(v,q)
 | .gH,q| .undef,q| .jd,q| .dH,q| .int _ _,q| .bool _,q| .str _,q| .sl _ _,q| .nil _ _,q| .own _ _,q| .pre _ _ _ _,q| .part _ _ _ _ _,q| .pa _ _ _ _ _,q| .pb _ _ _,q| .bp _ _ _,q| .mp _,q=>rfl
 | .agg cs,q=>by simp only [rN,BU,qB]
 | .cy cs,q=>by simp only [rN,BU,qB]
 | .bD cs o,q=>by simp only [rN,BU,qB]
 | .ez f a b,q=>by simp only [rN,BU,aaz,qB]
theorem qB: ∀(v:List SV) (q:List wJ),qj v (BV v++q)=(v,q)
 | [],q=>rfl
 |x::xs,q=>by simp only [qj,BV,aaz,G1,qB]
end
theorem G2: ∀(v:List SB) (q:List wJ),zJ v (Ig v++q)=(v,q)
 | [],q=>rfl
 |x::xs,q=>by
  have: ∀q,Mj x (Ru x++q)=(x,q):=by intro q;cases x<;>first|rfl|simp only [Mj,Ru,qB]
  simp only [zJ,Ig,aaz,this,G2]
theorem G3: ∀(v:SE) (q:List wJ),J4 v (Po v++q)=(v,q)
 | [],q=>rfl
 |(t,x)::xs,q=>by simp only [J4,Po,aaz,G1,G3]
theorem MA (st:ob):uj st (ni st)=st:=by have hs:=G2 st.ax [];rw [aaB] at hs;simp only [uj,ni,G3,hs]
theorem ZK {β:Type 1}: ∀(l:List PT) (c:List PT->β),rK l c=c l
 | [],_=>rfl
 |p::r,c=>by cases p<;>simp only [rK,ptK,ZK r]
theorem MB {β:Type 1}: ∀(l:List AK) (c:List AK->β),UG l c=c l
 | [],_=>rfl
 |a::r,c=>by cases a<;>simp only [UG,ZK,MB r]
theorem ZL {s:List SB} {o:SE}: ∀{e:SE} {pe:Env},dF s e pe->dF s (jnE o e) pe
 | [],_,h=>h
 |(t,v)::r,_,⟨p,q,h1,h2,h3⟩=>⟨p,q,h1,by cases CL t o<;>first|exact h2|trivial,ZL h3⟩
theorem PC {cx:Ctx} {inl:UJ} (Da:iU F cx) (Iu:Kk F inl): ∀(c:iQ) (R':Type) {st:ob} {p:St} {k:gL->ob->fZ R'} {ρ:Type} {w:R'->ρ} {y:ρ} {Q:R'->gL->St->Prop},
 (∀e st p ρ (w:R'->ρ) y,ym st p->k e st ρ w=afr y-> ∃r,y=w r/\Q r e p)->ym st p->xj cx inl c R' st k ρ w=afr y-> ∃r,y=w r/\WP F c p (Q r):=by
 intro c
 induction c with
 |skip=>intro R' st p k ρ w y Q hk h he;obtain ⟨r,hr,hq⟩:=hk _ _ _ _ _ _ h he;exact ⟨r,hr,WP.skip hq⟩
 |ret=>intro R' st p k ρ w y Q hk h he;obtain ⟨r,hr,hq⟩:=hk _ _ _ _ _ _ h he;exact ⟨r,hr,WP.ret hq⟩
 |exit id=>intro R' st p k ρ w y Q hk h he;obtain ⟨r,hr,hq⟩:=hk _ _ _ _ _ _ h he;exact ⟨r,hr,WP.exit hq⟩
 |region d ops ft=>
  intro R' st p k ρ w y Q hk h he;simp only [xj] at he;have fin: ∀st p ρ (w:R'->ρ) y,ym st p->J6 st.env ft (fun e=>k .normal {st with env:=e}) ρ w=afr y-> ∃r,y=w r/\Q r .normal (pg ft p):=by intro st p ρ w y h he;have:=ET he;have hR:ym {st with env:=ft.map fun t=>(t,CL t st.env)} (pg ft p):=⟨R8 h.env ft,h.ax,h.fz,h.kn⟩;exact hk _ _ _ _ _ _ hR this
  cases d with
  |none=>obtain ⟨r,hr,U8⟩:=vq Da Iu ops (Q:=fun r s _=>Q r .normal (pg ft s)) (fun st p tr ρ w y h he=>fin st p ρ w y h he) h he;exact ⟨r,hr,WP.region U8⟩
  |some bf=>
   obtain ⟨r,hr,U8⟩:=vq Da Iu ops (Q:=fun r s t=>qc 0 (t.reverse.zip bf)=aft/\Q r .normal (pg ft s)) (fun st p tr ρ w y h he=>by
    dsimp only at he;cases ho:qc 0 (tr.reverse.zip bf) with
    |false=>rw [ho] at he;cases he
    |true=>rw [ho] at he;obtain ⟨r,hr,hq⟩:=fin st p ρ w y h he;exact ⟨r,hr,ho,hq⟩) h he
   exact ⟨r,hr,WP.T7 U8⟩
 |seq a b Y7 T6=>
  intro R' st p k ρ w y Q hk h he;simp only [xj] at he;cases hj:cx.jn&&jnC a with
  |false=>
   rw [hj] at he;obtain ⟨r,hr,Iv⟩:=Y7 R' (Q:=fun r=>andThen (fun s=>WP F b s (Q r)) (Q r)) (fun e st p ρ w y h he=>by
    cases e with
    |normal=>exact T6 R' hk h he
    |exit i=>exact hk _ _ _ _ _ _ h he
    |ret=>exact hk _ _ _ _ _ _ h he) h he
   exact ⟨r,hr,WP.seq Iv⟩
  |true=>
   rw [hj] at he;dsimp only at he;rw [MB] at he;generalize Rv (ni (Pp st.env (jnK a) st))=ks at he;generalize Pp st.env (jnK a) st=s1 at he;cases hp:kQ ks (ni s1) with
   |none=>rw [hp] at he;cases he
   |some y0=>
    rw [hp] at he;dsimp only at he;obtain ⟨n,EU⟩:=JZ he;clear he;have body: ∀zr,xj cx inl a (Step (Bool×gM ks) ρ) st (fun e uJ=>match e with
     | .normal=>bif zI s1 {uJ with env:=jnE st.env uJ.env} then (match kQ ks (ni {uJ with env:=jnE st.env uJ.env}) with
      |some y'=>CN (.next (afu,y'))
      |none=>aK) else aK
     |e=>fun wK w'=>k e uJ wK fun r=>w' (.done (w r))) (Step (Bool×gM ks) ρ) (fun z=>z)=afr zr->
     WP F a p (fun e s=>match zr with
      | .next y'=>e= .normal/\y'.1=afu/\ym (uj s1 (kC ks y'.2)) s
      | .done x=>e≠ .normal/\ ∃r,x=w r/\Q r e s):=by
     intro zr kM;obtain ⟨zr',Lu,Iv⟩:=Y7 (Step (Bool×gM ks) ρ) (Q:=fun zr e s=>match zr with
      | .next y'=>e= .normal/\y'.1=afu/\ym (uj s1 (kC ks y'.2)) s
      | .done x=>e≠ .normal/\ ∃r,x=w r/\Q r e s) (fun e uJ p2 wK w' y2 h2 wb=>by
      cases e with
      |normal=>
       dsimp only at wb;obtain ⟨sW,wb⟩:=cI wb;cases U9:kQ ks (ni {uJ with env:=jnE st.env uJ.env}) with
       |none=>rw [U9] at wb;cases wb
       |some y3=>rw [U9] at wb;injection wb with wb;refine ⟨.next (afu,y3),wb.symm,rfl,rfl,?_⟩;dsimp only;rw [og U9,GW sW];exact ⟨ZL h2.env,h2.ax,h2.fz,h2.kn⟩
      |exit i=>obtain ⟨r,hr,hq⟩:=hk _ _ _ _ _ _ h2 wb;exact ⟨.done (w r),hr,(by intro e;cases e),r,rfl,hq⟩
      |ret=>obtain ⟨r,hr,hq⟩:=hk _ _ _ _ _ _ h2 wb;exact ⟨.done (w r),hr,(by intro e;cases e),r,rfl,hq⟩) h kM
     subst Lu;exact Iv
    cases n with
    |zero=>cases EU
    |succ n=>
     simp only [nb,fR] at EU;split at EU
     · rename_i y' kM
       obtain ⟨m,e,s,bT,rfl,hy,hR3⟩:=body _ kM;obtain ⟨y1,y2⟩:=y';dsimp only at hy hR3;subst hy;cases n with
       |zero=>cases EU
       |succ n=>
        simp only [nb] at EU;split at EU
        · rename_i y' Q3
          obtain ⟨r,hr,_⟩:=T6 R' hk hR3 Q3;cases hr
        · rename_i x Q3
          obtain ⟨r,hr,Iv⟩:=T6 R' hk hR3 Q3;injection EU with EU;injection hr with hr;exact ⟨r,by rw [<- EU];exact hr,WP.seq ⟨m,.normal,s,bT,Iv⟩⟩
        cases EU
     · rename_i x kM
       injection EU with EU;obtain ⟨m,e,s,bT,dK,r,hr,hq⟩:=body _ kM;refine ⟨r,by rw [<- EU];exact hr,WP.seq ⟨m,e,s,bT,?_⟩⟩;cases e with
       |normal=>exact absurd rfl dK
       |exit i=>exact hq
       |ret=>exact hq
     cases EU
 |cond c a b Y7 T6=>
  intro R' st p k ρ w y Q hk h he;simp only [xj] at he;have hx:=dA h.env c;generalize bP st.env c=v at he hx;cases v with
  |bool x=>
   rcases eV he with ⟨rfl,he⟩|⟨rfl,he⟩
   · obtain ⟨r,hr,Iv⟩:=Y7 R' hk h he
     exact ⟨r,hr,WP.Y8 hx Iv⟩
   obtain ⟨r,hr,Iv⟩:=T6 R' hk h he
   exact ⟨r,hr,WP.Y9 hx Iv⟩
  |_=>cases he
 |block id b ih=>
  intro R' st p k ρ w y Q hk h he;simp only [xj] at he;obtain ⟨r,hr,Iv⟩:=ih R' (Q:=fun r=>inBlock id (Q r)) (fun e st p ρ w y h he=>by
   cases e with
   |normal=>exact hk _ _ _ _ _ _ h he
   |ret=>exact hk _ _ _ _ _ _ h he
   |exit j=>
    dsimp only at he;cases hj:UV j id with
    |true=>rw [hj] at he;obtain ⟨r,hr,hq⟩:=hk _ _ _ _ _ _ h he;have Um:=v6 hj;exact ⟨r,hr,by simpa [inBlock,Um] using hq⟩
    |false=>
     rw [hj] at he;obtain ⟨r,hr,hq⟩:=hk _ _ _ _ _ _ h he;have:j≠id:=by intro e;subst e;simp at hj
     exact ⟨r,hr,by simpa [inBlock,this] using hq⟩) h he
  exact ⟨r,hr,WP.block Iv⟩
 |loop live b ih=>
  intro R' st p k ρ w y Q hk h he;simp only [xj] at he;cases hn:Et cx.rk live st with
  |none=>rw [hn] at he;cases he
  |some mW=>
   rw [hn] at he;dsimp only at he;rw [MB] at he;generalize Rv (ni mW)=ks at he;cases hp:kQ ks (ni mW) with
   |none=>rw [hp] at he;cases he
   |some y0=>
    rw [hp] at he;dsimp only at he;obtain ⟨p1,Za,hR1⟩:=N8 h hn;have agf: ∀(Mm:ob) (y':gM ks),zI mW Mm=aft->kQ ks (ni Mm)=afr y'->uj mW (kC ks y')=Mm:=fun Mm y' h1 h2=>by rw [og h2,GW h1]
    obtain ⟨n,EU⟩:=JZ he;have h0:ym (uj mW (kC ks y0)) p1:=by rw [og hp,MA];exact hR1
    clear he hp hn h hR1
    induction n generalizing y0 p p1 with
    |zero=>cases EU
    |succ n ihn=>
     have body: ∀zr,xj cx inl b (Step (gM ks) ρ) (uj mW (kC ks y0)) (fun e uJ=>match e with
      | .normal=>match Et cx.rk live uJ with
       |some Mm=>bif zI mW Mm then (match kQ ks (ni Mm) with
        |some y'=>CN (.next y')
        |none=>aK) else aK
       |none=>aK
      |e=>fun wK w'=>k e uJ wK fun r=>w' (.done (w r))) (Step (gM ks) ρ) (fun z=>z)=afr zr->
      WP F b p1 (fun e s=>match zr with
       | .next y'=>e= .normal/\ ∃p3,norm live s=afr p3/\ym (uj mW (kC ks y')) p3
       | .done x=>e≠ .normal/\ ∃r,x=w r/\Q r e s):=by
      intro zr kM;obtain ⟨zr',Lu,Iv⟩:=ih (Step (gM ks) ρ) (Q:=fun zr e s=>match zr with
       | .next y'=>e= .normal/\ ∃p3,norm live s=afr p3/\ym (uj mW (kC ks y')) p3
       | .done x=>e≠ .normal/\ ∃r,x=w r/\Q r e s) (fun e uJ p2 wK w' y2 h2 wb=>by
       cases e with
       |normal=>
        dsimp only at wb;cases hn3:Et cx.rk live uJ with
        |none=>rw [hn3] at wb;cases wb
        |some Mm=>
         rw [hn3] at wb;obtain ⟨sW,wb⟩:=cI wb;cases U9:kQ ks (ni Mm) with
         |none=>rw [U9] at wb;cases wb
         |some y3=>rw [U9] at wb;injection wb with wb;obtain ⟨p3,ajM,hR3⟩:=N8 h2 hn3;exact ⟨.next y3,wb.symm,rfl,p3,ajM,by rw [agf Mm y3 sW U9];exact hR3⟩
       |exit i=>obtain ⟨r,hr,hq⟩:=hk _ _ _ _ _ _ h2 wb;exact ⟨.done (w r),hr,(by intro e;cases e),r,rfl,hq⟩
       |ret=>obtain ⟨r,hr,hq⟩:=hk _ _ _ _ _ _ h2 wb;exact ⟨.done (w r),hr,(by intro e;cases e),r,rfl,hq⟩) h0 kM
      subst Lu;exact Iv
     simp only [nb] at EU;split at EU
     · rename_i y' kM
       obtain ⟨m,e,s,bT,rfl,p3,U9,hR3⟩:=body _ kM;obtain ⟨r,hr,Iv⟩:=ihn y' p3 U9 EU hR3;exact ⟨r,hr,WP.again Za ⟨m,.normal,s,bT,Iv⟩⟩
     · rename_i x kM
       injection EU with EU;obtain ⟨m,e,s,bT,dK,r,hr,hq⟩:=body _ kM;refine ⟨r,by rw [<- EU];exact hr,WP.again Za ⟨m,e,s,bT,?_⟩⟩;cases e with
       |normal=>exact absurd rfl dK
       |exit i=>exact hq
       |ret=>exact hq
     cases EU
end
end Go.Vm
/- Contracts from the typed machine. -/
namespace Go.Vm
section
variable {F : lM} {cx : Ctx} {inl : UJ}
theorem Km {s:List SB}: ∀{l:List SV} {q:List PV} (i:Nat),RL s l q->dF s (Mo i l) (tN i q)
 | [],q,i,h=>by rw [show q=[] from h];rfl
 |x::xs,q,i,h=>by obtain ⟨a,as,rfl,h1,h2⟩:=h.cons_inv;exact ⟨a,tN (i+1) as,rfl,h1,Km (i+1) h2⟩
theorem R9 {st:ob} {p:St} (h:ym st p) {r:RV} {v:SV} (hr:Mn st r=afr v): ∃q,DN p r=afr q/\R st.ax v q:=by
 cases r with
 |tmp t=>injection hr with hr;subst hr;exact ⟨_,rfl,h.env.lk t⟩
 |cell t agg=>
  simp only [Mn] at hr;have sW:=h.env.lk t;split at hr
  · rename_i u n off hv
    rw [hv] at sW;rw [cd] at hr;split at hr
    · rename_i cs bW
      obtain ⟨q,h1,h2⟩:=h.ax.box bW;obtain ⟨x,h3,h4⟩:=sj h2 hr;refine ⟨x,?_,h4⟩;simp only [DN,show lk t p.env=_ from sW,nS,h1,ac0,if_true,h3];rfl
    cases hr
  · rename_i cs off hv
    rw [hv] at sW;obtain ⟨q,h1,h2⟩:=sW;obtain ⟨x,h3,h4⟩:=sj h2 hr;refine ⟨x,?_,h4⟩;simp only [DN,h1,nS,h3];rfl
  cases hr
theorem G4 {st:ob} {p:St} (h:ym st p): ∀{l:List RV} {vs:List SV},yl st l=afr vs-> ∃q,mV p l=afr q/\RL st.ax vs q
 | [],vs,hr=>by injection hr with hr;subst hr;exact ⟨[],rfl,rfl⟩
 |r::l,vs,hr=>by
  simp only [yl] at hr;split at hr
  · rename_i v Lt h1 h2
    injection hr with hr;subst hr;obtain ⟨q,h3,h4⟩:=R9 h h1;obtain ⟨qs,h5,h6⟩:=G4 h h2;exact ⟨q::qs,by simp only [mV,h3,h5],RL.cons h4 h6⟩
  cases hr
theorem Kn {s:List SB} {vs:List SV} {q:List PV} (h:RL s vs q):R s (BW vs) (results1 q):=by
 match vs,q,h with
 | [],q,h=>rw [show q=[] from h];exact ⟨[],rfl,rfl⟩
 | [v],q,h=>obtain ⟨a,as,rfl,h1,h2⟩:=h.cons_inv;rw [show as=[] from h2];exact h1
 |v::u::r,q,h=>have qe:=h;obtain ⟨a,as,rfl,h1,h2⟩:=h.cons_inv;obtain ⟨b,bs,rfl,h3,h4⟩:=h2.cons_inv;exact ⟨_,rfl,qe⟩
theorem xn (Da:iU F cx) (Iu:Kk F inl) {f:FuncId} {x:aN} (hf:F f=afr (.code x)) {R':Type} {args:List SV} {s:List SB} {z:List Nat} {k:SV->List SB->List Nat->fZ R'} {ρ:Type} {w:R'->ρ} {y:ρ} {pa:List PV} {ps:cw}
 {Q:R'->PV->cw->List Nat->Prop} (ha:RL s args pa) (hS:cA s ps) (he:J7 cx inl x R' args s z k ρ w=afr y)
 (hk: ∀v s' z' p wL wK (w':R'->wK) y',R s' v p->cA s' wL->k v s' z' wK w'=afr y'-> ∃r,y'=w' r/\Q r p wL z'): ∃r,y=w r/\zp F f pa ps z (fun p wL z'=>Q r p wL z'):=by
 unfold J7 at he;obtain ⟨hn,he⟩:=cI he;have fin: ∀st p wK (w':R'->wK) y',ym st p->(match yl st x.res with
  |some vs=>k (BW vs) st.ax st.fz
  |none=>aK) wK w'=afr y'-> ∃r,y'=w' r/\ ∃vs,mV p x.res=afr vs/\Q r (results1 vs) p.ax p.fz:=by
  intro st p wK w' y' h he;cases hr:yl st x.res with
  |none=>rw [hr] at he;cases he
  |some vs=>rw [hr] at he;obtain ⟨q,h1,h2⟩:=G4 h hr;obtain ⟨r,h3,h4⟩:=hk _ _ _ _ _ _ _ _ (Kn h2) h.ax he;exact ⟨r,h3,q,h1,by rw [h.fz];exact h4⟩
 obtain ⟨r,hr,Iv⟩:=PC Da Iu x.code R' (Q:=fun r=>HG x fun p wL z'=>Q r p wL z') (p:={env:=tN 0 pa,ax:=ps,fz:=z,kn:=afk ps}) (fun e st p wK w' y' h he=>by
  cases e with
  |normal=>exact fin st p wK w' y' h he
  |ret=>exact fin st p wK w' y' h he
  |exit i=>cases he) ⟨Km 0 ha,hS,rfl,hS.len⟩ he
 exact ⟨r,hr,zp.of hf (by rw [ha.mj];exact hn) Iv⟩
theorem Iw {α:Type} {l m r:List α} {i:Int} (h:sf l i m=afr r):0<=i/\i.toNat<=afk l/\afk m=1/\afk l+1<=1048576/\r=l.take i.toNat++m++l.drop i.toNat:=by
 unfold sf at h;split at h
 · rename_i hc
   injection h with h;exact ⟨hc.1,hc.2.1,hc.2.2.1,hc.2.2.2,h.symm⟩
 cases h
theorem PD {e:Nat} {args:List SV} {s:List SB} {z:List Nat} {a:afZ} (h:UK e args s z=afr a):
 ∃x u x2 m,args=[.own a.t x,.int .i64 a.i,.own u x2]/\nth s a.t=afr (.arr a.r a.l)/\nth s u=afr (.arr a.r m)/\a.m=m/\afk a.r=e/\UV a.t u=afu/\has z a.t=afu:=by
 unfold UK at h;split at h
 case h_2=>cases h
 split at h
 case h_2=>cases h
 split at h
 case h_2=>cases h
 split at h
 case h_2=>cases h
 rename_i m' hm;cases hc:(UV _ e&&_&&_) with
 |false=>rw [hc] at h;cases h
 |true=>rw [hc] at h;injection h with h;subst h;simp only [ww,aeB,aav] at hc;obtain ⟨rfl,rfl⟩:=od hm;exact ⟨_,_,_,_,rfl,by assumption,by assumption,rfl,hc.1.1,hc.1.2,hc.2⟩
theorem MC {e:Nat} {f:FuncId} (hf:F f=afr (.FW (HF e))) {R':Type} {args:List SV} {s:List SB} {z:List Nat} {k:SV->List SB->List Nat->fZ R'} {ρ:Type} {w:R'->ρ} {y:ρ} {pa:List PV} {ps:cw}
 {Q:R'->PV->cw->List Nat->Prop} (ha:RL s args pa) (hS:cA s ps) (he:aaD e args s z k ρ w=afr y)
 (hk: ∀v s' z' p wL wK (w':R'->wK) y',R s' v p->cA s' wL->k v s' z' wK w'=afr y'-> ∃r,y'=w' r/\Q r p wL z'): ∃r,y=w r/\zp F f pa ps z (fun p wL z'=>Q r p wL z'):=by
 unfold aaD at he;cases hA:UK e args s z with
 |none=>rw [hA] at he;cases he
 |some a=>
 rw [hA] at he;dsimp only at he;obtain ⟨l',hl,he⟩:=cH he;obtain ⟨x,u,x2,m0,rfl,ht,hu,hm,Qo,htu,hz⟩:=PD hA;obtain ⟨t,q,l,i,m⟩:=a;dsimp only at*;subst hm Qo;obtain ⟨i0,il,m1,kI,rfl⟩:=Iw hl;obtain ⟨p0,pr0,rfl,h0,ha⟩:=ha;obtain ⟨p1,pr1,rfl,h1,ha⟩:=ha;obtain ⟨p2,pr2,rfl,h2,ha⟩:=ha;obtain rfl:pr2=[]:=ha;obtain rfl:p1= .int .i64 i:=h1;have NJ:s[t]? =afr (.arr q l):=by rw [<- cd];exact ht
 have Bs:s[u]? =afr (.arr q m):=by rw [<- cd];exact hu
 obtain ⟨e0,n0,rfl,o0⟩:=h0;obtain ⟨e2,n2,rfl,o2⟩:=h2;obtain ⟨rfl,rfl⟩:e0=afk q/\n0=(afk l):=by
  rcases o0 with ⟨r1,l1,a,b,c⟩|a
  · rw [NJ] at a;injection a with a;injection a with a1 a2;subst a1;subst a2;exact ⟨b,c⟩
  rw [NJ] at a;cases a
 obtain ⟨rfl,rfl⟩:e2=afk q/\n2=(afk m):=by
  rcases o2 with ⟨r1,l1,a,b,c⟩|a
  · rw [Bs] at a;injection a with a;injection a with a1 a2;subst a1;subst a2;exact ⟨b,c⟩
  rw [Bs] at a;cases a
 obtain ⟨b1,JA,Ix⟩:=hS.at_ t _ NJ;obtain ⟨b2,Q3,aaT⟩:=hS.at_ u _ Bs;have Ix:b1= .arr (afk q) (l.map (RT.pv q)):=Ix;have aaT:b2= .arr (afk q) (m.map (RT.pv q)):=aaT;subst Ix aaT;have cO:(Bt [t] (s.set t .dead)).length=(afk s):=by rw [u7];simp
 obtain ⟨L,hL⟩: ∃L,L=l.take i.toNat++m++l.drop i.toNat:=⟨_,rfl⟩;rw [<- hL] at he;have G:=Good.put hS (b:= .dead) (q:= .dead) (l:=[.arr q L]) (ql:=[.arr (afk q) (L.map (RT.pv q))]) (v:= .own (afk s) afu)
  (p:= .own (afk s) (afk q) 0 (afk L) (afk L) afu) (rd:=[]) NJ (.inr rfl) rfl rfl
  (fun j b hj=>by
   cases j with
   |zero=>simp at hj;subst hj;exact ⟨_,rfl,rfl⟩
   |succ j=>simp at hj)
  ⟨afk q,afk L,rfl,.inl ⟨q,L,by rw [<- cO];exact lP,rfl,rfl⟩⟩
 have zw:(afk L)=afk l+1:=by rw [hL];simp only [aeC,acl,afb,m1];omega
 obtain ⟨rr,hr,hq⟩:=hk _ _ _ _ _ _ _ _ G.v G.ax he;refine ⟨rr,hr,1,_,_,_,?_,hq⟩;rw [kH];have gX:PP (afk l+1) eA=aft:=by simp [eA];omega
 have hbl:PP i.toNat (afk l)=aft:=by simpa using il
 have hLm:L.map (RT.pv q)=(l.map (RT.pv q)).take i.toNat++m.map (RT.pv q)++(l.map (RT.pv q)).drop i.toNat:=by rw [hL,ae7,ae7,acZ,aeq]
 simp [step,hf,HF,JA,Q3,m1,htu,hz,i0,gX,il,zw,hS.len,fU,Jk,hLm]
theorem PE {α:Type} {l m r:List α} (h:Pm l m=afr r):1<=afk l+afk m/\afk l+afk m<=1048576/\r=l++m:=by
 unfold Pm at h;split at h
 · rename_i hc
   injection h with h;exact ⟨hc.1,hc.2,h.symm⟩
 cases h
theorem PF {args:List SV} {s:List SB} {z:List Nat} {a:af0} (h:UL args s z=afr a):
 ∃cap x m,args=[.part a.t 0 2 cap x]/\nth s a.t=afr (.box [.sl a.r a.l,.sl a.r m])/\a.m=m/\afk a.r=1/\has z a.t=afu:=by
 unfold UL at h;split at h
 case h_2=>cases h
 split at h
 case h_2=>cases h
 split at h
 case h_2=>cases h
 rename_i m' hm;cases hc:(UV _ 1&&UV _ 0&&UV _ 2&&_) with
 |false=>rw [hc] at h;cases h
 |true=>rw [hc] at h;injection h with h;subst h;simp only [ww,aeB,aav] at hc;obtain ⟨rfl,rfl⟩:=od hm;obtain ⟨⟨⟨h1,rfl⟩,rfl⟩,h2⟩:=hc;exact ⟨_,_,_,rfl,by assumption,rfl,h1,h2⟩
theorem G5 {r:List PT} (h:(afk r)=1) (l:List (RT r)):uO (l.map (RT.pv r))=aft:=by
 unfold uO;rw [ad8];intro x hx;obtain ⟨a,_,rfl⟩:=aeZ.1 hx
 match r,h with
 | [p],_=>show (UV [p.pv a].length 1&&[p.pv a].all PV.plain)=aft;cases p<;>rfl
theorem MD {f:FuncId} (hf:F f=afr (.FW HD)) {R':Type} {args:List SV} {s:List SB} {z:List Nat} {k:SV->List SB->List Nat->fZ R'} {ρ:Type} {w:R'->ρ} {y:ρ} {pa:List PV} {ps:cw}
 {Q:R'->PV->cw->List Nat->Prop} (ha:RL s args pa) (hS:cA s ps) (he:aaE args s z k ρ w=afr y)
 (hk: ∀v s' z' p wL wK (w':R'->wK) y',R s' v p->cA s' wL->k v s' z' wK w'=afr y'-> ∃r,y'=w' r/\Q r p wL z'): ∃r,y=w r/\zp F f pa ps z (fun p wL z'=>Q r p wL z'):=by
 unfold aaE at he;cases hA:UL args s z with
 |none=>rw [hA] at he;cases he
 |some a=>
 rw [hA] at he;dsimp only at he;obtain ⟨l',hl,he⟩:=cH he;obtain ⟨cap,x,m0,rfl,ht,hm,Qo,hz⟩:=PF hA;obtain ⟨t,q,l,m⟩:=a;dsimp only at*;subst hm;obtain ⟨hp,kI,rfl⟩:=PE hl;obtain ⟨p0,pr0,rfl,h0,ha⟩:=ha;obtain rfl:pr0=[]:=ha;have NJ:s[t]? =afr (.box [.sl q l,.sl q m]):=by rw [<- cd];exact ht
 obtain ⟨e0,rfl,o0⟩:=h0;obtain rfl:e0=1:=by
  rcases o0 with ⟨r1,l1,a,b⟩|a|⟨_,a,b⟩
  · rw [NJ] at a;cases a
  · rw [NJ] at a;cases a
  exact b
 obtain ⟨b1,JA,Ix⟩:=hS.at_ t _ NJ;obtain ⟨ps1,rfl,p1,q1,rfl,Za,p2,q2,rfl,hp2,rfl⟩:=Ix;have Za:p1= .sl (afk q) afu (l.map (RT.pv q)):=Za;have hp2:p2= .sl (afk q) afu (m.map (RT.pv q)):=hp2;subst Za hp2;have cO:(Bt [t] (s.set t .dead)).length=(afk s):=by rw [u7];simp
 obtain ⟨L,hL⟩: ∃L,L=l++m:=⟨_,rfl⟩;rw [<- hL] at he;have G:=Good.put hS (b:= .dead) (q:= .dead) (l:=[.arr q L]) (ql:=[.arr (afk q) (L.map (RT.pv q))]) (v:= .own (afk s) afu)
  (p:= .own (afk s) (afk q) 0 (afk L) (afk L) afu) (rd:=[]) NJ (.inr rfl) rfl rfl
  (fun j b hj=>by
   cases j with
   |zero=>simp at hj;subst hj;exact ⟨_,rfl,rfl⟩
   |succ j=>simp at hj)
  ⟨afk q,afk L,rfl,.inl ⟨q,L,by rw [<- cO];exact lP,rfl,rfl⟩⟩
 have zw:(afk L)=afk l+(afk m):=by rw [hL];simp
 obtain ⟨rr,hr,hq⟩:=hk _ _ _ _ _ _ _ _ G.v G.ax he;refine ⟨rr,hr,1,_,_,_,?_,hq⟩;rw [kH];have gX:PP (afk l+afk m) eA=aft:=by simp [eA];omega
 have F4:PP 1 (afk l+afk m)=aft:=by simpa using hp
 have hLm:L.map (RT.pv q)=l.map (RT.pv q)++m.map (RT.pv q):=by rw [hL,ae7]
 have hc:(UV 1 1&&UV 0 0&&UV 2 2&&!has z t&&uO (l.map (RT.pv q))&&uO (m.map (RT.pv q))&&PP 1 ((l.map (RT.pv q)).length+(m.map (RT.pv q)).length)&&PP ((l.map (RT.pv q)).length+(m.map (RT.pv q)).length) eA&&(UV (afk q) 1||(l.map (RT.pv q)).isEmpty)&&(UV (afk q) 1||(m.map (RT.pv q)).isEmpty))=aft:=by rw [G5 Qo,G5 Qo,hz,aaC,aaC,F4,gX,Qo];rfl
 simp only [step,hf];unfold HD
 dsimp only;rw [JA];dsimp only;rw [hc];simp [hS.len,fU,Jk,hLm,zw,Qo]
theorem Ko: ∀(p:PT) (a:p.T),AQ p (p.pv a)=afr a
 | .i k,a=>by have:fk k k=aft:=eU.2 rfl;simp [AQ,PT.pv,this]
 | .b,a=>rfl
theorem Oe: ∀(r:List PT) (a:RT r),Gd r (RT.pv r a)=afr a
 | [],a=>rfl
 | [p],a=>Ko p a
 |p::q::r,a=>by
  show (match AQ p (p.pv a.1),Gd (q::r) (RT.pv (q::r) a.2) with
   |some a,afr b=>afr (a,b)
   |_,_=>afs)=_
  rw [Ko,Oe (q::r)]
theorem Kp (r:List PT): ∀l:List (RT r),CO r (l.map (RT.pv r))=afr l
 | []=>rfl
 |a::l=>by
  show (match Gd r (RT.pv r a),CO r (l.map (RT.pv r)) with
   |some a,afr l=>afr (a::l)
   |_,_=>afs)=_
  rw [Oe,Kp r l]
theorem U' {s:List SB} {g:Option FuncId} {a:List SV} {p:List PV} (h:CQ g a=aft) (hr:RL s a p):UH g p=aft:=by
 unfold CQ at h;split at h
 · obtain rfl:p=[]:=hr
   rfl
 · obtain ⟨p0,pr,rfl,h0,hr⟩:=hr
   obtain rfl:pr=[]:=hr;obtain ⟨x,y,rfl,hx,hy⟩:=h0;obtain rfl:x=[]:=hx;obtain rfl:y=[]:=hy;exact h
 cases h
theorem PG {r:List PT} {g:Option FuncId} {args:List SV} {s:List SB} {z:List Nat} {t:Nat} {o:Option Nat} {l:List (RT r)} (h:UM r g args s z=afr (t,o,l)):
 ∃x a,args=x::a/\nth s t=afr (.arr r l)/\has z t=afu/\CQ g a=aft/\((o=afs/\ ∃ex,x= .own t ex)\/ ∃len cap ex,o=afr len/\x= .pre t len cap ex):=by
 unfold UM at h;split at h
 · split at h
   · split at h
     · rename_i hm
       cases hc:(!has z _&&CQ g _) with
       |false=>rw [hc] at h;cases h
       |true=>rw [hc] at h;simp only [lw,If,aau] at h;obtain ⟨rfl,rfl,rfl⟩:=h;simp only [ww,aav] at hc;obtain ⟨rfl,rfl⟩:=od hm;exact ⟨_,_,rfl,by assumption,hc.1,hc.2,.inl ⟨rfl,_,rfl⟩⟩
     cases h
   cases h
 · split at h
   · split at h
     · rename_i hm
       cases hc:(!has z _&&CQ g _) with
       |false=>rw [hc] at h;cases h
       |true=>rw [hc] at h;simp only [lw,If,aau] at h;obtain ⟨rfl,rfl,rfl⟩:=h;simp only [ww,aav] at hc;obtain ⟨rfl,rfl⟩:=od hm;exact ⟨_,_,rfl,by assumption,hc.1,hc.2,.inr ⟨_,_,_,rfl,rfl⟩⟩
     cases h
   cases h
 cases h
theorem ME {α:Type} {f:List α->Option (List α)} {l m:List α} (h:CK f l=afr m):(afk l)<=1048576/\f l=afr m/\afk m=(afk l):=by
 unfold CK at h;split at h
 · rename_i hl
   split at h
   · rename_i m' hm
     split at h
     · rename_i he
       injection h with h;subst h;exact ⟨hl,hm,he⟩
     cases h
   cases h
 cases h
theorem Iy {α:Type} {f:List α->Option (List α)} {n:Nat} {l m:List α} (h:yj f n l=afr m):n<=afk l/\ ∃m',CK f (l.take n)=afr m'/\m=m'++l.drop n:=by
 unfold yj at h;split at h
 · rename_i hn
   cases hm:CK f (l.take n) with
   |none=>rw [hm] at h;cases h
   |some m'=>rw [hm] at h;injection h with h;exact ⟨hn,m',rfl,h.symm⟩
 cases h
theorem MF {q:Srt} {f:FuncId} (hf:F f=afr (.FW (Ih q))) {R':Type} {args:List SV} {s:List SB} {z:List Nat} {k:SV->List SB->List Nat->fZ R'} {ρ:Type} {w:R'->ρ} {y:ρ} {pa:List PV} {ps:cw}
 {Q:R'->PV->cw->List Nat->Prop} (ha:RL s args pa) (hS:cA s ps) (he:aaF q args s z k ρ w=afr y)
 (hk: ∀v s' z' p wL wK (w':R'->wK) y',R s' v p->cA s' wL->k v s' z' wK w'=afr y'-> ∃r,y'=w' r/\Q r p wL z'): ∃r,y=w r/\zp F f pa ps z (fun p wL z'=>Q r p wL z'):=by
 have key: ∀(t len:Nat) (l m':List (RT q.r)) (ex:Bool) (cap:Nat) (pr:List PV) (a:List SV),s[t]? =afr (.arr q.r l)->has z t=afu->CQ q.g a=aft->RL s a pr->pa= .own t (afk q.r) 0 len cap ex::pr->len<=afk l->CK q.fn (l.take len)=afr m'->
  k (.cy []) (fM.mH s {v:= .cy [],wr:=[(t,.arr q.r (m'++l.drop len))]}) z ρ w=afr y-> ∃r,y=w r/\zp F f pa ps z (fun p wL z'=>Q r p wL z'):=by
  intro t len l m' ex cap pr a ht hz hg har QT cO C8 he;subst QT;obtain ⟨s1,s2,s3⟩:=ME C8;obtain ⟨b1,JA,Ix⟩:=hS.at_ t _ ht;have Ix:b1= .arr (afk q.r) (l.map (RT.pv q.r)):=Ix;subst Ix;have zw:(l.take len).length=len:=by rw [acl];omega
  have Ja:(m'++l.drop len).length=(afk l):=by rw [aeC,afb,s3,zw];omega
  have G:=Good.put hS (b:= .arr q.r (m'++l.drop len)) (q:= .arr (afk q.r) ((m'++l.drop len).map (RT.pv q.r))) (l:=[]) (ql:=[]) (v:= .cy []) (p:= .cy []) (rd:=[]) ht (.inl ⟨_,rfl,Ja⟩) rfl rfl
   (fun j b hj=>by simp at hj) ⟨[],rfl,rfl⟩
  obtain ⟨rr,hr,hq⟩:=hk _ _ _ _ _ _ _ _ G.v G.ax he;refine ⟨rr,hr,1,_,_,_,?_,hq⟩;rw [kH];have hg':=U' hg har;have hrt:CO q.r ((l.map (RT.pv q.r)).take len)=afr (l.take len):=by rw [<- acZ];exact Kp q.r _
  have hbl:PP len (afk l)=aft:=by simpa using cO
  have hmo:PP len eA=aft:=by simp [eA];omega
  have hbe:UV (afk m') (l.take len).length=aft:=by rw [s3];exact ac0 _
  simp only [step,hf,Ih,JA,aaC,ac0,hbl,hmo,hz,hg',hrt,s2,hbe,aeb,aew,if_true,Option.map_some,fU,Jk,ae7,aeq]
 unfold aaF at he;cases hA:UM q.r q.g args s z with
 |none=>rw [hA] at he;cases he
 |some u=>
  obtain ⟨t,o,l⟩:=u;rw [hA] at he;obtain ⟨x,a,rfl,ht,hz,hg,h⟩:=PG hA;obtain ⟨p0,pr,rfl,h0,ha⟩:=ha;rw [cd] at ht;rcases h with ⟨rfl,ex,rfl⟩|⟨len,cap,ex,rfl,rfl⟩
  · obtain ⟨m,hm,he⟩:=cH he
    obtain ⟨e0,n0,rfl,o0⟩:=h0;obtain ⟨rfl,rfl⟩:e0=afk q.r/\n0=(afk l):=by
     rcases o0 with ⟨r1,l1,a,b,c⟩|a
     · rw [ht] at a;injection a with a;injection a with a1 a2;subst a1;cases a2;exact ⟨b,c⟩
     rw [ht] at a;cases a
    refine key t (afk l) l m ex (afk l) pr a ht hz hg ha rfl (aeJ _) (by rw [List.take_length];exact hm) ?_;rw [List.drop_length,aaB];exact he
  obtain ⟨m,hm,he⟩:=cH he
  obtain ⟨e0,rfl,o0⟩:=h0;obtain rfl:e0=(afk q.r):=by
   rcases o0 with ⟨r1,l1,a,b⟩|a|⟨_,a,_⟩
   · rw [ht] at a;injection a with a;injection a with a1 a2;subst a1;exact b
   · rw [ht] at a;cases a
   rw [ht] at a;cases a
  obtain ⟨hn,m',C8,rfl⟩:=Iy hm;exact key t len l m' ex cap pr a ht hz hg ha rfl hn C8 he
theorem Iz (Da:iU F cx): ∀n,Kk F (RA cx n)
 |0=>fun f args s z R' k ρ w y pa ps Q _ _ h _=>by cases h
 |n+1=>fun f args s z R' k ρ w y pa ps Q ha hS h hk=>by
  simp only [RA] at h;cases hx:cx.code f with
  |none=>rw [hx] at h;cases h
  |some x=>
   rw [hx] at h;cases x with
   |code x=>exact xn Da (Iz Da n) (Da.code f _ hx) ha hS h hk
   |ins e=>exact MC (Da.code f _ hx) ha hS h hk
   |srt q=>exact MF (Da.code f _ hx) ha hS h hk
   |cat=>exact MD (Da.code f _ hx) ha hS h hk
def Va:Kd->Bool->Bool
 | .own,b=>b
 |_,b=>!b
def Sa (kd:Kd) {β:Type} (res:Arg β) (b:β) (p:PV) (ps:cw) (z:List Nat):Prop:=
 match kd with
 | .pure=>p.jP=aft/\qL (res.enc b)=afr p
 | .tJ=>p.jP=afu/\ ∃q,x5 ps p=afr q/\qL (res.enc b)=afr q
 | .own=> ∀nx,∃p0 p' q seen,yO ps z nx [] p=afr (p',q,seen)/\qL (res.enc b)=afr p0/\EL nx p0=afr (p',q)
mutual
theorem Kq {s:List SB}: ∀{v:SV} {p:PV},R s v p->zH v=aft->qL v=afr p
 | .int _ _,p,h,_| .bool _,p,h,_| .str _,p,h,_=>by rw [show p=_ from h];rfl
 | .agg cs,p,h,hn=>by obtain ⟨q,rfl,h⟩:=h;simp only [qL,EV h hn]
 | .cy cs,p,h,hn=>by obtain ⟨q,rfl,h⟩:=h;simp only [qL,EV h hn]
 | .gH,_,_,h| .undef,_,_,h| .jd,_,_,h| .dH,_,_,h| .sl _ _,_,_,h| .nil _ _,_,_,h| .own _ _,_,_,h| .pre _ _ _ _,_,_,h| .part _ _ _ _ _,_,_,h| .pa _ _ _ _ _,_,_,h| .pb _ _ _,_,_,h| .bp _ _ _,_,_,h| .bD _ _,_,_,h| .ez _ _ _,_,_,h| .mp _,_,_,h=>by cases h
theorem EV {s:List SB}: ∀{v:List SV} {p:List PV},RL s v p->qi v=aft->qM v=afr p
 | [],p,h,_=>by rw [show p=_ from h];rfl
 |x::xs,p,h,hn=>by obtain ⟨a,as,rfl,h1,h2⟩:=h.cons_inv;simp only [qi,ww] at hn;exact ek.2 ⟨_,_,rfl,Kq h1 hn.1,EV h2 hn.2⟩
end
theorem MG {kd:Kd} {β:Type} {res:Arg β} {v:SV} {s:List SB} {z:List Nat} {p:PV} {ps:cw} {ρ:Type} {w:β->ρ} {y:ρ} (hv:R s v p) (hS:cA s ps) (h:RC kd res v s z ρ w=afr y):
 ∃b,y=w b/\Sa kd res b p ps z:=by
 unfold RC at h;cases kd with
 |pure=>dsimp only at h;obtain ⟨h1,h2⟩:=cI h;obtain ⟨b,h3,h4⟩:=bG h2;injection h4 with h4;exact ⟨b,h4.symm,Ki hv h1,res.law h3 (Kq hv h1)⟩
 |tJ=>dsimp only at h;obtain ⟨h1,h2⟩:=qA h;obtain ⟨u,h3,h4⟩:=bG h2;obtain ⟨b,h5,h6⟩:=bG h4;injection h6 with h6;obtain ⟨q,h7,h8⟩:=ZH hS hv h3;exact ⟨b,h6.symm,GX hv h1 h3,q,h7,res.law h5 h8⟩
 |own=>dsimp only at h;obtain ⟨u,h3,h4⟩:=bG h;obtain ⟨b,h5,h6⟩:=bG h4;injection h6 with h6;refine ⟨b,h6.symm,fun nx=>?_⟩;obtain ⟨p0,p',q,h7,h8,h9⟩:=R3 hS (v':=u.1) (seen':=u.2) nx hv h3;exact ⟨p0,p',q,u.2,h9,res.law h5 h7,h8⟩
theorem cA.nil:cA [] []:=⟨rfl,fun t b h=>by simp at h⟩
theorem dy.of {f:FuncId} {x:aN} {α β:Type} {args:ay α} {res:Arg β} {kd:Kd} {fn:α->Option β} {ow:Bool} (hf:F f=afr (.code x)) (ho:Va kd ow=aft) (Da:iU F cx)
 (h: ∀a,ZC cx x args res kd a=fn a):dy F f ⟨args,res,fn,kd,ow⟩:=by
 intro a b as pa ax fz hb QT hex;have hb:fn a=afr b:=hb;rw [<- h a] at hb;obtain ⟨r,hr,n,v,s,z,bT,hl⟩:=xn Da (Iz Da 8) hf (Q:=fun r p ps z=>Sa kd res r p ps z) (EO QT) cA.nil hb (fun v s' z' p wL wK w' y' hv hS hk=>MG hv hS hk);have T0:b=r:=hr;subst T0;cases kd with
 |pure=>
  obtain ⟨h1,h2⟩:=hl;have how:ow=afu:=by simpa [Va] using ho
  subst how;refine ⟨n,{v:=v,rd:=dm (c7 ax deep) as},?_,v,h2,rfl⟩;simp only [dh,hex,hf,bT,WF,if_false,h1,if_true]
 |tJ=>
  obtain ⟨h1,q,h2,h3⟩:=hl;have how:ow=afu:=by simpa [Va] using ho
  subst how;refine ⟨n,{v:=q,rd:=dm (c7 ax deep) as,fr:=dm (c7 ax deep) as},?_,q,h3,rfl⟩;simp only [dh,hex,hf,bT,WF,if_false,h1,h2]
 |own=>have how:ow=aft:=ho;subst how;obtain ⟨p0,p',q,seen,h1,h2,h3⟩:=hl (afk ax);refine ⟨n,{v:=p',news:=q,rd:=dm (c7 ax deep) as},?_,p0,p',q,h2,h3,rfl⟩;simp only [dh,hex,hf,bT,if_true,h1]
theorem Kr: ∀(s:List SB) (q:List wJ),(zJ s q).1.length=afk s
 | [],q=>rfl
 |b::r,q=>by simp only [zJ,aax,Kr r]
mutual
theorem R.take {s:List SB} {k:Nat}: ∀{v:SV} {p:PV},R s v p->(∀t∈Mf rJ v,t<k)->R (s.take k) v p
 | .gH,_,_,_=>trivial
 | .undef,_,h,_| .jd,_,h,_| .dH,_,h,_| .int _ _,_,h,_| .bool _,_,h,_| .str _,_,h,_| .sl _ _,_,h,_| .nil _ _,_,h,_| .bp _ _ _,_,h,_| .mp _,_,h,_=>h
 | .agg cs,_,h,ht=>by obtain ⟨q,rfl,h⟩:=h;exact ⟨q,rfl,RL.EW h ht⟩
 | .cy cs,_,h,ht=>by obtain ⟨q,rfl,h⟩:=h;exact ⟨q,rfl,RL.EW h ht⟩
 | .bD cs o,_,h,ht=>by obtain ⟨q,rfl,h⟩:=h;exact ⟨q,rfl,RL.EW h ht⟩
 | .ez f a b,_,h,ht=>by obtain ⟨pa,pb,rfl,h1,h2⟩:=h;exact ⟨pa,pb,rfl,RL.EW h1 (fun t h=>ht t (aey _ h)),RL.EW h2 (fun t h=>ht t (aev _ h))⟩
 | .own t ex,_,h,ht=>by
  obtain ⟨e,n,rfl,cW⟩:=h;have hk:=ht t (aes.2 rfl);refine ⟨e,n,rfl,?_⟩;rcases cW with ⟨r,l,h1,h2,h3⟩|h1
  · exact .inl ⟨r,l,by rw [M2 hk];exact h1,h2,h3⟩
  exact .inr (by rw [M2 hk];exact h1)
 | .pre t a b c,_,h,ht=>by
  obtain ⟨e,rfl,cW⟩:=h;have hk:=ht t (aes.2 rfl);refine ⟨e,rfl,?_⟩;rcases cW with ⟨r,l,h1,h2⟩|h1
  · exact .inl ⟨r,l,by rw [M2 hk];exact h1,h2⟩
  exact .inr (by rw [M2 hk];exact h1)
 | .part t o a b c,_,h,ht=>by
  obtain ⟨e,rfl,cW⟩:=h;have hk:=ht t (aes.2 rfl);refine ⟨e,rfl,?_⟩;rcases cW with ⟨r,l,h1,h2⟩|h1
  · exact .inl ⟨r,l,by rw [M2 hk];exact h1,h2⟩
  exact .inr (by rw [M2 hk];exact h1)
 | .pa t r i a o,_,h,ht=>by
  obtain ⟨rfl,cW⟩:=h;have hk:=ht t (aer ..);refine ⟨rfl,?_⟩;rcases cW with ⟨l,h1,h2⟩|h1
  · exact .inl ⟨l,by rw [M2 hk];exact h1,h2⟩
  exact .inr (by rw [M2 hk];exact h1)
 | .pb t i o,_,h,ht=>by
  obtain ⟨e,rfl,cW⟩:=h;have hk:=ht t (aer ..);refine ⟨e,rfl,?_⟩;rcases cW with ⟨r,l,h1,h2⟩|h1
  · exact .inl ⟨r,l,by rw [M2 hk];exact h1,h2⟩
  exact .inr (by rw [M2 hk];exact h1)
theorem RL.EW {s:List SB} {k:Nat}: ∀{v:List SV} {p:List PV},RL s v p->(∀t∈qh rJ v,t<k)->RL (s.take k) v p
 | [],_,h,_=>h
 |x::xs,_,h,ht=>by obtain ⟨a,as,rfl,h1,h2⟩:=h.cons_inv;exact RL.cons (R.take h1 (fun t h=>ht t (aey _ h))) (RL.EW h2 (fun t h=>ht t (aev _ h)))
end
theorem EX {R' ρ:Type} {w:R'->ρ} {y:ρ}: ∀{s s':List SB} {k:fZ R'},AR s s' k ρ w=afr y->k ρ w=afr y/\afk s'=afk s/\ ∀(t:Nat) (x z:SB),s[t]? =afr x->s'[t]? =afr z->R5 x z
 | [],[],k,h=>⟨h,rfl,fun t x z h=>by simp at h⟩
 | [],_::_,k,h=>by cases h
 |_::_,[],k,h=>by cases h
 |x::xs,y'::ys,k,h=>by
  have step: ∀(_:AR xs ys k ρ w=afr y) (_:R5 x y'),k ρ w=afr y/\(y'::ys).length=(x::xs).length/\ ∀(t:Nat) (a b:SB),(x::xs)[t]? =afr a->(y'::ys)[t]? =afr b->R5 a b:=by
   intro h hx;obtain ⟨h1,h2,h3⟩:=EX h;refine ⟨h1,by simpa using h2,fun t a b ha hb=>?_⟩;cases t with
   |zero=>simp at ha hb;subst ha hb;exact hx
   |succ t=>exact h3 t a b (by simpa using ha) (by simpa using hb)
  cases x with
  |arr r l=>
   cases y' with
   |arr q m=>obtain ⟨hr,h2⟩:=cI (a:=fR (afk m==afk l) (AR xs ys k) aK) h;obtain ⟨hl,h3⟩:=hJ h2;exact step h3 ⟨ui hr,by simpa using hl⟩
   |_=>cases h
  |dead=>cases y' with
   |dead=>exact step h trivial
   |_=>cases h
  |box cs=>cases y' with
   |box _=>exact step h trivial
   |_=>cases h
  |set l=>cases y' with
   |set _=>exact step h trivial
   |_=>cases h
  |cj p l=>cases y' with
   |cj _ _=>exact step h trivial
   |_=>cases h
theorem EY: ∀{s:List SB},Ew s=aft-> ∀(t:Nat) (b:SB),s[t]? =afr b->yk b=aft
 | [],_,t,b,h=>by simp at h
 |x::xs,hs,0,b,h=>by simp only [Ew,ww] at hs;simp at h;subst h;exact hs.1
 |x::xs,hs,t+1,b,h=>by simp only [Ew,ww] at hs;exact EY hs.2 t b (by simpa using h)
theorem pz.of {f:FuncId} {x:aN} {wd:Bool} {ka ko:List AK} {ta:List SV} {tb to:List SB} {tv:SV} {fn:gM ka->Option (gM ko)} (hf:F f=afr (.code x)) (Da:iU F cx)
 (h: ∀a,aju wd cx x ka ta tb ko tv to a=fn a):pz F f ⟨ka,ta,tb,ko,tv,to,fn⟩:=by
 intro a b pa ps hb ha hS;rw [show (⟨ka,ta,tb,ko,tv,to,fn⟩:eS).fn a=fn a from rfl,<- h a] at hb;have cO:(eS.sa ⟨ka,ta,tb,ko,tv,to,fn⟩ a).length=(afk tb):=Kr _ _;obtain ⟨r,hr,n,v,s,z,bT,hz,hq⟩:=xn Da (Iz Da 8) hf (Q:=fun (r:gM ko) p wL z'=>z'=[]/\gW (afk tb) p wL=aft/\
  R (eS.sb ⟨ka,ta,tb,ko,tv,to,fn⟩ r) (eS.vb ⟨ka,ta,tb,ko,tv,to,fn⟩ r) p/\cA (eS.sb ⟨ka,ta,tb,ko,tv,to,fn⟩ r) (wL.take (afk tb))/\
  (eS.sb ⟨ka,ta,tb,ko,tv,to,fn⟩ r).length=(eS.sa ⟨ka,ta,tb,ko,tv,to,fn⟩ a).length/\
  ∀(t:Nat) (x y:SB),(eS.sa ⟨ka,ta,tb,ko,tv,to,fn⟩ a)[t]? =afr x->(eS.sb ⟨ka,ta,tb,ko,tv,to,fn⟩ r)[t]? =afr y->R5 x y) ha hS hb (fun v s' z' p wL wK w' y' hv hS' hk=>by
  cases z' with
  |cons _ _=>cases hk
  |nil=>
   dsimp only at hk;obtain ⟨hc,hk⟩:=cI hk;simp only [ww] at hc;obtain ⟨⟨⟨⟨c1,c2⟩,c3⟩,c4⟩,c5⟩:=hc;obtain ⟨hk,f1,f2⟩:=EX hk;obtain ⟨r,hr,hk⟩:=bG hk;injection hk with hk;have hu:R s' (bif wd then GM s' v else v) p:=by
    cases wd with
    |true=>exact N6 hv
    |false=>exact hv
   generalize (bif wd then GM s' v else v)=u at c1 c3 c4 hr hu;have D2:=og hr;have Sb:eS.vb ⟨ka,ta,tb,ko,tv,to,fn⟩ r=u:=by show (rN tv (kC ko r)).1=u;rw [D2,Dw _ c1]
   have hsb:eS.sb ⟨ka,ta,tb,ko,tv,to,fn⟩ r=s'.take (afk tb):=by show (zJ to (rN tv (kC ko r)).2).1=_;rw [D2,Dw _ c1];have:=A2 [] c2;rw [aaB] at this;rw [this]
   have kI:(afk tb)<=(afk s'):=by
    have:=f1;rw [acl] at this;have h2:(eS.sa ⟨ka,ta,tb,ko,tv,to,fn⟩ a).length=(afk tb):=cO;have h3:min (afk tb) (afk s')=(afk tb):=by rw [this];exact h2
    omega
   unfold ZB at c3;rw [ad8] at c3;have hkv: ∀t∈Mf rJ u,t<(afk tb):=fun t ht=>by simpa using c3 t (aey _ ht)
   have hkb: ∀b∈s'.take (afk tb),∀t∈En b,t<(afk tb):=fun b hb t ht=>by simpa using c3 t (aev _ (afc.2 ⟨b,hb,ht⟩))
   have pj:cA (s'.take (afk tb)) (wL.take (afk tb)):=⟨by simp [hS'.len],fun t x hx=>by
    have dz:t<(afk tb):=by have:=(AC.1 hx).1;rw [acl] at this;omega
    have hx':=hx;rw [M2 dz] at hx';obtain ⟨q,q1,q2⟩:=hS'.at_ t x hx';refine ⟨q,by rw [M2 dz];exact q1,?_⟩;cases x with
    |box cs=>obtain ⟨pc,rfl,hpc⟩:=q2;exact ⟨pc,rfl,RL.EW hpc (hkb _ (aeg hx))⟩
    |_=>exact q2⟩
   refine ⟨r,hk.symm,rfl,?_,by rw [Sb,hsb];exact R.take hu hkv,by rw [hsb];exact pj,by rw [hsb];exact f1,by rw [hsb];exact f2⟩;unfold gW;rw [ad8];intro t ht;rw [afe] at ht;rcases ht with ht|ht
   · rw [<- RW (bx:=rJ) (fun _=>rfl) hu c4] at ht
     simpa using hkv t ht
   rw [afc] at ht
   obtain ⟨q,hq,ht⟩:=ht;obtain ⟨j,hj,he⟩:=aez hq;have LH:j<(s'.take (afk tb)).length:=by rw [<- pj.len];exact hj
   obtain ⟨x,hx⟩: ∃x,(s'.take (afk tb))[j]? =afr x:=⟨_,IR LH⟩;obtain ⟨q',q1,q2⟩:=pj.at_ j x hx;rw [IR hj,he] at q1;injection q1 with q1;subst q1;rw [<- Ip q2 (EY c5 j x hx)] at ht;simpa using hkb x (aeg hx) t ht)
 have T0:b=r:=hr;subst T0;subst hz;refine ⟨n,v,s,bT,?_⟩;rw [cO];obtain ⟨h1,h2,h3,h4,h5⟩:=hq;exact ⟨h1,h2,h3,by rw [h4,cO],h5⟩
theorem MH {f:FuncId} {r:List PT} (hf:F f=afr (.jD afu (fx (afk r)))) (l:List (RT r)) (hl:(afk l)<=1048576) {as:List PV} {ax:cw} {fz:List Nat} (hex:Bw ax (wN ax deep) as=afr [.sl (afk r) afu (l.map (RT.pv r))]):
 ∃n x,dh F (run F n) afu f as ax fz=afr x/\ZI .own (afk ax) (dm (c7 ax deep) as) (.sl r l) x:=by
 refine ⟨0,{v:= .own (afk ax) (afk r) 0 (afk l) (afk l) afu,news:=[.arr (afk r) (l.map (RT.pv r))],rd:=dm (c7 ax deep) as},?_,.sl (afk r) afu (l.map (RT.pv r)),.own (afk ax) (afk r) 0 (afk l) (afk l) afu,[.arr (afk r) (l.map (RT.pv r))],rfl,by simp only [EL,aaC],rfl⟩;simp only [dh,hex,hf];cases l with
 |nil=>rfl
 |cons a l=>
  have h2:PP ((l.map (RT.pv r)).length+1) eA=aft:=by simp [eA] at hl ⊢;omega
  simp only [aaG,fx,ac0,h2,aaS,if_true,yO];simp [has]
theorem dy.clone {f:FuncId} {n:Nat} {r:List PT} (hf:F f=afr (.jD afu (fx n))) (hn:n=afk r):dy F f (rI.clone r):=by
 intro (a:List (RT r)) (b:List (RT r)) as pa ax fz hb QT hex;subst hn;have hb:bL a=afr b:=hb;obtain ⟨rfl,hl⟩:=zO hb;have aaU:pa=[.sl (afk r) afu (b.map (RT.pv r))]:=by have:afr [PV.sl (afk r) afu (b.map (RT.pv r))]=afr pa:=QT;exact (adc this).symm
 subst aaU;exact MH hf b hl hex
theorem dy.NZ {f:FuncId} (hf:F f=afr (.jD afu zn)):dy F f rI.NZ:=by
 intro a b as pa ax fz hb QT hex;obtain ⟨x,y,c⟩:=a;have Ai:oe x y c=afr b:=hb;unfold oe at Ai;cases hc:(afv (0<=x)&&afv (0<=y)&&afv (0<=c)&&afv (c<=1)) with
 |false=>rw [hc] at Ai;cases Ai
 |true=>
  rw [hc] at Ai;injection Ai with Ai;subst Ai;simp only [ww,decide_eq_true_eq] at hc;obtain ⟨⟨⟨h1,h2⟩,h3⟩,h4⟩:=hc;obtain ⟨x,rfl⟩:=aal h1;obtain ⟨y,rfl⟩:=aal h2;obtain ⟨c,rfl⟩:=aal h3;have aaU:pa=[.int .u64 (.ofNat x),.int .u64 (.ofNat y),.int .u64 (.ofNat c)]:=by have:afr [PV.int .u64 (x:Int),.int .u64 (y:Int),.int .u64 (c:Int)]=afr pa:=QT;exact (adc this).symm
  subst aaU;have hcb:PP c 1=aft:=by simp;omega
  refine ⟨0,{v:= .cy [.int .u64 (.ofNat ((x+y+c)%18446744073709551616)),.int .u64 (.ofNat ((x+y+c) / 18446744073709551616))],rd:=dm (c7 ax deep) as},?_,_,rfl,rfl⟩;show dh F (run F 0) afu f as ax fz=_;simp only [dh,hex,hf,zn,hcb,if_true];rfl
theorem pz.zero {f:FuncId} {c:eS} (h: ∀a,c.fn a=afs):pz F f c:=fun a b pa ps hb=>by rw [h a] at hb;cases hb
theorem dy.zero {f:FuncId} {c:rI} (h: ∀a,c.fn a=afs):dy F f c:=fun a b as pa ax fz hb=>by rw [h a] at hb;cases hb
theorem dy.at0 {f:FuncId} {fn:Unit->Option Bool} (h:dy F f ⟨ay.nil,Arg.bool,fn,.pure,afu⟩) (hb:fn ()=afr aft):dy F f ⟨ay.nil,Arg.bool,fun _=>afr aft,.pure,afu⟩:=by intro a b as args ax fz hr hp hx;obtain rfl:aft=b:=adc hr;exact h () aft as args ax fz hb hp hx
end
end Go.Vm
/- What comes in to a law, as typed values; a law from a contract. -/
namespace Go.Vm
open Go.ChangeShapes Go.WideShapes Go.ChangeAt Go.RowKit
def PT.wf:(p:PT)->p.T->Prop
 | .i k,n=>(Lit.int k n).wf=aft
 | .b,_=>True
def RT.wf:(r:List PT)->RT r->Prop
 | [],_=>True
 | [p],a=>p.wf a
 |p::q::r,a=>p.wf a.1/\RT.wf (q::r) a.2
def ur (r:List PT) (vs:List SV):Prop:= ∃a:RT r,vs=RT.sv r a/\RT.wf r a
def KSl (r:List PT) (vs:List SV):Prop:= ∃l:List (RT r),vs=[.sl r l]/\ ∀a∈l,RT.wf r a
def aaV:List (List SV->Prop)->List SV->Prop
 | [],vs=>vs=[]
 |K::Ks,vs=> ∃a b,vs=a++b/\K a/\aaV Ks b
theorem ur.cons {p:PT}: ∀{r:List PT} {a b:List SV},ur [p] a->ur r b->ur (p::r) (a++b)
 | [],a,b,⟨x,hx,wx⟩,⟨y,hy,_⟩=>⟨x,by rw [hx,hy];rfl,wx⟩
 |q::r,a,b,⟨x,hx,wx⟩,⟨y,hy,wy⟩=>⟨(x,y),by rw [hx,hy];rfl,wx,wy⟩
theorem ur.split {p q:PT} {r:List PT} {vs:List SV}:ur (p::q::r) vs-> ∃a b,vs=a++b/\ur [p] a/\ur (q::r) b
 |⟨x,hx,wx⟩=>⟨[p.sv x.1],RT.sv (q::r) x.2,hx,⟨x.1,rfl,wx.1⟩,⟨x.2,rfl,wx.2⟩⟩
theorem ur.app: ∀{r s:List PT} {a b:List SV},ur r a->ur s b->ur (r++s) (a++b)
 | [],s,a,b,⟨x,hx,_⟩,h=>by have:a=[]:=hx;subst this;exact h
 | [p],s,a,b,h,k=>ur.cons h k
 |p::q::r,s,a,b,h,k=>by
  obtain ⟨a1,a2,rfl,h1,h2⟩:=ur.split h
  rw [aaz];exact ur.cons h1 (ur.app h2 k)
def lQ (P : Program) (t : TypeId) (K : List SV -> Prop) : Prop :=
  ∀ (H : Type) (enc : TypeId × Value -> H) (w : World) (zC : Nat) (cs : List Value) (x : DataW H × List MemPlace), DataW.trod enc P w 0 (fun _ => aft) aft zC t cs = afr x ->
    ∃ vs q, K vs /\ qM vs = afr q /\ eI (Gb w) fX q cs
section
variable {P : Program}
theorem lQ.mono {t:TypeId} {K K':List SV->Prop} (h:lQ P t K) (hk: ∀vs,K vs->K' vs):lQ P t K':=fun H enc w zC cs x hx=>by obtain ⟨vs,q,h1,h2,h3⟩:=h H enc w zC cs x hx;exact ⟨vs,q,hk vs h1,h2,h3⟩
theorem lQ.int {t:TypeId} {k:IntKind} (ht:P.underlying t=afr (.int k)):lQ P t (ur [.i k]):=fun H enc w zC cs x h=>by obtain ⟨n,rfl,_,hw⟩:=DataW.trod_int ht h;exact ⟨[.int k n],[.int k n],⟨n,rfl,hw⟩,rfl,.cons _ _ _ _ (.int k n) .nil⟩
theorem lQ.bool {t:TypeId} (ht:P.underlying t=afr .bool):lQ P t (ur [.b]):=fun H enc w zC cs x h=>by obtain ⟨b,rfl,_⟩:=DataW.trod_bool ht h;exact ⟨[.bool b],[.bool b],⟨b,rfl,trivial⟩,rfl,.cons _ _ _ _ (.bool b) .nil⟩
def pA (P:Program):List Field->List (List SV->Prop)->Nat->Prop
 | [],[],_=>True
 |f::fs,K::Ks,off=>f.offset=off/\lQ P f.type K/\pA P fs Ks (off+P.cellsOf f.type)
 |_,_,_=>False
theorem pA.nil {off:Nat}:pA P [] [] off:=trivial
theorem pA.cons {f:Field} {fs:List Field} {K:List SV->Prop} {Ks:List (List SV->Prop)} {off:Nat} (h1:f.offset=off) (h2:lQ P f.type K) (h3:pA P fs Ks (off+P.cellsOf f.type)):pA P (f::fs) (K::Ks) off:=⟨h1,h2,h3⟩
def xo (P:Program):List Field->Nat
 | []=>0
 |f::fs=>P.cellsOf f.type+xo P fs
theorem EZ {im:Im} {loc:Loc}: ∀{p:List PV} {vs:List Value} {q:List PV} {us:List Value},eI im loc p vs->eI im loc q us->eI im loc (p++q) (vs++us)
 | [],[],_,_,.nil,h=>h
 |_::_,_::_,_,_,.cons x v xs ws h hs,k=> .cons x v _ _ h (EZ hs k)
theorem E0 {H:Type} {enc:TypeId×Value->H} {w:World} {n:Nat} {cs:List Value}: ∀{fs:List Field} {Ks:List (List SV->Prop)} {off:Nat},pA P fs Ks off->afk cs=off+xo P fs->
 (∀f∈fs,∃x,DataW.trod enc P w 0 (fun _=>aft) aft n f.type ((cs.drop f.offset).take (P.cellsOf f.type))=afr x)-> ∃vs q,aaV Ks vs/\qM vs=afr q/\eI (Gb w) fX q (cs.drop off)
 | [],[],off,_,hl,_=>⟨[],[],rfl,rfl,by rw [List.drop_eq_nil_of_le (by simp [xo] at hl;omega)];exact .nil⟩
 |f::fs,K::Ks,off,⟨h1,h2,h3⟩,hl,hx=>by
  obtain ⟨x,FZ⟩:=hx f (by simp);obtain ⟨vs,q,k1,k2,k3⟩:=h2 H enc w n _ x FZ;obtain ⟨Lt,q',k1',k2',k3'⟩:=E0 (n:=n) h3 (by simp only [xo] at hl;omega) (fun g hg=>hx g (by simp [hg]));refine ⟨vs++Lt,q++q',⟨vs,Lt,rfl,k1,k1'⟩,zL k2 k2',?_⟩;rw [h1] at k3;have:cs.drop off=(cs.drop off).take (P.cellsOf f.type)++cs.drop (off+P.cellsOf f.type):=by rw [<- List.drop_drop,List.take_append_drop]
  rw [this];exact EZ k3 k3'
 | [],_::_,_,h,_,_=>h.elim
 |_::_,[],_,h,_,_=>h.elim
theorem lQ.struct {t:TypeId} {fs:Array Field} {Ks:List (List SV->Prop)} (ht:P.underlying t=afr (.struct fs)) (hF:pA P fs.toList Ks 0) (hc:P.cellsOf t=xo P fs.toList):lQ P t (aaV Ks):=fun H enc w zC cs x h=>by
 obtain ⟨xs,n,rfl,_,hl,hxl,qe⟩:=DataW.trod_struct ht h;have:=E0 (P:=P) (enc:=enc) (w:=w) (n:=n) (cs:=cs) hF (by omega) (fun f hf=>by
  obtain ⟨i,hi,he⟩:=List.mem_iff_getElem.1 hf;have tY:i<fs.size:=by simpa using hi
  have hg:fs[i]? =afr f:=by rw [Array.getElem?_eq_getElem tY];simpa using he
  have:=qe i f hg;rw [IR (by omega)] at this;exact ⟨_,this⟩)
 rwa [ae1] at this
theorem RT.vrl {r:List PT} {a:RT r} {q:List PV} (h:qM (RT.sv r a)=afr q):q=RT.pv r a:=by rw [RT.GO] at h;exact (adc h).symm
theorem eI.nth {im:Im} {loc:Loc}: ∀{p:List PV} {vs:List Value},eI im loc p vs-> ∀(k:Nat) (c:PV),p[k]? =afr c-> ∃v,vs[k]? =afr v/\VR im loc c v
 |_::_,_::_,.cons x v xs ws h hs,0,c,hc=>by simp at hc;subst hc;exact ⟨v,by simp,h⟩
 |_::_,_::_,.cons x v xs ws h hs,k+1,c,hc=>by obtain ⟨u,h1,h2⟩:=eI.nth hs k c (by simpa using hc);exact ⟨u,by simpa using h1,h2⟩
theorem lQ.slice {t e:TypeId} {r:List PT} (ht:P.underlying t=afr (.slice e)) (he:lQ P e (ur r)) (hc:P.cellsOf e=afk r) (hr:0<afk r):lQ P t (KSl r):=fun H enc w zC cs x h=>by
 rcases Go.Deep.open_slice ht h with ⟨rfl,_⟩|⟨a,len,cap,m,n,D,Pl,rfl,_,hl,hm,hmm,_,hx⟩
 · exact ⟨[.sl r []],[.sl (afk r) afu []],⟨[],rfl,by simp⟩,rfl,.cons _ _ _ _ (.sl (afk r) afu [] afs 0 (aeJ _) (fun h=>by cases h) (fun h=>absurd rfl h)) .nil⟩
 have BM:len<=m:=by rw [hmm];split<;>omega
 have each: ∀i,i<len-> ∃A:RT r,RT.wf r A/\ ∃Gt,w.cells? 0 (a.add (i*afk r)) (afk r)=afr Gt/\eI (Gb w) fX (RT.pv r A) Gt:=by intro i hi;obtain ⟨Gt,h1,h2⟩:=hx i (by omega);obtain ⟨vs,q,⟨A,hA,wA⟩,k2,k3⟩:=he H enc w n Gt _ h2;subst hA;rw [RT.vrl k2] at k3;rw [hc] at h1;exact ⟨A,wA,Gt,h1,k3⟩
 have ch: ∃A:Nat->RT r,∀i,i<len->RT.wf r (A i)/\ ∃Gt,w.cells? 0 (a.add (i*afk r)) (afk r)=afr Gt/\eI (Gb w) fX (RT.pv r (A i)) Gt:=by
  classical
  refine ⟨fun i=>if h:i<len then (each i h).choose else RT.zero r,fun i hi=>?_⟩;simp only [dif_pos hi];exact (each i hi).choose_spec
 obtain ⟨A,hA⟩:=ch;refine ⟨[.sl r ((aeQ len).map A)],[.sl (afk r) afu (((aeQ len).map A).map (RT.pv r))],⟨_,rfl,fun x hx=>?_⟩,rfl,.cons _ _ _ _ ?_ .nil⟩
 · obtain ⟨i,hi,rfl⟩:=aeZ.1 hx
   exact (hA i (List.mem_range.1 hi)).1
 have cO:(((aeQ len).map A).map (RT.pv r)).length=len:=by simp
 have:=VR.sl (im:=Gb w) (loc:=fX) (afk r) afu (((aeQ len).map A).map (RT.pv r)) (afr a) cap (by rw [cO];exact hl) (fun h=>by cases h) (fun dK=>by
  have F4:0<len:=by
   rcases aeP len with h|h
   · subst h;exact absurd rfl dK
   exact h
  obtain ⟨_,cs0,h0,_⟩:=hA 0 F4;obtain ⟨_,I9,D'⟩:=af5 h0;obtain ⟨b,off,spot⟩:=a;have agi:spot=afs:=by have h1:=D' 0 hr;rw [IR (by omega)] at h1;simpa [Addr.add] using World.cell?_spot h1
  subst agi;refine ⟨b,off,rfl,fun i row tP=>?_⟩;simp only [List.map_map,List.getElem?_map,ac1] at tP;obtain ⟨j,hj,rfl⟩:=tP;have LH:=cD hj;have:j=i:=by rw [List.getElem?_range (by simpa using LH)] at hj;exact (adc hj).symm
  subst this;have agj:j<len:=by simpa using LH
  obtain ⟨_,Gt,h1,h2⟩:=hA j agj;obtain ⟨_,Gw,CF⟩:=af5 h1;refine ⟨RT.u5 r (A j),fun k c hk=>?_⟩;obtain ⟨v,hv,nO⟩:=eI.nth h2 k c hk;have hkr:k<(afk r):=by
   have:=cD hk
   rwa [Function.comp,RT.u5] at this
  have cc:=CF k hkr;rw [hv] at cc;rw [Go.WideShapes.add_plain,Go.WideShapes.add_plain] at cc;have LG:c.plain=aft:=ad8.1 (RT.plain r (A j)) c (aeg hk);exact ⟨v,nO.plain LG,Ph cc⟩)
 rw [cO] at this;exact this
theorem lQ.ajP {t e:TypeId} {r:List PT} (h:lQ P t (KSl r)) (ht:P.underlying t=afr (.slice e)) {H:Type} {enc:TypeId×Value->H} {w:World} {nZ:Nat} {v:Value} {d:DataW H} {p:List MemPlace}
 (hv:Value.okWide P w .any nZ t v) (hd:DataW.Trod enc P w 0 (fun _=>aft) aft t v d p): ∃l:List (RT r),(∀a∈l,RT.wf r a)/\VR (Gb w) fX (.sl (afk r) afu (l.map (RT.pv r))) v:=by
 obtain ⟨a,len,cap,rfl⟩:=okWide_slice ht hv;obtain ⟨zC,hf⟩:=hd;obtain ⟨vs,q,⟨l,rfl,hw⟩,k2,k3⟩:=h H enc w zC _ _ hf;have hq:q=[.sl (afk r) afu (l.map (RT.pv r))]:=by have:qM [SV.sl r l]=afr [.sl (afk r) afu (l.map (RT.pv r))]:=rfl;rw [this] at k2;exact (adc k2).symm
 subst hq;refine ⟨l,hw,?_⟩;generalize lO:(Value.slice a len cap).cells.toList=cs at k3;have:cs=[Value.slice a len cap]:=by rw [<- lO];rfl
 subst this;cases k3 with
 |cons _ _ _ _ h1 _=>exact h1
theorem wf_i64 {n:Int} (h:(Lit.int .i64 n).wf=aft): -9223372036854775808<=n/\n<9223372036854775808:=by
 simp only [Lit.wf,ww,decide_eq_true_eq] at h;have e1:IntKind.i64.min= -9223372036854775808:=by decide
 have e2:IntKind.i64.max=9223372036854775807:=by decide
 rw [e1,e2] at h;omega
end
theorem dy.ajQ {F:lM} {f:FuncId} {x:aN} {α:Type} {A:ay α} {fn:α->Option Bool} (h:dy F f ⟨A,Arg.bool,fn,.pure,afu⟩) (hf:F f=afr (.code x)) {a:α} (hb:fn a=afr aft) {ps:List PV} (hp:qM (A.enc a)=afr ps) (hx:Bw [] (wN [] deep) ps=afr ps):
 ∃n s z,run F n (.func f ps [] [])=afr (.func (.bool aft) s z):=by
 obtain ⟨n,r,h1,p,h2,rfl⟩:=h a aft ps ps [] [] hb hp hx;have hp':p= .bool aft:=(adc h2).symm;subst hp';refine ⟨n,?_⟩;simp only [dh,hx,hf] at h1;split at h1
 · rename_i v s z hr
   simp only [WF,if_false] at h1;split at h1
   · injection h1 with h1
     injection h1 with h1;subst h1;exact ⟨s,z,hr⟩
   rename_i hn
   split at h1
   · rename_i v' hv
     injection h1 with h1;injection h1 with h1;subst h1;exfalso;cases v with
     |bool b=>exact hn rfl
     |int _ _|str _|sl _ _ _=>injection hv with hv;cases hv
     |agg cs=>simp only [x5,ac1] at hv;obtain ⟨_,_,hv⟩:=hv;cases hv
     |cy cs=>simp only [x5,ac1] at hv;obtain ⟨_,_,hv⟩:=hv;cases hv
     |own t e off len cap ex=>simp only [x5] at hv;split at hv<;>first|(injection hv with hv;cases hv)|cases hv
     |_=>cases hv
   cases h1
 cases h1
end Go.Vm
