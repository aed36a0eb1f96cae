/- The logical machine, part 3: SvCod, SvRel, SvOps1, SvOps2, SvOps3, SvOps4, SvNorm, SvCall, SvFp, SvRun, SvCon, SvLaw. -/
import Derived.Test.YtcljjehjppgijaaGreatWVm2
open Nat renaming eq_of_beq_eq_true->lw,ble->IR,beq->NE,le_of_ble_eq_true->UV,beq_refl->aaI,lt_or_ge->abB,zero_add->abU,beq_eq->acp,blt->acy,min_eq_left->ag0,le_refl->ag7,eq_zero_or_pos->agY,le_of_lt->ah6,sub_self->ahF
open Bool renaming and_eq_true->pp,false_eq_true->PP,not_eq_true'->aa3,and_self->aaH,not_false->abm,and_true->ac2,not_true->agJ,or_eq_true->ahD,true->ahK,false->ahL
open List renaming getElem?_eq_some_iff->ut,getElem?_append_left->v6,getElem?_append_right->ww,getElem?_eq_getElem->Do,getElem?_take_of_lt->EQ,getElem?_set->If,length_cons->aa4,append_assoc->aa5,append_nil->aa8,length_map->aa9,map_cons->aak,replicate->ab7,length_take->ab8,map_take->ab9,take_of_length_le->aba,all_eq_true->abb,drop_zero->abc,getElem?_cons_succ->abd,map_append->abe,mem_of_getElem?->abn,getElem?_eq_none_iff->abD,map_drop->abF,mem_cons_self->abK,mem_singleton->abO,length_eq_zero_iff->abR,mem_append_right->ac0,mem_cons_of_mem->ac7,mem_append_left->ace,getElem_of_mem->ack,length_append->acr,getElem?_cons_zero->acI,cons_append->adc,nodup_cons->ag2,take_succ_cons->ag8,all_cons->agd,cons_beq_cons->agN,range->ah2,map_set->ah5,ext_getElem?->ah7,map_nil->aha,flatMap_cons->ahu,mem_map->ahv,any_eq_true->ahy,length_drop->ahz,mem_flatMap->ahA,all_append->ahB,mem_append->ahC,any_cons->ahE,all_map->ahG,length->ahH
open Option.some renaming injEq->AC,inj->abg
open Int renaming eq_ofNat_of_zero_le->aa1,ofNat->abi,le_trans->acl
open Prod.mk renaming injEq->aa2
open Option renaming map_eq_some_iff->ab2,isSome_iff_exists->acF,getD_none->acJ,getD_some->ahx,some->ahI,none->ahJ
open Go.World renaming cells?_some->ahw
open Decidable renaming decide->ahM
/- The types of arguments and results, as cells. -/
namespace Go.Vm
theorem oS {r q:List PT} {l:List (RT r)} {m:List (RT q)} (h:sf r q l=ahI m): ∃e:r=q,m=e▸l:=by
 unfold sf at h;split at h
 · rename_i hs
   injection h with h;exact ⟨uU hs,h.symm⟩
 cases h
theorem Bo {r q:List PT} {l:List (RT r)} {m:List (RT q)} (h:sf r q l=ahI m):r=q/\m.map (RT.pv q)=l.map (RT.pv r)/\ahH m=(ahH l):=by obtain ⟨rfl,rfl⟩:=oS h;exact ⟨rfl,rfl,rfl⟩
theorem dY {x:SV} {xs:List SV} {ps:List PV}:oK (x::xs)=ahI ps↔ ∃p qs,ps=p::qs/\ru x=ahI p/\oK xs=ahI qs:=by
 simp only [oK];constructor
 · intro h
   split at h
   · rename_i y ys h1 h2
     injection h with h;exact ⟨y,ys,h.symm,h1,h2⟩
   cases h
 rintro ⟨p,qs,rfl,h1,h2⟩
 rw [h1,h2]
theorem Av: ∀{xs ys:List SV} {p q:List PV},oK xs=ahI p->oK ys=ahI q->oK (xs++ys)=ahI (p++q)
 | [],ys,p,q,h,k=>by simp only [oK,AC] at h;subst h;exact k
 |x::xs,ys,p,q,h,k=>by obtain ⟨a,as,rfl,h1,h2⟩:=dY.1 h;exact dY.2 ⟨a,as++q,rfl,h1,Av h2 k⟩
theorem PT.pH: ∀{p:PT} {v:SV} {a:p.T},p.of v=ahI a->v=p.sv a
 | .i k,.int l n,a,h=>by
  simp only [PT.of] at h;cases hk:eX l k with
  |false=>rw [hk] at h;cases h
  |true=>rw [hk] at h;injection h with h;subst h;rw [eE.1 hk];rfl
 | .b,.bool x,a,h=>by injection h with h;subst h;rfl
 | .i k,.bool _,a,h=>by cases h
 | .b,.int _ _,a,h=>by cases h
 | .i _,.gQ,a,h| .i _,.undef,a,h| .i _,.js,a,h| .i _,.dC,a,h| .i _,.str _,a,h| .i _,.agg _,a,h| .i _,.bN _,a,h| .i _,.sl _ _,a,h| .i _,.nil _ _,a,h| .i _,.own _ _,a,h| .i _,.pre _ _ _ _,a,h| .i _,.part _ _ _ _ _,a,h| .i _,.pa _ _ _ _ _,a,h| .i _,.pb _ _ _,a,h| .i _,.bp _ _ _,a,h| .i _,.bw _ _,a,h| .i _,.eA _ _ _,a,h| .i _,.mp _,a,h=>by cases h
 | .b,.gQ,a,h| .b,.undef,a,h| .b,.js,a,h| .b,.dC,a,h| .b,.str _,a,h| .b,.agg _,a,h| .b,.bN _,a,h| .b,.sl _ _,a,h| .b,.nil _ _,a,h| .b,.own _ _,a,h| .b,.pre _ _ _ _,a,h| .b,.part _ _ _ _ _,a,h| .b,.pa _ _ _ _ _,a,h| .b,.pb _ _ _,a,h| .b,.bp _ _ _,a,h| .b,.bw _ _,a,h| .b,.eA _ _ _,a,h| .b,.mp _,a,h=>by cases h
theorem RT.pH: ∀{r:List PT} {vs:List SV} {a:RT r},RT.of r vs=ahI a->vs=RT.sv r a
 | [],[],a,_=>rfl
 | [p],[v],a,h=>by have:=PT.pH (p:=p) h;rw [this];rfl
 |p::q::r,v::vs,a,h=>by
  simp only [RT.of] at h;split at h
  · rename_i x y h1 h2
    injection h with h;subst h;rw [PT.pH h1,RT.pH h2];rfl
  cases h
 | [],_::_,a,h=>by simp [RT.of] at h
 | [p],[],a,h=>by simp [RT.of] at h
 | [p],_::_::_,a,h=>by simp [RT.of] at h
 |_::_::_,[],a,h=>by simp [RT.of] at h
theorem PT.Hk (p:PT) (a:p.T):ru (p.sv a)=ahI (p.pv a):=by cases p<;>rfl
theorem RT.Hk: ∀(r:List PT) (a:RT r),oK (RT.sv r a)=ahI (RT.pv r a)
 | [],_=>rfl
 | [p],a=>dY.2 ⟨_,_,rfl,PT.Hk p a,rfl⟩
 |p::q::r,a=>dY.2 ⟨_,_,rfl,PT.Hk p a.1,RT.Hk (q::r) a.2⟩
theorem RT.vS: ∀(r:List PT) (a:RT r),(RT.pv r a).length=ahH r
 | [],_=>rfl
 | [p],a=>rfl
 |p::q::r,a=>by simp [RT.pv,RT.vS (q::r) a.2]
theorem RT.IB: ∀(r:List PT) (a:RT r),(RT.sv r a).length=ahH r
 | [],_=>rfl
 | [p],a=>rfl
 |p::q::r,a=>by simp [RT.sv,RT.IB (q::r) a.2]
theorem Hl: ∀(n:Nat) {vs:List SV} {ps:List PV},oK vs=ahI ps-> ∃p q,ps=p++q/\oK (vs.take n)=ahI p/\oK (vs.drop n)=ahI q
 |0,vs,ps,h=>⟨[],ps,rfl,by simp [oK],by simpa using h⟩
 |n+1,[],ps,h=>⟨[],ps,rfl,by simp [oK],by simpa using h⟩
 |n+1,v::vs,ps,h=>by obtain ⟨p,qs,rfl,h1,h2⟩:=dY.1 h;obtain ⟨a,b,rfl,h3,h4⟩:=Hl n h2;exact ⟨p::a,b,rfl,by rw [ag8];exact dY.2 ⟨p,a,rfl,h1,h3⟩,by simpa using h4⟩
def cb.int (k:IntKind):cb Int where
 enc n:=[.int k n]
 dec vs:=match vs with
  | .int l n::r=>bif eX l k then ahI (n,r) else ahJ
  |_=>ahJ
 law:=fun {vs a rest ps} h hp=>by
  split at h
  · rename_i l n r
    cases hk:eX l k with
    |false=>rw [hk] at h;cases h
    |true=>rw [hk] at h;simp only [kw,AC,aa2] at h;obtain ⟨rfl,rfl⟩:=h;obtain ⟨p,qs,rfl,h1,h2⟩:=dY.1 hp;rw [eE.1 hk] at h1;exact ⟨[p],qs,rfl,dY.2 ⟨p,[],rfl,h1,rfl⟩,h2⟩
  cases h
def cb.bool:cb Bool where
 enc n:=[.bool n]
 dec vs:=match vs with
  | .bool n::r=>ahI (n,r)
  |_=>ahJ
 law:=fun {vs a rest ps} h hp=>by
  split at h
  · simp only [AC,aa2] at h
    obtain ⟨rfl,rfl⟩:=h;obtain ⟨p,qs,rfl,h1,h2⟩:=dY.1 hp;exact ⟨[p],qs,rfl,dY.2 ⟨p,[],rfl,h1,rfl⟩,h2⟩
  cases h
def N' (r:List PT):SV->Option (List (RT r))
 | .sl q l=>sf q r l
 | .nil e c=>bif NE e (ahH r)&&!c then ahI [] else ahJ
 |_=>ahJ
theorem Hm {r:List PT} {v:SV} {l:List (RT r)} {p:PV} (h:N' r v=ahI l) (hp:ru v=ahI p):ru (.sl r l)=ahI p:=by
 cases v with
 |sl q m=>obtain ⟨rfl,h2,_⟩:=Bo h;rw [<- hp];simp only [ru,h2]
 |nil e c=>
  simp only [N'] at h;cases hc:(NE e (ahH r)&&!c) with
  |false=>rw [hc] at h;cases h
  |true=>rw [hc] at h;injection h with h;subst h;simp only [pp,acp,aa3] at hc;obtain ⟨rfl,rfl⟩:=hc;rw [<- hp];rfl
 |_=>cases h
def cb.sl (r:List PT):cb (List (RT r)) where
 enc l:=[.sl r l]
 dec vs:=match vs with
  |v::rest=>match N' r v with
   |some l=>ahI (l,rest)
   |none=>ahJ
  | []=>ahJ
 law:=fun {vs a rest ps} h hp=>by
  split at h
  · split at h
    · rename_i v r' x l hl
      simp only [AC,aa2] at h;obtain ⟨rfl,rfl⟩:=h;obtain ⟨p,qs,rfl,h1,h2⟩:=dY.1 hp;exact ⟨[p],qs,rfl,dY.2 ⟨p,[],rfl,Hm hl h1,rfl⟩,h2⟩
    cases h
  cases h
def cb.row (r:List PT):cb (RT r) where
 enc:=RT.sv r
 dec vs:=match RT.of r (vs.take (ahH r)) with
  |some a=>ahI (a,vs.drop (ahH r))
  |none=>ahJ
 law:=fun {vs a rest ps} h hp=>by
  split at h
  · rename_i x hx
    simp only [AC,aa2] at h;obtain ⟨rfl,rfl⟩:=h;obtain ⟨p,q,rfl,h1,h2⟩:=Hl (ahH r) hp;rw [RT.pH hx] at h1;exact ⟨p,q,rfl,h1,h2⟩
  cases h
def cb.prod {α β:Type} (A:cb α) (B:cb β):cb (α×β) where
 enc p:=A.enc p.1++B.enc p.2
 dec vs:=match A.dec vs with
  |some p=>match B.dec p.2 with
   |some q=>ahI ((p.1,q.1),q.2)
   |none=>ahJ
  |none=>ahJ
 law:=fun {vs a rest ps} h hp=>by
  split at h
  · rename_i p hA
    split at h
    · rename_i q hB
      simp only [AC,aa2] at h;obtain ⟨rfl,rfl⟩:=h;obtain ⟨p1,p2,rfl,h1,h2⟩:=A.law (a:=p.1) (rest:=p.2) hA hp;obtain ⟨q1,q2,rfl,h3,h4⟩:=B.law (a:=q.1) (rest:=q.2) hB h2;exact ⟨p1++q1,q2,by simp,Av h1 h3,h4⟩
    cases h
  cases h
def cb.iso {α β:Type} (A:cb α) (f:α->β) (g:β->α) (h: ∀a,g (f a)=a):cb β where
 enc b:=A.enc (g b)
 dec vs:=match A.dec vs with
  |some p=>ahI (f p.1,p.2)
  |none=>ahJ
 law:=fun {vs a rest ps} hd hp=>by
  split at hd
  · rename_i p hA
    simp only [AC,aa2] at hd;obtain ⟨rfl,rfl⟩:=hd;rw [h];exact A.law hA hp
  cases hd
def Arg.int (k:IntKind):Arg Int where
 enc n:= .int k n
 dec v:=match v with
  | .int l n=>bif eX l k then ahI n else ahJ
  |_=>ahJ
 law:=fun {v a p} h hp=>by
  split at h
  · rename_i l n
    cases hk:eX l k with
    |false=>rw [hk] at h;cases h
    |true=>rw [hk] at h;injection h with h;subst h;rw [eE.1 hk] at hp;exact hp
  cases h
def Arg.bool:Arg Bool where
 enc n:= .bool n
 dec v:=match v with
  | .bool n=>ahI n
  |_=>ahJ
 law:=fun {v a p} h hp=>by
  split at h
  · injection h with h;subst h;exact hp
  cases h
def Arg.sl (r:List PT):Arg (List (RT r)) where
 enc l:= .sl r l
 dec:=N' r
 law:=Hm
def Arg.agg {α:Type} (A:cb α):Arg α where
 enc a:= .agg (A.enc a)
 dec v:=match v with
  | .agg cs=>match A.dec cs with
   |some p=>match p.2 with
    | []=>ahI p.1
    |_=>ahJ
   |none=>ahJ
  |_=>ahJ
 law:=fun {v a p} h hp=>by
  split at h
  · rename_i cs
    split at h
    · rename_i q hA
      obtain ⟨x,rest⟩:=q;dsimp only at h;cases rest with
      |cons _ _=>cases h
      |nil=>
       injection h with h;subst h;simp only [ru] at hp;cases hc:oK cs with
       |none=>rw [hc] at hp;cases hp
       |some l=>rw [hc] at hp;injection hp with hp;subst hp;obtain ⟨p1,p2,rfl,h1,h2⟩:=A.law hA hc;simp only [oK,AC] at h2;subst h2;simp only [ru,h1,aa8]
    cases h
  cases h
def Arg.ref {α:Type} (A:cb α):Arg α where
 enc a:= .bw (A.enc a) 0
 dec v:=match v with
  | .bw cs 0=>match A.dec cs with
   |some p=>match p.2 with
    | []=>ahI p.1
    |_=>ahJ
   |none=>ahJ
  |_=>ahJ
 law:=fun {v a p} h hp=>by
  split at h
  · rename_i cs
    split at h
    · rename_i q hA
      obtain ⟨x,rest⟩:=q;dsimp only at h;cases rest with
      |cons _ _=>cases h
      |nil=>
       injection h with h;subst h;simp only [ru] at hp;cases hc:oK cs with
       |none=>rw [hc] at hp;cases hp
       |some l=>rw [hc] at hp;injection hp with hp;subst hp;obtain ⟨p1,p2,rfl,h1,h2⟩:=A.law hA hc;simp only [oK,AC] at h2;subst h2;simp only [ru,h1,aa8]
    cases h
  cases h
def au.nil:au Unit where
 enc _:=[]
 dec vs:=match vs with
  | []=>ahI ()
  |_=>ahJ
 law:=fun {vs a ps} h hp=>by
  split at h
  · exact hp
  cases h
def au.one {α:Type} (A:Arg α):au α where
 enc a:=[A.enc a]
 dec vs:=match vs with
  | [v]=>A.dec v
  |_=>ahJ
 law:=fun {vs a ps} h hp=>by
  split at h
  · obtain ⟨p,qs,rfl,h1,h2⟩:=dY.1 hp
    exact dY.2 ⟨p,qs,rfl,A.law h h1,h2⟩
  cases h
def au.cons {α β:Type} (A:Arg α) (B:au β):au (α×β) where
 enc a:=A.enc a.1::B.enc a.2
 dec vs:=match vs with
  |v::r=>match A.dec v with
   |some x=>match B.dec r with
    |some y=>ahI (x,y)
    |none=>ahJ
   |none=>ahJ
  | []=>ahJ
 law:=fun {vs a ps} h hp=>by
  split at h
  · split at h
    · rename_i x hx
      split at h
      · rename_i y hy
        injection h with h;subst h;obtain ⟨p,qs,rfl,h1,h2⟩:=dY.1 hp;exact dY.2 ⟨p,qs,rfl,A.law hx h1,B.law hy h2⟩
      cases h
    cases h
  cases h
def Arg.bN {α:Type} (A:au α):Arg α where
 enc a:= .bN (A.enc a)
 dec v:=match v with
  | .bN vs=>A.dec vs
  |_=>ahJ
 law:=fun {v a p} h hp=>by
  split at h
  · rename_i vs
    simp only [ru] at hp;cases hc:oK vs with
    |none=>rw [hc] at hp;cases hp
    |some l=>rw [hc] at hp;injection hp with hp;subst hp;simp only [ru,A.law h hc]
  cases h
def Arg.eA {α:Type} (f:FuncId) (A:au α):Arg α where
 enc a:= .eA f [] (A.enc a)
 dec v:=match v with
  | .eA g [] b=>bif NE g f then A.dec b else ahJ
  |_=>ahJ
 law:=fun {v a p} h hp=>by
  split at h
  · rename_i g b
    cases hg:NE g f with
    |false=>rw [hg] at h;cases h
    |true=>
     rw [hg] at h;have:=lw hg;subst this;simp only [ru,oK] at hp ⊢;cases hc:oK b with
     |none=>rw [hc] at hp;cases hp
     |some l=>rw [hc] at hp;rw [A.law h hc];exact hp
  cases h
def ry.rows {α:Type} (A:Arg α) (q r:List PT) (g:α->List (RT q)) (fn:List (RT q)->Option (List (RT r))):ry:=⟨.one A,.sl r,fun a=>fn (g a),.own,ahL⟩
def ry.clone (r:List PT):ry:=⟨.one (.sl r),.sl r,bO,.own,ahL⟩
def oT (a b c:Int):Option (Int×Int):=bif ahM (0<=a)&&ahM (0<=b)&&ahM (0<=c)&&ahM (c<=1) then ahI ((a+b+c)%18446744073709551616,(a+b+c) / 18446744073709551616) else ahJ
def ry.Oa:ry:=⟨.cons (.int .u64) (.cons (.int .u64) (.one (.int .u64))),.bN (.cons (.int .u64) (.one (.int .u64))),fun a=>oT a.1 a.2.1 a.2.2,.pure,ahL⟩
def Km:List (Nat×ry)->FuncId->List ry
 | [],_=>[]
 |(g,c)::r,f=>bif NE g f then c::Km r f else Km r f
def Kn:List (Nat×eK)->FuncId->List eK
 | [],_=>[]
 |(g,c)::r,f=>bif NE g f then c::Kn r f else Kn r f
def IC:List (Nat×Cd)->FuncId->Option Cd
 | [],_=>ahJ
 |(g,c)::r,f=>bif NE g f then ahI c else IC r f
def oU (lp:Option Nat) (c:List (Nat×ry)) (p:List (Nat×eK)) (x:List (Nat×Cd)) (rk:List (Nat×List PT)):Ctx:=⟨lp,Km c,Kn p,IC x,rk,ahL⟩
end Go.Vm
/- What a typed value says of a value of the logical machine. -/
namespace Go.Vm
def OwnAt (s:List SB) (t e n:Nat):Prop:=(∃r l,s[t]? =ahI (.arr r l)/\e=ahH r/\n=ahH l)\/s[t]? =ahI .dead
def zM (s:List SB) (t e:Nat):Prop:=(∃r l,s[t]? =ahI (.arr r l)/\e=ahH r)\/s[t]? =ahI .dead\/(∃cs,s[t]? =ahI (.box cs)/\e=1)
def Si (s:List SB) (t:Nat) (r:List PT) (i:Int) (a:RT r):Prop:=(∃l,s[t]? =ahI (.arr r l)/\aG l i=ahI a)\/s[t]? =ahI .dead
def acN (s:List SB) (t:Nat) (i:Int):Prop:=(∃r l,s[t]? =ahI (.arr r l)/\(aG l i).isSome=ahK)\/s[t]? =ahI .dead
mutual
def R (s:List SB):SV->PV->Prop
 | .gQ,_=>True
 | .undef,v=>v= .undef
 | .js,v=>v= .js
 | .dC,v=>v= .dC
 | .int k n,v=>v= .int k n
 | .bool b,v=>v= .bool b
 | .str x,v=>v= .str x
 | .agg cs,v=> ∃ps,v= .agg ps/\RL s cs ps
 | .bN cs,v=> ∃ps,v= .bN ps/\RL s cs ps
 | .sl r l,v=>v= .sl (ahH r) ahL (l.map (RT.pv r))
 | .nil e c,v=>v= .sl e c []
 | .own t ex,v=> ∃e n,v= .own t e 0 n n ex/\OwnAt s t e n
 | .pre t len cap ex,v=> ∃e,v= .own t e 0 len cap ex/\zM s t e
 | .part t off len cap ex,v=> ∃e,v= .own t e off len cap ex/\zM s t e
 | .pa t r i a off,v=>v= .ptr t (ahH r) i.toNat off/\Si s t r i a
 | .pb t i off,v=> ∃e,v= .ptr t e i.toNat off/\acN s t i
 | .bp t n off,v=>v= .ptr t n 0 off
 | .bw cs off,v=> ∃ps,v= .bw ps off/\RL s cs ps
 | .eA f a b,v=> ∃pa pb,v= .eA f pa pb/\RL s a pa/\RL s b pb
 | .mp t,v=>v= .mp t
def RL (s:List SB):List SV->List PV->Prop
 | [],ps=>ps=[]
 |x::xs,ps=> ∃p q,ps=p::q/\R s x p/\RL s xs q
end
def sY:List Int->PV
 | [a]=> .int .i64 a
 |l=> .agg (l.map (.int .i64))
def Bp (k:List Int):PV×PV:=(sY k,.bool ahK)
def DN (p:PT) (a:RT [.i .i64,p]):PV×PV:=(.int .i64 a.1,p.pv a.2)
def RB (s:List SB):SB->jQ->Prop
 | .arr r l,b=>b= .arr (ahH r) (l.map (RT.pv r))
 | .box cs,b=> ∃ps,b= .box ps/\RL s cs ps
 | .set l,b=>b= .map (l.map Bp)
 | .bA p l,b=>b= .map (l.map (DN p))
 | .dead,b=>b= .dead
structure bX (s:List SB) (p:bS):Prop where
 len:(ahH p)=ahH s
 at_: ∀(t:Nat) (b:SB),s[t]? =ahI b-> ∃q,p[t]? =ahI q/\RB s b q
def dD (s:List SB):SE->Env->Prop
 | [],e=>e=[]
 |(t,v)::r,e=> ∃p q,e=(t,p)::q/\R s v p/\dD s r q
structure yX (st:oQ) (p:St):Prop where
 env:dD st.aA st.env p.env
 aA:bX st.aA p.aA
 fz:p.fz=st.fz
 kn:p.kn=st.kn
theorem my: ∀(s l:List SB),apS s l=s++l
 | [],_=>rfl
 |b::r,l=>by simp [apS,my r l]
theorem Bq: ∀(s:List SB) (t:Nat) (b:SB),Sc s t b=s.set t b
 | [],_,_=>by simp [Sc]
 |_::_,0,_=>rfl
 |x::r,n+1,b=>by simp [Sc,Bq r n b]
theorem RL.nil {s:List SB}:RL s [] []:=rfl
theorem RL.cons {s:List SB} {x:SV} {xs:List SV} {p:PV} {q:List PV} (h:R s x p) (k:RL s xs q):RL s (x::xs) (p::q):=⟨p,q,rfl,h,k⟩
theorem RL.cons_inv {s:List SB} {x:SV} {xs:List SV} {ps:List PV} (h:RL s (x::xs) ps): ∃p q,ps=p::q/\R s x p/\RL s xs q:=h
theorem RL.mU {s:List SB}: ∀{xs:List SV} {ps:List PV},RL s xs ps->ahH ps=ahH xs
 | [],ps,h=>by rw [show ps=[] from h];rfl
 |x::xs,ps,h=>by obtain ⟨p,q,rfl,_,h2⟩:=h.cons_inv;simp [h2.mU]
theorem RL.append {s:List SB}: ∀{xs:List SV} {ps:List PV},RL s xs ps-> ∀{ys:List SV} {qs:List PV},RL s ys qs->RL s (xs++ys) (ps++qs)
 | [],ps,h,_,_,k=>by rw [show ps=[] from h];exact k
 |x::xs,ps,h,_,_,k=>by obtain ⟨p,q,rfl,h1,h2⟩:=h.cons_inv;exact RL.cons h1 (h2.append k)
theorem RL.take {s:List SB}: ∀{xs:List SV} {ps:List PV},RL s xs ps-> ∀n,RL s (xs.take n) (ps.take n)
 | [],ps,h,n=>by rw [show ps=[] from h];simp;exact RL.nil
 |x::xs,ps,h,0=>by simp;exact RL.nil
 |x::xs,ps,h,n+1=>by obtain ⟨p,q,rfl,h1,h2⟩:=h.cons_inv;exact RL.cons h1 (h2.take n)
theorem RL.drop {s:List SB}: ∀{xs:List SV} {ps:List PV},RL s xs ps-> ∀n,RL s (xs.drop n) (ps.drop n)
 | [],ps,h,n=>by rw [show ps=[] from h];simp;exact RL.nil
 |x::xs,ps,h,0=>h
 |x::xs,ps,h,n+1=>by obtain ⟨p,q,rfl,h1,h2⟩:=h.cons_inv;exact h2.drop n
theorem RL.nth {s:List SB}: ∀{xs:List SV} {ps:List PV},RL s xs ps-> ∀{n:Nat} {v:SV},Vm.nth xs n=ahI v-> ∃p,ps[n]? =ahI p/\R s v p
 | [],_,_,_,_,e=>by cases e
 |x::xs,ps,h,0,v,e=>by obtain ⟨p,q,rfl,h1,_⟩:=h.cons_inv;injection e with e;subst e;exact ⟨p,rfl,h1⟩
 |x::xs,ps,h,n+1,v,e=>by obtain ⟨p,q,rfl,_,h2⟩:=h.cons_inv;obtain ⟨p',h3,h4⟩:=h2.nth (n:=n) e;exact ⟨p',by simpa using h3,h4⟩
mutual
theorem Mw (s:List SB): ∀v:PV,R s (Va v) v
 | .undef=>rfl
 | .js=>rfl
 | .dC=>rfl
 | .int _ _=>rfl
 | .bool _=>rfl
 | .str _=>rfl
 | .agg cs=>⟨cs,rfl,vT s cs⟩
 | .bN cs=>⟨cs,rfl,vT s cs⟩
 | .sl e c rows=>by
  cases rows with
  |nil=>exact rfl
  |cons _ _=>trivial
 | .eA f a b=>⟨a,b,rfl,vT s a,vT s b⟩
 | .own .. =>trivial
 | .ptr .. =>trivial
 | .bw .. =>trivial
 | .mp _=>trivial
theorem vT (s:List SB): ∀l:List PV,RL s (Bi l) l
 | []=>rfl
 |x::xs=>RL.cons (Mw s x) (vT s xs)
end
theorem dD.lk {s:List SB}: ∀{e:SE} {p:Env},dD s e p-> ∀t,R s (Dj t e) (Vm.lk t p)
 | [],p,h,t=>by rw [show p=[] from h];rfl
 |(u,v)::r,p,h,t=>by
  obtain ⟨q,qs,rfl,h1,h2⟩:=h;simp only [Dj,Vm.lk];cases hb:NE u t with
  |true=>exact h1
  |false=>exact dD.lk h2 t
theorem dD.Ap {s:List SB}: ∀{e:SE} {p:Env},dD s e p-> ∀{t:Nat} {v:SV},R s v (Vm.lk t p)->dD s (Vm.Ap t v e) p
 | [],p,h,t,v,_=>h
 |(u,x)::r,p,h,t,v,hv=>by
  obtain ⟨q,qs,rfl,h1,h2⟩:=h;simp only [Vm.Ap];simp only [Vm.lk] at hv;cases hb:NE u t with
  |true=>rw [hb] at hv;exact ⟨q,qs,rfl,hv,h2⟩
  |false=>rw [hb] at hv;exact ⟨q,qs,rfl,h1,dD.Ap h2 hv⟩
theorem df {s:List SB} {e:SE} {p:Env} (h:dD s e p): ∀x:fc,R s (bH e x) (x.ev p)
 | .t n=>h.lk n
 | .c v=>Mw s v
theorem yY {s:List SB} {e:SE} {p:Env} (h:dD s e p): ∀l:List fc,RL s (jE e l) (Ek p l)
 | []=>rfl
 |x::xs=>RL.cons (df h x) (yY h xs)
def Fr (bad:List Nat) (s s':List SB):Prop:= ∀(t:Nat) (b:SB),s[t]? =ahI b->match b with
 | .arr r l=>(∃l',s'[t]? =ahI (.arr r l')/\ahH l'=ahH l/\(has bad t=ahL->l'=l))\/s'[t]? =ahI .dead
 | .dead=>s'[t]? =ahI .dead
 | .box _=>(∃cs,s'[t]? =ahI (.box cs))\/s'[t]? =ahI .dead
 |_=>True
theorem Fr.refl (bad:List Nat) (s:List SB):Fr bad s s:=fun t b h=>by
 cases b with
 |arr r l=>exact .inl ⟨l,h,rfl,fun _=>rfl⟩
 |dead=>exact h
 |box cs=>exact .inl ⟨cs,h⟩
 |_=>trivial
theorem Fr.app (bad:List Nat) (s l:List SB):Fr bad s (s++l):=fun t b h=>by
 have h':(s++l)[t]? =ahI b:=by have:=(ut.1 h).1;rw [v6 this];exact h
 cases b with
 |arr r l=>exact .inl ⟨l,h',rfl,fun _=>rfl⟩
 |dead=>exact h'
 |box cs=>exact .inl ⟨cs,h'⟩
 |_=>trivial
theorem Fr.trans {bad:List Nat} {a b c:List SB} (h:Fr bad a b) (k:Fr bad b c):Fr bad a c:=fun t x hx=>by
 have h1:=h t x hx;cases x with
 |arr r l=>
  rcases h1 with ⟨l',h2,h3,h4⟩|h2
  · have k1:=k t _ h2
    rcases k1 with ⟨l2,k2,k3,k4⟩|k2
    · exact .inl ⟨l2,k2,k3.trans h3,fun hb=>(k4 hb).trans (h4 hb)⟩
    exact .inr k2
  exact .inr (k t _ h2)
 |dead=>exact k t _ h1
 |box cs=>
  rcases h1 with ⟨c2,h2⟩|h2
  · exact k t _ h2
  exact .inr (k t _ h2)
 |_=>trivial
theorem Dn {α:Type} {l m:List α} {i:Int} (h:(aG l i).isSome=ahK) (hl:(ahH m)=ahH l):(aG m i).isSome=ahK:=by
 cases i with
 |ofNat n=>simp only [aG] at h ⊢;rw [acF] at h;obtain ⟨a,ha⟩:=h;have:=(ut.1 ha).1;rw [Do (by omega)];rfl
 |negSucc n=>simp [aG] at h
mutual
theorem R.fr {bad:List Nat} {s s':List SB} (hf:Fr bad s s'): ∀{v:SV} {p:PV},R s v p->R s' (Uz bad v) p
 | .gQ,_,_=>trivial
 | .undef,_,h=>h
 | .js,_,h=>h
 | .dC,_,h=>h
 | .int _ _,_,h=>h
 | .bool _,_,h=>h
 | .str _,_,h=>h
 | .agg cs,_,h=>by obtain ⟨ps,rfl,h⟩:=h;exact ⟨ps,rfl,RL.fr hf h⟩
 | .bN cs,_,h=>by obtain ⟨ps,rfl,h⟩:=h;exact ⟨ps,rfl,RL.fr hf h⟩
 | .sl _ _,_,h=>h
 | .nil _ _,_,h=>h
 | .own t ex,_,h=>by
  obtain ⟨e,n,rfl,h⟩:=h;refine ⟨e,n,rfl,?_⟩;rcases h with ⟨r,l,h1,h2,h3⟩|h1
  · rcases hf t _ h1 with ⟨l',k1,k2,_⟩|k1
    · exact .inl ⟨r,l',k1,h2,by rw [h3,k2]⟩
    exact .inr k1
  exact .inr (hf t _ h1)
 | .pre t len cap ex,_,h=>by
  obtain ⟨e,rfl,h⟩:=h;refine ⟨e,rfl,?_⟩;rcases h with ⟨r,l,h1,h2⟩|h1|⟨cs,h1,h2⟩
  · rcases hf t _ h1 with ⟨l',k1,_,_⟩|k1
    · exact .inl ⟨r,l',k1,h2⟩
    exact .inr (.inl k1)
  · exact .inr (.inl (hf t _ h1))
  rcases hf t _ h1 with ⟨c2,k1⟩|k1
  · exact .inr (.inr ⟨c2,k1,h2⟩)
  exact .inr (.inl k1)
 | .part t off len cap ex,_,h=>by
  obtain ⟨e,rfl,h⟩:=h;refine ⟨e,rfl,?_⟩;rcases h with ⟨r,l,h1,h2⟩|h1|⟨cs,h1,h2⟩
  · rcases hf t _ h1 with ⟨l',k1,_,_⟩|k1
    · exact .inl ⟨r,l',k1,h2⟩
    exact .inr (.inl k1)
  · exact .inr (.inl (hf t _ h1))
  rcases hf t _ h1 with ⟨c2,k1⟩|k1
  · exact .inr (.inr ⟨c2,k1,h2⟩)
  exact .inr (.inl k1)
 | .pa t r i a off,_,h=>by
  obtain ⟨rfl,h⟩:=h;simp only [Uz];cases hb:has bad t with
  |true=>
   refine ⟨_,rfl,?_⟩;rcases h with ⟨l,h1,h2⟩|h1
   · rcases hf t _ h1 with ⟨l',k1,k2,_⟩|k1
     · exact .inl ⟨r,l',k1,Dn (by rw [h2];rfl) k2⟩
     exact .inr k1
   exact .inr (hf t _ h1)
  |false=>
   refine ⟨rfl,?_⟩;rcases h with ⟨l,h1,h2⟩|h1
   · rcases hf t _ h1 with ⟨l',k1,_,k3⟩|k1
     · exact .inl ⟨l',k1,by rw [k3 hb];exact h2⟩
     exact .inr k1
   exact .inr (hf t _ h1)
 | .pb t i off,_,h=>by
  obtain ⟨e,rfl,h⟩:=h;refine ⟨e,rfl,?_⟩;rcases h with ⟨r,l,h1,h2⟩|h1
  · rcases hf t _ h1 with ⟨l',k1,k2,_⟩|k1
    · exact .inl ⟨r,l',k1,Dn h2 k2⟩
    exact .inr k1
  exact .inr (hf t _ h1)
 | .bp _ _ _,_,h=>h
 | .bw cs off,_,h=>by obtain ⟨ps,rfl,h⟩:=h;exact ⟨ps,rfl,RL.fr hf h⟩
 | .eA f a b,_,h=>by obtain ⟨pa,pb,rfl,h1,h2⟩:=h;exact ⟨pa,pb,rfl,RL.fr hf h1,RL.fr hf h2⟩
 | .mp _,_,h=>h
theorem RL.fr {bad:List Nat} {s s':List SB} (hf:Fr bad s s'): ∀{v:List SV} {p:List PV},RL s v p->RL s' (Sb bad v) p
 | [],_,h=>h
 |x::xs,_,h=>by obtain ⟨p,q,rfl,h1,h2⟩:=h.cons_inv;exact RL.cons (R.fr hf h1) (RL.fr hf h2)
end
mutual
theorem Ob: ∀v:SV,Uz [] v=v
 | .gQ| .undef| .js| .dC| .int _ _| .bool _| .str _| .sl _ _| .nil _ _| .own _ _| .pre _ _ _ _| .part _ _ _ _ _| .pb _ _ _| .bp _ _ _| .mp _=>rfl
 | .agg cs=>by simp only [Uz,tq cs]
 | .bN cs=>by simp only [Uz,tq cs]
 | .bw cs _=>by simp only [Uz,tq cs]
 | .eA _ a b=>by simp only [Uz,tq a,tq b]
 | .pa t r i a off=>by simp [Uz,has]
theorem tq: ∀v:List SV,Sb [] v=v
 | []=>rfl
 |x::xs=>by simp only [Sb,Ob x,tq xs]
end
theorem R.ext {s s':List SB} (hf:Fr [] s s') {v:SV} {p:PV} (h:R s v p):R s' v p:=by
 have:=R.fr hf h
 rwa [Ob] at this
theorem RL.ext {s s':List SB} (hf:Fr [] s s') {v:List SV} {p:List PV} (h:RL s v p):RL s' v p:=by
 have:=RL.fr hf h
 rwa [tq] at this
theorem RB.fr {bad:List Nat} {s s':List SB} (hf:Fr bad s s') {b:SB} {p:jQ} (h:RB s b p):RB s' (Vg bad b) p:=by
 cases b with
 |box cs=>obtain ⟨ps,rfl,h⟩:=h;exact ⟨ps,rfl,RL.fr hf h⟩
 |_=>exact h
theorem RB.ext {s s':List SB} (hf:Fr [] s s') {b:SB} {p:jQ} (h:RB s b p):RB s' b p:=by
 cases b with
 |box cs=>obtain ⟨ps,rfl,h⟩:=h;exact ⟨ps,rfl,RL.ext hf h⟩
 |_=>exact h
theorem dD.fr {bad:List Nat} {s s':List SB} (hf:Fr bad s s'): ∀{e:SE} {p:Env},dD s e p->dD s' (dgE bad e) p
 | [],_,h=>h
 |(t,v)::r,_,h=>by obtain ⟨p,q,rfl,h1,h2⟩:=h;exact ⟨p,q,rfl,R.fr hf h1,dD.fr hf h2⟩
theorem dD.ext {s s':List SB} (hf:Fr [] s s'): ∀{e:SE} {p:Env},dD s e p->dD s' e p
 | [],_,h=>h
 |(t,v)::r,_,h=>by obtain ⟨p,q,rfl,h1,h2⟩:=h;exact ⟨p,q,rfl,R.ext hf h1,dD.ext hf h2⟩
theorem bX.app {s:List SB} {p:bS} (h:bX s p) {l:List SB} {q:bS} (hl:(ahH q)=ahH l) (hb: ∀(j:Nat) (b:SB),l[j]? =ahI b-> ∃x,q[j]? =ahI x/\RB (s++l) b x):bX (s++l) (p++q) where
 len:=by simp [h.len,hl]
 at_:=fun t b ht=>by
  rcases abB t (ahH s) with c7|hge
  · rw [v6 c7] at ht
    obtain ⟨x,h1,h2⟩:=h.at_ t b ht;exact ⟨x,by rw [v6 (by rw [h.len];exact c7)];exact h1,h2.ext (Fr.app [] s l)⟩
  rw [ww hge] at ht
  obtain ⟨x,h1,h2⟩:=hb _ b ht;exact ⟨x,by rw [ww (by rw [h.len];exact hge),h.len];exact h1,h2⟩
theorem rz (ts:List Nat): ∀(s:List SB) (t:Nat),(B9 ts s)[t]? =(s[t]?).map (Vg ts)
 | [],t=>by simp [B9]
 |b::r,0=>by simp [B9]
 |b::r,t+1=>by simp [B9,rz ts r t]
theorem vU (ts:List Nat): ∀(s:List SB),(B9 ts s).length=ahH s
 | []=>rfl
 |b::r=>by simp [B9,vU ts r]
theorem Fr.dg {bad ts:List Nat} {s s':List SB} (h:Fr bad s s'):Fr bad s (B9 ts s'):=fun t b hb=>by
 have h1:=h t b hb;cases b with
 |arr r l=>
  rcases h1 with ⟨l',h2,h3,h4⟩|h2
  · exact .inl ⟨l',by rw [rz,h2];rfl,h3,h4⟩
  exact .inr (by rw [rz,h2];rfl)
 |dead=>show (B9 ts s')[t]? =_;rw [rz,h1];rfl
 |box cs=>
  rcases h1 with ⟨c2,h2⟩|h2
  · exact .inl ⟨Sb ts c2,by rw [rz,h2];rfl⟩
  exact .inr (by rw [rz,h2];rfl)
 |_=>trivial
theorem Hn {s:List SB}: ∀(r:List PT) (a:RT r),RL s (RT.sv r a) (RT.pv r a)
 | [],_=>rfl
 | [p],a=>by refine RL.cons ?_ RL.nil;cases p<;>rfl
 |p::q::r,a=>by refine RL.cons ?_ (Hn (q::r) a.2);cases p<;>rfl
theorem yZ {s:List SB}: ∀(r:List PT) (a:RT r) {ps:List PV},RL s (RT.sv r a) ps->ps=RT.pv r a
 | [],_,ps,h=>h
 | [p],a,ps,h=>by obtain ⟨x,q,rfl,h1,h2⟩:=h.cons_inv;have PS:q=[]:=h2;subst PS;cases p<;>(have LM:=h1;simp only [PT.sv,R] at LM;rw [LM];rfl)
 |p::q::r,a,ps,h=>by obtain ⟨x,qs,rfl,h1,h2⟩:=h.cons_inv;rw [yZ (q::r) a.2 h2];cases p<;>(have LM:=h1;simp only [PT.sv,R] at LM;rw [LM];rfl)
theorem RT.plain: ∀(r:List PT) (a:RT r),(RT.pv r a).all PV.plain=ahK
 | [],_=>rfl
 | [p],a=>by cases p<;>rfl
 |p::q::r,a=>by have:=RT.plain (q::r) a.2;cases p<;>(simp only [RT.pv,agd,this,ac2];rfl)
theorem R.cells {s:List SB} {v:SV} {p:PV} (h:R s v p) (hj:v≠ .gQ):RL s v.cells p.cells:=by
 cases v with
 |gQ=>exact absurd rfl hj
 |agg cs=>obtain ⟨ps,rfl,h⟩:=h;exact h
 |undef=>rw [show p= .undef from h];exact RL.cons rfl RL.nil
 |js=>rw [show p= .js from h];exact RL.cons rfl RL.nil
 |dC=>rw [show p= .dC from h];exact RL.cons rfl RL.nil
 |int k n=>rw [show p= .int k n from h];exact RL.cons rfl RL.nil
 |bool b=>rw [show p= .bool b from h];exact RL.cons rfl RL.nil
 |str x=>rw [show p= .str x from h];exact RL.cons rfl RL.nil
 |sl r l=>rw [show p=_ from h];exact RL.cons rfl RL.nil
 |nil e c=>rw [show p=_ from h];exact RL.cons rfl RL.nil
 |bp t n o=>rw [show p=_ from h];exact RL.cons rfl RL.nil
 |mp t=>rw [show p=_ from h];exact RL.cons rfl RL.nil
 |bN cs=>obtain ⟨ps,rfl,h⟩:=h;exact RL.cons ⟨ps,rfl,h⟩ RL.nil
 |own t ex=>obtain ⟨e,n,rfl,h⟩:=h;exact RL.cons ⟨e,n,rfl,h⟩ RL.nil
 |pre t a b c=>obtain ⟨e,rfl,h⟩:=h;exact RL.cons ⟨e,rfl,h⟩ RL.nil
 |part t o a b c=>obtain ⟨e,rfl,h⟩:=h;exact RL.cons ⟨e,rfl,h⟩ RL.nil
 |pa t r i a o=>obtain ⟨rfl,h⟩:=h;exact RL.cons ⟨rfl,h⟩ RL.nil
 |pb t i o=>obtain ⟨e,rfl,h⟩:=h;exact RL.cons ⟨e,rfl,h⟩ RL.nil
 |bw cs o=>obtain ⟨ps,rfl,h⟩:=h;exact RL.cons ⟨ps,rfl,h⟩ RL.nil
 |eA f a b=>obtain ⟨pa,pb,rfl,h⟩:=h;exact RL.cons ⟨pa,pb,rfl,h⟩ RL.nil
theorem R.p7 {s:List SB} {v:SV} {p:PV} (h:R s v p) (ho:v.p7=ahK):p.p7=ahK:=by
 cases v with
 |gQ|undef|js|agg _|bN _=>cases ho
 |dC|int _ _|bool _|str _|sl _ _|nil _ _|bp _ _ _|mp _=>rw [show p=_ from h];rfl
 |own t ex=>obtain ⟨e,n,rfl,h⟩:=h;rfl
 |pre t a b c=>obtain ⟨e,rfl,h⟩:=h;rfl
 |part t o a b c=>obtain ⟨e,rfl,h⟩:=h;rfl
 |pa t r i a o=>obtain ⟨rfl,h⟩:=h;rfl
 |pb t i o=>obtain ⟨e,rfl,h⟩:=h;rfl
 |bw cs o=>obtain ⟨ps,rfl,h⟩:=h;rfl
 |eA f a b=>obtain ⟨pa,pb,rfl,h⟩:=h;rfl
theorem RL.ya {s:List SB}: ∀{cs:List SV} {ps:List PV},RL s cs ps->Vm.ya cs=ahK->ps.all PV.p7=ahK
 | [],ps,h,_=>by rw [show ps=[] from h];rfl
 |x::xs,ps,h,ho=>by obtain ⟨p,q,rfl,h1,h2⟩:=h.cons_inv;simp only [Vm.ya,pp] at ho;simp only [agd,pp];exact ⟨h1.p7 ho.1,h2.ya ho.2⟩
theorem R.stored {s:List SB} {v:SV} {p:PV} {w:List SV} (h:R s v p) (hs:v.stored=ahI w): ∃q,p.stored=ahI q/\RL s w q:=by
 unfold SV.stored at hs;cases ha:Vm.ya v.cells with
 |false=>rw [ha] at hs;cases hs
 |true=>
  rw [ha] at hs;injection hs with hs;subst hs;have hj:v≠ .gQ:=by intro e;subst e;cases ha
  have hc:=h.cells hj;exact ⟨p.cells,by unfold PV.stored;rw [lm (hc.ya ha)],hc⟩
theorem R.ofRow {s:List SB} {v:SV} {p:PV} {r:List PT} {a:RT r} (h:R s v p) (hr:RT.of r v.cells=ahI a):p.bW=ahI (RT.pv r a)/\ahH v.cells=(ahH r):=by
 have hc:=RT.pH hr;have hl:(ahH v.cells)=(ahH r):=by rw [hc,RT.IB]
 refine ⟨?_,hl⟩;have hj:v≠ .gQ:=by
  intro e;subst e;cases r with
  |nil=>simp [SV.cells,RT.of] at hr
  |cons p q=>cases q with
   |nil=>cases p<;>simp [SV.cells,RT.of,PT.of] at hr
   |cons _ _=>simp only [SV.cells,RT.of] at hr;split at hr<;>cases hr<;>(rename_i x y h1 h2;simp at h2)
 have h1:=h.cells hj;rw [hc] at h1;have h2:=yZ r a h1;unfold PV.bW;rw [h2,lm (RT.plain r a)]
theorem tu {s:List SB} {agg:Option Nat} {off:Nat} {cs:List SV} {ps:List PV} {v:SV} (h:RL s cs ps) (hp:zJ agg off cs=ahI v): ∃p,part agg off ps=ahI p/\R s v p:=by
 cases agg with
 |none=>obtain ⟨p,h1,h2⟩:=h.nth hp;exact ⟨p,h1,h2⟩
 |some n=>
  simp only [zJ] at hp;cases hb:IR (off+n) (ahH cs) with
  |false=>rw [hb] at hp;cases hp
  |true=>
   rw [hb] at hp;injection hp with hp;subst hp;have:off+n<=(ahH ps):=by rw [h.mU];exact UV hb
   exact ⟨.agg ((ps.drop off).take n),by simp only [part,lm this],_,rfl,(h.drop off).take n⟩
theorem y4 {s:List SB} {off:Nat} {new old:List SV} {pn po:List PV} (h:RL s new pn) (k:RL s old po):RL s (pF off new old) (nK off pn po):=by unfold pF nK;rw [h.mU];exact ((k.take off).append h).append (k.drop _)
theorem Oe {s:List SB} {ps:bS} {v:SV} {p:PV} {r:List PT} {l:List (RT r)} (hs:bX s ps) (h:R s v p) (hc:zK s v=ahI ⟨r,l⟩):
 rowsOf ps (ahH r) p=ahI (l.map (RT.pv r))/\iP p=vQ v:=by
 cases v with
 |sl q m=>
  have A4:(⟨q,m⟩:Rows)=⟨r,l⟩:=by injection hc
  cases A4;rw [show p=_ from h];refine ⟨?_,rfl⟩;cases l with
  |nil=>rfl
  |cons a l=>simp [rowsOf]
 |own t ex=>
  simp only [zK,bP] at hc;split at hc
  · rename_i q m bM
    have A4:(⟨q,m⟩:Rows)=⟨r,l⟩:=by injection hc
    cases A4;obtain ⟨e,n,rfl,cJ⟩:=h;rcases cJ with ⟨q',m',h1,rfl,rfl⟩|h1
    · rw [bM] at h1
      injection h1 with h1;cases h1;obtain ⟨b,h2,h3⟩:=hs.at_ t _ bM;rw [show b=_ from h3] at h2;refine ⟨?_,rfl⟩;simp only [rowsOf,aaI,if_true,h2,abc];rw [aba (by simp)]
    rw [bM] at h1;cases h1
  cases hc
 |pre t len cap ex=>
  simp only [zK,bP] at hc;split at hc
  · rename_i q m bM
    have A4:(⟨q,m.take len⟩:Rows)=⟨r,l⟩:=by injection hc
    cases A4;obtain ⟨e,rfl,cJ⟩:=h;rcases cJ with ⟨q',m',h1,rfl⟩|h1|⟨_,h1,_⟩
    · rw [bM] at h1
      injection h1 with h1;cases h1;obtain ⟨b,h2,h3⟩:=hs.at_ t _ bM;rw [show b=_ from h3] at h2;refine ⟨?_,rfl⟩;simp only [rowsOf,aaI,if_true,h2];simp
    · rw [bM] at h1;cases h1
    rw [bM] at h1;cases h1
  cases hc
 |part t off len cap ex=>
  simp only [zK,bP] at hc;split at hc
  · rename_i q m bM
    have A4:(⟨q,(m.drop off).take len⟩:Rows)=⟨r,l⟩:=by injection hc
    cases A4;obtain ⟨e,rfl,cJ⟩:=h;rcases cJ with ⟨q',m',h1,rfl⟩|h1|⟨_,h1,_⟩
    · rw [bM] at h1
      injection h1 with h1;cases h1;obtain ⟨b,h2,h3⟩:=hs.at_ t _ bM;rw [show b=_ from h3] at h2;refine ⟨?_,rfl⟩;simp only [rowsOf,aaI,if_true,h2];simp
    · rw [bM] at h1;cases h1
    rw [bM] at h1;cases h1
  cases hc
 |_=>cases hc
end Go.Vm
/- Operation by operation: what the typed machine does, the logical machine does; the easy ones. -/
namespace Go.Vm
structure Good (s:List SB) (ps:bS) (sr:fJ) (pr:nL):Prop where
 rd:pr.rd=sr.rd
 fr:pr.fr=sr.fr
 wr:pr.wr.map (·.1)=ye sr.wr
 nw:vD pr.wr=ahK
 nl:(ahH pr.news)=ahH sr.news
 aA:bX (sr.nu s) (JA (fP pr.wr ps) pr.news)
 v:R (sr.nu s) sr.v pr.v
 fra:Fr (ye sr.wr) s (sr.nu s)
section
variable {s : List SB} {ps : bS}
theorem Good.val (hS:bX s ps) {v:SV} {p:PV} {rd fr:List Nat} (hv:R s v p):Good s ps {v,rd,fr} {v:=p,rd,fr} where
 rd:=rfl
 fr:=rfl
 wr:=rfl
 nw:=rfl
 nl:=rfl
 aA:=by simp only [fJ.nu,my,aa8,fP,JA];exact hS
 v:=by simp only [fJ.nu,my,aa8];exact hv
 fra:=by simp only [fJ.nu,my,aa8];exact Fr.refl _ _
theorem Good.news (hS:bX s ps) {v:SV} {p:PV} {l:List SB} {q:bS} {rd:List Nat} (hl:(ahH q)=ahH l) (hb: ∀(j:Nat) (b:SB),l[j]? =ahI b-> ∃x,q[j]? =ahI x/\RB (s++l) b x) (hv:R (s++l) v p):
 Good s ps {v,news:=l,rd} {v:=p,news:=q,rd} where
 rd:=rfl
 fr:=rfl
 wr:=rfl
 nw:=rfl
 nl:=hl
 aA:=by simp only [fJ.nu,my,fP,qX];exact hS.app hl hb
 v:=by simp only [fJ.nu,my];exact hv
 fra:=by simp only [fJ.nu,my];exact Fr.app _ _ _
theorem Good.new (hS:bX s ps) {v:SV} {p:PV} {b:SB} {q:jQ} {rd:List Nat} (hb:RB (s++[b]) b q) (hv:R (s++[b]) v p):Good s ps {v,news:=[b],rd} {v:=p,news:=[q],rd}:=
 Good.news hS rfl (fun j x h=>by
  cases j with
  |zero=>simp at h;subst h;exact ⟨q,rfl,hb⟩
  |succ j=>simp at h) hv
def Of (b0 b:SB):Prop:=
 match b0 with
 | .arr r l=>(∃l',b= .arr r l'/\ahH l'=ahH l)\/b= .dead
 | .dead=>b= .dead
 | .box _=>(∃cs,b= .box cs)\/b= .dead
 |_=>True
theorem Fr.set {t:Nat} {b0 b:SB} (h0:s[t]? =ahI b0) (hk:Of b0 b):Fr [t] s (s.set t b):=fun u x hu=>by
 by_cases LN:t=u
 · subst LN
   rw [h0] at hu;injection hu with hu;subst hu;have c7:=(ut.1 h0).1;have hb:(s.set t b)[t]? =ahI b:=by simp [c7]
   cases b0 with
   |arr r l=>
    rcases hk with ⟨l',rfl,hl⟩|rfl
    · exact .inl ⟨l',hb,hl,fun h=>by simp [has] at h⟩
    exact .inr hb
   |dead=>rw [show b= .dead from hk] at hb ⊢;exact hb
   |box cs=>
    rcases hk with ⟨c2,rfl⟩|rfl
    · exact .inl ⟨c2,hb⟩
    exact .inr hb
   |_=>trivial
 have hb:(s.set t b)[u]? =ahI x:=by rw [If];simp [LN,hu]
 cases x with
 |arr r l=>exact .inl ⟨l,hb,rfl,fun _=>rfl⟩
 |dead=>exact hb
 |box cs=>exact .inl ⟨cs,hb⟩
 |_=>trivial
theorem bX.put (hS:bX s ps) {t:Nat} {b0 b:SB} {q:jQ} (h0:s[t]? =ahI b0) (hk:Of b0 b) (hq:RB (B9 [t] (s.set t b)) (Vg [t] b) q):bX (B9 [t] (s.set t b)) (ps.set t q) where
 len:=by simp [vU,hS.len]
 at_:=fun u x hu=>by
  have c7:=(ut.1 h0).1;rw [rz] at hu
  by_cases LN:t=u
  · subst LN
    have hb:(s.set t b)[t]? =ahI b:=by simp [c7]
    rw [hb] at hu;simp at hu;subst hu;exact ⟨q,by rw [If];simp [hS.len,c7],hq⟩
  rw [If] at hu
  simp only [LN,if_false,ab2] at hu;obtain ⟨y,hy,rfl⟩:=hu;obtain ⟨q',h1,h2⟩:=hS.at_ u y hy;exact ⟨q',by rw [If];simp [LN,h1],h2.fr (Fr.dg (Fr.set h0 hk))⟩
theorem Good.put (hS:bX s ps) {v:SV} {p:PV} {t:Nat} {b0 b:SB} {q:jQ} {l:List SB} {ql:bS} {rd:List Nat} (h0:s[t]? =ahI b0) (hk:Of b0 b) (hq:RB (B9 [t] (s.set t b)) (Vg [t] b) q)
 (hl:(ahH ql)=ahH l) (hb: ∀(j:Nat) (x:SB),l[j]? =ahI x-> ∃y,ql[j]? =ahI y/\RB (B9 [t] (s.set t b)++l) x y) (hv:R (B9 [t] (s.set t b)++l) v p):
 Good s ps {v,wr:=[(t,b)],news:=l,rd} {v:=p,wr:=[(t,q)],news:=ql,rd} where
 rd:=rfl
 fr:=rfl
 wr:=rfl
 nw:=rfl
 nl:=hl
 aA:=by simp only [fJ.nu,my,fP,qX,ye,qL,Bq];exact (hS.put h0 hk hq).app hl hb
 v:=by simp only [fJ.nu,my,ye,qL,Bq];exact hv
 fra:=by simp only [fJ.nu,my,ye,qL,Bq];exact (Fr.dg (Fr.set h0 hk)).trans (Fr.app _ _ _)
theorem Good.Sj (hS:bX s ps) {t:Nat} {b0 b:SB} {q:jQ} {rd:List Nat} (h0:s[t]? =ahI b0) (hk:Of b0 b) (hq:RB (B9 [t] (s.set t b)) (Vg [t] b) q):
 Good s ps {v:= .undef,wr:=[(t,b)],rd} {v:= .undef,wr:=[(t,q)],rd}:=
 Good.put hS h0 hk hq rfl (fun j x h=>by simp at h) rfl
end
section
variable {R' ρ : Type} {w : R' -> ρ} {y : ρ}
theorem bC {α:Type} {x:Option α} {k:α->gb R'} (h:lB x k ρ w=ahI y): ∃a,x=ahI a/\k a ρ w=ahI y:=by
 cases x with
 |none=>cases h
 |some a=>exact ⟨a,rfl,h⟩
theorem ck {α:Type} {x:Option α} {k:α->gb R'} (h:k8 x k ρ w=ahI y): ∃a,x=ahI a/\k a ρ w=ahI y:=Mh h
theorem eF {c:Bool} {a b:gb R'} (h:fO c a b ρ w=ahI y):(c=ahK/\a ρ w=ahI y)\/(c=ahL/\b ρ w=ahI y):=Mi h
theorem cm {c:Bool} {a:gb R'} (h:(bif c then a else aM) ρ w=ahI y):c=ahK/\a ρ w=ahI y:=by
 cases c
 · cases h
 exact ⟨rfl,h⟩
theorem rN {c:Bool} {a:gb R'} (h:(bif c then aM else a) ρ w=ahI y):c=ahL/\a ρ w=ahI y:=by
 cases c
 · exact ⟨rfl,h⟩
 cases h
theorem ic {c:Bool} {a:gb R'} (h:fO c a aM ρ w=ahI y):c=ahK/\a ρ w=ahI y:=by
 rcases eF h with ⟨h1,h2⟩|⟨_,h2⟩
 · exact ⟨h1,h2⟩
 cases h2
theorem vV {c:Bool} {a:gb R'} (h:fO c aM a ρ w=ahI y):c=ahL/\a ρ w=ahI y:=by
 rcases eF h with ⟨_,h2⟩|⟨h1,h2⟩
 · cases h2
 exact ⟨h1,h2⟩
end
def gl {R':Type} (s:List SB) (ps:bS) (po:Option nL) (k:fJ->gb R') (ρ:Type) (w:R'->ρ) (y:ρ):Prop:=
 ∃sr pr,po=ahI pr/\Good s ps sr pr/\k sr ρ w=ahI y
section
variable {R' ρ : Type} {w : R' -> ρ} {y : ρ} {s : List SB} {ps : bS} {e : SE} {pe : Env} {z : List Nat} {k : fJ -> gb R'}
theorem gl.val (hS:bX s ps) {po:Option nL} {v:SV} {p:PV} (h:k {v} ρ w=ahI y) (hp:po=ahI {v:=p}) (hv:R s v p):gl s ps po k ρ w y:=
 ⟨_,_,hp,Good.val hS hv,h⟩
theorem gl.rd (hS:bX s ps) {po:Option nL} {v:SV} {p:PV} {rd:List Nat} (h:k {v,rd} ρ w=ahI y) (hp:po=ahI {v:=p,rd}) (hv:R s v p):gl s ps po k ρ w y:=
 ⟨_,_,hp,Good.val hS hv,h⟩
theorem mX (hE:dD s e pe) {x:fc} {a:IntKind} {n:Int} (h:bH e x= .int a n):x.ev pe= .int a n:=by have:=df hE x;rw [h] at this;exact this
theorem Br (hE:dD s e pe) {x:fc} {b:Bool} (h:bH e x= .bool b):x.ev pe= .bool b:=by have:=df hE x;rw [h] at this;exact this
theorem PU (hE:dD s e pe) {x:fc} {v:SV} (h:bH e x=v):R s v (x.ev pe):=by have:=df hE x;rwa [h] at this
theorem Ko (k:IntKind):eX k k=ahK:=by cases k<;>rfl
theorem Mx (hS:bX s ps) {op:BinOp} {a:IntKind} {m n:Int} (h:Mk op a m n (ofV k) ρ w=ahI y): ∃p,arith op a m n=ahI p/\gl s ps (ahI {v:=p}) k ρ w y:=by
 cases op with
 |quo=>
  obtain ⟨h1,h2⟩:=vV h;have hn:n≠0:=by intro e;subst e;cases h1
  exact ⟨_,by simp only [arith,ls hn],gl.val hS h2 rfl rfl⟩
 |rem=>
  obtain ⟨h1,h2⟩:=vV h;have hn:n≠0:=by intro e;subst e;cases h1
  exact ⟨_,by simp only [arith,ls hn],gl.val hS h2 rfl rfl⟩
 |shl=>cases h
 |shr=>cases h
 |_=>exact ⟨_,rfl,gl.val hS h rfl rfl⟩
theorem Vl (hE:dD s e pe) (hS:bX s ps) {op:BinOp} {a b:fc} (h:mw e s z (.bin op a b) k ρ w=ahI y):gl s ps (bq pe ps z (.bin op a b)) k ρ w y:=by
 simp only [mw] at h;generalize ha:bH e a=va at h;cases va with
 |int ka m=>
  generalize hb:bH e b=vb at h;cases vb with
  |int kb n=>
   have h1:=mX hE ha;have h2:=mX hE hb;have key:(op≠ .shl)->(op≠ .shr)->(bif eX ka kb then Mk op ka m n (ofV k) else aM) ρ w=ahI y->gl s ps (bq pe ps z (.bin op a b)) k ρ w y:=by
    intro n1 n2 h;obtain ⟨hk,h⟩:=cm h;obtain ⟨p,hp,hs⟩:=Mx hS h;have:bq pe ps z (.bin op a b)=ahI {v:=p}:=by simp only [bq,h1,h2];cases op<;>first|exact absurd rfl n1|exact absurd rfl n2|(simp only [O7,hk,if_true,hp];rfl)
    rw [this];exact hs
   cases op with
   |shl=>
    obtain ⟨hc,h⟩:=vV h;have A4: ¬n<0:=by simpa using hc
    exact gl.val hS h (by simp only [bq,h1,h2,O7,Ca,ls A4];rfl) rfl
   |shr=>
    obtain ⟨hc,h⟩:=vV h;have A4: ¬n<0:=by simpa using hc
    exact gl.val hS h (by simp only [bq,h1,h2,O7,Ca,ls A4];rfl) rfl
   |_=>exact key (by intro e;cases e) (by intro e;cases e) h
  |_=>cases h
 |_=>cases h
theorem Sk (hE:dD s e pe) (hS:bX s ps) {neg:Bool} {a b:fc} (h:mw e s z (.Jt neg a b) k ρ w=ahI y):gl s ps (bq pe ps z (.Jt neg a b)) k ρ w y:=by
 simp only [mw] at h;generalize ha:bH e a=va at h;cases va with
 |bool x=>
  generalize hb:bH e b=vb at h;cases vb with
  |bool x'=>refine gl.val hS h ?_ rfl;simp only [bq,Br hE ha,Br hE hb];cases neg<;>rfl
  |_=>cases h
 |_=>cases h
theorem Sl: ∀{xs ys:List SV} {ps qs:List PV} {r:Bool},RL s xs ps->RL s ys qs->eqS xs ys=ahI r->cX ps qs=ahI r
 | [],[],ps,qs,r,h1,h2,h=>by rw [show ps=[] from h1,show qs=[] from h2];exact h
 |x::xs,b::ys,ps,qs,r,h1,h2,h=>by
  obtain ⟨p,ps,rfl,a1,a2⟩:=h1.cons_inv;obtain ⟨q,qs,rfl,b1,b2⟩:=h2.cons_inv;simp only [eqS] at h;split at h
  · rename_i ka m kb n
    have a1':p= .int ka m:=a1;have b1':q= .int kb n:=b1;subst a1' b1';cases hk:eX ka kb with
    |false=>rw [hk] at h;cases h
    |true=>
     rw [hk] at h;have hc:qG (.int ka m) (.int kb n)=ahI (m==n):=by simp only [qG,hk,if_true]
     simp only [cX,hc];cases xs with
     |nil=>
      cases ys with
      |nil=>simp only [kw,AC] at h;subst h;rw [show ps=[] from a2,show qs=[] from b2];cases m==n<;>rfl
      |cons _ _=>cases h
     |cons x2 xs2=>
      simp only [kw] at h;split at h
      · rename_i r' hr
        injection h with h;subst h;rw [Sl a2 b2 hr];cases m==n<;>rfl
      cases h
  cases h
 | [],_::_,ps,qs,r,h1,h2,h=>by cases h
 |_::_,[],ps,qs,r,h1,h2,h=>by cases h
theorem Vn (hE:dD s e pe) (hS:bX s ps) {n:Nat} {neg:Bool} {a b:fc} (h:mw e s z (.eqc n neg a b) k ρ w=ahI y):gl s ps (bq pe ps z (.eqc n neg a b)) k ρ w y:=by
 simp only [mw] at h;generalize ha:bH e a=va at h;cases va with
 |agg xs=>
  generalize hb:bH e b=vb at h;cases vb with
  |agg ys=>obtain ⟨hl,h⟩:=cm h;obtain ⟨r,hr,h⟩:=bC h;obtain ⟨p,hp,h1⟩:=PU hE ha;obtain ⟨q,hq,h2⟩:=PU hE hb;refine gl.val hS h ?_ rfl;simp only [bq,hp,hq,h1.mU,h2.mU];rw [lm hl,Sl h1 h2 hr];cases neg<;>rfl
  |_=>cases h
 |_=>cases h
theorem acO (hE:dD s e pe) (hS:bX s ps) {op:UnOp} {a:fc} (h:mw e s z (.un op a) k ρ w=ahI y):gl s ps (bq pe ps z (.un op a)) k ρ w y:=by
 simp only [mw] at h;cases op with
 |neg=>
  dsimp only at h;generalize ha:bH e a=va at h;cases va with
  |int ka n=>exact gl.val hS h (by simp only [bq,mX hE ha];rfl) rfl
  |_=>cases h
 |not=>
  dsimp only at h;generalize ha:bH e a=va at h;cases va with
  |bool b=>exact gl.val hS h (by simp only [bq,Br hE ha];rfl) rfl
  |_=>cases h
 |_=>cases h
theorem Sm (hE:dD s e pe) (hS:bX s ps) {a:IntKind} {x:fc} (h:mw e s z (.conv a x) k ρ w=ahI y):gl s ps (bq pe ps z (.conv a x)) k ρ w y:=by
 simp only [mw] at h;generalize ha:bH e x=va at h;cases va with
 |int ka n=>exact gl.val hS h (by simp only [bq,mX hE ha]) rfl
 |_=>cases h
theorem Vo (hE:dD s e pe) (hS:bX s ps) {x:fc} (h:mw e s z (.len x) k ρ w=ahI y):gl s ps (bq pe ps z (.len x)) k ρ w y:=by
 simp only [mw] at h;have hx:=df hE x;generalize bH e x=v at h hx;cases v with
 |nil e' c=>exact gl.val hS h (by simp only [bq,show x.ev pe= .sl e' c [] from hx];rfl) rfl
 |pre t len cap ex=>obtain ⟨e',hx,_⟩:=hx;exact gl.val hS h (by simp only [bq,hx]) rfl
 |part t off len cap ex=>obtain ⟨e',hx,_⟩:=hx;exact gl.val hS h (by simp only [bq,hx]) rfl
 |sl q m=>exact gl.val hS h (by simp only [bq,show x.ev pe=_ from hx,aa9]) rfl
 |own t ex=>
  obtain ⟨c,hc,h⟩:=bC h;simp only [zK,bP] at hc;split at hc
  · rename_i q m bM
    injection hc with hc;subst hc;obtain ⟨e',n,hx,cJ⟩:=hx;rcases cJ with ⟨q',m',h1,rfl,rfl⟩|h1
    · rw [bM] at h1;injection h1 with h1;cases h1
      exact gl.val hS h (by simp only [bq,hx]) rfl
    rw [bM] at h1;cases h1
  cases hc
 |_=>obtain ⟨c,hc,h⟩:=bC h;cases hc
theorem Bs: ∀{l:List (Nat×Nat×SV)} {pl:List (Nat×Nat×PV)} {cs:List SV} {pc:List PV} {r:List SV},
 (ahH pl=ahH l/\ ∀(j:Nat) (a:Nat×Nat×SV),l[j]? =ahI a-> ∃b,pl[j]? =ahI (a.1,a.2.1,b)/\R s a.2.2 b)->RL s cs pc->vR l cs=ahI r-> ∃q,nh pl pc=ahI q/\RL s r q
 | [],pl,cs,pc,r,hl,hc,h=>by have:pl=[]:=abR.1 hl.1;subst this;injection h with h;subst h;exact ⟨pc,rfl,hc⟩
 |(off,sz,v)::l,pl,cs,pc,r,hl,hc,h=>by
  cases pl with
  |nil=>simp at hl
  |cons p pl=>
   obtain ⟨b,h1,h2⟩:=hl.2 0 _ rfl;simp at h1;subst h1;simp only [vR] at h;split at h
   · rename_i w hw
     obtain ⟨q,hq,hqr⟩:=h2.stored hw;cases Vp:(NE (ahH w) sz&&IR (off+sz) (ahH cs)) with
     |false=>rw [Vp] at h;cases h
     |true=>rw [Vp] at h;simp only [kw] at h;obtain ⟨q2,h3,h4⟩:=Bs (pl:=pl) ⟨by simpa using hl.1,fun j a ha=>hl.2 (j+1) a (by simpa using ha)⟩ (y4 hqr hc) h;refine ⟨q2,?_,h4⟩;simp only [nh,hq,hqr.mU,hc.mU];rw [lm Vp];exact h3
   cases h
theorem Kq (hE:dD s e pe): ∀(l:List (Nat×Nat×fc)),((l.map fun p=>(p.1,p.2.1,p.2.2.ev pe)).length=(yb e l).length/\ ∀(j:Nat) (a:Nat×Nat×SV),(yb e l)[j]? =ahI a-> ∃b,(l.map fun p=>(p.1,p.2.1,p.2.2.ev pe))[j]? =ahI (a.1,a.2.1,b)/\R s a.2.2 b)
 | []=>⟨rfl,fun j a h=>by simp [yb] at h⟩
 |p::l=>by
  obtain ⟨h1,h2⟩:=Kq hE l;refine ⟨by simp [yb] at h1 ⊢;omega,fun j a h=>?_⟩;cases j with
  |zero=>simp [yb] at h;subst h;exact ⟨_,rfl,df hE _⟩
  |succ j=>simp only [yb,abd] at h;obtain ⟨b,h3,h4⟩:=h2 j a h;exact ⟨b,by simpa using h3,h4⟩
theorem PW (hE:dD s e pe) (hS:bX s ps) {zero:List PV} {parts:List (Nat×Nat×fc)} (h:mw e s z (.build zero parts) k ρ w=ahI y):gl s ps (bq pe ps z (.build zero parts)) k ρ w y:=by simp only [mw] at h;obtain ⟨cs,hc,h⟩:=bC h;obtain ⟨q,hq,hr⟩:=Bs (Kq hE parts) (vT s zero) hc;exact gl.val hS h (by simp only [bq,hq];rfl) ⟨q,rfl,hr⟩
theorem Vq (hE:dD s e pe) (hS:bX s ps) {x:fc} (h:mw e s z (.box x) k ρ w=ahI y):gl s ps (bq pe ps z (.box x)) k ρ w y:=by simp only [mw] at h;obtain ⟨cs,hc,h⟩:=bC h;obtain ⟨q,hq,hr⟩:=(df hE x).stored hc;refine ⟨_,_,?_,Good.new hS (b:= .box cs) (q:= .box q) (v:= .bp (ahH s) (ahH cs) 0) (p:= .ptr (ahH s) (ahH cs) 0 0) (rd:=[]) ⟨q,rfl,hr.ext (Fr.app _ _ _)⟩ rfl,h⟩;simp only [bq,hq,hS.len,hr.mU]
theorem PX (hS:bX s ps) {cells:List PV} (h:mw e s z (.alloc cells) k ρ w=ahI y):gl s ps (bq pe ps z (.alloc cells)) k ρ w y:=by simp only [mw] at h;refine ⟨_,_,?_,Good.new hS (b:= .box (Bi cells)) (q:= .box cells) (v:= .bp (ahH s) (ahH cells) 0) (p:= .ptr (ahH s) (ahH cells) 0 0) (rd:=[]) ⟨cells,rfl,vT _ _⟩ rfl,h⟩;simp only [bq,hS.len]
theorem Sn (hE:dD s e pe) (hS:bX s ps) {x:fc} (h:mw e s z (.Ju x) k ρ w=ahI y):gl s ps (bq pe ps z (.Ju x)) k ρ w y:=by
 simp only [mw] at h;have hx:=df hE x;generalize bH e x=v at h hx;cases v with
 |pa t r i a o=>exact gl.val hS h (by simp only [bq,hx.1]) ⟨rfl,hx.2⟩
 |pb t i o=>obtain ⟨e',h1,h2⟩:=hx;exact gl.val hS h (by simp only [bq,h1]) ⟨e',rfl,h2⟩
 |bp t n o=>exact gl.val hS h (by simp only [bq,show x.ev pe=_ from hx]) rfl
 |bw c o=>obtain ⟨q,h1,h2⟩:=hx;exact gl.val hS h (by simp only [bq,h1]) ⟨q,rfl,h2⟩
 |eA f a b=>obtain ⟨pa,pb,h1,h2⟩:=hx;exact gl.val hS h (by simp only [bq,h1]) ⟨pa,pb,rfl,h2⟩
 |_=>cases h
theorem Sp (hE:dD s e pe) (hS:bX s ps) {off:Nat} {x:fc} (h:mw e s z (.Jv off x) k ρ w=ahI y):gl s ps (bq pe ps z (.Jv off x)) k ρ w y:=by
 simp only [mw] at h;have hx:=df hE x;generalize bH e x=v at h hx;cases v with
 |pa t r i a o=>exact gl.val hS h (by simp only [bq,hx.1]) ⟨rfl,hx.2⟩
 |pb t i o=>obtain ⟨e',h1,h2⟩:=hx;exact gl.val hS h (by simp only [bq,h1]) ⟨e',rfl,h2⟩
 |bp t n o=>exact gl.val hS h (by simp only [bq,show x.ev pe=_ from hx]) rfl
 |bw c o=>obtain ⟨q,h1,h2⟩:=hx;exact gl.val hS h (by simp only [bq,h1]) ⟨q,rfl,h2⟩
 |_=>cases h
theorem Vr (hE:dD s e pe) (hS:bX s ps) {agg:Option Nat} {off:Nat} {x:fc} (h:mw e s z (.lq agg off x) k ρ w=ahI y):gl s ps (bq pe ps z (.lq agg off x)) k ρ w y:=by
 simp only [mw] at h;generalize hv:bH e x=v at h;cases v with
 |agg cs=>obtain ⟨v,h1,h⟩:=bC h;obtain ⟨q,h2,h3⟩:=PU hE hv;obtain ⟨p,h4,h5⟩:=tu h3 h1;exact gl.val hS h (by simp only [bq,h2,h4];rfl) h5
 |_=>cases h
theorem Vs (hE:dD s e pe) (hS:bX s ps) {i:Nat} {x:fc} (h:mw e s z (.ext i x) k ρ w=ahI y):gl s ps (bq pe ps z (.ext i x)) k ρ w y:=by
 simp only [mw] at h;generalize hv:bH e x=v at h;cases v with
 |bN cs=>obtain ⟨v,h1,h⟩:=bC h;obtain ⟨q,h2,h3⟩:=PU hE hv;obtain ⟨p,h4,h5⟩:=h3.nth h1;exact gl.val hS h (by simp only [bq,h2,h4];rfl) h5
 |_=>cases h
theorem Vt (hE:dD s e pe) (hS:bX s ps) {f:FuncId} {a b:List fc} (h:mw e s z (.mkf f a b) k ρ w=ahI y):gl s ps (bq pe ps z (.mkf f a b)) k ρ w y:=by simp only [mw] at h;exact gl.val hS h rfl ⟨_,_,rfl,yY hE a,yY hE b⟩
theorem Vu (hS:bX s ps) {m:Option PV} (h:mw e s z (.mkm m) k ρ w=ahI y):gl s ps (bq pe ps z (.mkm m)) k ρ w y:=by
 simp only [mw] at h;cases m with
 |none=>refine ⟨_,_,?_,Good.new hS (b:= .set []) (q:= .map []) (v:= .mp (ahH s)) (p:= .mp (ahH s)) (rd:=[]) rfl rfl,h⟩;simp only [bq,hS.len]
 |some m=>obtain ⟨p,_,h⟩:=bC h;refine ⟨_,_,?_,Good.new hS (b:= .bA p []) (q:= .map []) (v:= .mp (ahH s)) (p:= .mp (ahH s)) (rd:=[]) rfl rfl,h⟩;simp only [bq,hS.len]
theorem abE: ∀{l:List SV} {q:List PV} {m:Bool} {a:IntKind} {n:Int} {v:SV},RL s l q->mmS m a n l=ahI v-> ∃p,mmE m a n q=ahI p/\R s v p
 | [],q,m,a,n,v,hl,h=>by rw [show q=[] from hl];injection h with h;subst h;exact ⟨_,rfl,rfl⟩
 |x::l,q,m,a,n,v,hl,h=>by
  obtain ⟨p,q,rfl,h1,h2⟩:=hl.cons_inv;simp only [mmS] at h;split at h
  · rename_i b c
    have LM:p= .int b c:=h1;subst LM;cases hk:eX a b with
    |true=>rw [hk] at h;obtain ⟨p,h3,h4⟩:=abE h2 h;refine ⟨p,?_,h4⟩;simp only [mmE,hk,if_true];rw [<- h3];cases m<;>rfl
    |false=>rw [hk] at h;cases h
  cases h
theorem acP (hE:dD s e pe) (hS:bX s ps) {m:Bool} {x:fc} {xs:List fc} (h:mw e s z (.mm m x xs) k ρ w=ahI y):gl s ps (bq pe ps z (.mm m x xs)) k ρ w y:=by
 simp only [mw] at h;generalize hv:bH e x=v at h;cases v with
 |int a n=>obtain ⟨v,h1,h⟩:=bC h;obtain ⟨p,h2,h3⟩:=abE (yY hE xs) h1;exact gl.val hS h (by simp only [bq,mX hE hv,h2];rfl) h3
 |_=>cases h
theorem Sq (hE:dD s e pe) (hS:bX s ps) {c a b:fc} (h:mw e s z (.pick c a b) k ρ w=ahI y):gl s ps (bq pe ps z (.pick c a b)) k ρ w y:=by
 simp only [mw] at h;generalize hv:bH e c=v at h;cases v with
 |bool x=>
  rcases eF h with ⟨rfl,h⟩|⟨rfl,h⟩
  · exact gl.val hS h (by simp only [bq,Br hE hv]) (df hE a)
  exact gl.val hS h (by simp only [bq,Br hE hv]) (df hE b)
 |_=>cases h
end
end Go.Vm
/- Operation by operation, second part: elements, blocks, slices, sets. -/
namespace Go.Vm
section
variable {R' ρ : Type} {w : R' -> ρ} {y : ρ} {s : List SB} {ps : bS} {e : SE} {pe : Env} {z : List Nat} {k : fJ -> gb R'}
theorem bX.arr (hS:bX s ps) {t:Nat} {r:List PT} {l:List (RT r)} (h:s[t]? =ahI (.arr r l)):ps[t]? =ahI (.arr (ahH r) (l.map (RT.pv r))):=by obtain ⟨q,h1,h2⟩:=hS.at_ t _ h;rw [show q=_ from h2] at h1;exact h1
theorem bX.box (hS:bX s ps) {t:Nat} {cs:List SV} (h:s[t]? =ahI (.box cs)): ∃q,ps[t]? =ahI (.box q)/\RL s cs q:=by obtain ⟨q,h1,q',rfl,h2⟩:=hS.at_ t _ h;exact ⟨q',h1,h2⟩
theorem bX.aiZ (hS:bX s ps) {t:Nat} {l:List (List Int)} (h:s[t]? =ahI (.set l)):ps[t]? =ahI (.map (l.map Bp)):=by obtain ⟨q,h1,h2⟩:=hS.at_ t _ h;rw [show q=_ from h2] at h1;exact h1
theorem bX.Vv (hS:bX s ps) {t:Nat} {p:PT} {l:List (RT [.i .i64,p])} (h:s[t]? =ahI (.bA p l)):ps[t]? =ahI (.map (l.map (DN p))):=by obtain ⟨q,h1,h2⟩:=hS.at_ t _ h;rw [show q=_ from h2] at h1;exact h1
theorem OwnAt.inv {t e n:Nat} {r:List PT} {l:List (RT r)} (h:OwnAt s t e n) (hs:s[t]? =ahI (.arr r l)):e=ahH r/\n=(ahH l):=by
 rcases h with ⟨q,m,h1,rfl,rfl⟩|h1
 · rw [hs] at h1;injection h1 with h1;cases h1;exact ⟨rfl,rfl⟩
 rw [hs] at h1;cases h1
theorem zM.inv {t e:Nat} {r:List PT} {l:List (RT r)} (h:zM s t e) (hs:s[t]? =ahI (.arr r l)):e=(ahH r):=by
 rcases h with ⟨q,m,h1,rfl⟩|h1|⟨cs,h1,_⟩
 · rw [hs] at h1;injection h1 with h1;cases h1;rfl
 · rw [hs] at h1;cases h1
 rw [hs] at h1;cases h1
theorem Si.inv {t:Nat} {q r:List PT} {i:Int} {a:RT q} {l:List (RT r)} (h:Si s t q i a) (hs:s[t]? =ahI (.arr r l)): ∃e:q=r,aG l i=ahI (e▸a):=by
 rcases h with ⟨m,h1,h2⟩|h1
 · rw [hs] at h1;injection h1 with h1;cases h1;exact ⟨rfl,h2⟩
 rw [hs] at h1;cases h1
theorem acN.inv {t:Nat} {r:List PT} {i:Int} {l:List (RT r)} (h:acN s t i) (hs:s[t]? =ahI (.arr r l)):(aG l i).isSome=ahK:=by
 rcases h with ⟨q,m,h1,h2⟩|h1
 · rw [hs] at h1;injection h1 with h1;cases h1;exact h2
 rw [hs] at h1;cases h1
theorem fx {α:Type} {l:List α} {n:Nat} {i:Int} {a:α} (h:aG (l.take n) i=ahI a): ∃m:Nat,i=abi m/\m<n/\l[m]? =ahI a:=by
 obtain ⟨m,rfl,hm⟩:=nq h;have c7:=(ut.1 hm).1;rw [ab8] at c7;have hmn:m<n:=by omega
 rw [EQ hmn] at hm;exact ⟨m,rfl,hmn,hm⟩
theorem Sr (hE:dD s e pe) (hS:bX s ps) {esz:Nat} {x i:fc} (h:mw e s z (.Jw esz x i) k ρ w=ahI y):gl s ps (bq pe ps z (.Jw esz x i)) k ρ w y:=by
 simp only [mw] at h;generalize hi:bH e i=vi at h;cases vi with
 |int ki n=>
  have hi:=mX hE hi;have hx:=df hE x;dsimp only at h;unfold abx at h;generalize bH e x=v at h hx;cases v with
  |sl r l=>
   obtain ⟨he,h⟩:=cm h;obtain ⟨a,ha,hk⟩:=ck h;obtain ⟨m,rfl,hm⟩:=nq ha;refine gl.val hS (p:= .bw (RT.pv r a) 0) hk ?_ ⟨_,rfl,Hn r a⟩;have hr:(l.map (RT.pv r))[m]? =ahI (RT.pv r a):=by simp [hm]
   simp only [bq,hi,jm,show x.ev pe=_ from hx,hr,he,if_true]
  |own t ex=>
   simp only [bP] at h;generalize bM:s[t]? =b at h;cases b with
   |none=>cases h
   |some b=>
    cases b with
    |arr r l=>
     obtain ⟨he,h⟩:=cm h;obtain ⟨a,ha,hk⟩:=ck h;obtain ⟨m,rfl,hm⟩:=nq ha;obtain ⟨e',n',hx,cJ⟩:=hx;obtain ⟨rfl,rfl⟩:=cJ.inv bM;have c7:=(ut.1 hm).1;have h1:acy m (ahH l)=ahK:=by simpa using c7
     refine gl.val hS (p:= .ptr t (ahH r) m 0) hk ?_ ⟨rfl,.inl ⟨l,bM,ha⟩⟩;simp only [bq,hi,jm,hx,h1,he,aaH,if_true,abU]
    |_=>cases h
  |pre t len cap ex=>
   simp only [bP] at h;generalize bM:s[t]? =b at h;cases b with
   |none=>cases h
   |some b=>
    cases b with
    |arr r l=>
     obtain ⟨he,h⟩:=cm h;obtain ⟨a,ha,hk⟩:=ck h;obtain ⟨m,rfl,c7,hm⟩:=fx ha;obtain ⟨e',hx,cJ⟩:=hx;have:=cJ.inv bM;subst this;have h1:acy m len=ahK:=by simpa using c7
     refine gl.val hS (p:= .ptr t (ahH r) m 0) hk ?_ ⟨rfl,.inl ⟨l,bM,hm⟩⟩;simp only [bq,hi,jm,hx,h1,he,aaH,if_true,abU]
    |_=>cases h
  |part t off len cap ex=>
   simp only [bP] at h;generalize bM:s[t]? =b at h;cases b with
   |none=>cases h
   |some b=>
    cases b with
    |arr r l=>
     obtain ⟨he,h⟩:=cm h;obtain ⟨a,ha,hk⟩:=ck h;obtain ⟨m,rfl,c7,hm⟩:=fx ha;rw [List.getElem?_drop] at hm;obtain ⟨e',hx,cJ⟩:=hx;have:=cJ.inv bM;subst this;have h1:acy m len=ahK:=by simpa using c7
     refine gl.val hS (p:= .ptr t (ahH r) (off+m) 0) hk ?_ ⟨rfl,.inl ⟨l,bM,hm⟩⟩;simp only [bq,hi,jm,hx,h1,he,aaH,if_true]
    |_=>cases h
  |_=>cases h
 |_=>cases h
theorem si {n:Nat} {i:Int} {j:Nat} {f:Nat->gb R'}:E2 n i j f ρ w=ahI y-> ∃m,i=abi m/\j<=m/\m<j+n/\f m ρ w=ahI y:=by
 induction n generalizing j with
 |zero=>intro h;cases h
 |succ n ih=>
  intro h;rcases eF h with ⟨h1,h2⟩|⟨_,h2⟩
  · exact ⟨j,by simpa using h1,ag7 _,by omega,h2⟩
  obtain ⟨m,h3,h4,h5,h6⟩:=ih h2
  exact ⟨m,h3,by omega,by omega,h6⟩
theorem PY (hE:dD s e pe) (hS:bX s ps) {n esz:Nat} {p i:fc} (h:mw e s z (.Da n esz p i) k ρ w=ahI y):gl s ps (bq pe ps z (.Da n esz p i)) k ρ w y:=by
 simp only [mw] at h;generalize hi:bH e i=vi at h;cases vi with
 |int ki j=>
  have hi:=mX hE hi;have hx:=df hE p;generalize bH e p=v at h hx;cases v with
  |bp t m o=>
   obtain ⟨j',rfl,_,h2,h⟩:=si h;have h1:acy j' n=ahK:=by simp;omega
   exact gl.val hS h (by simp only [bq,hi,jm,h1,if_true,show p.ev pe=_ from hx]) rfl
  |bw c o=>
   obtain ⟨j',rfl,_,h2,h⟩:=si h;have h1:acy j' n=ahK:=by simp;omega
   obtain ⟨q,hq,hr⟩:=hx;exact gl.val hS h (by simp only [bq,hi,jm,h1,if_true,hq]) ⟨q,rfl,hr⟩
  |pb t m o=>
   obtain ⟨j',rfl,_,h2,h⟩:=si h;have h1:acy j' n=ahK:=by simp;omega
   obtain ⟨e',he,hr⟩:=hx;exact gl.val hS h (by simp only [bq,hi,jm,h1,if_true,he]) ⟨e',rfl,hr⟩
  |pa t r i a o=>
   obtain ⟨j',rfl,_,h2,h⟩:=si h;have h1:acy j' n=ahK:=by simp;omega
   exact gl.val hS h (by simp only [bq,hi,jm,h1,if_true,hx.1]) ⟨rfl,hx.2⟩
  |_=>cases h
 |_=>cases h
theorem Vw (hE:dD s e pe) (hS:bX s ps) {n esz:Nat} {agg:Option Nat} {x i:fc} (h:mw e s z (.idx n esz agg x i) k ρ w=ahI y):gl s ps (bq pe ps z (.idx n esz agg x i)) k ρ w y:=by
 simp only [mw] at h;generalize hi:bH e i=vi at h;cases vi with
 |int ki j=>
  have hi:=mX hE hi;generalize hx:bH e x=v at h;cases v with
  |agg cs=>
   obtain ⟨j',rfl,_,h2,h⟩:=si h;have h1:acy j' n=ahK:=by simp;omega
   obtain ⟨v,hv,h⟩:=bC h;obtain ⟨q,hq,hr⟩:=PU hE hx;obtain ⟨p,hp,hpr⟩:=tu hr hv;exact gl.val hS h (by simp only [bq,hi,jm,h1,if_true,hq,hp];rfl) hpr
  |_=>cases h
 |_=>cases h
theorem Ss (hE:dD s e pe) (hS:bX s ps) {x i:fc} (h:mw e s z (.Jx x i) k ρ w=ahI y):gl s ps (bq pe ps z (.Jx x i)) k ρ w y:=by
 simp only [mw] at h;generalize hi:bH e i=vi at h;cases vi with
 |int ki j=>
  have hi:=mX hE hi;generalize hx:bH e x=v at h;cases v with
  |str t=>
   obtain ⟨b,hb,h⟩:=ck h;have hx:=PU hE hx;cases j with
   |negSucc _=>cases hb
   |ofNat m=>simp only [abw,ab2] at hb;obtain ⟨c,hc,rfl⟩:=hb;exact gl.val hS h (by simp only [bq,hi,jm,show x.ev pe=_ from hx,hc]) rfl
  |_=>cases h
 |_=>cases h
theorem Su (hE:dD s e pe) (hS:bX s ps) {agg:Option Nat} {p:fc} (h:mw e s z (.load agg p) k ρ w=ahI y):gl s ps (bq pe ps z (.load agg p)) k ρ w y:=by
 simp only [mw] at h;have hx:=df hE p;unfold aby at h;generalize bH e p=v at h hx;cases v with
 |bp t n off=>
  simp only [bP] at h;generalize bM:s[t]? =b at h;cases b with
  |none=>cases h
  |some b=>
   cases b with
   |box cs=>obtain ⟨v,hv,h⟩:=bC h;obtain ⟨q,h1,h2⟩:=hS.box bM;obtain ⟨u,h3,h4⟩:=tu h2 hv;refine gl.rd hS h ?_ h4;show oH ps agg (p.ev pe)=_;rw [show p.ev pe=_ from hx];simp only [oH,h1,aaI,if_true,h3];rfl
   |_=>cases h
 |pa t r i a off=>
  simp only [bP] at h;generalize bM:s[t]? =b at h;cases b with
  |none=>cases h
  |some b=>
   cases b with
   |arr q l=>
    obtain ⟨v,hv,hk⟩:=bC h;obtain ⟨hx,cJ⟩:=hx;obtain ⟨rfl,hg⟩:=cJ.inv bM;obtain ⟨u,h3,h4⟩:=tu (Hn r a) hv;obtain ⟨m,rfl,hm⟩:=nq hg;refine gl.rd hS hk ?_ h4;show oH ps agg (p.ev pe)=_;rw [hx];have zF:(l.map (RT.pv r))[m]? =ahI (RT.pv r a):=by simp [hm]
    have e1:(abi m).toNat=m:=rfl;simp only [oH,hS.arr bM,e1,zF,h3];rfl
   |_=>cases h
 |pb t i off=>
  simp only [bP] at h;generalize bM:s[t]? =b at h;cases b with
  |none=>cases h
  |some b=>
   cases b with
   |arr r l=>
    obtain ⟨a,ha,h⟩:=ck h;obtain ⟨v,hv,hk⟩:=bC h;obtain ⟨e',hx,cJ⟩:=hx;obtain ⟨u,h3,h4⟩:=tu (Hn r a) hv;obtain ⟨m,rfl,hm⟩:=nq ha;refine gl.rd hS hk ?_ h4;show oH ps agg (p.ev pe)=_;rw [hx];have zF:(l.map (RT.pv r))[m]? =ahI (RT.pv r a):=by simp [hm]
    have e1:(abi m).toNat=m:=rfl;simp only [oH,hS.arr bM,e1,zF,h3];rfl
   |_=>cases h
 |bw cs off=>obtain ⟨v,hv,h⟩:=bC h;obtain ⟨q,hq,hr⟩:=hx;obtain ⟨u,h3,h4⟩:=tu hr hv;refine gl.val hS h ?_ h4;show oH ps agg (p.ev pe)=_;rw [hq];simp only [oH,h3];rfl
 |_=>cases h
theorem ID (hS:bX s ps) {t:Nat} {r:List PT} {l:List (RT r)} (bM:s[t]? =ahI (.arr r l)) {i:Int} {b:RT r} {rd:List Nat}:
 Good s ps {v:= .undef,wr:=[(t,.arr r (cj l i b))],rd} {v:= .undef,wr:=[(t,.arr (ahH r) ((l.map (RT.pv r)).set i.toNat (RT.pv r b)))],rd}:=
 Good.Sj hS bM (.inl ⟨_,rfl,by simp⟩) (by show _=_;simp [cj,ah5])
theorem PZ (hE:dD s e pe) (hS:bX s ps) {sz:Nat} {p x:fc} (h:mw e s z (.store sz p x) k ρ w=ahI y):gl s ps (bq pe ps z (.store sz p x)) k ρ w y:=by
 simp only [mw] at h;have hx:=df hE p;have hv:=df hE x;unfold R2 at h;generalize bH e p=v at h hx;generalize bH e x=u at h hv;cases v with
 |bp t n off=>
  simp only [bP] at h;generalize bM:s[t]? =b at h;cases b with
  |none=>cases h
  |some b=>
   cases b with
   |box cs=>
    obtain ⟨w',hw,h⟩:=bC h;obtain ⟨hc,h⟩:=cm h;obtain ⟨q,h1,h2⟩:=hv.stored hw;obtain ⟨b,h3,h4⟩:=hS.box bM;have qI:=Fr.dg (ts:=[t]) (Fr.set (b:= .box (pF off w' cs)) bM (.inl ⟨_,rfl⟩));refine ⟨_,_,?_,Good.Sj hS (b:= .box (pF off w' cs)) (q:= .box (nK off q b)) (rd:=[]) bM (.inl ⟨_,rfl⟩) ⟨_,rfl,RL.fr qI (y4 h2 h4)⟩,h⟩
    show rU ps z sz (x.ev pe) (p.ev pe)=_
    rw [show p.ev pe=_ from hx];simp only [rU,h3,h1,h2.mU,h4.mU];rw [lm (by simpa using hc)]
   |_=>cases h
 |pa t r i a off=>
  simp only [bP] at h;generalize bM:s[t]? =b at h;cases b with
  |none=>cases h
  |some b=>
   cases b with
   |arr q l=>
    obtain ⟨hc,h⟩:=cm h;obtain ⟨a',Jo,hk⟩:=bC h;obtain ⟨hx,cJ⟩:=hx;obtain ⟨rfl,hg⟩:=cJ.inv bM;obtain ⟨m,rfl,hm⟩:=nq hg;refine ⟨_,_,?_,ID hS bM (rd:=[]),hk⟩;show rU ps z sz (x.ev pe) (p.ev pe)=_;rw [hx];have zF:(l.map (RT.pv r))[m]? =ahI (RT.pv r a):=by simp [hm]
    have e1:(abi m).toNat=m:=rfl;simp only [pp,aa3] at hc;obtain ⟨⟨c1,c2⟩,c3⟩:=hc;have hj:u≠ .gQ:=by
     intro e;subst e;have:=RT.pH Jo;have hq:=congrArg (fun l=>l[off]?) this;have lx:=UV c2;have oJ:sz=1:=by have:=lw c1;simpa [SV.cells] using this.symm
     have c7:off<(ahH r):=by omega
     have NH:off<(RT.sv r a).length:=by rw [RT.IB];exact c7
     simp only [pF,SV.cells] at hq;rw [v6 (by simp;omega),ww (by simp;omega)] at hq;simp only [ab8,ag0 (ah6 NH),ahF,acI] at hq;have: ∀(r:List PT) (b:RT r) (n:Nat),(RT.sv r b)[n]?≠ahI .gQ:=by
      intro r
      induction r with
      |nil=>intro b n h;simp [RT.sv] at h
      |cons p rest ih=>
       intro b n;cases rest with
       |nil=>cases n<;>cases p<;>simp [RT.sv,PT.sv]
       |cons p2 ai0=>cases n with
        |zero=>cases p<;>simp [RT.sv,PT.sv]
        |succ n=>simpa [RT.sv] using ih b.2 n
     exact this r a' off hq.symm
    have Fc:=hv.cells hj;have mC:=RT.pH Jo;have h5:RL s (RT.sv r a') (nK off (x.ev pe).cells (RT.pv r a)):=by rw [<- mC];exact y4 Fc (Hn r a)
    have h6:=yZ r a' h5;have My:(x.ev pe).bW=ahI (x.ev pe).cells:=by unfold PV.bW;rw [lm ?_];have q9:=RT.plain r a';rw [<- h6] at q9;unfold nK at q9;simp only [ahB,pp] at q9;exact q9.1.2
    simp only [rU,hS.arr bM,e1,zF,My,Fc.mU,RT.vS];rw [lm (by simp [c1,c2,c3])];simp only [h6]
   |_=>cases h
 |pb t i off=>
  simp only [bP] at h;generalize bM:s[t]? =b at h;cases b with
  |none=>cases h
  |some b=>
   cases b with
   |arr r l=>
    obtain ⟨hc,h⟩:=cm h;obtain ⟨e',hx,cJ⟩:=hx;have xw:=cJ.inv bM;rw [acF] at xw;obtain ⟨a0,hg⟩:=xw;obtain ⟨m,rfl,hm⟩:=nq hg;have zF:(l.map (RT.pv r))[m]? =ahI (RT.pv r a0):=by simp [hm]
    have e1:(abi m).toNat=m:=rfl;simp only [pp,aa3] at hc;obtain ⟨⟨c1,c2⟩,c3⟩:=hc;cases oJ:NE sz (ahH r) with
    |true=>
     rw [oJ] at h;obtain ⟨a',Jo,hk⟩:=bC h;obtain ⟨hp,hl⟩:=hv.ofRow Jo;have L0:=lw oJ;have DH:off=0:=by have:=UV c2;omega
     subst DH;refine ⟨_,_,?_,ID hS bM (rd:=[]),hk⟩;show rU ps z sz (x.ev pe) (p.ev pe)=_;rw [hx];simp only [rU,hS.arr bM,e1,zF,hp,RT.vS];rw [lm (by rw [abU,L0];simp [c3])];have:nK 0 (RT.pv r a') (RT.pv r a0)=RT.pv r a':=by unfold nK;rw [RT.vS,List.drop_of_length_le (by rw [RT.vS];omega)];simp
     rw [this]
    |false=>
     rw [oJ] at h;obtain ⟨a,ha,h⟩:=ck h;obtain ⟨a',Jo,hk⟩:=bC h;rw [hg] at ha;injection ha with ha;subst ha;refine ⟨_,_,?_,ID hS bM (rd:=[]),hk⟩;show rU ps z sz (x.ev pe) (p.ev pe)=_;rw [hx];have hj:u≠ .gQ:=by
      intro e;subst e;have:=RT.pH Jo;have hq:=congrArg (fun l=>l[off]?) this;have lx:=UV c2;have oJ:sz=1:=by have:=lw c1;simpa [SV.cells] using this.symm
      have c7:off<(ahH r):=by omega
      have NH:off<(RT.sv r a0).length:=by rw [RT.IB];exact c7
      simp only [pF,SV.cells] at hq;rw [v6 (by simp;omega),ww (by simp;omega)] at hq;simp only [ab8,ag0 (ah6 NH),ahF,acI] at hq;have: ∀(r:List PT) (b:RT r) (n:Nat),(RT.sv r b)[n]?≠ahI .gQ:=by
       intro r
       induction r with
       |nil=>intro b n h;simp [RT.sv] at h
       |cons p rest ih=>
        intro b n;cases rest with
        |nil=>cases n<;>cases p<;>simp [RT.sv,PT.sv]
        |cons p2 ai0=>cases n with
         |zero=>cases p<;>simp [RT.sv,PT.sv]
         |succ n=>simpa [RT.sv] using ih b.2 n
      exact this r a' off hq.symm
     have Fc:=hv.cells hj;have mC:=RT.pH Jo;have h5:RL s (RT.sv r a') (nK off (x.ev pe).cells (RT.pv r a0)):=by rw [<- mC];exact y4 Fc (Hn r a0)
     have h6:=yZ r a' h5;have My:(x.ev pe).bW=ahI (x.ev pe).cells:=by unfold PV.bW;rw [lm ?_];have q9:=RT.plain r a';rw [<- h6] at q9;unfold nK at q9;simp only [ahB,pp] at q9;exact q9.1.2
     simp only [rU,hS.arr bM,e1,zF,My,Fc.mU,RT.vS];rw [lm (by simp [c1,c2,c3])];simp only [h6]
   |_=>cases h
 |_=>cases h
end
end Go.Vm
/- Operation by operation, third part: slices, new blocks, append, sets; all of them together. -/
namespace Go.Vm
section
variable {R' ρ : Type} {w : R' -> ρ} {y : ρ} {s : List SB} {ps : bS} {e : SE} {pe : Env} {z : List Nat} {k : fJ -> gb R'}
def Fe (pe:Env) (o:Option fc):Option (Option Nat):=match o with|none=>ahI ahJ|some a=>(jm (a.ev pe)).map ahI
theorem uW (hE:dD s e pe) {o:Option fc} {d a:Int} {n:Nat} (h:Cz e d o=ahI a) (hd:d=abi n) (h0:0<=a): ∃b,Fe pe o=ahI b/\b.getD n=a.toNat:=by
 cases o with
 |none=>injection h with h;subst h hd;exact ⟨ahJ,rfl,rfl⟩
 |some x=>
  simp only [Cz] at h;split at h
  · rename_i ka m hx
    injection h with h;subst h;obtain ⟨b,rfl⟩:=aa1 h0;refine ⟨ahI b,?_,rfl⟩;simp only [Fe,mX hE hx];rfl
  cases h
theorem Aw {esz:Nat} {x:fc} {lo hi mx:Option fc} {l h m:Option Nat} {v:PV} (he:uH esz (x.ev pe)=ahK) (h1:Fe pe lo=ahI l) (h2:Fe pe hi=ahI h) (h3:Fe pe mx=ahI m) (hv:qH (x.ev pe) l h m=ahI v):
 bq pe ps z (.O5 esz x lo hi mx)=ahI {v:=v}:=by
 have e:bq pe ps z (.O5 esz x lo hi mx)=(match Fe pe lo,Fe pe hi,Fe pe mx with|some l,ahI h,ahI m=>(qH (x.ev pe) l h m).map fun v=>({v}:nL)|_,_,_=>ahJ):=by simp only [bq,he,agJ,PP,if_false];rfl
 rw [e,h1,h2,h3];simp only [hv];rfl
theorem Ff {α:Type} {l r:List α} {lo hi:Int} (h:fG l lo hi=ahI r): ∃a b:Nat,lo=abi a/\hi=abi b/\a<=b/\b<=ahH l/\r=(l.drop a).take (b-a):=by
 unfold fG at h;split at h
 · rename_i hc
   obtain ⟨a,rfl⟩:=aa1 hc.1;obtain ⟨b,rfl⟩:=aa1 (acl hc.1 hc.2.1);injection h with h;exact ⟨a,b,rfl,rfl,by omega,by omega,by rw [<- h];simp⟩
 cases h
theorem IE (hE:dD s e pe) (hS:bX s ps) {esz t off len cap:Nat} {ex:Bool} {x:fc} {lo hi mx:Option fc} (hx:x.ev pe= .own t esz off len cap ex) (cJ:zM s t esz) (h:Ml e t off len cap ex lo hi mx k ρ w=ahI y):
 gl s ps (bq pe ps z (.O5 esz x lo hi mx)) k ρ w y:=by
 unfold Ml at h;obtain ⟨a,ha,h⟩:=bC h;obtain ⟨b,hb,h⟩:=bC h;have he:uH esz (x.ev pe)=ahK:=by rw [hx];simp [uH]
 cases mx with
 |none=>
  obtain ⟨hc,h⟩:=ic h;simp only [pp,decide_eq_true_eq] at hc;obtain ⟨⟨c1,c2⟩,c3⟩:=hc;obtain ⟨l,h1,h2⟩:=uW hE (n:=0) ha rfl c1;obtain ⟨u,h3,h4⟩:=uW hE (n:=len) hb rfl (acl c1 c2);refine gl.val hS h (Aw he h1 h3 (m:=ahJ) rfl ?_) ⟨esz,rfl,cJ⟩;rw [hx];have c4:(IR a.toNat b.toNat&&IR b.toNat cap)=ahK:=by have c3':b<=(cap:Int):=c3;simp;omega
  simp only [qH,h2,h4,c4,if_true]
 |some mo=>
  dsimp only at h;generalize hm:bH e mo=vm at h;cases vm with
  |int km c=>
   obtain ⟨hc,h⟩:=ic h;simp only [pp,decide_eq_true_eq] at hc;obtain ⟨⟨⟨c1,c2⟩,c3⟩,c4⟩:=hc;obtain ⟨l,h1,h2⟩:=uW hE (n:=0) ha rfl c1;obtain ⟨u,h3,h4⟩:=uW hE (n:=len) hb rfl (acl c1 c2);have GG:0<=c:=acl (acl c1 c2) c3;obtain ⟨c,rfl⟩:=aa1 GG;refine gl.val hS h (Aw he h1 h3 (m:=ahI c) (by simp only [Fe,mX hE hm];rfl) ?_) ⟨esz,rfl,cJ⟩;rw [hx];have c5:(IR a.toNat b.toNat&&IR b.toNat c&&IR c cap)=ahK:=by have c4':(c:Int)<=(cap:Int):=c4;simp;omega
   simp only [qH,h2,h4,c5,if_true];rfl
  |_=>cases h
theorem Vx (hE:dD s e pe) (hS:bX s ps) {esz:Nat} {x:fc} {lo hi mx:Option fc} (h:mw e s z (.O5 esz x lo hi mx) k ρ w=ahI y):gl s ps (bq pe ps z (.O5 esz x lo hi mx)) k ρ w y:=by
 simp only [mw] at h;have hx:=df hE x;unfold aiU at h;generalize bH e x=v at h hx;cases v with
 |sl r l=>
  cases mx with
  |some _=>cases h
  |none=>
   dsimp only at h;obtain ⟨he,h⟩:=cm h;have he:=lw he;obtain ⟨a,ha,h⟩:=bC h;obtain ⟨b,hb,h⟩:=bC h;obtain ⟨m,hm,hk⟩:=ck h;obtain ⟨n1,n2,rfl,rfl,c1,c2,rfl⟩:=Ff hm;obtain ⟨u1,h1,h2⟩:=uW hE (n:=0) ha rfl (by simp);obtain ⟨u2,h3,h4⟩:=uW hE (n:=ahH l) hb rfl (by simp);have hx':x.ev pe= .sl (ahH r) ahL (l.map (RT.pv r)):=hx;subst he;refine gl.val hS (p:= .sl (ahH r) ahL ((((l.drop n1).take (n2-n1))).map (RT.pv r))) hk (Aw (m:=ahJ) (by rw [hx'];simp [uH]) h1 h3 rfl ?_) rfl;rw [hx'];have PS:u1.getD 0=n1:=by rw [h2];rfl
   have h4':u2.getD (l.map (RT.pv r)).length=n2:=by rw [aa9,h4];rfl
   have c3:(IR n1 n2&&IR n2 (l.map (RT.pv r)).length)=ahK:=by simp [c1,c2]
   simp only [qH,PS,h4',c3,if_true,Bool.false_and,ab9,abF]
 |own t ex=>
  simp only [bP] at h;generalize bM:s[t]? =b at h;cases b with
  |none=>cases h
  |some b=>
   cases b with
   |arr r l=>
    dsimp only at h;obtain ⟨he,hk⟩:=cm h;have he:=lw he;obtain ⟨e',n',hx,cJ⟩:=hx;obtain ⟨rfl,rfl⟩:=cJ.inv bM;subst he;have DI:zM s t (ahH r):= .inl ⟨r,l,bM,rfl⟩;have gen:Ml e t 0 (ahH l) (ahH l) ex lo hi mx k ρ w=ahI y->gl s ps (bq pe ps z (.O5 (ahH r) x lo hi mx)) k ρ w y:=fun h=>IE hE hS hx DI h
    have he:uH (ahH r) (x.ev pe)=ahK:=by rw [hx];simp [uH]
    cases mx with
    |some m=>cases lo<;>cases hi<;>exact gen hk
    |none=>
     cases lo with
     |some _=>cases hi<;>exact gen hk
     |none=>
      cases hi with
      |none=>refine gl.val hS hk (Aw (l:=ahJ) (h:=ahJ) (m:=ahJ) he rfl rfl rfl ?_) ⟨ahH r,ahH l,rfl,cJ⟩;rw [hx];simp [qH]
      |some ho=>
       dsimp only at hk;generalize hh:bH e ho=vh at hk;cases vh with
       |int kh b=>
        obtain ⟨m,hm,hk⟩:=ck hk;obtain ⟨n1,n2,h0,rfl,c1,c2,rfl⟩:=Ff hm;refine gl.val hS hk (Aw (l:=ahJ) (h:=ahI n2) (m:=ahJ) he rfl (by simp only [Fe,mX hE hh];rfl) rfl ?_) ⟨ahH r,rfl,DI⟩;rw [hx];have c3:(IR 0 n2&&IR n2 (ahH l))=ahK:=by simp [c2]
        simp only [qH,acJ,ahx,c3,if_true];rfl
       |_=>cases hk
   |_=>cases h
 |pre t len cap ex=>
  simp only [bP] at h;generalize bM:s[t]? =b at h;cases b with
  |none=>cases h
  |some b=>
   cases b with
   |arr r l=>
    dsimp only at h;obtain ⟨he,hk⟩:=cm h;have he:=lw he;obtain ⟨e',hx,cJ⟩:=hx;have:=cJ.inv bM;subst this;subst he;have gen:Ml e t 0 len cap ex lo hi mx k ρ w=ahI y->gl s ps (bq pe ps z (.O5 (ahH r) x lo hi mx)) k ρ w y:=fun h=>IE hE hS hx cJ h
    have he:uH (ahH r) (x.ev pe)=ahK:=by rw [hx];simp [uH]
    cases mx with
    |some m=>cases lo<;>cases hi<;>exact gen hk
    |none=>
     cases lo with
     |some _=>cases hi<;>exact gen hk
     |none=>
      cases hi with
      |none=>
       obtain ⟨hlc,hk⟩:=ic hk;refine gl.val hS hk (Aw (l:=ahJ) (h:=ahJ) (m:=ahJ) he rfl rfl rfl ?_) ⟨ahH r,rfl,cJ⟩;rw [hx];have c3:(IR 0 len&&IR len cap)=ahK:=by simp [hlc]
       simp only [qH,acJ,c3,if_true];simp
      |some ho=>
       dsimp only at hk;generalize hh:bH e ho=vh at hk;cases vh with
       |int kh b=>
        obtain ⟨hc,hk⟩:=ic hk;simp only [pp,decide_eq_true_eq] at hc;obtain ⟨c1,c2⟩:=hc;obtain ⟨b,rfl⟩:=aa1 c1;refine gl.val hS hk (Aw (l:=ahJ) (h:=ahI b) (m:=ahJ) he rfl (by simp only [Fe,mX hE hh];rfl) rfl ?_) ⟨ahH r,rfl,cJ⟩;rw [hx];have c3:(IR 0 b&&IR b cap)=ahK:=by have c2':(b:Int)<=(cap:Int):=c2;simp;omega
        simp only [qH,acJ,ahx,c3,if_true];rfl
       |_=>cases hk
   |_=>cases h
 |part t off len cap ex=>
  simp only [bP] at h;generalize bM:s[t]? =b at h;cases b with
  |none=>cases h
  |some b=>
   cases b with
   |arr r l=>dsimp only at h;obtain ⟨he,hk⟩:=cm h;have he:=lw he;obtain ⟨e',hx,cJ⟩:=hx;have:=cJ.inv bM;subst this;subst he;exact IE hE hS hx cJ hk
   |_=>cases h
 |_=>cases h
theorem mD {b:SB}:(s++[b])[ahH s]? =ahI b:=by simp
theorem dG: ∀{v:PV} {p:PT},bF v=ahI p->p.pv p.zero=v
 | .int k n,p,h=>by
  simp only [bF] at h;split at h
  · injection h with h;subst h;rfl
  cases h
 | .bool b,p,h=>by
  simp only [bF] at h;split at h
  · injection h with h;subst h;rfl
  cases h
 | .undef,_,h| .js,_,h| .str _,_,h| .agg _,_,h| .bN _,_,h| .sl _ _ _,_,h| .own _ _ _ _ _ _,_,h| .ptr _ _ _ _,_,h| .bw _ _,_,h| .mp _,_,h| .eA _ _ _,_,h| .dC,_,h=>by cases h
theorem Bt : ∀ {l : List PV} {r : List PT}, E1 l = ahI r -> RT.pv r (RT.zero r) = l
  | [], r, h => by injection h with h; subst h; rfl
  | v :: vs, r, h => by
    simp only [E1] at h
    split at h
    · rename_i p q h1 h2
      injection h with h; subst h
      have e1 := dG h1
      have e2 := Bt h2
      cases q with
      | nil =>
        have : vs = [] := by
          cases vs with
          | nil => rfl
          | cons a b => simp only [RT.pv] at e2; cases e2
        subst this
        show [p.pv p.zero] = _
        rw [e1]
      | cons p2 q2 =>
        show p.pv p.zero :: RT.pv (p2 :: q2) (RT.zero (p2 :: q2)) = _
        rw [e1, e2]
    cases h
theorem Vy (hE:dD s e pe) (hS:bX s ps) {esz:Nat} {zero:Row} {l c:fc} (h:mw e s z (.mks esz zero l c) k ρ w=ahI y):gl s ps (bq pe ps z (.mks esz zero l c)) k ρ w y:=by
 simp only [mw] at h;generalize hl:bH e l=vl at h;cases vl with
 |int kl n=>
  generalize hc:bH e c=vc at h;cases vc with
  |int kc m=>
   obtain ⟨hnm,h1⟩:=ic h;obtain ⟨r,hr,h2⟩:=bC h1;obtain ⟨he,h3⟩:=cm h2;obtain ⟨x,hx,hk⟩:=ck h3;have hnm:n=m:=by simpa using hnm
   subst hnm;have he:=lw he;subst he;unfold sd at hx;split at hx
   · rename_i GC
     injection hx with hx;subst hx;obtain ⟨a,rfl⟩:=aa1 GC.1;have h1:(IR a a&&IR a lT)=ahK:=by simp [lT];omega
     refine ⟨_,_,?_,Good.new hS (b:= .arr r (ab7 (abi a).toNat (RT.zero r))) (q:= .arr (ahH r) (ab7 a zero)) (v:= .own (ahH s) ahK) (p:= .own (ahH s) (ahH r) 0 a a ahK) (rd:=[]) ?_ ?_,hk⟩
     · have e1:jm (.int kl (a:Int))=ahI a:=rfl
       have e2:jm (.int kc (a:Int))=ahI a:=rfl;simp only [bq,mX hE hl,mX hE hc,e1,e2];rw [lm h1,hS.len]
     · show _=_
       simp [Bt hr]
     exact ⟨ahH r,a,rfl,.inl ⟨r,_,mD,rfl,by simp⟩⟩
   cases hx
  |_=>cases h
 |_=>cases h
def vW {α:Type}:List α->List (Nat×α)->List α
 |l,[]=>l
 |l,(i,a)::r=>vW (l.set i a) r
theorem Fg {α : Type} : ∀ (q : List (Nat × α)) (l : List α) (i : Nat), (vW l q)[i]? = (l[i]?).map fun z => rowAt i z q
  | [], l, i => by simp [vW, rowAt]
  | (j, a) :: q, l, i => by
    simp only [vW, rowAt]
    rw [Fg q (l.set j a) i, If]
    by_cases UX : j = i
    · subst UX
      cases hl : l[j]? with
      | none =>
        have : ¬ j < (ahH l) := by intro h; rw [Do h] at hl; cases hl
        simp [this]
      | some z =>
        have : j < (ahH l) := (ut.1 hl).1
        simp [this]
    have : NE j i = ahL := by
      cases hb : NE j i with
      | false => rfl
      | true => exact absurd (lw hb) UX
    simp [UX, this]
theorem Kr {α:Type} (f:Nat->α): ∀(n i j:Nat),(Ix f i n)[j]? =if j<n then ahI (f (i+j)) else ahJ
 |0,i,j=>by simp [Ix]
 |n+1,i,0=>by simp [Ix]
 |n+1,i,j+1=>by
  simp only [Ix,abd];rw [Kr f n (i+1) j,show i+1+j=i+(j+1) by omega]
  by_cases h:j<n
  · simp [h]
  simp [h]
theorem Fh {α:Type} (z:α) (n:Nat) (q:List (Nat×α)):vW (ab7 n z) q=Ix (fun i=>rowAt i z q) 0 n:=by
 apply ah7;intro i;rw [Fg,Kr]
 by_cases h:i<n
 · simp [h]
 simp [h]
theorem Fi (hE:dD s e pe) {r:List PT} {n:Nat}: ∀{parts:List (Nat×fc)} {q:List (Nat×RT r)} {l:List (RT r)},N1 r e n parts=ahI q->ahH l=n->
 p8 (parts.map fun p=>(p.1,p.2.ev pe)) (l.map (RT.pv r)) (ahH r)=ahI ((vW l q).map (RT.pv r))
 | [],q,l,h,hl=>by injection h with h;subst h;rfl
 |p::parts,q,l,h,hl=>by
  simp only [N1] at h;split at h
  · rename_i a q' h1 h2
    cases hb:acy p.1 n with
    |false=>rw [hb] at h;cases h
    |true=>rw [hb] at h;injection h with h;subst h;have hp:=((df hE p.2).ofRow h1).1;simp only [aak,p8,hp,RT.vS,aa9,hl,hb,aaI,aaH,if_true,vW];rw [<- ah5];exact Fi hE h2 (by simp [hl])
  cases h
theorem P0 (hE:dD s e pe) (hS:bX s ps) {esz n:Nat} {zero:Row} {parts:List (Nat×fc)} (h:mw e s z (.AW esz n zero parts) k ρ w=ahI y):gl s ps (bq pe ps z (.AW esz n zero parts)) k ρ w y:=by
 simp only [mw] at h;obtain ⟨r,hr,h1⟩:=bC h;obtain ⟨he,h2⟩:=cm h1;obtain ⟨q,hq,hk⟩:=bC h2;have he:=lw he;subst he;have hf:=Fi hE (l:=ab7 n (RT.zero r)) hq (by simp);rw [Fh] at hf;have hz:(ab7 n (RT.zero r)).map (RT.pv r)=ab7 n zero:=by simp [Bt hr]
 rw [hz] at hf;refine ⟨_,_,?_,Good.new hS (b:= .arr r (Ix (fun i=>rowAt i (RT.zero r) q) 0 n)) (q:= .arr (ahH r) ((Ix (fun i=>rowAt i (RT.zero r) q) 0 n).map (RT.pv r))) (v:= .own (ahH s) ahK) (p:= .own (ahH s) (ahH r) 0 n n ahK) (rd:=[]) rfl ?_,hk⟩
 · simp only [bq,hf,hS.len]
   rfl
 refine ⟨ahH r,n,rfl,.inl ⟨r,_,mD,rfl,?_⟩⟩
 rw [<- Fh];have: ∀(q:List (Nat×RT r)) (l:List (RT r)),(vW l q).length=(ahH l):=by
  intro q
  induction q with
  |nil=>intro l;rfl
  |cons p q ih=>intro l;simp [vW,ih]
 rw [this];simp
theorem Og: ∀{cs:List SV} {q:List PV} {l:List Int},RL s cs q->N2 cs=ahI l->q=l.map (.int .i64)
 | [],q,l,h,hi=>by injection hi with hi;subst hi;exact h
 |x::xs,q,l,h,hi=>by
  obtain ⟨p,q,rfl,h1,h2⟩:=h.cons_inv;simp only [N2] at hi;split at hi
  · rename_i n l' hx
    injection hi with hi;subst hi;rw [show p= .int .i64 n from h1,Og h2 hx];rfl
  cases hi
theorem Sv {v:SV} {p:PV} {n:Option Nat} {l:List Int} (h:R s v p) (hk:Vc n v=ahI l):p=sY l/\jA n (sY l)=ahK/\(sY l).bW=ahI (sY l).cells/\(sY l).cells=l.map (.int .i64)/\(n=ahJ->ahH l=1)/\(∀m,n=ahI m->ahH l=m/\m≠1):=by
 cases n with
 |none=>
  cases v with
  |int kk a=>
   cases kk with
   |i64=>injection hk with hk;subst hk;exact ⟨h,rfl,rfl,rfl,fun _=>rfl,fun m hm=>by cases hm⟩
   |_=>cases hk
  |_=>cases hk
 |some m=>
  cases v with
  |agg cs=>
   simp only [Vc] at hk;cases hc:(NE (ahH cs) m&&!Nat.beq m 1) with
   |false=>rw [hc] at hk;cases hk
   |true=>
    rw [hc] at hk;simp only [kw] at hk;simp only [pp,acp,aa3] at hc;obtain ⟨c1,c2⟩:=hc;obtain ⟨q,rfl,hq⟩:=h;have QT:=Og hq hk;have bU:(ahH l)=m:=by have:=hq.mU;rw [QT] at this;simp at this;omega
    have hm1:m≠1:=by intro e;subst e;cases c2
    have QX:sY l= .agg (l.map (.int .i64)):=by
     unfold sY;split
     · simp at bU;omega
     rfl
    refine ⟨by rw [QX,QT],by rw [QX];simp [jA,bU],?_,by rw [QX];rfl,(fun h=>by cases h),fun m' hm=>by injection hm with hm;subst hm;exact ⟨bU,hm1⟩⟩;rw [QX];unfold PV.bW;rw [lm];simp [PV.cells,PV.plain]
  |_=>cases hk
theorem vX: ∀(a b:List Int),ahH a=ahH b->cX (a.map (.int .i64)) (b.map (.int .i64))=ahI (a==b)
 | [],[],_=>rfl
 |x::a,y::b,h=>by
  have ih:=vX a b (by simpa using h);simp only [aak,cX,qG,Ko,if_true];cases UN:x==y with
  |true=>simp only [ih];simp [agN,UN]
  |false=>simp [agN,UN]
 | [],_::_,h=>by simp at h
 |_::_,[],h=>by simp at h
theorem CE {n : Option Nat} {a : List Int} (ha : (sY a).cells = a.map (.int .i64)) (hn : (n = ahJ -> (ahH a) = 1) /\ (∀ m, n = ahI m -> (ahH a) = m /\ m ≠ 1)) : ∀ (l : List (List Int)) (i : Nat), (∀ r, eV n (sY a) (l.map Bp) i = ahI r -> (match r with | none => DM l a = ahL | some j => i <= j /\ DM l a = ahK /\ l[j - i]? = ahI a))
  | [], i, r, h => by
    simp only [aha, eV, AC] at h
    subst h; rfl
  | b :: l, i, r, h => by
    simp only [aak, Bp, eV] at h
    split at h
    · rename_i hk
      have hb : (sY b).cells = b.map (.int .i64) /\ (ahH a) = (ahH b) := by
        cases n with
        | none =>
          have hl := hn.1 rfl
          unfold sY at hk ⊢
          split at hk
          · exact ⟨rfl, by simpa using hl⟩
          cases hk
        | some m =>
          obtain ⟨hl, hm⟩ := hn.2 m rfl
          unfold sY at hk ⊢
          split at hk
          · cases hk
          simp only [jA, aa9, acp] at hk
          exact ⟨rfl, by omega⟩
      rw [ha, hb.1, vX a b hb.2] at h
      cases Ph : a == b with
      | true =>
        rw [Ph] at h
        injection h with h; subst h
        have : a = b := by simpa using Ph
        subst this
        exact ⟨ag7 _, by simp [DM], by simp⟩
      | false =>
        rw [Ph] at h
        have := CE ha hn l (i + 1) r h
        cases r with
        | none => simpa [DM, Ph] using this
        | some j =>
          obtain ⟨h1, h2, h3⟩ := this
          refine ⟨by omega, by simp only [DM] at h2; simp [DM, h2], ?_⟩
          rw [show j - i = (j - (i + 1)) + 1 by omega]; simpa using h3
    cases h
theorem Bu {n:Option Nat} {a:List Int} (ha:(sY a).cells=a.map (.int .i64)) (hn:(n=ahJ->ahH a=1)/\(∀m,n=ahI m->ahH a=m/\m≠1)) {l:List (List Int)} (hl:l.all (fun b=>jA n (sY b))=ahK): ∀i,∃r,eV n (sY a) (l.map Bp) i=ahI r:=by
 induction l with
 |nil=>intro i;exact ⟨ahJ,rfl⟩
 |cons b l ih=>
  intro i;simp only [agd,pp] at hl;obtain ⟨r,hr⟩:=ih hl.2 (i+1);simp only [aak,Bp,eV,hl.1,if_true];have hb:(sY b).cells=b.map (.int .i64)/\ahH a=(ahH b):=by
   have hk:=hl.1;cases n with
   |none=>
    have kY:=hn.1 rfl;unfold sY at hk ⊢;split at hk
    · exact ⟨rfl,by simpa using kY⟩
    cases hk
   |some m=>
    obtain ⟨kY,hm⟩:=hn.2 m rfl;unfold sY at hk ⊢;split at hk
    · cases hk
    simp only [jA,aa9,acp] at hk
    exact ⟨rfl,by omega⟩
  rw [ha,hb.1,vX a b hb.2];cases Ph:a==b with
  |true=>exact ⟨ahI i,rfl⟩
  |false=>exact ⟨r,hr⟩
theorem Dp {n:Option Nat} {a:List Int} (hn:(n=ahJ->ahH a=1)/\(∀m,n=ahI m->ahH a=m/\m≠1)) {l:List (List Int)} (hl: ∀b∈l,ahH b=ahH a):l.all (fun b=>jA n (sY b))=ahK:=by
 rw [abb];intro b hb;have bU:=hl b hb;cases n with
 |none=>
  have h1:=hn.1 rfl;rw [h1] at bU
  match b,bU with
  | [x],_=>rfl
 |some m=>
  obtain ⟨h1,h2⟩:=hn.2 m rfl;unfold sY;split
  · rename_i x;simp at bU;omega
  simp [jA];omega
theorem Bv {a:List Int} {l:List (List Int)} (h:nU a l=ahK): ∀b∈l,ahH b=(ahH a):=by intro b hb;exact lw (abb.1 h b hb)
theorem PT.ai2 {s:List SB} {p:PT} {v:SV} {q:PV} {a:p.T} (h:R s v q) (ho:p.of v=ahI a):q=p.pv a:=by
 cases p with
 |i k=>
  cases v with
  |int l n=>
   simp only [PT.of] at ho;cases hk:eX l k with
   |false=>rw [hk] at ho;cases ho
   |true=>rw [hk] at ho;obtain rfl:=eE.1 hk;injection ho with ho;subst ho;exact h
  |_=>cases ho
 |b=>
  cases v with
  |bool x=>injection ho with ho;subst ho;exact h
  |_=>cases ho
theorem Fj {β:Type} (g:Int×β->PV×PV) (hg: ∀x,(g x).1= .int .i64 x.1) (k:Int): ∀(l:List (Int×β)) (i:Nat),
 (∃j x,eV ahJ (.int .i64 k) (l.map g) i=ahI (ahI (i+j))/\l[j]? =ahI x/\(∀z,jr z l k=x.2)/\ ∀a,k7 l k a=l.set j (k,a))\/
 (eV ahJ (.int .i64 k) (l.map g) i=ahI ahJ/\(∀z,jr z l k=z)/\ ∀a,k7 l k a=l++[(k,a)])
 | [],i=> .inr ⟨rfl,fun _=>rfl,fun _=>rfl⟩
 |x::l,i=>by
  have hk:jA ahJ (g x).1=ahK:=by rw [hg];rfl
  have he:cX (PV.int .i64 k).cells (g x).1.cells=ahI (k==x.1):=by rw [hg];show cX [.int .i64 k] [.int .i64 x.1]=_;simp only [cX,qG,eX,if_true];cases k==x.1<;>rfl
  have hf:eV ahJ (.int .i64 k) ((x::l).map g) i=(match ahI (k==x.1) with
   |some ahK=>ahI (ahI i)
   |some ahL=>eV ahJ (.int .i64 k) (l.map g) (i+1)
   |none=>ahJ):=by
   rw [aak];show (if jA ahJ (g x).1 then _ else ahJ)=_;rw [lm hk,he];cases k==x.1<;>rfl
  cases hb:k==x.1 with
  |true=>rw [hb] at hf;exact .inl ⟨0,x,hf,rfl,fun z=>by simp only [jr,hb,kw],fun a=>by simp only [k7,hb,kw,List.set_cons_zero]⟩
  |false=>
   rw [hb] at hf;rcases Fj g hg k l (i+1) with ⟨j,y,h1,h2,h3,h4⟩|⟨h1,h2,h3⟩
   · refine .inl ⟨j+1,y,?_,by simpa using h2,fun z=>?_,fun a=>?_⟩
     · rw [hf];show eV ahJ (.int .i64 k) (l.map g) (i+1)=_
       rw [h1,show i+1+j=i+(j+1) by omega]
     · simp only [jr,hb,lc,h3]
     simp only [k7,hb,lc,h4,List.set_cons_succ]
   exact .inr ⟨hf.trans h1,fun z=>by simp only [jr,hb,lc,h2],fun a=>by simp only [k7,hb,lc,h3,adc]⟩
theorem Fk (p:PT) (k:Int) (l:List (RT [.i .i64,p])):
 (∃(j:Nat) (x:RT [.i .i64,p]),eV ahJ (.int .i64 k) (l.map (DN p)) 0=ahI (ahI j)/\l[j]? =ahI x/\(∀z,p.get z l k=x.2)/\ ∀a,p.put l k a=l.set j (k,a))\/
 (eV ahJ (.int .i64 k) (l.map (DN p)) 0=ahI ahJ/\(∀z,p.get z l k=z)/\ ∀a,p.put l k a=l++[(k,a)]):=by
 cases p with
 |i d=>
  rcases Fj (β:=Int) (DN (.i d)) (fun _=>rfl) k l 0 with ⟨j,x,h1,h2,h3,h4⟩|h
  · exact .inl ⟨j,x,by rw [h1,abU],h2,h3,h4⟩
  exact .inr h
 |b=>
  rcases Fj (β:=Bool) (DN .b) (fun _=>rfl) k l 0 with ⟨j,x,h1,h2,h3,h4⟩|h
  · exact .inl ⟨j,x,by rw [h1,abU],h2,h3,h4⟩
  exact .inr h
theorem PT.amG {s:List SB} (p:PT) (a:p.T):R s (p.sv a) (p.pv a):=by cases p<;>rfl
theorem PT.Kt (p:PT) (a:p.T):(p.pv a).bW=ahI [p.pv a]:=by cases p<;>rfl
theorem Mz (hE:dD s e pe) (hS:bX s ps) {n:Option Nat} {zero:PV} {ok:Bool} {m q:fc} (h:mw e s z (.lookup n zero ok m q) k ρ w=ahI y):gl s ps (bq pe ps z (.lookup n zero ok m q)) k ρ w y:=by
 simp only [mw] at h;have hx:=df hE m;generalize bH e m=v at h hx;cases v with
 |mp t=>
  simp only [bP] at h;generalize bM:s[t]? =b at h;cases b with
  |none=>cases h
  |some b=>
   cases b with
   |set l=>
    dsimp only at h;unfold N4 at h;cases zero with
    |bool b=>
     cases b with
     |true=>cases h
     |false=>
      cases ok with
      |true=>cases h
      |false=>
       obtain ⟨a,ha,h1⟩:=bC h;obtain ⟨b,hb,hk⟩:=ck h1;obtain ⟨k1,k2,k3,k4,k5⟩:=Sv (df hE q) ha;unfold Kf at hb;cases ua:nU a l with
       |false=>rw [ua] at hb;cases hb
       |true=>
        rw [ua] at hb;injection hb with hb;subst hb;obtain ⟨r,hr⟩:=Bu k4 k5 (Dp k5 (Bv ua)) 0;have hf:=CE k4 k5 l 0 r hr;refine gl.rd hS hk ?_ rfl;show s4 ps n (.bool ahL) ahL (m.ev pe) (q.ev pe)=_;rw [show m.ev pe=_ from hx,k1];simp only [s4,hS.aiZ bM,k2,if_true,hr];cases r with
        |none=>simp only at hf;simp [hf]
        |some j=>
         obtain ⟨_,h2,h3⟩:=hf;have:(l.map Bp)[j]? =ahI (Bp a):=by simp at h3;simp [h3]
         simp [this,h2,Bp]
    |_=>cases h
   |bA p l=>
    dsimp only at h;unfold N5 at h;cases n with
    |some _=>cases h
    |none=>
     cases ok with
     |true=>cases h
     |false=>
      have hq:=df hE q;generalize bH e q=u at h hq;cases u with
      |int d a=>
       cases d with
       |i64=>
        obtain ⟨zv,hz,hk⟩:=bC h;have ai3:=PT.ai2 (Mw s zero) hz;refine gl.rd hS hk ?_ (PT.amG p _);show s4 ps ahJ zero ahL (m.ev pe) (q.ev pe)=_;rw [show m.ev pe=_ from hx,show q.ev pe=_ from hq];rcases Fk p a l with ⟨j,x,h1,h2,h3,_⟩|⟨h1,h2,_⟩
        · have h5:(l.map (DN p))[j]? =ahI (DN p x):=by simp [h2]
          simp only [s4,hS.Vv bM,jA,if_true,h1,h5,h3,DN,PP,if_false]
        simp only [s4,hS.Vv bM,jA,if_true,h1,h2,ai3,PP,if_false]
       |_=>cases h
      |_=>cases h
   |_=>cases h
 |_=>cases h
theorem Sw (hE:dD s e pe) (hS:bX s ps) {n:Option Nat} {m q x:fc} (h:mw e s z (.HZ n m q x) k ρ w=ahI y):gl s ps (bq pe ps z (.HZ n m q x)) k ρ w y:=by
 simp only [mw] at h;have hx:=df hE m;generalize bH e m=v at h hx;cases v with
 |mp t=>
  simp only [bP] at h;generalize bM:s[t]? =b at h;cases b with
  |none=>cases h
  |some b=>
   cases b with
   |set l=>
    obtain ⟨hz,h0⟩:=rN h;unfold R4 at h0;have hv:=df hE x;generalize bH e x=u at h0 hv;cases u with
    |bool b=>
     cases b with
     |false=>cases h0
     |true=>
      obtain ⟨a,ha,h1⟩:=bC h0;obtain ⟨b,hb,hk⟩:=ck h1;obtain ⟨k1,k2,k3,k4,k5⟩:=Sv (df hE q) ha;unfold Kg at hb;cases ua:nU a l with
      |false=>rw [ua] at hb;cases hb
      |true=>
       rw [ua] at hb;injection hb with hb;subst hb;obtain ⟨r,hr⟩:=Bu k4 k5 (Dp k5 (Bv ua)) 0;have hf:=CE k4 k5 l 0 r hr;refine ⟨_,_,?_,Good.Sj hS (b:= .set (Mj l a)) (q:= .map ((Mj l a).map Bp)) (rd:=[]) bM trivial rfl,hk⟩;show Dc ps z n (m.ev pe) (q.ev pe) (x.ev pe)=_;rw [show m.ev pe=_ from hx,k1,show x.ev pe= .bool ahK from hv];have p2:(PV.bool ahK).bW=ahI [.bool ahK]:=rfl;simp only [Dc,hS.aiZ bM,k2,hz,abm,aaH,if_true,k3,p2,hr];cases r with
       |none=>simp only at hf;simp [Mj,hf,Bp]
       |some j=>
        obtain ⟨_,h2,h3⟩:=hf;have h5:l[j]? =ahI a:=by simpa using h3
        have:(l.map Bp).set j (sY a,.bool ahK)=l.map Bp:=by
         apply ah7;intro i;rw [If];split
         · rename_i lS
           subst lS;have c7:=(ut.1 h5).1;have h6:l[j]=a:=(ut.1 h5).2;simp [c7,h6,Bp]
         rfl
        simp [Mj,h2,this]
    |_=>cases h0
   |bA p l=>
    obtain ⟨hz,h0⟩:=rN h;unfold R5 at h0;cases n with
    |some _=>cases h0
    |none=>
     have hq:=df hE q;generalize bH e q=u at h0 hq;cases u with
     |int d a=>
      cases d with
      |i64=>
       obtain ⟨xv,hxv,hk⟩:=bC h0;have P1:=PT.ai2 (df hE x) hxv;refine ⟨_,_,?_,Good.Sj hS (b:= .bA p (p.put l a xv)) (q:= .map ((p.put l a xv).map (DN p))) (rd:=[]) bM trivial rfl,hk⟩;show Dc ps z ahJ (m.ev pe) (q.ev pe) (x.ev pe)=_;rw [show m.ev pe=_ from hx,show q.ev pe=_ from hq,P1];have p1:(PV.int .i64 a).bW=ahI [.int .i64 a]:=rfl;rcases Fk p a l with ⟨j,x,h1,_,_,h3⟩|⟨h1,_,h3⟩
       · simp only [Dc,hS.Vv bM,jA,hz,abm,aaH,if_true,p1,PT.Kt,h1,h3,ah5,DN]
       simp only [Dc,hS.Vv bM,jA,hz,abm,aaH,if_true,p1,PT.Kt,h1,h3,abe,aak,aha,DN]
      |_=>cases h0
     |_=>cases h0
   |_=>cases h
 |_=>cases h
theorem zM.fr' {s s':List SB} {bad:List Nat} {t e:Nat} (h:zM s t e) (hf:Fr bad s s'):zM s' t e:=by
 rcases h with ⟨r,l,h1,h2⟩|h1|⟨cs,h1,h2⟩
 · rcases hf t _ h1 with ⟨l',k1,_,_⟩|k1
   · exact .inl ⟨r,l',k1,h2⟩
   exact .inr (.inl k1)
 · exact .inr (.inl (hf t _ h1))
 rcases hf t _ h1 with ⟨c2,k1⟩|k1
 · exact .inr (.inr ⟨c2,k1,h2⟩)
 exact .inr (.inl k1)
theorem Ay {α:Type} {l r:List α} (h:bO l=ahI r):r=l/\ahH l<=1048576:=by
 unfold bO at h;split at h
 · injection h with h;exact ⟨h.symm,by assumption⟩
 cases h
theorem yg {α:Type} {l m r:List α} (h:bm l m=ahI r):r=l++m/\ahH l+ahH m<=1048576:=by
 unfold bm at h;split at h
 · injection h with h;exact ⟨h.symm,by assumption⟩
 cases h
theorem tz: ∀(m l:List Row) (n:Nat),n+ahH m<=ahH l->kV n m l=gK l n m
 | [],l,n,h=>by simp [kV,gK]
 |a::m,l,n,h=>by
  simp only [aa4] at h;rw [kV,tz m (l.set n a) (n+1) (by simp;omega)];unfold gK;rw [List.take_set,List.drop_set];have hn:n<(ahH l):=by omega
  have h1: ¬(n+1+ahH m<=n):=by omega
  rw [lm (by omega)];have:(l.take (n+1)).set n a=l.take n++[a]:=by rw [List.take_succ_eq_append_getElem hn,List.set_append_right _ _ (by simp;omega)];simp [ag0 (ah6 hn)]
  rw [this];simp only [aa5,adc,List.nil_append,aa4];rw [show n+1+ahH m=n+(ahH m+1) by omega]
theorem Fl {α β:Type} (f:α->β) (l m:List α) (n:Nat):(gK l n m).map f=gK (l.map f) n (m.map f):=by simp [gK,ab9,abF]
theorem Bw {α:Type} (l m:List α) (n:Nat) (h:n+ahH m<=ahH l):(gK l n m).length=(ahH l):=by simp [gK];omega
theorem MA (hE:dD s e pe) (hS:bX s ps) {esz:Nat} {x yy:fc} (h:mw e s z (.append esz x yy) k ρ w=ahI y):gl s ps (bq pe ps z (.append esz x yy)) k ρ w y:=by
 simp only [mw] at h;have hx:=df hE x;have RI:=df hE yy;unfold N3 at h;generalize bH e yy=vy at h RI;cases hc:zK s vy with
 |none=>rw [hc] at h;cases h
 |some cc=>
  obtain ⟨q,m⟩:=cc;rw [hc] at h;dsimp only at h;obtain ⟨he,h⟩:=cm h;have he:=lw he;obtain ⟨zA,AV⟩:=Oe hS RI hc;rw [he] at zA;have vY:bq pe ps z (.append esz x yy)=iQ ps z esz (x.ev pe) (yy.ev pe):=rfl;generalize bH e x=v at h hx;cases v with
  |nil e' c=>
   dsimp only at h;obtain ⟨G4,h⟩:=cm h;obtain ⟨m',zF,hk⟩:=ck h;obtain ⟨rfl,lx⟩:=Ay zF;refine ⟨_,_,?_,Good.new hS (b:= .arr q m') (q:= .arr esz (m'.map (RT.pv q))) (v:= .own (ahH s) ahL) (p:= .own (ahH s) esz 0 (ahH m') (ahH m') ahL) (rd:=vQ vy) (by rw [<- he];rfl) ⟨esz,ahH m',rfl,.inl ⟨q,m',mD,he.symm,rfl⟩⟩,hk⟩;rw [vY];have amH:c=ahK:=G4;subst amH;rw [show x.ev pe= .sl e' ahK [] from hx];unfold iQ;rw [zA];cases m' with
   |nil=>simp [hS.len,AV]
   |cons a m'=>
    have h2:IR ((a::m').length) lT=ahK:=by simp [lT] at lx ⊢;omega
    simp only [aa4] at h2;simp [hS.len,AV,h2]
  |own t ex=>
   dsimp only at h;simp only [bP] at h;generalize bM:s[t]? =b at h;cases b with
   |none=>cases h
   |some b=>
    cases b with
    |arr r l=>
     dsimp only at h;cases Sx:sf q r m with
     |none=>rw [Sx] at h;cases h
     |some m2=>
      rw [Sx] at h;dsimp only at h;obtain ⟨rfl,hmp,zp⟩:=Bo Sx;obtain ⟨e',n',hx,cJ⟩:=hx;obtain ⟨rfl,rfl⟩:=cJ.inv bM;rw [<- hmp] at zA;have GP:=hS.arr bM;cases ex with
      |true=>
       dsimp only at h;rcases eF h with ⟨hl,h⟩|⟨hl,h⟩
       · obtain ⟨m',zF,hk⟩:=ck h
         obtain ⟨rfl,lx⟩:=Ay zF;have hl:l=[]:=by simpa using hl
         subst hl;refine ⟨_,_,?_,Good.new hS (b:= .arr q m') (q:= .arr (ahH q) (m'.map (RT.pv q))) (v:= .own (ahH s) ahL) (p:= .own (ahH s) (ahH q) 0 (ahH m') (ahH m') ahL) (rd:=t::vQ vy) rfl ⟨ahH q,ahH m',rfl,.inl ⟨q,m',mD,rfl,rfl⟩⟩,hk⟩;rw [vY,hx];unfold iQ;rw [zA];subst he;cases m' with
         |nil=>simp [hS.len,AV]
         |cons a m'=>
          have h2:IR ((a::m').length) lT=ahK:=by simp [lT] at lx ⊢;omega
          simp only [aa4] at h2;simp [hS.len,AV,h2,GP]
       have hl:l≠[]:=by intro e;subst e;cases hl
       have Jm:(ahH l)≠0:=by intro e;exact hl (abR.1 e)
       have hb0:NE (ahH l) 0=ahL:=by
        cases hb:NE (ahH l) 0 with
        |false=>rfl
        |true=>exact absurd (lw hb) Jm
       rcases eF h with ⟨hm,h⟩|⟨hm,h⟩
       · have hm:m2=[]:=by simpa using hm
         subst hm;refine gl.rd hS h ?_ ⟨_,_,rfl,cJ⟩;rw [vY,hx];unfold iQ;rw [zA];simp [hb0,AV]
       obtain ⟨l',kY,hk⟩:=ck h
       obtain ⟨rfl,lx⟩:=yg kY;refine ⟨_,_,?_,Good.new hS (b:= .arr q (l++m2)) (q:= .arr (ahH q) ((l++m2).map (RT.pv q))) (v:= .own (ahH s) ahL) (p:= .own (ahH s) (ahH q) 0 (l++m2).length (l++m2).length ahL) (rd:=t::vQ vy) rfl ⟨ahH q,(l++m2).length,rfl,.inl ⟨q,l++m2,mD,rfl,rfl⟩⟩,hk⟩;rw [vY,hx];unfold iQ;rw [zA];subst he;cases m2 with
       |nil=>cases hm
       |cons a m2=>
        have h2:IR (ahH l+(a::m2).length) lT=ahK:=by simp [lT] at lx ⊢;omega
        have h3:IR (ahH l+(ahH m2+1)) (ahH l)=ahL:=by
         cases hb:IR (ahH l+(ahH m2+1)) (ahH l) with
         |false=>rfl
         |true=>have:=UV hb;omega
        simp only [aa4] at h2;simp [hS.len,AV,h2,h3,GP,aba]
      |false=>
       dsimp only at h;rcases eF h with ⟨hm,h⟩|⟨hm,h⟩
       · have hm:m2=[]:=by simpa using hm
         subst hm;refine gl.rd hS h ?_ ⟨_,_,rfl,cJ⟩;rw [vY,hx];unfold iQ;rw [zA];simp [AV]
       obtain ⟨hz,h⟩:=rN h
       obtain ⟨l',kY,hk⟩:=ck h;obtain ⟨rfl,lx⟩:=yg kY;have bU:(B9 [t] (s.set t .dead)).length=(ahH s):=by rw [vU];simp
       refine ⟨_,_,?_,Good.put hS (b:= .dead) (q:= .dead) (l:=[.arr q (l++m2)]) (ql:=[.arr (ahH q) ((l++m2).map (RT.pv q))]) (v:= .own (ahH s) ahL) (p:= .own (ahH s) (ahH q) 0 (l++m2).length (l++m2).length ahL) (rd:=vQ vy) bM (.inr rfl) rfl rfl
        (fun j b hj=>by
         cases j with
         |zero=>simp at hj;subst hj;exact ⟨_,rfl,rfl⟩
         |succ j=>simp at hj)
        ⟨ahH q,(l++m2).length,rfl,.inl ⟨q,l++m2,by rw [<- bU];exact mD,rfl,rfl⟩⟩,hk⟩
       rw [vY,hx];unfold iQ;rw [zA];subst he;cases m2 with
       |nil=>cases hm
       |cons a m2=>
        have h2:IR (ahH l+(a::m2).length) lT=ahK:=by simp [lT] at lx ⊢;omega
        have h3:IR (ahH l+(ahH m2+1)) (ahH l)=ahL:=by
         cases hb:IR (ahH l+(ahH m2+1)) (ahH l) with
         |false=>rfl
         |true=>have:=UV hb;omega
        simp only [aa4] at h2;simp [hS.len,AV,h2,h3,GP,hz,aba]
    |_=>cases h
  |pre t len cap ex=>
   dsimp only at h;simp only [bP] at h;generalize bM:s[t]? =b at h;cases b with
   |none=>cases h
   |some b=>
    cases b with
    |arr r l=>
     dsimp only at h;cases Sx:sf q r m with
     |none=>rw [Sx] at h;cases h
     |some m2=>
      rw [Sx] at h;dsimp only at h;obtain ⟨rfl,hmp,zp⟩:=Bo Sx;obtain ⟨e',hx,cJ⟩:=hx;have:=cJ.inv bM;subst this;rw [<- hmp] at zA;have GP:=hS.arr bM;obtain ⟨hex,h⟩:=rN h;subst hex;rcases eF h with ⟨hm,h⟩|⟨hm,h⟩
      · have hm:m2=[]:=by simpa using hm
        subst hm;refine gl.rd hS h ?_ ⟨_,rfl,cJ⟩;rw [vY,hx];unfold iQ;rw [zA];simp [AV]
      rcases eF h with ⟨c1,h⟩|⟨c1,h⟩
      · obtain ⟨GC,hk⟩:=ic h
        simp only [pp,aa3] at GC;obtain ⟨c2,c3⟩:=GC;have c2':=UV c2;refine ⟨_,_,?_,Good.put hS (b:= .arr q (gK l len m2)) (q:= .arr (ahH q) ((gK l len m2).map (RT.pv q))) (l:=[]) (ql:=[]) (v:= .pre t (len+ahH m2) cap ahL) (p:= .own t (ahH q) 0 (len+ahH m2) cap ahL) (rd:=vQ vy) bM (.inl ⟨_,rfl,Bw _ _ _ c2'⟩) rfl rfl
         (fun j b hj=>by simp at hj) ⟨ahH q,rfl,?_⟩,hk⟩
        · rw [vY,hx]
          unfold iQ;rw [zA];subst he;have kg:kV (0+len) (m2.map (RT.pv q)) (l.map (RT.pv q))=(gK l len m2).map (RT.pv q):=by rw [tz _ _ _ (by simp;omega),Fl,abU]
          cases m2 with
          |nil=>cases hm
          |cons a m2=>simp only [aa4] at c1;simp only [aak] at kg ⊢;simp only [GP,aaI,agJ,PP,if_false,aa4,aa9,c1,if_true,c3,kg,AV]
        have:=zM.fr' (s:=s) (s':=B9 [t] (s.set t (.arr q (gK l len m2)))++[]) cJ ((Fr.dg (ts:=[t]) (Fr.set bM (.inl ⟨_,rfl,Bw _ _ _ c2'⟩))).trans (Fr.app [t] _ []))
        exact this
      obtain ⟨hz0,h⟩:=rN h
      have hz:has z t=ahL:=by
       cases hh:has z t with
       |false=>rfl
       |true=>rw [hh] at hz0;cases hz0
      obtain ⟨l',kY,h⟩:=ck h;obtain ⟨Ae,hk⟩:=ic h;obtain ⟨amI,lx⟩:=yg kY;subst amI;have ar3:=UV Ae;have PA:(l.take len).length=len:=by rw [ab8];omega
      rw [PA] at lx;have bU:(B9 [t] (s.set t .dead)).length=(ahH s):=by rw [vU];simp
      have hal:(l.take len++m2).length=len+(ahH m2):=by rw [acr,PA]
      refine ⟨_,_,?_,Good.put hS (b:= .dead) (q:= .dead) (l:=[.arr q (l.take len++m2)]) (ql:=[.arr (ahH q) ((l.take len++m2).map (RT.pv q))]) (v:= .own (ahH s) ahL) (p:= .own (ahH s) (ahH q) 0 (l.take len++m2).length (l.take len++m2).length ahL) (rd:=vQ vy) bM (.inr rfl) rfl rfl
       (fun j b hj=>by
        cases j with
        |zero=>simp at hj;subst hj;exact ⟨_,rfl,rfl⟩
        |succ j=>simp at hj)
       ⟨ahH q,(l.take len++m2).length,rfl,.inl ⟨q,l.take len++m2,by rw [<- bU];exact mD,rfl,rfl⟩⟩,hk⟩
      rw [vY,hx];unfold iQ;rw [zA];subst he;cases m2 with
      |nil=>cases hm
      |cons a m2=>
       have h2:IR (len+(ahH m2+1)) lT=ahK:=by simp [lT] at lx ⊢;omega
       simp only [aa4] at c1 hal;simp only [aak,aa4,aa9,GP,aaI,agJ,PP,if_false,c1,h2,hz,hS.len,AV,hal,abc,abe,ab9]
    |_=>cases h
  |_=>cases h
end
end Go.Vm
/- Operation by operation: all of them. -/
namespace Go.Vm
section
variable {R' ρ : Type} {w : R' -> ρ} {y : ρ} {s : List SB} {ps : bS} {e : SE} {pe : Env} {z : List Nat} {k : fJ -> gb R'}
theorem P2 (hE:dD s e pe) (hS:bX s ps) {esz:Nat} {zero:Row} {x:fc} (h:mw e s z (.clear esz zero x) k ρ w=ahI y):gl s ps (bq pe ps z (.clear esz zero x)) k ρ w y:=by
 simp only [mw] at h;have hx:=df hE x;unfold R3 at h;generalize bH e x=v at h hx;cases v with
 |part t off len cap ex=>
  simp only [bP] at h;generalize bM:s[t]? =b at h;cases b with
  |none=>cases h
  |some b=>
   cases b with
   |arr r l=>
    dsimp only at h;cases hq:E1 zero with
    |none=>rw [hq] at h;cases h
    |some q=>
     rw [hq] at h;dsimp only at h;obtain ⟨hc,h1⟩:=cm h;simp only [pp] at hc;obtain ⟨hqr,he⟩:=hc;have hqr:=uU hqr;have he:=lw he;obtain ⟨e',hx,cJ⟩:=hx;have:=cJ.inv bM;subst this;subst hqr;subst he;rcases eF h1 with ⟨hl,hk⟩|⟨hl,hk⟩
     · have hl:=lw hl
       subst hl;exact gl.val hS hk (by simp only [bq,hx]) rfl
     obtain ⟨GC,hk⟩:=ic hk
     simp only [pp,aa3] at GC;obtain ⟨c1,c2⟩:=GC;have c1':=UV c1;have bU:=Bw l (ab7 len (RT.zero q)) off (by simpa using c1');refine ⟨_,_,?_,Good.Sj hS (b:= .arr q (gK l off (ab7 len (RT.zero q)))) (q:= .arr (ahH q) ((gK l off (ab7 len (RT.zero q))).map (RT.pv q))) (rd:=[]) bM (.inl ⟨_,rfl,bU⟩) rfl,hk⟩;cases len with
     |zero=>cases hl
     |succ len=>
      have kg:kV off (ab7 (len+1) zero) (l.map (RT.pv q))=(gK l off (ab7 (len+1) (RT.zero q))).map (RT.pv q):=by rw [Fl,tz _ _ _ (by simpa using c1')];simp [Bt hq]
      simp only [bq,hx,hS.arr bM,aaI,c2,abm,aaH,if_true,kg]
   |_=>cases h
 |_=>cases h
theorem Az (hS:bX s ps) {t off len cap:Nat} {ex:Bool} {r:List PT} {l:List (RT r)} {x yy:fc} {vy:SV} (bM:s[t]? =ahI (.arr r l)) (hx:x.ev pe= .own t (ahH r) off len cap ex) (RI:R s vy (yy.ev pe))
 (h:E3 s z t r l off len vy k ρ w=ahI y):gl s ps (bq pe ps z (.copy (ahH r) x yy)) k ρ w y:=by
 unfold E3 at h;cases hc:zK s vy with
 |none=>rw [hc] at h;cases h
 |some cc=>
  obtain ⟨q,m⟩:=cc;rw [hc] at h;dsimp only at h;cases Sx:sf q r m with
  |none=>rw [Sx] at h;cases h
  |some m2=>
   rw [Sx] at h;dsimp only at h;obtain ⟨hqr,hmp,zp⟩:=Bo Sx;subst hqr;obtain ⟨zA,AV⟩:=Oe hS RI hc;rw [<- hmp] at zA;have Fm:(m2.map (RT.pv q)).take len=(m2.take len).map (RT.pv q):=by rw [ab9]
   generalize m2.take len=mm at h Fm;rcases eF h with ⟨hm,hk⟩|⟨hm,hk⟩
   · have hm:mm=[]:=by simpa using hm
     subst hm;refine gl.rd hS hk ?_ rfl;simp only [bq,zA,hx,Fm,aha,AV]
   obtain ⟨GC,hk⟩:=ic hk
   simp only [pp,aa3] at GC;obtain ⟨c1,c2⟩:=GC;have c1':=UV c1;have bU:=Bw l mm off c1';refine ⟨_,_,?_,Good.put hS (b:= .arr q (gK l off mm)) (q:= .arr (ahH q) ((gK l off mm).map (RT.pv q))) (l:=[]) (ql:=[]) (v:= .int .i64 (.ofNat (ahH mm))) (p:= .int .i64 (.ofNat (ahH mm))) (rd:=vQ vy) bM (.inl ⟨_,rfl,bU⟩) rfl rfl (fun j b hj=>by simp at hj) rfl,hk⟩;have kg:kV off (mm.map (RT.pv q)) (l.map (RT.pv q))=(gK l off mm).map (RT.pv q):=by rw [Fl,tz _ _ _ (by simpa using c1')]
   cases mm with
   |nil=>cases hm
   |cons a mm=>simp only [aak] at kg Fm;simp only [bq,zA,hx,Fm,hS.arr bM,aaI,c2,abm,aaH,if_true,kg,AV,aa9,aa4]
theorem Sy (hE:dD s e pe) (hS:bX s ps) {esz:Nat} {x yy:fc} (h:mw e s z (.copy esz x yy) k ρ w=ahI y):gl s ps (bq pe ps z (.copy esz x yy)) k ρ w y:=by
 simp only [mw] at h;have hx:=df hE x;have RI:=df hE yy;unfold abz at h;generalize bH e yy=vy at h RI;generalize bH e x=v at h hx;cases v with
 |own t ex=>
  simp only [bP] at h;generalize bM:s[t]? =b at h;cases b with
  |none=>cases h
  |some b=>
   cases b with
   |arr r l=>obtain ⟨he,hk⟩:=cm h;have he:=lw he;subst he;obtain ⟨e',n',hx,cJ⟩:=hx;obtain ⟨rfl,rfl⟩:=cJ.inv bM;exact Az hS bM hx RI hk
   |_=>cases h
 |pre t len cap ex=>
  simp only [bP] at h;generalize bM:s[t]? =b at h;cases b with
  |none=>cases h
  |some b=>
   cases b with
   |arr r l=>obtain ⟨he,hk⟩:=cm h;have he:=lw he;subst he;obtain ⟨e',hx,cJ⟩:=hx;have:=cJ.inv bM;subst this;exact Az hS bM hx RI hk
   |_=>cases h
 |part t off len cap ex=>
  simp only [bP] at h;generalize bM:s[t]? =b at h;cases b with
  |none=>cases h
  |some b=>
   cases b with
   |arr r l=>obtain ⟨he,hk⟩:=cm h;have he:=lw he;subst he;obtain ⟨e',hx,cJ⟩:=hx;have:=cJ.inv bM;subst this;exact Az hS bM hx RI hk
   |_=>cases h
 |_=>cases h
theorem P3 (hE:dD s e pe) (hS:bX s ps) {x1 x2:fc} (h:mw e s z (.C' x1 x2) k ρ w=ahI y):gl s ps (bq pe ps z (.C' x1 x2)) k ρ w y:=by
 simp only [mw] at h;have hx:=df hE x1;have hy:=df hE x2;generalize bH e x1=v at h hx;generalize bH e x2=u at h hy;cases v with
 |sl r l=>
  cases u with
  |sl q m=>have hx:x1.ev pe= .sl (ahH r) ahL (l.map (RT.pv r)):=hx;have hy:x2.ev pe= .sl (ahH q) ahL (m.map (RT.pv q)):=hy;refine ⟨_,_,?_,Good.new hS (b:= .box [.sl r l,.sl q m]) (q:= .box [.sl (ahH r) ahL (l.map (RT.pv r)),.sl (ahH q) ahL (m.map (RT.pv q))]) (v:= .part (ahH s) 0 2 2 ahK) (p:= .own (ahH s) 1 0 2 2 ahK) (rd:=[]) ⟨_,rfl,_,_,rfl,rfl,_,_,rfl,rfl,rfl⟩ ⟨1,rfl,.inr (.inr ⟨_,mD,rfl⟩)⟩,h⟩;simp only [bq,hx,hy,hS.len];rfl
  |_=>cases h
 |_=>cases h
theorem Vz (hE:dD s e pe) (hS:bX s ps) {op:kO} (h:mw e s z op k ρ w=ahI y):gl s ps (bq pe ps z op) k ρ w y:=by
 cases op with
 |QS x=>exact gl.val hS h rfl (df hE x)
 |pick c a b=>exact Sq hE hS h
 |bin op a b=>exact Vl hE hS h
 |Jt n a b=>exact Sk hE hS h
 |eqc n g a b=>exact Vn hE hS h
 |un op a=>exact acO hE hS h
 |conv a x=>exact Sm hE hS h
 |len x=>exact Vo hE hS h
 |LQ n=>exact gl.val hS h rfl rfl
 |box x=>exact Vq hE hS h
 |alloc c=>exact PX hS h
 |build z p=>exact PW hE hS h
 |AW a b c d=>exact P0 hE hS h
 |C' a b=>exact P3 hE hS h
 |load a p=>exact Su hE hS h
 |store a p x=>exact PZ hE hS h
 |Ju x=>exact Sn hE hS h
 |Jv o x=>exact Sp hE hS h
 |lq a o x=>exact Vr hE hS h
 |Jw a x i=>exact Sr hE hS h
 |Da n a x i=>exact PY hE hS h
 |idx n a g x i=>exact Vw hE hS h
 |Jx x i=>exact Ss hE hS h
 |O5 a x l h' m=>exact Vx hE hS h
 |mks a z l c=>exact Vy hE hS h
 |mkf f a b=>exact Vt hE hS h
 |mkm m=>exact Vu hS h
 |lookup n z o m q=>exact Mz hE hS h
 |HZ n m q x=>exact Sw hE hS h
 |ext i x=>exact Vs hE hS h
 |append a x b=>exact MA hE hS h
 |copy a x b=>exact Sy hE hS h
 |clear a z x=>exact P2 hE hS h
 |mm m x xs=>exact acP hE hS h
 |call m f a=>cases h
 |w9 x a=>cases h
 |bad=>cases h
mutual
theorem ai6 {bx:Nat->Option (List SV)} {Sz:Nat->Option (List PV)} (hS:bX s ps) (hb: ∀t l,bx t=ahI l-> ∃q,Sz t=ahI q/\oK l=ahI q): ∀{v u:SV} {p:PV},R s v p->Hh s bx v=ahI u-> ∃q,Cb ps Sz p=ahI q/\ru u=ahI q
 | .int k n,u,p,h,hx=>by injection hx with hx;subst hx;rw [show p=_ from h];exact ⟨_,rfl,rfl⟩
 | .bool b,u,p,h,hx=>by injection hx with hx;subst hx;rw [show p=_ from h];exact ⟨_,rfl,rfl⟩
 | .str x,u,p,h,hx=>by injection hx with hx;subst hx;rw [show p=_ from h];exact ⟨_,rfl,rfl⟩
 | .dC,u,p,h,hx=>by injection hx with hx;subst hx;rw [show p=_ from h];exact ⟨_,rfl,rfl⟩
 | .agg cs,u,p,h,hx=>by
  obtain ⟨q,rfl,h⟩:=h;simp only [Hh] at hx;split at hx
  · rename_i l hl
    injection hx with hx;subst hx;obtain ⟨q',h1,h2⟩:=uh hS hb h hl;exact ⟨.agg q',by simp only [Cb,h1];rfl,by simp only [ru,h2]⟩
  cases hx
 | .bN cs,u,p,h,hx=>by
  obtain ⟨q,rfl,h⟩:=h;simp only [Hh] at hx;split at hx
  · rename_i l hl
    injection hx with hx;subst hx;obtain ⟨q',h1,h2⟩:=uh hS hb h hl;exact ⟨.bN q',by simp only [Cb,h1];rfl,by simp only [ru,h2]⟩
  cases hx
 | .sl r l,u,p,h,hx=>by injection hx with hx;subst hx;rw [show p=_ from h];exact ⟨_,rfl,rfl⟩
 | .nil e c,u,p,h,hx=>by injection hx with hx;subst hx;rw [show p=_ from h];exact ⟨_,rfl,rfl⟩
 | .own t ex,u,p,h,hx=>by
  simp only [Hh,bP] at hx;split at hx
  · rename_i r l bM
    injection hx with hx;subst hx;obtain ⟨e,n,rfl,cJ⟩:=h;obtain ⟨rfl,rfl⟩:=cJ.inv bM;refine ⟨.sl (ahH r) ahL (l.map (RT.pv r)),?_,rfl⟩;simp only [Cb,hS.arr bM,abc];rw [aba (by simp)]
  cases hx
 | .pre t len cap ex,u,p,h,hx=>by
  simp only [Hh,bP] at hx;split at hx
  · rename_i r l bM
    injection hx with hx;subst hx;obtain ⟨e,rfl,cJ⟩:=h;have:=cJ.inv bM;subst this;refine ⟨.sl (ahH r) ahL ((l.take len).map (RT.pv r)),?_,rfl⟩;simp only [Cb,hS.arr bM,abc,ab9]
  cases hx
 | .part t off len cap ex,u,p,h,hx=>by
  simp only [Hh,bP] at hx;split at hx
  · rename_i r l bM
    injection hx with hx;subst hx;obtain ⟨e,rfl,cJ⟩:=h;have:=cJ.inv bM;subst this;refine ⟨.sl (ahH r) ahL (((l.drop off).take len).map (RT.pv r)),?_,rfl⟩;simp only [Cb,hS.arr bM,ab9,abF]
  cases hx
 | .pa t r i a off,u,p,h,hx=>by
  simp only [Hh,bP] at hx;split at hx
  · rename_i q l bM
    injection hx with hx;subst hx;obtain ⟨rfl,cJ⟩:=h;obtain ⟨rfl,hg⟩:=cJ.inv bM;obtain ⟨m,rfl,hm⟩:=nq hg;refine ⟨.bw (RT.pv r a) off,?_,by simp only [ru,RT.Hk]⟩;have zF:(l.map (RT.pv r))[m]? =ahI (RT.pv r a):=by simp [hm]
    have e1:(abi m).toNat=m:=rfl;simp only [Cb,hS.arr bM,e1,zF];rfl
  cases hx
 | .bp t n off,u,p,h,hx=>by
  simp only [Hh,bP] at hx;split at hx
  · rename_i cs bM
    split at hx
    · rename_i l hl
      injection hx with hx;subst hx;rw [show p=_ from h];obtain ⟨q,h1,h2⟩:=hb t l hl;obtain ⟨c,h3,_⟩:=hS.box bM;refine ⟨.bw q off,?_,by simp only [ru,h2]⟩;simp only [Cb,h3,aaI,if_true,h1];rfl
    cases hx
  cases hx
 | .bw cs off,u,p,h,hx=>by
  obtain ⟨q,rfl,h⟩:=h;simp only [Hh] at hx;split at hx
  · rename_i l hl
    injection hx with hx;subst hx;obtain ⟨q',h1,h2⟩:=uh hS hb h hl;exact ⟨.bw q' off,by simp only [Cb,h1];rfl,by simp only [ru,h2]⟩
  cases hx
 | .eA f a b,u,p,h,hx=>by
  obtain ⟨pa,pb,rfl,h1,h2⟩:=h;simp only [Hh] at hx;split at hx
  · rename_i x y' h3 h4
    injection hx with hx;subst hx;obtain ⟨qa,h5,h6⟩:=uh hS hb h1 h3;obtain ⟨qb,h7,h8⟩:=uh hS hb h2 h4;exact ⟨.eA f qa qb,by simp only [Cb,h5,h7],by simp only [ru,h6,h8]⟩
  cases hx
 | .gQ,_,_,_,hx| .undef,_,_,_,hx| .js,_,_,_,hx| .pb _ _ _,_,_,_,hx| .mp _,_,_,_,hx=>by cases hx
theorem uh {bx:Nat->Option (List SV)} {Sz:Nat->Option (List PV)} (hS:bX s ps) (hb: ∀t l,bx t=ahI l-> ∃q,Sz t=ahI q/\oK l=ahI q): ∀{v u:List SV} {p:List PV},RL s v p->sg s bx v=ahI u-> ∃q,B6 ps Sz p=ahI q/\oK u=ahI q
 | [],u,p,h,hx=>by injection hx with hx;subst hx;rw [show p=_ from h];exact ⟨_,rfl,rfl⟩
 |x::xs,u,p,h,hx=>by
  obtain ⟨q,qs,rfl,h1,h2⟩:=h.cons_inv;simp only [sg] at hx;split at hx
  · rename_i y' ys h3 h4
    injection hx with hx;subst hx;obtain ⟨a,h5,h6⟩:=ai6 hS hb h1 h3;obtain ⟨as,h7,h8⟩:=uh hS hb h2 h4;exact ⟨a::as,by simp only [B6,h5,h7],dY.2 ⟨a,as,rfl,h6,h8⟩⟩
  cases hx
end
theorem D7 (hS:bX s ps): ∀(n t:Nat) (l:List SV),kz s n t=ahI l-> ∃q,xq ps n t=ahI q/\oK l=ahI q
 |0,t,l,h=>by cases h
 |n+1,t,l,h=>by
  simp only [kz,bP] at h;split at h
  · rename_i cs bM
    obtain ⟨q,h1,h2⟩:=hS.box bM;obtain ⟨u,h3,h4⟩:=uh hS (D7 hS n) h2 h;exact ⟨u,by simp only [xq,h1,h3],h4⟩
  cases h
mutual
theorem SA {bx Sz:Nat->List Nat} (hb: ∀t,bx t=Sz t): ∀{v:SV} {p:PV},R s v p->v.sure=ahK->Mn bx v=jb Sz p
 | .gQ,_,_,h=>by cases h
 | .undef,p,h,_| .js,p,h,_| .dC,p,h,_| .int _ _,p,h,_| .bool _,p,h,_| .str _,p,h,_| .sl _ _,p,h,_| .nil _ _,p,h,_=>by rw [show p=_ from h];rfl
 | .agg cs,p,h,hs=>by obtain ⟨q,rfl,h⟩:=h;exact AA hb h hs
 | .bN cs,p,h,hs=>by obtain ⟨q,rfl,h⟩:=h;exact AA hb h hs
 | .own t ex,p,h,_=>by obtain ⟨e,n,rfl,_⟩:=h;rfl
 | .pre t a b c,p,h,_=>by obtain ⟨e,rfl,_⟩:=h;rfl
 | .part t o a b c,p,h,_=>by obtain ⟨e,rfl,_⟩:=h;rfl
 | .pa t r i a o,p,h,_=>by obtain ⟨rfl,_⟩:=h;simp only [Mn,jb,hb]
 | .pb t i o,p,h,_=>by obtain ⟨e,rfl,_⟩:=h;simp only [Mn,jb,hb]
 | .bp t n o,p,h,_=>by rw [show p=_ from h];simp only [Mn,jb,hb]
 | .bw cs o,p,h,hs=>by obtain ⟨q,rfl,h⟩:=h;exact AA hb h hs
 | .mp t,p,h,_=>by rw [show p=_ from h];rfl
 | .eA f a b,p,h,hs=>by obtain ⟨pa,pb,rfl,h1,h2⟩:=h;simp only [SV.sure,pp] at hs;simp only [Mn,jb,AA hb h1 hs.1,AA hb h2 hs.2]
theorem AA {bx Sz:Nat->List Nat} (hb: ∀t,bx t=Sz t): ∀{v:List SV} {p:List PV},RL s v p->mq v=ahK->ri bx v=cT Sz p
 | [],p,h,_=>by rw [show p=_ from h];rfl
 |x::xs,p,h,hs=>by obtain ⟨q,qs,rfl,h1,h2⟩:=h.cons_inv;simp only [mq,pp] at hs;simp only [ri,cT,SA hb h1 hs.1,AA hb h2 hs.2]
end
end
end Go.Vm
/- The head of a loop: what the typed machine keeps there, the logical machine keeps there. -/
namespace Go.Vm
section
variable {s : List SB} {ps : bS}
mutual
theorem ai7 {n:Nat} (hS:bX s ps) (hB: ∀t l,kz s n t=ahI l->xx s n t=cK ps n t): ∀{v u:SV} {p:PV},R s v p->Hh s (kz s n) v=ahI u->Mn (xx s n) v=jb (cK ps n) p
 | .int _ _,_,p,h,_| .bool _,_,p,h,_| .str _,_,p,h,_| .dC,_,p,h,_| .sl _ _,_,p,h,_| .nil _ _,_,p,h,_=>by rw [show p=_ from h];rfl
 | .agg cs,u,p,h,hx=>by
  obtain ⟨q,rfl,h⟩:=h;simp only [Hh] at hx;split at hx
  · rename_i l hl;exact zN hS hB h hl
  cases hx
 | .bN cs,u,p,h,hx=>by
  obtain ⟨q,rfl,h⟩:=h;simp only [Hh] at hx;split at hx
  · rename_i l hl;exact zN hS hB h hl
  cases hx
 | .own t ex,_,p,h,_=>by obtain ⟨e,n,rfl,_⟩:=h;rfl
 | .pre t a b c,_,p,h,_=>by obtain ⟨e,rfl,_⟩:=h;rfl
 | .part t o a b c,_,p,h,_=>by obtain ⟨e,rfl,_⟩:=h;rfl
 | .pa t r i a o,_,p,h,hx=>by
  obtain ⟨rfl,cJ⟩:=h;simp only [Hh,bP] at hx;split at hx
  · rename_i q l bM
    simp only [Mn,jb];cases n with
    |zero=>rfl
    |succ n=>simp only [xx,cK,bP,bM,hS.arr bM]
  cases hx
 | .bp t m o,u,p,h,hx=>by
  rw [show p=_ from h];simp only [Hh,bP] at hx;split at hx
  · split at hx
    · rename_i l hl
      simp only [Mn,jb,hB t l hl]
    cases hx
  cases hx
 | .bw cs o,u,p,h,hx=>by
  obtain ⟨q,rfl,h⟩:=h;simp only [Hh] at hx;split at hx
  · rename_i l hl;exact zN hS hB h hl
  cases hx
 | .eA f a b,u,p,h,hx=>by
  obtain ⟨pa,pb,rfl,h1,h2⟩:=h;simp only [Hh] at hx;split at hx
  · rename_i x y h3 h4
    simp only [Mn,jb,zN hS hB h1 h3,zN hS hB h2 h4]
  cases hx
 | .gQ,_,_,_,hx| .undef,_,_,_,hx| .js,_,_,_,hx| .pb _ _ _,_,_,_,hx| .mp _,_,_,_,hx=>by cases hx
theorem zN {n:Nat} (hS:bX s ps) (hB: ∀t l,kz s n t=ahI l->xx s n t=cK ps n t): ∀{v u:List SV} {p:List PV},RL s v p->sg s (kz s n) v=ahI u->ri (xx s n) v=cT (cK ps n) p
 | [],_,p,h,_=>by rw [show p=_ from h];rfl
 |x::xs,u,p,h,hx=>by
  obtain ⟨q,qs,rfl,h1,h2⟩:=h.cons_inv;simp only [sg] at hx;split at hx
  · rename_i a b h3 h4
    simp only [ri,cT,ai7 hS hB h1 h3,zN hS hB h2 h4]
  cases hx
end
theorem SC {n:Nat} (hS:bX s ps) (hB: ∀t l,kz s n t=ahI l->xx s n t=cK ps n t): ∀{v:List SV} {p:List PV},RL s v p->Mm s (kz s n) v=ahK->ri (xx s n) v=cT (cK ps n) p
 | [],p,h,_=>by rw [show p=[] from h];rfl
 |x::xs,p,h,hx=>by
  obtain ⟨a,as,rfl,h1,h2⟩:=h.cons_inv;have other: ∀u,Hh s (kz s n) x=ahI u->Mm s (kz s n) xs=ahK->ri (xx s n) (x::xs)=cT (cK ps n) (a::as):=fun u h3 h4=>by simp only [ri,cT,ai7 hS hB h1 h3,SC hS hB h2 h4]
  unfold Mm at hx;split at hx
  · rename_i t
    rw [show a= .mp t from h1];simp only [ri,cT,Mn,jb,SC hS hB h2 hx]
  split at hx
  · rename_i u h3
    exact other u h3 hx
  cases hx
theorem Fo (hS:bX s ps): ∀(n t:Nat) (l:List SV),kz s n t=ahI l->xx s n t=cK ps n t
 |0,t,l,h=>rfl
 |n+1,t,l,h=>by
  simp only [kz,bP] at h;split at h
  · rename_i cs bM
    obtain ⟨q,h1,h2⟩:=hS.box bM;simp only [xx,cK,bP,bM,h1];exact zN hS (Fo hS n) h2 h
  cases h
theorem IF {b:SB} {q:jQ} (h:RB s b q) (hs:yV b=ahK):E4 b=qU q:=by
 cases b with
 |box cs=>obtain ⟨c,rfl,h⟩:=h;exact AA (fun _=>rfl) h hs
 |arr r l=>rw [show q=_ from h];rfl
 |set l=>rw [show q=_ from h];rfl
 |bA p l=>rw [show q=_ from h];rfl
 |dead=>rw [show q=_ from h];rfl
theorem Fp (hS:bX s ps): ∀(n:Nat) (ts seen m:List Nat),CA s n ts seen=ahI m->reach ps n ts seen=ahI m
 |n,[],seen,m,h=>by cases n<;>(simp only [CA] at h;exact h)
 |0,_::_,_,_,h=>by cases h
 |n+1,t::ts,seen,m,h=>by
  simp only [CA,bP] at h;simp only [reach];cases hh:has seen t with
  |true=>rw [hh] at h;simp only [kw] at h;simp only [if_true];exact Fp hS n ts seen m h
  |false=>
   rw [hh] at h;simp only [lc] at h;simp only [PP,if_false];split at h
   · rename_i b bM
     obtain ⟨q,h1,h2⟩:=hS.at_ t b bM;cases hb:yV b with
     |false=>rw [hb] at h;cases h
     |true=>rw [hb] at h;simp only [kw] at h;rw [h1,IF h2 hb] at*;exact Fp hS n _ _ m h
   cases h
theorem Fq: ∀{t u:Nat} {m:List Nat},idxOf t m=ahI u->m[u]? =ahI t
 |t,u,[],h=>by cases h
 |t,u,x::m,h=>by
  simp only [idxOf] at h;cases hb:NE x t with
  |true=>rw [hb] at h;simp at h;subst h;simp [lw hb]
  |false=>rw [hb] at h;simp only [PP,if_false,ab2] at h;obtain ⟨v,hv,rfl⟩:=h;simpa using Fq hv
def Fs (m:List Nat) (s s':List SB):Prop:= ∀(t u:Nat) (b:SB),idxOf t m=ahI u->s[t]? =ahI b->match b with
 | .arr r l=>s'[u]? =ahI (.arr r l)
 | .dead=>s'[u]? =ahI .dead
 | .box _=> ∃cs,s'[u]? =ahI (.box cs)
 |_=>True
mutual
theorem SD {m:List Nat} {s':List SB} (hr:Fs m s s'): ∀{v u:SV} {p:PV},R s v p->qg m v=ahI u-> ∃q,vB m p=ahI q/\R s' u q
 | .gQ,_,_,_,hx=>by cases hx
 | .undef,u,p,h,hx| .js,u,p,h,hx| .dC,u,p,h,hx| .int _ _,u,p,h,hx| .bool _,u,p,h,hx| .str _,u,p,h,hx| .sl _ _,u,p,h,hx| .nil _ _,u,p,h,hx=>by injection hx with hx;subst hx;rw [show p=_ from h];exact ⟨_,rfl,rfl⟩
 | .agg cs,u,p,h,hx=>by
  obtain ⟨q,rfl,h⟩:=h;simp only [qg] at hx;split at hx
  · rename_i l hl
    injection hx with hx;subst hx;obtain ⟨q',h1,h2⟩:=tB hr h hl;exact ⟨.agg q',by simp only [vB,h1];rfl,q',rfl,h2⟩
  cases hx
 | .bN cs,u,p,h,hx=>by
  obtain ⟨q,rfl,h⟩:=h;simp only [qg] at hx;split at hx
  · rename_i l hl
    injection hx with hx;subst hx;obtain ⟨q',h1,h2⟩:=tB hr h hl;exact ⟨.bN q',by simp only [vB,h1];rfl,q',rfl,h2⟩
  cases hx
 | .own t ex,u,p,h,hx=>by
  obtain ⟨e,n,rfl,cJ⟩:=h;simp only [qg] at hx;split at hx
  · rename_i v hv
    injection hx with hx;subst hx;refine ⟨.own v e 0 n n ex,by simp only [vB,hv];rfl,e,n,rfl,?_⟩;rcases cJ with ⟨r,l,h1,h2,h3⟩|h1
    · exact .inl ⟨r,l,hr t v _ hv h1,h2,h3⟩
    exact .inr (hr t v _ hv h1)
  cases hx
 | .pre t len cap ex,u,p,h,hx=>by
  obtain ⟨e,rfl,cJ⟩:=h;simp only [qg] at hx;split at hx
  · rename_i v hv
    injection hx with hx;subst hx;refine ⟨.own v e 0 len cap ex,by simp only [vB,hv];rfl,e,rfl,?_⟩;rcases cJ with ⟨r,l,h1,h2⟩|h1|⟨cs,h1,h2⟩
    · exact .inl ⟨r,l,hr t v _ hv h1,h2⟩
    · exact .inr (.inl (hr t v _ hv h1))
    obtain ⟨c2,h3⟩:=hr t v _ hv h1
    exact .inr (.inr ⟨c2,h3,h2⟩)
  cases hx
 | .part t off len cap ex,u,p,h,hx=>by
  obtain ⟨e,rfl,cJ⟩:=h;simp only [qg] at hx;split at hx
  · rename_i v hv
    injection hx with hx;subst hx;refine ⟨.own v e off len cap ex,by simp only [vB,hv];rfl,e,rfl,?_⟩;rcases cJ with ⟨r,l,h1,h2⟩|h1|⟨cs,h1,h2⟩
    · exact .inl ⟨r,l,hr t v _ hv h1,h2⟩
    · exact .inr (.inl (hr t v _ hv h1))
    obtain ⟨c2,h3⟩:=hr t v _ hv h1
    exact .inr (.inr ⟨c2,h3,h2⟩)
  cases hx
 | .pa t r i a off,u,p,h,hx=>by
  obtain ⟨rfl,cJ⟩:=h;simp only [qg] at hx;split at hx
  · rename_i v hv
    injection hx with hx;subst hx;refine ⟨.ptr v (ahH r) i.toNat off,by simp only [vB,hv];rfl,ahH r,rfl,?_⟩;rcases cJ with ⟨l,h1,h2⟩|h1
    · exact .inl ⟨r,l,hr t v _ hv h1,by rw [h2];rfl⟩
    exact .inr (hr t v _ hv h1)
  cases hx
 | .pb t i off,u,p,h,hx=>by
  obtain ⟨e,rfl,cJ⟩:=h;simp only [qg] at hx;split at hx
  · rename_i v hv
    injection hx with hx;subst hx;refine ⟨.ptr v e i.toNat off,by simp only [vB,hv];rfl,e,rfl,?_⟩;rcases cJ with ⟨r,l,h1,h2⟩|h1
    · exact .inl ⟨r,l,hr t v _ hv h1,h2⟩
    exact .inr (hr t v _ hv h1)
  cases hx
 | .bp t n off,u,p,h,hx=>by
  rw [show p=_ from h];simp only [qg] at hx;split at hx
  · rename_i v hv
    injection hx with hx;subst hx;exact ⟨.ptr v n 0 off,by simp only [vB,hv];rfl,rfl⟩
  cases hx
 | .bw cs off,u,p,h,hx=>by
  obtain ⟨q,rfl,h⟩:=h;simp only [qg] at hx;split at hx
  · rename_i l hl
    injection hx with hx;subst hx;obtain ⟨q',h1,h2⟩:=tB hr h hl;exact ⟨.bw q' off,by simp only [vB,h1];rfl,q',rfl,h2⟩
  cases hx
 | .mp t,u,p,h,hx=>by
  rw [show p=_ from h];simp only [qg] at hx;split at hx
  · rename_i v hv
    injection hx with hx;subst hx;exact ⟨.mp v,by simp only [vB,hv];rfl,rfl⟩
  cases hx
 | .eA f a b,u,p,h,hx=>by
  obtain ⟨pa,pb,rfl,h1,h2⟩:=h;simp only [qg] at hx;split at hx
  · rename_i x y h3 h4
    injection hx with hx;subst hx;obtain ⟨qa,h5,h6⟩:=tB hr h1 h3;obtain ⟨qb,h7,h8⟩:=tB hr h2 h4;exact ⟨.eA f qa qb,by simp only [vB,h5,h7],qa,qb,rfl,h6,h8⟩
  cases hx
theorem tB {m:List Nat} {s':List SB} (hr:Fs m s s'): ∀{v u:List SV} {p:List PV},RL s v p->tn m v=ahI u-> ∃q,zm m p=ahI q/\RL s' u q
 | [],u,p,h,hx=>by injection hx with hx;subst hx;rw [show p=_ from h];exact ⟨_,rfl,rfl⟩
 |x::xs,u,p,h,hx=>by
  obtain ⟨q,qs,rfl,h1,h2⟩:=h.cons_inv;simp only [tn] at hx;split at hx
  · rename_i a b h3 h4
    injection hx with hx;subst hx;obtain ⟨a',h5,h6⟩:=SD hr h1 h3;obtain ⟨b',h7,h8⟩:=tB hr h2 h4;exact ⟨a'::b',by simp only [zm,h5,h7],RL.cons h6 h8⟩
  cases hx
end
theorem acQ {m:List Nat} {s':List SB} (hr:Fs m s s') {b c:SB} {q:jQ} (h:RB s b q) (hx:Mp m b=ahI c): ∃q',nM m q=ahI q'/\RB s' c q':=by
 cases b with
 |box cs=>
  obtain ⟨p,rfl,h⟩:=h;simp only [Mp] at hx;split at hx
  · rename_i l hl
    injection hx with hx;subst hx;obtain ⟨q',h1,h2⟩:=tB hr h hl;exact ⟨.box q',by simp only [nM,h1];rfl,q',rfl,h2⟩
  cases hx
 |arr r l=>injection hx with hx;subst hx;rw [show q=_ from h];exact ⟨_,rfl,rfl⟩
 |set l=>injection hx with hx;subst hx;rw [show q=_ from h];exact ⟨_,rfl,rfl⟩
 |bA p l=>injection hx with hx;subst hx;rw [show q=_ from h];exact ⟨_,rfl,rfl⟩
 |dead=>injection hx with hx;subst hx;rw [show q=_ from h];exact ⟨_,rfl,rfl⟩
theorem yh {m:List Nat}: ∀{ts:List Nat} {s1:List SB},GR s m ts=ahI s1->ahH s1=ahH ts/\ ∀(j t:Nat),ts[j]? =ahI t-> ∃b c,s[t]? =ahI b/\Mp m b=ahI c/\s1[j]? =ahI c
 | [],s1,h=>by injection h with h;subst h;exact ⟨rfl,fun j t h=>by simp at h⟩
 |t::ts,s1,h=>by
  simp only [GR,bP] at h;split at h
  · rename_i b hb
    split at h
    · rename_i c r hc hr
      injection h with h;subst h;obtain ⟨h1,h2⟩:=yh hr;refine ⟨by simp [h1],fun j u hj=>?_⟩;cases j with
      |zero=>simp at hj;subst hj;exact ⟨b,c,hb,hc,rfl⟩
      |succ j=>simpa using h2 j u (by simpa using hj)
    cases h
  cases h
theorem CF (hS:bX s ps) {m:List Nat} {s':List SB} (hr:Fs m s s'): ∀{ts:List Nat} {s1:List SB},GR s m ts=ahI s1-> ∃p1,xG ps m ts=ahI p1/\ahH p1=ahH s1/\ ∀(j:Nat) (b:SB),s1[j]? =ahI b-> ∃q,p1[j]? =ahI q/\RB s' b q
 | [],s1,h=>by injection h with h;subst h;exact ⟨[],rfl,rfl,fun j b h=>by simp at h⟩
 |t::ts,s1,h=>by
  simp only [GR,bP] at h;split at h
  · rename_i b hb
    split at h
    · rename_i c r hc Q0
      injection h with h;subst h;obtain ⟨q,h1,h2⟩:=hS.at_ t b hb;obtain ⟨q',h3,h4⟩:=acQ hr h2 hc;obtain ⟨p1,h5,h6,h7⟩:=CF hS hr Q0;refine ⟨q'::p1,by simp only [xG,h1,h3,h5],by simp [h6],fun j x hj=>?_⟩;cases j with
      |zero=>simp at hj;subst hj;exact ⟨q',rfl,h4⟩
      |succ j=>simpa using h7 j x (by simpa using hj)
    cases h
  cases h
theorem Fs.of {m:List Nat} {s1 l:List SB} (h:GR s m m=ahI s1):Fs m s (s1++l):=fun t u b hu hb=>by
 have hm:=Fq hu;obtain ⟨h1,h2⟩:=yh h;obtain ⟨b',c,h3,h4,h5⟩:=h2 u t hm;rw [hb] at h3;injection h3 with h3;subst h3;have c7:=(ut.1 h5).1;cases b with
 |arr r l'=>injection h4 with h4;subst h4;rw [v6 c7];exact h5
 |dead=>injection h4 with h4;subst h4;rw [v6 c7];exact h5
 |box cs=>
  simp only [Mp] at h4;split at h4
  · injection h4 with h4;subst h4;exact ⟨_,by rw [v6 c7];exact h5⟩
  cases h4
 |_=>trivial
theorem uX: ∀(rk:List (Nat×List PT)) (n:Nat),(rowOf rk n).length=n
 | [],n=>by simp [rowOf]
 |(m,r)::q,n=>by
  simp only [rowOf];cases hc:(NE m n&&NE (ahH r) n) with
  |true=>simp only [pp] at hc;exact lw hc.2
  |false=>exact uX q n
theorem CG {rk:List (Nat×List PT)} {e:SE} {m:List Nat}: ∀{live:List (Nat×Option Nat)} {nx:Nat} {e1:SE} {s2:List SB},xj rk e m nx live=ahI (e1,s2)-> ∀(j:Nat) (b:SB),s2[j]? =ahI b-> ∃r,b= .arr r []
 | [],nx,e1,s2,h,j,b,hj=>by simp only [xj,AC,aa2] at h;rw [<- h.2] at hj;simp at hj
 |(t,k)::live,nx,e1,s2,h,j,b,hj=>by
  simp only [xj] at h;split at h
  · split at h
    · rename_i p hp
      simp only [AC,aa2] at h;obtain ⟨rfl,rfl⟩:=h;cases j with
      |zero=>simp at hj;exact ⟨_,hj.symm⟩
      |succ j=>exact CG (e1:=p.1) (s2:=p.2) hp j b (by simpa using hj)
    cases h
  split at h
  · rename_i v' p hv hp
    simp only [AC,aa2] at h;obtain ⟨rfl,rfl⟩:=h;exact CG (e1:=p.1) (s2:=p.2) hp j b hj
  cases h
mutual
theorem CH {m:List Nat}: ∀{v u:SV},qg m v=ahI u->u.sure=ahK
 | .gQ,_,h=>by cases h
 | .undef,u,h| .js,u,h| .dC,u,h| .int _ _,u,h| .bool _,u,h| .str _,u,h| .sl _ _,u,h| .nil _ _,u,h=>by injection h with h;subst h;rfl
 | .agg cs,u,h=>by
  simp only [qg] at h;split at h
  · rename_i l hl;injection h with h;subst h;exact mY hl
  cases h
 | .bN cs,u,h=>by
  simp only [qg] at h;split at h
  · rename_i l hl;injection h with h;subst h;exact mY hl
  cases h
 | .bw cs _,u,h=>by
  simp only [qg] at h;split at h
  · rename_i l hl;injection h with h;subst h;exact mY hl
  cases h
 | .own _ _,u,h=>by simp only [qg] at h;split at h<;>first|(injection h with h;subst h;rfl)|cases h
 | .pre _ _ _ _,u,h=>by simp only [qg] at h;split at h<;>first|(injection h with h;subst h;rfl)|cases h
 | .part _ _ _ _ _,u,h=>by simp only [qg] at h;split at h<;>first|(injection h with h;subst h;rfl)|cases h
 | .pa _ _ _ _ _,u,h=>by simp only [qg] at h;split at h<;>first|(injection h with h;subst h;rfl)|cases h
 | .pb _ _ _,u,h=>by simp only [qg] at h;split at h<;>first|(injection h with h;subst h;rfl)|cases h
 | .bp _ _ _,u,h=>by simp only [qg] at h;split at h<;>first|(injection h with h;subst h;rfl)|cases h
 | .mp _,u,h=>by simp only [qg] at h;split at h<;>first|(injection h with h;subst h;rfl)|cases h
 | .eA f a b,u,h=>by
  simp only [qg] at h;split at h
  · rename_i x y h1 h2
    injection h with h;subst h;simp only [SV.sure,mY h1,mY h2,aaH]
  cases h
theorem mY {m:List Nat}: ∀{v u:List SV},tn m v=ahI u->mq u=ahK
 | [],u,h=>by injection h with h;subst h;rfl
 |x::xs,u,h=>by
  simp only [tn] at h;split at h
  · rename_i a b h1 h2
    injection h with h;subst h;simp only [mq,CH h1,mY h2,aaH]
  cases h
end
theorem VA {s:List SB} {v:SV} {p:PV} (h:R s v p): ∀k:Option Nat,v.sure=ahK->R s (Iy k v) (GZ k p)
 |none,_=>h
 |some _,hs=>by
  cases v with
  |own t ex=>obtain ⟨e,n,rfl,h⟩:=h;exact ⟨e,n,rfl,h⟩
  |pre t l c ex=>obtain ⟨e,rfl,h⟩:=h;exact ⟨e,rfl,h⟩
  |part t o l c ex=>obtain ⟨e,rfl,h⟩:=h;exact ⟨e,rfl,h⟩
  |gQ=>cases hs
  |undef|js|dC|int _ _|bool _|str _|bp _ _ _|mp _|sl _ _|nil _ _=>rw [show p=_ from h];rfl
  |agg _|bN _|bw _ _=>obtain ⟨q,rfl,h⟩:=h;exact ⟨q,rfl,h⟩
  |eA _ _ _=>obtain ⟨q,q2,rfl,h⟩:=h;exact ⟨q,q2,rfl,h⟩
  |pa _ _ _ _ _=>obtain ⟨rfl,h⟩:=h;exact ⟨rfl,h⟩
  |pb _ _ _=>obtain ⟨q,rfl,h⟩:=h;exact ⟨q,rfl,h⟩
theorem MB {v:SV} (h:v.sure=ahK) (k:Option Nat):(Iy k v).sure=ahK:=by unfold Iy;split<;>first|rfl|exact h
theorem IG {rk:List (Nat×List PT)} {e:SE} {pe:Env} (hE:dD s e pe) {m:List Nat} {s':List SB} (hr:Fs m s s'): ∀{live:List (Nat×Option Nat)} {nx:Nat} {e1:SE} {s2:List SB},xj rk e m nx live=ahI (e1,s2)->(∀(j:Nat) (b:SB),s2[j]? =ahI b->s'[nx+j]? =ahI b)->
 ∃p1 q2,qV pe m nx live=ahI (p1,q2)/\dD s' e1 p1/\ahH q2=ahH s2/\ ∀(j:Nat) (b:SB),s2[j]? =ahI b-> ∃q,q2[j]? =ahI q/\RB s' b q
 | [],nx,e1,s2,h,_=>by simp only [xj,AC,aa2] at h;obtain ⟨rfl,rfl⟩:=h;exact ⟨[],[],rfl,rfl,rfl,fun j b h=>by simp at h⟩
 |(t,k)::live,nx,e1,s2,h,hs=>by
  have ua:=hE.lk t;simp only [xj] at h;split at h
  · rename_i kk esz en hv
    split at h
    · rename_i p hp
      simp only [AC,aa2] at h;obtain ⟨rfl,rfl⟩:=h;rw [hv] at ua;obtain ⟨p1,q2,h1,h2,h3,h4⟩:=IG (live:=live) (nx:=nx+1) (e1:=p.1) (s2:=p.2) hE hr hp (fun j b hj=>by have:=hs (j+1) b (by simpa using hj);rw [show nx+1+j=nx+(j+1) by omega];exact this);refine ⟨(t,.own nx esz 0 0 0 ahL)::p1,.arr esz []::q2,?_,⟨_,_,rfl,⟨esz,0,rfl,.inl ⟨rowOf rk esz,[],by simpa using hs 0 _ rfl,(uX rk esz).symm,rfl⟩⟩,h2⟩,by simp [h3],fun j b hj=>?_⟩
      · have acR:lk t pe= .sl en ahK []:=ua
        simp only [qV,acR,h1];rfl
      cases j with
      |zero=>simp at hj;subst hj;exact ⟨_,rfl,by show _=_;rw [uX];rfl⟩
      |succ j=>simpa using h4 j b (by simpa using hj)
    cases h
  rename_i dM
  split at h
  · rename_i v' p hv hp
    simp only [AC,aa2] at h;obtain ⟨rfl,rfl⟩:=h;obtain ⟨q',h5,h6⟩:=SD hr ua hv;obtain ⟨p1,q2,h1,h2,h3,h4⟩:=IG (live:=live) (e1:=p.1) (s2:=p.2) hE hr hp hs;refine ⟨(t,GZ _ q')::p1,q2,?_,⟨_,_,rfl,VA h6 _ (CH hv),h2⟩,h3,h4⟩;simp only [qV];split
    · rename_i esz x hx
      exfalso;rw [hx] at ua;generalize Dj t e=v0 at ua hv dM;cases v0 with
      |gQ=>cases hv
      |nil e' c=>have acR:PV.sl x ahK []= .sl e' c []:=ua;injection acR with h1 h2;subst h2;exact dM _ _ rfl rfl
      |undef|js|dC|int _ _|bool _|str _|bp _ _ _|mp _=>cases (show PV.sl x ahK []=_ from ua)
      |sl r l=>cases (show PV.sl x ahK []=_ from ua)
      |agg _|bN _|bw _ _=>obtain ⟨q,hq,_⟩:=ua;cases hq
      |eA _ _ _=>obtain ⟨q,q2,hq,_⟩:=ua;cases hq
      |own _ _=>obtain ⟨q,q2,hq,_⟩:=ua;cases hq
      |pre _ _ _ _=>obtain ⟨q,hq,_⟩:=ua;cases hq
      |part _ _ _ _ _=>obtain ⟨q,hq,_⟩:=ua;cases hq
      |pa _ _ _ _ _=>obtain ⟨hq,_⟩:=ua;cases hq
      |pb _ _ _=>obtain ⟨q,hq,_⟩:=ua;cases hq
    simp only [h5,h1]
  cases h
def abG (s:List SB):Prop:= ∀(t:Nat) (cs:List SV),s[t]? =ahI (.box cs)->mq cs=ahK
def Ho:SE->Prop
 | []=>True
 |(_,v)::r=>v.sure=ahK/\Ho r
theorem Ho.lk: ∀{e:SE},Ho e-> ∀t,(Dj t e).sure=ahK
 | [],_,t=>rfl
 |(u,v)::r,h,t=>by
  simp only [Dj];cases hb:NE u t with
  |true=>exact h.1
  |false=>exact Ho.lk h.2 t
theorem AB {rk:List (Nat×List PT)} {e:SE} {m:List Nat}: ∀{live:List (Nat×Option Nat)} {nx:Nat} {e1:SE} {s2:List SB},xj rk e m nx live=ahI (e1,s2)->Ho e1
 | [],nx,e1,s2,h=>by simp only [xj,AC,aa2] at h;rw [<- h.1];trivial
 |(t,k)::live,nx,e1,s2,h=>by
  simp only [xj] at h;split at h
  · split at h
    · rename_i p hp
      simp only [AC,aa2] at h;obtain ⟨rfl,rfl⟩:=h;exact ⟨rfl,AB (e1:=p.1) (s2:=p.2) hp⟩
    cases h
  split at h
  · rename_i v' p hv hp
    simp only [AC,aa2] at h;obtain ⟨rfl,rfl⟩:=h;exact ⟨MB (CH hv) _,AB (e1:=p.1) (s2:=p.2) hp⟩
  cases h
theorem Hp: ∀{l:List SV},mq l=ahK-> ∀{n:Nat} {v:SV},nth l n=ahI v->v.sure=ahK
 | [],_,_,_,h=>by cases h
 |x::xs,hs,0,v,h=>by injection h with h;subst h;simp only [mq,pp] at hs;exact hs.1
 |x::xs,hs,n+1,v,h=>by simp only [mq,pp] at hs;exact Hp hs.2 (n:=n) h
theorem Hq: ∀{l:List SV},mq l=ahK-> ∀(n:Nat) {v:SV},v.sure=ahK->mq (l.set n v)=ahK
 | [],_,n,v,_=>rfl
 |x::xs,hs,0,v,h=>by simp only [mq,pp] at hs;simp [mq,h,hs.2]
 |x::xs,hs,n+1,v,h=>by simp only [mq,pp] at hs;simp [mq,hs.1,Hq hs.2 n h]
theorem RL.set {s:List SB}: ∀{xs:List SV} {ps:List PV},RL s xs ps-> ∀(n:Nat) {v:SV} {p:PV},R s v p->RL s (xs.set n v) (ps.set n p)
 | [],ps,h,n,v,p,_=>by rw [show ps=[] from h];exact RL.nil
 |x::xs,ps,h,0,v,p,hv=>by obtain ⟨a,q,rfl,h1,h2⟩:=h.cons_inv;exact RL.cons hv h2
 |x::xs,ps,h,n+1,v,p,hv=>by obtain ⟨a,q,rfl,h1,h2⟩:=h.cons_inv;exact RL.cons h1 (RL.set h2 n hv)
structure VB (st:oQ) (p:St):Prop where
 r:yX st p
 s:abG st.aA
 e:Ho st.env
theorem MC {rk:List (Nat×List PT)} {st:oQ} {p:St} (h:VB st p) (t c esz:Nat):VB (E5 rk st t c esz) (qW p t c esz):=by
 unfold E5 qW;rw [bP];cases bM:st.aA[t]? with
 |none=>
  have:p.aA[t]? =ahJ:=by rw [abD] at bM ⊢;rw [h.r.aA.len];exact bM
  rw [this];exact h
 |some b=>
  obtain ⟨q,h1,h2⟩:=h.r.aA.at_ t b bM;rw [h1];cases b with
  |arr r l=>rw [show q=_ from h2];exact h
  |set l=>rw [show q=_ from h2];exact h
  |bA p l=>rw [show q=_ from h2];exact h
  |dead=>rw [show q=_ from h2];exact h
  |box cs=>
   obtain ⟨pc,rfl,h3⟩:=h2;dsimp only;cases hc:nth cs c with
   |none=>
    have:pc[c]? =ahJ:=by rw [bP,abD] at hc;rw [abD,h3.mU];exact hc
    rw [this];exact h
   |some v=>
    obtain ⟨pv,h4,h5⟩:=h3.nth hc;rw [h4];have ai8:=Hp (h.s t cs bM) hc;have qP:=h.s t cs bM;have other:(∀e,pv≠ .sl e ahK [])->(∀e,v≠ .nil e ahK)->VB (match ahI v with
     |some (.nil _ ahK)=>{st with aA:=st.aA.set t (.box (cs.set c (.own (ahH st.aA) ahL)))++[.arr (rowOf rk esz) []]}
     |_=>st) (match ahI pv with
     |some (.sl _ ahK [])=>{p with aA:=p.aA.set t (.box (pc.set c (.own (ahH p.aA) esz 0 0 0 ahL)))++[.arr esz []]}
     |_=>p):=by
     intro n1 n2;split
     · rename_i e he;injection he with he;exact absurd he (n2 e)
     split
     · rename_i e he;injection he with he;exact absurd he (n1 e)
     exact h
    cases v with
    |gQ=>cases ai8
    |nil e' cl=>
     have h5':pv= .sl e' cl []:=h5;subst h5';cases cl with
     |false=>exact other (fun e he=>by cases he) (fun e he=>by cases he)
     |true=>
      dsimp only;have c7:=(ut.1 bM).1;have qI:Fr [] st.aA (st.aA.set t (.box (cs.set c (.own (ahH st.aA) ahL)))++[.arr (rowOf rk esz) []]):=fun u x hu=>by
       by_cases LN:t=u
       · subst LN;rw [bM] at hu;injection hu with hu;subst hu;exact .inl ⟨_,by rw [v6 (by simpa using c7),If];simp [c7];rfl⟩
       have Oh:=(ut.1 hu).1
       have:(st.aA.set t (.box (cs.set c (.own (ahH st.aA) ahL)))++[.arr (rowOf rk esz) []])[u]? =ahI x:=by rw [v6 (by simpa using Oh),If];simp [LN,hu]
       cases x with
       |arr r l=>exact .inl ⟨l,this,rfl,fun _=>rfl⟩
       |dead=>exact this
       |box c2=>exact .inl ⟨c2,this⟩
       |_=>trivial
      have bU:(st.aA.set t (.box (cs.set c (.own (ahH st.aA) ahL)))).length=(ahH st.aA):=by simp
      have acS:R (st.aA.set t (.box (cs.set c (.own (ahH st.aA) ahL)))++[.arr (rowOf rk esz) []]) (.own (ahH st.aA) ahL) (.own (ahH p.aA) esz 0 0 0 ahL):=by refine ⟨esz,0,by rw [h.r.aA.len],.inl ⟨rowOf rk esz,[],?_,(uX rk esz).symm,rfl⟩⟩;rw [ww (by simp)];simp
      refine ⟨⟨dD.ext qI h.r.env,⟨by simp [h.r.aA.len],fun u x hu=>?_⟩,h.r.fz,h.r.kn⟩,fun u x hu=>?_,h.e⟩
      · rcases abB u (ahH st.aA) with Oh|Oh
        · rw [v6 (by simpa using Oh),If] at hu
          by_cases LN:t=u
          · subst LN
            simp [c7] at hu;subst hu;refine ⟨.box (pc.set c (.own (ahH p.aA) esz 0 0 0 ahL)),?_,_,rfl,RL.set (RL.ext qI h3) c acS⟩;rw [v6 (by simp [h.r.aA.len,Oh]),If];simp [h.r.aA.len,Oh]
          simp [LN] at hu
          obtain ⟨q,h6,h7⟩:=h.r.aA.at_ u x hu;refine ⟨q,?_,h7.ext qI⟩;rw [v6 (by simp [h.r.aA.len,Oh]),If];simp [LN,h6]
        rw [ww (by simpa using Oh)] at hu
        simp only [bU] at hu;have UU:u-(ahH st.aA)=0:=by
         rcases agY (u-(ahH st.aA)) with h|h
         · exact h
         rw [List.getElem?_eq_none (by simp;omega)] at hu;cases hu
        rw [UU] at hu;simp at hu;subst hu;refine ⟨.arr esz [],?_,by show _=_;rw [uX];rfl⟩;rw [ww (by simp [h.r.aA.len];omega)];simp [h.r.aA.len,UU]
      rcases abB u (ahH st.aA) with Oh|Oh
      · rw [v6 (by simpa using Oh),If] at hu
        by_cases LN:t=u
        · subst LN
          simp [c7] at hu;subst hu;exact Hq qP c rfl
        simp [LN] at hu;exact h.s u x hu
      rw [ww (by simpa using Oh)] at hu
      cases hj:u- (st.aA.set t (.box (cs.set c (.own (ahH st.aA) ahL)))).length with
      |zero=>rw [hj] at hu;simp at hu
      |succ j=>rw [hj] at hu;simp at hu
    |undef|js|dC|int _ _|bool _|str _|bp _ _ _|mp _=>exact other (fun e he=>by rw [show pv=_ from h5] at he;cases he) (fun e he=>by cases he)
    |sl r l=>exact other (fun e he=>by rw [show pv=_ from h5] at he;cases he) (fun e he=>by cases he)
    |agg _|bN _|bw _ _=>exact other (fun e he=>by obtain ⟨q,hq,_⟩:=h5;rw [hq] at he;cases he) (fun e he=>by cases he)
    |eA _ _ _=>exact other (fun e he=>by obtain ⟨q,q2,hq,_⟩:=h5;rw [hq] at he;cases he) (fun e he=>by cases he)
    |own _ _=>exact other (fun e he=>by obtain ⟨q,q2,hq,_⟩:=h5;rw [hq] at he;cases he) (fun e he=>by cases he)
    |pre _ _ _ _|part _ _ _ _ _|pb _ _ _=>exact other (fun e he=>by obtain ⟨q,hq,_⟩:=h5;rw [hq] at he;cases he) (fun e he=>by cases he)
    |pa _ _ _ _ _=>exact other (fun e he=>by obtain ⟨hq,_⟩:=h5;rw [hq] at he;cases he) (fun e he=>by cases he)
theorem IH {p:St} {t c esz:Nat} (h: ∀cs,p.aA[t]?≠ahI (.box cs)):qW p t c esz=p:=by
 unfold qW;split
 · rename_i cs qP;exact absurd qP (h cs)
 rfl
theorem SF {st:oQ} {p:St} (h:VB st p) {v:SV} {q:PV} (hv:R st.aA v q) (hs:v≠ .gQ):(∃t,R7 v=ahI t/\Em q=ahI t)\/(R7 v=ahJ/\ ∀t,Em q=ahI t-> ∀cs,p.aA[t]?≠ahI (.box cs)):=by
 cases v with
 |gQ=>exact absurd rfl hs
 |bp u m off=>
  have hq:q= .ptr u m 0 off:=hv;subst hq;cases off with
  |zero=>exact .inl ⟨u,rfl,rfl⟩
  |succ off=>exact .inr ⟨rfl,fun t ht=>by cases ht⟩
 |pb u i off=>
  obtain ⟨e',hq,cJ⟩:=hv;subst hq;refine .inr ⟨rfl,fun t ht cs qP=>?_⟩;have:t=u:=by
   unfold Em at ht;split at ht
   · rename_i heq;injection heq with e1;injection ht with ht;rw [<- ht,e1]
   cases ht
  subst this;rcases cJ with ⟨r,l,h1,_⟩|h1
  · rw [h.r.aA.arr h1] at qP;cases qP
  obtain ⟨q,h2,h3⟩:=h.r.aA.at_ t _ h1
  rw [qP] at h2;injection h2 with h2;subst h2;cases (show jQ.box cs= .dead from h3)
 |pa u r i a off=>
  obtain ⟨hq,cJ⟩:=hv;subst hq;refine .inr ⟨rfl,fun t ht cs qP=>?_⟩;have:t=u:=by
   unfold Em at ht;split at ht
   · rename_i heq;injection heq with e1;injection ht with ht;rw [<- ht,e1]
   cases ht
  subst this;rcases cJ with ⟨l,h1,_⟩|h1
  · rw [h.r.aA.arr h1] at qP;cases qP
  obtain ⟨q,h2,h3⟩:=h.r.aA.at_ t _ h1
  rw [qP] at h2;injection h2 with h2;subst h2;cases (show jQ.box cs= .dead from h3)
 |undef|js|dC|int _ _|bool _|str _|mp _|sl _ _|nil _ _=>exact .inr ⟨rfl,fun t ht=>by rw [show q=_ from hv] at ht;cases ht⟩
 |agg _|bN _|bw _ _=>exact .inr ⟨rfl,fun t ht=>by obtain ⟨_,rfl,_⟩:=hv;cases ht⟩
 |eA _ _ _=>exact .inr ⟨rfl,fun t ht=>by obtain ⟨_,_,rfl,_⟩:=hv;cases ht⟩
 |own _ _=>exact .inr ⟨rfl,fun t ht=>by obtain ⟨_,_,rfl,_⟩:=hv;cases ht⟩
 |pre _ _ _ _|part _ _ _ _ _=>exact .inr ⟨rfl,fun t ht=>by obtain ⟨_,rfl,_⟩:=hv;cases ht⟩
theorem acT {st:oQ} {p:St} (h:VB st p) {v:SV} {q:PV} (hv:R st.aA v q) (hs:v.sure=ahK):(∃t,Vd v=ahI t/\Jy q=ahI t)\/(Vd v=ahJ/\ ∀t,Jy q=ahI t-> ∀cs,p.aA[t]?≠ahI (.box cs)):=by
 have hj:v≠ .gQ:=fun e=>by subst e;cases hs
 by_cases hc: ∃f a b,v= .eA f a b
 · obtain ⟨f,a,b,rfl⟩:=hc
   obtain ⟨pa,pb,rfl,h1,h2⟩:=hv;cases b with
   |nil=>have:pb=[]:=h2;subst this;exact .inr ⟨rfl,fun t ht=>by cases ht⟩
   |cons y ys=>obtain ⟨z,zs,rfl,g1,g2⟩:=h2;exact SF h g1 (fun e=>by subst e;simp [SV.sure,mq] at hs)
 have e1:Vd v=R7 v:=by
  cases v with
  |eA f a b=>exact absurd ⟨f,a,b,rfl⟩ hc
  |_=>rfl
 have e2:Jy q=Em q:=by
  cases q with
  |eA f a b=>
   exfalso;cases v with
   |gQ=>exact hj rfl
   |eA f a b=>exact hc ⟨f,a,b,rfl⟩
   |bp _ _ _|undef|js|dC|int _ _|bool _|str _|mp _|sl _ _|nil _ _=>cases (show PV.eA f a b=_ from hv)
   |agg _|bN _|bw _ _|pre _ _ _ _|part _ _ _ _ _|pb _ _ _=>obtain ⟨_,hq,_⟩:=hv;cases hq
   |own _ _=>obtain ⟨_,_,hq,_⟩:=hv;cases hq
   |pa _ _ _ _ _=>obtain ⟨hq,_⟩:=hv;cases hq
  |_=>rfl
 rw [e1,e2];exact SF h hv hj
theorem nv {rk:List (Nat×List PT)}: ∀(live:List (Nat×Option Nat)) {st:oQ} {p:St},VB st p->VB (lV rk live st) (kq live p)
 | [],st,p,h=>h
 |(t,k)::live,st,p,h=>by
  cases k with
  |none=>simp only [lV,kq];exact nv live h
  |some n=>
   simp only [lV,kq];cases hn:IR 1000 n with
   |false=>simp only [lc,PP,if_false];exact nv live h
   |true=>
    simp only [kw,if_true];have ua:=h.r.env.lk t;have hsu:=h.e.lk t;rcases acT h ua hsu with ⟨u,e1,e2⟩|⟨e1,e2⟩
    · rw [e1,e2]
      exact nv live (MC h u _ _)
    rw [e1]
    cases hb:Jy (lk t p.env) with
    |none=>exact nv live h
    |some u=>show VB (lV rk live st) (kq live (qW p u (n / 1000-1) (n%1000)));rw [IH (e2 u hb)];exact nv live h
theorem Ku {e:SE} {pe:Env} (hE:dD s e pe): ∀{live:List (Nat×Option Nat)},Bk e live=ahK->E6 e live=live.flatMap fun p=>jb sT (lk p.1 pe)
 | [],_=>rfl
 |(t,k)::live,h=>by simp only [Bk,pp] at h;simp only [E6,ahu,Ku hE h.2];rw [SA (fun _=>rfl) (hE.lk t) h.1]
theorem SG: ∀{s':List SB} {s:List SB} {ps:bS} (n:Nat),(ahH ps=ahH s/\ ∀(t:Nat) (b:SB),s[t]? =ahI b-> ∃q,ps[t]? =ahI q/\RB s' b q)->E7 s n=ahK->Mq s n=(ps.take n).flatMap qU
 |s',[],ps,n,h,_=>by have:ps=[]:=abR.1 (by simpa using h.1);subst this;cases n<;>simp [Mq]
 |s',b::s,ps,0,h,_=>by simp [Mq]
 |s',b::s,ps,n+1,h,hk=>by
  cases ps with
  |nil=>have:=h.1;simp at this
  |cons q ps=>simp only [E7,pp] at hk;obtain ⟨q',h1,h2⟩:=h.2 0 b rfl;simp at h1;subst h1;simp only [Mq,ag8,ahu,IF h2 hk.1];rw [SG (s':=s') (ps:=ps) n ⟨by simpa using h.1,fun t x hx=>by simpa using h.2 (t+1) x (by simpa using hx)⟩ hk.2]
theorem Oi {s:List SB} {v:SV} {p:PV} (h:R s v p):R s (Hi s v) p:=by
 unfold Hi;split
 · rename_i t ex
   rw [bP];split
   · rename_i r l bM
     obtain ⟨e,n,rfl,cJ⟩:=h;obtain ⟨rfl,rfl⟩:=cJ.inv bM;exact ⟨ahH r,rfl,.inl ⟨r,l,bM,rfl⟩⟩
   exact h
 exact h
theorem Oj {s:List SB} (c:Nat): ∀{e:SE} {p:Env},dD s e p->dD s (N6 s c e) p
 | [],_,h=>h
 |(t,v)::r,_,h=>by
  obtain ⟨q,qs,rfl,h1,h2⟩:=h;simp only [N6];cases hb:NE t c with
  |true=>exact ⟨q,qs,rfl,Oi h1,h2⟩
  |false=>exact ⟨q,qs,rfl,h1,Oj c h2⟩
theorem CI: ∀(live:List (Nat×Option Nat)) {st:oQ} {p:St},yX st p->yX (Bj live st) p
 | [],st,p,h=>h
 |(t,k)::r,st,p,h=>by
  simp only [Bj];cases hn:IR 1000000 t with
  |true=>exact CI r ⟨Oj _ h.env,h.aA,h.fz,h.kn⟩
  |false=>exact CI r h
theorem Kv {rk:List (Nat×List PT)} {live:List (Nat×Option Nat)} {st st1:oQ} {p:St} (h:yX st p) (hn:E8 rk live st=ahI st1): ∃p1,En live p=ahI p1/\yX st1 p1:=by
 unfold E8 at hn;cases hc:(Bk st.env live&&E7 st.aA st.kn) with
 |false=>rw [hc] at hn;cases hn
 |true=>
  rw [hc] at hn;simp only [kw] at hn;simp only [pp] at hc;split at hn
  · cases hn
  rename_i m hm
  split at hn
  · rename_i s1 e1 s2 h1 h2
    injection hn with hn;subst hn;have ht:Mq st.aA st.kn++E6 st.env live=(p.aA.take p.kn).flatMap qU++live.flatMap fun q=>jb sT (lk q.1 p.env):=by rw [Ku h.env hc.1,SG (s':=st.aA) st.kn ⟨h.aA.len,h.aA.at_⟩ hc.2,h.kn]
    rw [ht] at hm;have zF:=Fp h.aA _ _ _ _ hm;have hr:Fs m st.aA (s1++s2):=Fs.of h1;obtain ⟨p1,a1,a2,a3⟩:=CF h.aA hr h1;have bU:(ahH s1)=(ahH m):=(yh h1).1;obtain ⟨pe1,q2,b1,b2,b3,b4⟩:=IG h.env hr h2 (fun j b hj=>by rw [<- bU,ww (by omega)];simpa using hj);have qe:bX (s1++s2) (p1++q2):=⟨by simp [a2,b3],fun t b ht=>by
     rcases abB t (ahH s1) with hl|hl
     · rw [v6 hl] at ht
       obtain ⟨q,c1,c2⟩:=a3 t b ht;exact ⟨q,by rw [v6 (by omega)];exact c1,c2⟩
     rw [ww hl] at ht
     obtain ⟨q,c1,c2⟩:=b4 _ b ht;exact ⟨q,by rw [ww (by omega),a2];exact c1,c2⟩⟩
    have hs:abG (s1++s2):=fun t cs ht=>by
     rcases abB t (ahH s1) with hl|hl
     · rw [v6 hl] at ht
       obtain ⟨b,c,d1,d2,d3⟩:=(yh h1).2 t (m[t]'(by omega)) (Do (by omega));rw [ht] at d3;injection d3 with d3;subst d3;cases b with
       |box x=>
        simp only [Mp] at d2;split at d2
        · rename_i l kY;injection d2 with d2;injection d2 with d2;subst d2;exact mY kY
        cases d2
       |arr _ _=>injection d2 with d2;cases d2
       |set _=>injection d2 with d2;cases d2
       |bA _ _=>injection d2 with d2;cases d2
       |dead=>injection d2 with d2;cases d2
     rw [ww hl] at ht
     obtain ⟨r,Q0⟩:=CG h2 _ _ ht;cases Q0
    have hR:VB {env:=e1,aA:=s1++s2,fz:=xH st.fz 0 m,kn:=st.kn} {env:=pe1,aA:=p1++q2,fz:=xH p.fz 0 m,kn:=p.kn}:=
     ⟨⟨b2,qe,by rw [h.fz],h.kn⟩,hs,AB h2⟩
    refine ⟨_,?_,CI live (nv live hR).r⟩;unfold En;rw [h.kn] at zF;rw [h.kn];rw [zF];dsimp only;rw [a1,b1]
  cases hn
theorem Ol {rk:List (Nat×List PT)} {live:List (Nat×Option Nat)} {st st1:oQ} {p:St} (h:yX st p) (hn:E9 rk live st=ahI st1): ∃p1,norm live p=ahI p1/\yX st1 p1:=by
 unfold E9 at hn;cases h1:E8 rk live st with
 |none=>rw [h1] at hn;cases hn
 |some s=>
  rw [h1] at hn;dsimp only at hn;obtain ⟨p1,h2,h3⟩:=Kv h h1;unfold norm;rw [h2];dsimp only;cases ha:(live.any fun p=>p.2.isSome) with
  |true=>rw [ha] at hn;simp only [kw] at hn;rw [lm rfl];exact Kv h3 hn
  |false=>rw [ha] at hn;injection hn with hn;subst hn;exact ⟨p1,by rw [ls (by simp)],h3⟩
mutual
theorem D8: ∀{a b:SV} (q:List xB),xk a b=ahK->sX a (CB b++q)=(b,q)
 | .undef,.undef,q,_=>rfl
 | .js,.js,q,_=>rfl
 | .dC,.dC,q,_=>rfl
 | .int k _,.int l n,q,h=>by rw [eE.1 h];rfl
 | .bool _,.bool _,q,_=>rfl
 | .agg a,.agg b,q,h=>by simp only [sX,CB,nW q h]
 | .bN a,.bN b,q,h=>by simp only [sX,CB,nW q h]
 | .sl r _,.sl r' l,q,h=>rfl
 | .nil e c,.nil f d,q,h=>by simp only [xk,pp,beq_iff_eq] at h;rw [lw h.1,h.2];rfl
 | .own t x,.own u y,q,h=>by simp only [xk,pp,beq_iff_eq] at h;rw [lw h.1,h.2];rfl
 | .pre t _ _ x,.pre u _ _ y,q,h=>by simp only [xk,pp,beq_iff_eq] at h;rw [lw h.1,h.2];rfl
 | .part t _ _ _ x,.part u _ _ _ y,q,h=>by simp only [xk,pp,beq_iff_eq] at h;rw [lw h.1,h.2];rfl
 | .pb t _ o,.pb u _ p,q,h=>by simp only [xk,pp] at h;rw [lw h.1,lw h.2];rfl
 | .bp t n o,.bp u m p,q,h=>by simp only [xk,pp] at h;rw [lw h.1.1,lw h.1.2,lw h.2];rfl
 | .bw a o,.bw b p,q,h=>by simp only [xk,pp] at h;simp only [sX,CB,nW q h.1,lw h.2]
 | .eA f a b,.eA g c d,q,h=>by simp only [xk,pp] at h;simp only [sX,CB,aa5,nW _ h.1.2,nW q h.2,lw h.1.1]
 | .mp t,.mp u,q,h=>by rw [lw h];rfl
 | .gQ,.gQ,q,_=>rfl
theorem nW: ∀{a b:List SV} (q:List xB),yd a b=ahK->rq a (CC b++q)=(b,q)
 | [],[],q,_=>rfl
 |x::xs,y::ys,q,h=>by simp only [yd,pp] at h;simp only [rq,CC,aa5,D8 _ h.1,nW q h.2]
 | [],_::_,_,h=>by cases h
 |_::_,[],_,h=>by cases h
end
theorem SH: ∀{a b:SB} (q:List xB),abA a b=ahK->Mr a (R8 b++q)=(b,q)
 | .arr r _,.arr r' l,q,h=>rfl
 | .box a,.box b,q,h=>by simp only [Mr,R8,nW q h]
 | .set _,.set _,q,_=>rfl
 | .bA p _,.bA p' l,q,h=>by obtain rfl:p=p':=PT.N0 h;rfl
 | .dead,.dead,q,_=>rfl
 | .arr _ _,.box _,_,h| .arr _ _,.set _,_,h| .arr _ _,.dead,_,h| .box _,.arr _ _,_,h| .box _,.set _,_,h| .box _,.dead,_,h| .set _,.arr _ _,_,h| .set _,.box _,_,h| .set _,.dead,_,h| .dead,.arr _ _,_,h| .dead,.box _,_,h| .dead,.set _,_,h
 | .bA _ _,.arr _ _,_,h| .bA _ _,.box _,_,h| .bA _ _,.set _,_,h| .bA _ _,.dead,_,h| .arr _ _,.bA _ _,_,h| .box _,.bA _ _,_,h| .set _,.bA _ _,_,h| .dead,.bA _ _,_,h=>by cases h
theorem Bx: ∀{a b:List SB} (q:List xB),Fa a b=ahK->As a (Iz b++q)=(b,q)
 | [],[],q,_=>rfl
 |x::xs,y::ys,q,h=>by simp only [Fa,pp] at h;simp only [As,Iz,aa5,SH _ h.1,Bx q h.2]
 | [],_::_,_,h=>by cases h
 |_::_,[],_,h=>by cases h
theorem Kw: ∀{a b:SE} (q:List xB),N7 a b=ahK->Ki a (PQ b++q)=(b,q)
 | [],[],q,_=>rfl
 |(t,x)::xs,(u,y)::ys,q,h=>by simp only [N7,pp] at h;simp only [Ki,PQ,aa5,D8 _ h.1.2,Kw q h.2,lw h.1.1]
 | [],_::_,_,h=>by cases h
 |_::_,[],_,h=>by cases h
theorem Kx: ∀{a b:List Nat},N8 a b=ahK->a=b
 | [],[],_=>rfl
 |x::xs,y::ys,h=>by simp only [N8,pp] at h;rw [lw h.1,Kx h.2]
 | [],_::_,h=>by cases h
 |_::_,[],h=>by cases h
theorem Hr {a b:oQ} (h:Ar a b=ahK):uV a (nV b)=b:=by obtain ⟨e1,s1,z1,k1⟩:=a;obtain ⟨e2,s2,z2,k2⟩:=b;simp only [Ar,pp] at h;obtain ⟨⟨⟨h1,h2⟩,h3⟩,h4⟩:=h;have hs:=Bx [] h2;rw [aa8] at hs;simp only [uV,nV,Kw _ h1,hs,Kx h3,lw h4]
theorem AK.abH: ∀{a:AK} {x:xB} {y:a.T},a.of x=ahI y->a.at y=x
 | .i,.i _,y,h=>by injection h with h;subst h;rfl
 | .b,.b _,y,h=>by injection h with h;subst h;rfl
 | .n,.n _,y,h=>by injection h with h;subst h;rfl
 | .l r,.l q x,y,h=>by obtain ⟨rfl,rfl⟩:=oS h;rfl
 | .s,.s _,y,h=>by injection h with h;subst h;rfl
 | .i,.b _,_,h| .i,.n _,_,h| .i,.l _ _,_,h| .i,.s _,_,h| .b,.i _,_,h| .b,.n _,_,h| .b,.l _ _,_,h| .b,.s _,_,h| .n,.i _,_,h| .n,.b _,_,h| .n,.l _ _,_,h| .n,.s _,_,h
 | .l _,.i _,_,h| .l _,.b _,_,h| .l _,.n _,_,h| .l _,.s _,_,h| .s,.i _,_,h| .s,.b _,_,h| .s,.n _,_,h| .s,.l _ _,_,h=>by cases h
theorem oV: ∀{ks:List AK} {l:List xB} {y:gT ks},lC ks l=ahI y->k9 ks y=l
 | [],[],y,_=>rfl
 | [a],[x],y,h=>by have:=AK.abH (a:=a) h;simp only [k9,this]
 |a::q::r,x::xs,y,h=>by
  simp only [lC] at h;split at h
  · rename_i u v h1 h2
    injection h with h;subst h;simp only [k9,AK.abH h1,oV h2]
  cases h
 | [],_::_,_,h=>by cases h
 | [_],[],_,h=>by cases h
 | [_],_::_::_,_,h=>by cases h
 |_::_::_,[],_,h=>by cases h
end
end Go.Vm
/- What is known of functions, and what a call of one comes to. -/
namespace Go.Vm
mutual
def DO:Nat->PV->Option (PV×bS)
 |_,.int k n=>ahI (.int k n,[])
 |_,.bool b=>ahI (.bool b,[])
 |nx,.agg cs=>match Ft nx cs with|some r=>ahI (.agg r.1,r.2)|none=>ahJ
 |nx,.bN cs=>match Ft nx cs with|some r=>ahI (.bN r.1,r.2)|none=>ahJ
 |nx,.sl e ahL rows=>ahI (.own nx e 0 (ahH rows) (ahH rows) ahL,[.arr e rows])
 |_,_=>ahJ
def Ft:Nat->List PV->Option (List PV×bS)
 |_,[]=>ahI ([],[])
 |nx,x::xs=>match DO nx x with
  |some a=>match Ft (nx+ahH a.2) xs with
   |some b=>ahI (a.1::b.1,a.2++b.2)
   |none=>ahJ
  |none=>ahJ
end
def vZ (s:List SB) (n:Nat) (l:List SB):Prop:= ∀(j:Nat) (b:SB),l[j]? =ahI b->s[n+j]? =ahI b
theorem vZ.left {s:List SB} {n:Nat} {l m:List SB} (h:vZ s n (l++m)):vZ s n l:=fun j b hj=>h j b (by rw [v6 (ut.1 hj).1];exact hj)
theorem vZ.right {s:List SB} {n:Nat} {l m:List SB} (h:vZ s n (l++m)):vZ s (n+ahH l) m:=fun j b hj=>by
 have:=h (ahH l+j) b (by rw [ww (by omega)];simpa using hj)
 rwa [Nat.add_assoc]
def MD (s:List SB) (l:List SB) (q:bS):Prop:=ahH q=ahH l/\ ∀(j:Nat) (b:SB),l[j]? =ahI b-> ∃x,q[j]? =ahI x/\RB s b x
theorem MD.append {s l m:List SB} {q r:bS} (h:MD s l q) (k:MD s m r):MD s (l++m) (q++r):=by
 refine ⟨by simp [h.1,k.1],fun j b hj=>?_⟩;rcases abB j (ahH l) with hl|hl
 · rw [v6 hl] at hj
   obtain ⟨x,h1,h2⟩:=h.2 j b hj;exact ⟨x,by rw [v6 (by rw [h.1];exact hl)];exact h1,h2⟩
 rw [ww hl] at hj
 obtain ⟨x,h1,h2⟩:=k.2 _ b hj;exact ⟨x,by rw [ww (by rw [h.1];exact hl),h.1];exact h1,h2⟩
theorem MD.nil {s:List SB}:MD s [] []:=⟨rfl,fun j b h=>by simp at h⟩
theorem MD.one {s:List SB} {b:SB} {x:jQ} (h:RB s b x):MD s [b] [x]:=⟨rfl,fun j c hc=>by
 cases j with
 |zero=>simp at hc;subst hc;exact ⟨x,rfl,h⟩
 |succ j=>simp at hc⟩
mutual
theorem Om: ∀{v:SV} {nx:Nat} {p0 p:PV} {q:bS},ru v=ahI p0->DO nx p0=ahI (p,q)-> ∀{s:List SB},vZ s nx (yc nx v).2->R s (yc nx v).1 p/\MD s (yc nx v).2 q
 | .int k n,nx,p0,p,q,h0,h,s,_=>by injection h0 with h0;subst h0;injection h with h;injection h with h1 h2;subst h1 h2;exact ⟨rfl,MD.nil⟩
 | .bool b,nx,p0,p,q,h0,h,s,_=>by injection h0 with h0;subst h0;injection h with h;injection h with h1 h2;subst h1 h2;exact ⟨rfl,MD.nil⟩
 | .agg cs,nx,p0,p,q,h0,h,s,hb=>by
  simp only [ru] at h0;split at h0
  · rename_i l hl
    injection h0 with h0;subst h0;simp only [DO] at h;split at h
    · rename_i r hr
      injection h with h;injection h with h1 h2;subst h1 h2;obtain ⟨h3,h4⟩:=Fu (p:=r.1) (q:=r.2) hl hr hb;exact ⟨⟨r.1,rfl,h3⟩,h4⟩
    cases h
  cases h0
 | .bN cs,nx,p0,p,q,h0,h,s,hb=>by
  simp only [ru] at h0;split at h0
  · rename_i l hl
    injection h0 with h0;subst h0;simp only [DO] at h;split at h
    · rename_i r hr
      injection h with h;injection h with h1 h2;subst h1 h2;obtain ⟨h3,h4⟩:=Fu (p:=r.1) (q:=r.2) hl hr hb;exact ⟨⟨r.1,rfl,h3⟩,h4⟩
    cases h
  cases h0
 | .sl r l,nx,p0,p,q,h0,h,s,hb=>by injection h0 with h0;subst h0;injection h with h;injection h with h1 h2;subst h1 h2;refine ⟨⟨ahH r,ahH l,by simp,.inl ⟨r,l,hb 0 _ rfl,rfl,rfl⟩⟩,MD.one rfl⟩
 | .nil e c,nx,p0,p,q,h0,h,s,hb=>by
  injection h0 with h0;subst h0;cases c with
  |true=>simp [DO] at h
  |false=>injection h with h;injection h with h1 h2;subst h1 h2;exact ⟨⟨e,0,rfl,.inl ⟨_,[],hb 0 _ rfl,by simp,rfl⟩⟩,MD.one (by show _=_;simp)⟩
 | .str _,nx,p0,p,q,h0,h,s,_=>by injection h0 with h0;subst h0;cases h
 | .dC,nx,p0,p,q,h0,h,s,_=>by injection h0 with h0;subst h0;cases h
 | .bw cs o,nx,p0,p,q,h0,h,s,_=>by
  simp only [ru] at h0;split at h0
  · injection h0 with h0;subst h0;cases h
  cases h0
 | .eA f a b,nx,p0,p,q,h0,h,s,_=>by
  simp only [ru] at h0;split at h0
  · injection h0 with h0;subst h0;cases h
  cases h0
 | .gQ,_,_,_,_,h0,_,_,_| .undef,_,_,_,_,h0,_,_,_| .js,_,_,_,_,h0,_,_,_| .own _ _,_,_,_,_,h0,_,_,_| .pre _ _ _ _,_,_,_,_,h0,_,_,_| .part _ _ _ _ _,_,_,_,_,h0,_,_,_
 | .pa _ _ _ _ _,_,_,_,_,h0,_,_,_| .pb _ _ _,_,_,_,_,h0,_,_,_| .bp _ _ _,_,_,_,_,h0,_,_,_| .mp _,_,_,_,_,h0,_,_,_=>by cases h0
theorem Fu: ∀{v:List SV} {nx:Nat} {p0 p:List PV} {q:bS},oK v=ahI p0->Ft nx p0=ahI (p,q)-> ∀{s:List SB},vZ s nx (ug nx v).2->RL s (ug nx v).1 p/\MD s (ug nx v).2 q
 | [],nx,p0,p,q,h0,h,s,_=>by injection h0 with h0;subst h0;injection h with h;injection h with h1 h2;subst h1 h2;exact ⟨rfl,MD.nil⟩
 |x::xs,nx,p0,p,q,h0,h,s,hb=>by
  obtain ⟨a,as,rfl,h1,h2⟩:=dY.1 h0;simp only [Ft] at h;split at h
  · rename_i ra hra
    split at h
    · rename_i rb hrb
      injection h with h;injection h with e1 e2;subst e1 e2;simp only [ug] at hb ⊢;obtain ⟨k1,k2⟩:=Om (p:=ra.1) (q:=ra.2) h1 hra hb.left;rw [k2.1] at hrb;obtain ⟨k3,k4⟩:=Fu (p:=rb.1) (q:=rb.2) h2 hrb hb.right;exact ⟨RL.cons k1 k3,k2.append k4⟩
    cases h
  cases h
end
mutual
theorem SI {s:List SB} {ps:bS} {z:List Nat} (hS:bX s ps): ∀{v v':SV} {p:PV} {seen seen':List Nat} (nx:Nat),R s v p->PO s z seen v=ahI (v',seen')-> ∃p0 p' q,ru v'=ahI p0/\DO nx p0=ahI (p',q)/\zl ps z nx seen p=ahI (p',q,seen')
 | .int k n,v',p,seen,seen',nx,h,hx=>by injection hx with hx;injection hx with h1 h2;subst h1 h2;rw [show p=_ from h];exact ⟨_,_,_,rfl,rfl,rfl⟩
 | .bool k,v',p,seen,seen',nx,h,hx=>by injection hx with hx;injection hx with h1 h2;subst h1 h2;rw [show p=_ from h];exact ⟨_,_,_,rfl,rfl,rfl⟩
 | .agg cs,v',p,seen,seen',nx,h,hx=>by
  obtain ⟨q,rfl,h⟩:=h;simp only [PO] at hx;split at hx
  · rename_i r hr
    injection hx with hx;injection hx with h1 h2;subst h1 h2;obtain ⟨p0,p',q',h3,h4,h5⟩:=II hS (v':=r.1) (seen':=r.2) nx h hr;exact ⟨.agg p0,.agg p',q',by simp only [ru,h3],by simp only [DO,h4],by simp only [zl,h5];rfl⟩
  cases hx
 | .bN cs,v',p,seen,seen',nx,h,hx=>by
  obtain ⟨q,rfl,h⟩:=h;simp only [PO] at hx;split at hx
  · rename_i r hr
    injection hx with hx;injection hx with h1 h2;subst h1 h2;obtain ⟨p0,p',q',h3,h4,h5⟩:=II hS (v':=r.1) (seen':=r.2) nx h hr;exact ⟨.bN p0,.bN p',q',by simp only [ru,h3],by simp only [DO,h4],by simp only [zl,h5];rfl⟩
  cases hx
 | .nil e c,v',p,seen,seen',nx,h,hx=>by
  cases c with
  |false=>cases hx
  |true=>injection hx with hx;injection hx with h1 h2;subst h1 h2;rw [show p=_ from h];exact ⟨_,_,_,rfl,rfl,rfl⟩
 | .own t ex,v',p,seen,seen',nx,h,hx=>by
  obtain ⟨e,n,rfl,cJ⟩:=h;simp only [PO,bP] at hx;split at hx
  · rename_i r l bM
    obtain ⟨rfl,rfl⟩:=cJ.inv bM;cases hc:(has seen t||has z t) with
    |true=>rw [hc] at hx;cases hx
    |false=>rw [hc] at hx;injection hx with hx;injection hx with h1 h2;subst h1 h2;refine ⟨_,_,_,rfl,rfl,?_⟩;simp only [zl,hS.arr bM,hc];simp
  cases hx
 | .gQ,_,_,_,_,_,_,hx| .undef,_,_,_,_,_,_,hx| .js,_,_,_,_,_,_,hx| .dC,_,_,_,_,_,_,hx| .str _,_,_,_,_,_,_,hx| .sl _ _,_,_,_,_,_,_,hx| .pre _ _ _ _,_,_,_,_,_,_,hx| .part _ _ _ _ _,_,_,_,_,_,_,hx
 | .pa _ _ _ _ _,_,_,_,_,_,_,hx| .pb _ _ _,_,_,_,_,_,_,hx| .bp _ _ _,_,_,_,_,_,_,hx| .bw _ _,_,_,_,_,_,_,hx| .eA _ _ _,_,_,_,_,_,_,hx| .mp _,_,_,_,_,_,_,hx=>by cases hx
theorem II {s:List SB} {ps:bS} {z:List Nat} (hS:bX s ps): ∀{v v':List SV} {p:List PV} {seen seen':List Nat} (nx:Nat),RL s v p->Kh s z seen v=ahI (v',seen')-> ∃p0 p' q,oK v'=ahI p0/\Ft nx p0=ahI (p',q)/\H0 ps z nx seen p=ahI (p',q,seen')
 | [],v',p,seen,seen',nx,h,hx=>by injection hx with hx;injection hx with h1 h2;subst h1 h2;rw [show p=_ from h];exact ⟨_,_,_,rfl,rfl,rfl⟩
 |x::xs,v',p,seen,seen',nx,h,hx=>by
  obtain ⟨a,as,rfl,h1,h2⟩:=h.cons_inv;simp only [Kh] at hx;split at hx
  · rename_i r hr
    split at hx
    · rename_i r2 J1
      injection hx with hx;injection hx with e1 e2;subst e1 e2;obtain ⟨p0,p',q,k1,k2,k3⟩:=SI hS (v':=r.1) (seen':=r.2) nx h1 hr;obtain ⟨p02,p'2,q2,k4,k5,k6⟩:=II hS (v':=r2.1) (seen':=r2.2) (nx+ahH q) h2 J1;exact ⟨p0::p02,p'::p'2,q++q2,dY.2 ⟨_,_,rfl,k1,k4⟩,by simp only [Ft,k2,k5],by simp only [H0,k3,k6]⟩
    cases hx
  cases hx
end
mutual
theorem Ky {s:List SB}: ∀{v:SV} {p:PV},R s v p->Aq v=ahK->p.jB=ahK
 | .int _ _,p,h,_| .bool _,p,h,_| .str _,p,h,_=>by rw [show p=_ from h];rfl
 | .agg cs,p,h,hn=>by obtain ⟨q,rfl,h⟩:=h;exact CJ h hn
 | .bN cs,p,h,hn=>by obtain ⟨q,rfl,h⟩:=h;exact CJ h hn
 | .gQ,_,_,h| .undef,_,_,h| .js,_,_,h| .dC,_,_,h| .sl _ _,_,_,h| .nil _ _,_,_,h| .own _ _,_,_,h| .pre _ _ _ _,_,_,h| .part _ _ _ _ _,_,_,h| .pa _ _ _ _ _,_,_,h| .pb _ _ _,_,_,h| .bp _ _ _,_,_,h| .bw _ _,_,_,h| .eA _ _ _,_,_,h| .mp _,_,_,h=>by cases h
theorem CJ {s:List SB}: ∀{v:List SV} {p:List PV},RL s v p->rj v=ahK->rV p=ahK
 | [],p,h,_=>by rw [show p=_ from h];rfl
 |x::xs,p,h,hn=>by obtain ⟨a,as,rfl,h1,h2⟩:=h.cons_inv;simp only [rj,pp] at hn;simp only [rV,Ky h1 hn.1,CJ h2 hn.2,aaH]
end
mutual
theorem Hs {s:List SB} {u:SV}: ∀{v:SV} {p:PV},R s v p->Aq v=ahL->R6 s v=ahI u->p.jB=ahL
 | .int _ _,p,h,hn,_| .bool _,p,h,hn,_| .str _,p,h,hn,_=>by cases hn
 | .agg cs,p,h,hn,hi=>by
  obtain ⟨q,rfl,h⟩:=h;simp only [R6] at hi;split at hi
  · rename_i l hl;exact AD h hn hl
  cases hi
 | .bN cs,p,h,hn,hi=>by
  obtain ⟨q,rfl,h⟩:=h;simp only [R6] at hi;split at hi
  · rename_i l hl;exact AD h hn hl
  cases hi
 | .sl _ _,p,h,_,_=>by rw [show p=_ from h];rfl
 | .nil _ _,p,h,_,_=>by rw [show p=_ from h];rfl
 | .own _ _,p,h,_,_=>by obtain ⟨e,n,rfl,_⟩:=h;rfl
 | .pre _ _ _ _,p,h,_,_=>by obtain ⟨e,rfl,_⟩:=h;rfl
 | .part _ _ _ _ _,p,h,_,_=>by obtain ⟨e,rfl,_⟩:=h;rfl
 | .gQ,_,_,_,h| .undef,_,_,_,h| .js,_,_,_,h| .dC,_,_,_,h| .pa _ _ _ _ _,_,_,_,h| .pb _ _ _,_,_,_,h| .bp _ _ _,_,_,_,h| .bw _ _,_,_,_,h| .eA _ _ _,_,_,_,h| .mp _,_,_,_,h=>by cases h
theorem AD {s:List SB}: ∀{v u:List SV} {p:List PV},RL s v p->rj v=ahL->Mo s v=ahI u->rV p=ahL
 | [],u,p,h,hn,_=>by cases hn
 |x::xs,u,p,h,hn,hi=>by
  obtain ⟨a,as,rfl,h1,h2⟩:=h.cons_inv;simp only [Mo] at hi;split at hi
  · rename_i y ys h3 h4
    simp only [rj] at hn;simp only [rV];cases hx:Aq x with
    |false=>rw [Hs h1 hx h3];rfl
    |true=>rw [hx] at hn;rw [AD h2 (by simpa using hn) h4];simp
  cases hi
end
mutual
theorem abI {s:List SB} {ps:bS} (hS:bX s ps): ∀{v u:SV} {p:PV},R s v p->R6 s v=ahI u-> ∃q,xz ps p=ahI q/\ru u=ahI q
 | .int k n,u,p,h,hx=>by injection hx with hx;subst hx;rw [show p=_ from h];exact ⟨_,rfl,rfl⟩
 | .bool b,u,p,h,hx=>by injection hx with hx;subst hx;rw [show p=_ from h];exact ⟨_,rfl,rfl⟩
 | .str x,u,p,h,hx=>by injection hx with hx;subst hx;rw [show p=_ from h];exact ⟨_,rfl,rfl⟩
 | .agg cs,u,p,h,hx=>by
  obtain ⟨q,rfl,h⟩:=h;simp only [R6] at hx;split at hx
  · rename_i l hl
    injection hx with hx;subst hx;obtain ⟨q',h1,h2⟩:=ME hS h hl;exact ⟨.agg q',by simp only [xz,h1];rfl,by simp only [ru,h2]⟩
  cases hx
 | .bN cs,u,p,h,hx=>by
  obtain ⟨q,rfl,h⟩:=h;simp only [R6] at hx;split at hx
  · rename_i l hl
    injection hx with hx;subst hx;obtain ⟨q',h1,h2⟩:=ME hS h hl;exact ⟨.bN q',by simp only [xz,h1];rfl,by simp only [ru,h2]⟩
  cases hx
 | .sl r l,u,p,h,hx=>by injection hx with hx;subst hx;rw [show p=_ from h];exact ⟨_,rfl,rfl⟩
 | .nil e c,u,p,h,hx=>by injection hx with hx;subst hx;rw [show p=_ from h];exact ⟨_,rfl,rfl⟩
 | .own t ex,u,p,h,hx=>by
  simp only [R6,bP] at hx;split at hx
  · rename_i r l bM
    injection hx with hx;subst hx;obtain ⟨e,n,rfl,cJ⟩:=h;obtain ⟨rfl,rfl⟩:=cJ.inv bM;refine ⟨.sl (ahH r) ahL (l.map (RT.pv r)),?_,rfl⟩;simp only [xz,hS.arr bM,abc];rw [aba (by simp)]
  cases hx
 | .pre t len cap ex,u,p,h,hx=>by
  simp only [R6,bP] at hx;split at hx
  · rename_i r l bM
    injection hx with hx;subst hx;obtain ⟨e,rfl,cJ⟩:=h;have:=cJ.inv bM;subst this;refine ⟨.sl (ahH r) ahL ((l.take len).map (RT.pv r)),?_,rfl⟩;simp only [xz,hS.arr bM,abc,ab9]
  cases hx
 | .part t off len cap ex,u,p,h,hx=>by
  simp only [R6,bP] at hx;split at hx
  · rename_i r l bM
    injection hx with hx;subst hx;obtain ⟨e,rfl,cJ⟩:=h;have:=cJ.inv bM;subst this;refine ⟨.sl (ahH r) ahL (((l.drop off).take len).map (RT.pv r)),?_,rfl⟩;simp only [xz,hS.arr bM,ab9,abF]
  cases hx
 | .gQ,_,_,_,hx| .undef,_,_,_,hx| .js,_,_,_,hx| .dC,_,_,_,hx| .pa _ _ _ _ _,_,_,_,hx| .pb _ _ _,_,_,_,hx| .bp _ _ _,_,_,_,hx| .bw _ _,_,_,_,hx| .eA _ _ _,_,_,_,hx| .mp _,_,_,_,hx=>by cases hx
theorem ME {s:List SB} {ps:bS} (hS:bX s ps): ∀{v u:List SV} {p:List PV},RL s v p->Mo s v=ahI u-> ∃q,El ps p=ahI q/\oK u=ahI q
 | [],u,p,h,hx=>by injection hx with hx;subst hx;rw [show p=_ from h];exact ⟨_,rfl,rfl⟩
 |x::xs,u,p,h,hx=>by
  obtain ⟨a,as,rfl,h1,h2⟩:=h.cons_inv;simp only [Mo] at hx;split at hx
  · rename_i y ys h3 h4
    injection hx with hx;subst hx;obtain ⟨q,h5,h6⟩:=abI hS h1 h3;obtain ⟨qs,h7,h8⟩:=ME hS h2 h4;exact ⟨q::qs,by simp only [El,h5,h7],dY.2 ⟨_,_,rfl,h6,h8⟩⟩
  cases hx
end
mutual
theorem SJ {s:List SB}: ∀{v:SV} {p:PV},ru v=ahI p->R s v p
 | .int _ _,p,h| .bool _,p,h| .str _,p,h| .dC,p,h| .sl _ _,p,h| .nil _ _,p,h=>by injection h with h;exact h.symm
 | .agg cs,p,h=>by
  simp only [ru] at h;split at h
  · rename_i l hl;injection h with h;exact ⟨l,h.symm,Fv hl⟩
  cases h
 | .bN cs,p,h=>by
  simp only [ru] at h;split at h
  · rename_i l hl;injection h with h;exact ⟨l,h.symm,Fv hl⟩
  cases h
 | .bw cs o,p,h=>by
  simp only [ru] at h;split at h
  · rename_i l hl;injection h with h;exact ⟨l,h.symm,Fv hl⟩
  cases h
 | .eA f a b,p,h=>by
  simp only [ru] at h;split at h
  · rename_i x y h1 h2;injection h with h;exact ⟨x,y,h.symm,Fv h1,Fv h2⟩
  cases h
 | .gQ,_,h| .undef,_,h| .js,_,h| .own _ _,_,h| .pre _ _ _ _,_,h| .part _ _ _ _ _,_,h| .pa _ _ _ _ _,_,h| .pb _ _ _,_,h| .bp _ _ _,_,h| .mp _,_,h=>by cases h
theorem Fv {s:List SB}: ∀{v:List SV} {p:List PV},oK v=ahI p->RL s v p
 | [],p,h=>by injection h with h;exact h.symm
 |x::xs,p,h=>by obtain ⟨a,as,rfl,h1,h2⟩:=dY.1 h;exact RL.cons (SJ h1) (Fv h2)
end
def abJ (kd:Kd) (n:Nat) (tk:List Nat) (v:SV) (r:nL):Prop:=
 match kd with
 | .pure=> ∃p,ru v=ahI p/\r={v:=p,rd:=tk}
 | .tp=> ∃p,ru v=ahI p/\r={v:=p,rd:=tk,fr:=tk}
 | .own=> ∃p0 p q,ru v=ahI p0/\DO n p0=ahI (p,q)/\r={v:=p,news:=q,rd:=tk}
def cE (F : kQ) (f : FuncId) (c : ry) : Prop :=
  ∀ (a : c.α) (b : c.β) (as args : List PV) (aA : bS) (fz : List Nat), c.fn a = ahI b -> oK (c.args.enc a) = ahI args -> B6 aA (xq aA deep) as = ahI args ->
    ∃ n r, cz F (run F n) c.ow f as aA fz = ahI r /\ abJ c.kd (ahH aA) (cT (cK aA deep) as) (c.res.enc b) r
def eK.va (c:eK) (a:gT c.ka):List SV:=(rq c.ta (k9 c.ka a)).1
def eK.sa (c:eK) (a:gT c.ka):List SB:=(As c.tb (rq c.ta (k9 c.ka a)).2).1
def eK.vb (c:eK) (b:gT c.ko):SV:=(sX c.tv (k9 c.ko b)).1
def eK.sb (c:eK) (b:gT c.ko):List SB:=(As c.to (sX c.tv (k9 c.ko b)).2).1
def SK:SB->SB->Prop
 | .arr r l,.arr q m=>r=q/\ahH m=ahH l
 | .box _,.box _=>True
 | .set _,.set _=>True
 | .bA _ _,.bA _ _=>True
 | .dead,.dead=>True
 |_,_=>False
def oG (F : kQ) (f : FuncId) (c : eK) : Prop :=
  ∀ (a : gT c.ka) (b : gT c.ko) (pa : List PV) (ps : bS), c.fn a = ahI b -> RL (c.sa a) (c.va a) pa -> bX (c.sa a) ps ->
    ∃ n v s, run F n (.func f pa ps []) = ahI (.func v s []) /\ hG (c.sa a).length v s = ahK /\ R (c.sb b) (c.vb b) v /\ bX (c.sb b) (s.take (c.sa a).length) /\ (c.sb b).length = (c.sa a).length /\
      ∀ (t : Nat) (x y : SB), (c.sa a)[t]? = ahI x -> (c.sb b)[t]? = ahI y -> SK x y
def yi (F:kQ):List (Nat×ry)->Prop
 | []=>True
 |(f,c)::r=>cE F f c/\yi F r
def Ht (F:kQ):List (Nat×eK)->Prop
 | []=>True
 |(f,c)::r=>oG F f c/\Ht F r
def By (F:kQ):List (Nat×Cd)->Prop
 | []=>True
 |(f,x)::r=>F f=ahI x.ent/\By F r
structure mz (F:kQ) (cx:Ctx):Prop where
 con: ∀f c,c∈cx.con f->cE F f c
 fpc: ∀f c,c∈cx.fpc f->oG F f c
 code: ∀f x,cx.code f=ahI x->F f=ahI x.ent
theorem yi.mem {F:kQ}: ∀{l:List (Nat×ry)},yi F l-> ∀f c,c∈Km l f->cE F f c
 | [],_,f,c,h=>by cases h
 |(g,d)::r,hl,f,c,h=>by
  simp only [Km] at h;cases hb:NE g f with
  |true=>
   rw [hb] at h;have:=lw hb;subst this;simp only [kw] at h;rcases h with _|⟨_,h⟩
   · exact hl.1
   exact yi.mem hl.2 _ c h
  |false=>rw [hb] at h;exact yi.mem hl.2 f c h
theorem Ht.mem {F:kQ}: ∀{l:List (Nat×eK)},Ht F l-> ∀f c,c∈Kn l f->oG F f c
 | [],_,f,c,h=>by cases h
 |(g,d)::r,hl,f,c,h=>by
  simp only [Kn] at h;cases hb:NE g f with
  |true=>
   rw [hb] at h;have:=lw hb;subst this;simp only [kw] at h;rcases h with _|⟨_,h⟩
   · exact hl.1
   exact Ht.mem hl.2 _ c h
  |false=>rw [hb] at h;exact Ht.mem hl.2 f c h
theorem By.mem {F:kQ}: ∀{l:List (Nat×Cd)},By F l-> ∀f x,IC l f=ahI x->F f=ahI x.ent
 | [],_,f,c,h=>by cases h
 |(g,d)::r,hl,f,c,h=>by
  simp only [IC] at h;cases hb:NE g f with
  |true=>rw [hb] at h;have:=lw hb;subst this;injection h with h;subst h;exact hl.1
  |false=>rw [hb] at h;exact By.mem hl.2 f c h
theorem mz.make {F:kQ} {lp:Option Nat} {c:List (Nat×ry)} {p:List (Nat×eK)} {x:List (Nat×Cd)} {rk:List (Nat×List PT)} (h1:yi F c) (h2:Ht F p) (h3:By F x):mz F (oU lp c p x rk):=
 ⟨h1.mem,h2.mem,h3.mem⟩
section
variable {F : kQ} {R' ρ : Type} {w : R' -> ρ} {y : ρ} {s : List SB} {ps : bS} {z : List Nat}
theorem yj {f:FuncId} {m:Bool} {tk:List Nat} {vs:List SV} {k:XRS->gb R'} (hS:bX s ps) {as args:List PV} (hx:B6 ps (xq ps deep) as=ahI args) (hv:oK vs=ahI args) (AV:tk=cT (cK ps deep) as):
 ∀{l:List ry},(∀c∈l,cE F f c)->Ms f m s tk vs k l ρ w=ahI y-> ∃sr pr,(∃n,cz F (run F n) m f as ps z=ahI pr)/\Good s ps sr pr/\k (.loc sr) ρ w=ahI y
 | [],_,h=>by cases h
 |c::l,hl,h=>by
  simp only [Ms] at h;cases hd:c.args.dec vs with
  |none=>rw [hd] at h;exact yj hS hx hv AV (fun c hc=>hl c (ac7 _ hc)) h
  |some a=>
   rw [hd] at h;cases hmo:(m==c.ow) with
   |false=>rw [hmo] at h;exact yj hS hx hv AV (fun c hc=>hl c (ac7 _ hc)) h
   |true=>
   rw [hmo] at h;obtain ⟨b,hb,h2⟩:=ck h;have hm:m=c.ow:=by simpa using hmo
   subst hm;have amJ:=c.args.law hd hv;obtain ⟨n,r,hr,Be⟩:=hl c (abK ..) a b as args ps z hb amJ hx;cases hkd:c.kd with
   |pure=>rw [hkd] at h2 Be;obtain ⟨p,h3,rfl⟩:=Be;exact ⟨_,_,⟨n,hr⟩,by rw [<- AV];exact Good.val hS (SJ h3),h2⟩
   |tp=>rw [hkd] at h2 Be;obtain ⟨p,h3,rfl⟩:=Be;exact ⟨_,_,⟨n,hr⟩,by rw [<- AV];exact Good.val hS (SJ h3),h2⟩
   |own=>
    rw [hkd] at h2 Be;obtain ⟨p0,p,q,h3,h4,rfl⟩:=Be;rw [hS.len] at h4;have hbh:vZ (s++(yc (ahH s) (c.res.enc b)).2) (ahH s) (yc (ahH s) (c.res.enc b)).2:=fun j x hj=>by rw [ww (by omega)];simpa using hj
    obtain ⟨k1,k2⟩:=Om h3 h4 hbh;exact ⟨_,_,⟨n,hr⟩,by rw [<- AV];exact Good.news hS k2.1 k2.2 k1,h2⟩
end
end Go.Vm
/- A call of a function that works on the blocks that are lent to it. -/
namespace Go.Vm
def qM {α:Type}:List (Nat×α)->List α->List α
 | [],s=>s
 |(t,b)::r,s=>qM r (s.set t b)
theorem v7: ∀(l:List (Nat×SB)) (s:List SB),qL l s=qM l s
 | [],s=>rfl
 |(t,b)::r,s=>by simp only [qL,qM,Bq,v7 r]
theorem Dq: ∀(l:List (Nat×jQ)) (s:bS),fP l s=qM l s
 | [],s=>rfl
 |(t,b)::r,s=>by simp only [fP,qM,Dq r]
theorem AE {α:Type}: ∀(l:List (Nat×α)) (s:List α),(qM l s).length=ahH s
 | [],s=>rfl
 |(t,b)::r,s=>by simp [qM,AE r]
theorem v8 {α:Type}: ∀(l:List (Nat×α)) (s:List α) (t:Nat),t∉l.map (·.1)->(qM l s)[t]? =s[t]?
 | [],s,t,_=>rfl
 |(u,b)::r,s,t,h=>by simp only [aak,List.mem_cons,not_or] at h;simp only [qM];rw [v8 r _ t h.2,If];simp [Ne.symm h.1]
theorem CK {α:Type}: ∀(l:List (Nat×α)) (s:List α) (j t:Nat) (b:α),(l.map (·.1)).Nodup->l[j]? =ahI (t,b)->t<ahH s->(qM l s)[t]? =ahI b
 | [],s,j,t,b,_,h,_=>by simp at h
 |(u,c)::r,s,0,t,b,hn,h,ht=>by simp at h;obtain ⟨rfl,rfl⟩:=h;simp only [aak,ag2] at hn;simp only [qM];rw [v8 r _ u hn.1,If];simp [ht]
 |(u,c)::r,s,j+1,t,b,hn,h,ht=>by simp only [aak,ag2] at hn;simp only [qM];exact CK r _ j t b hn.2 (by simpa using h) (by simpa using ht)
theorem Bz: ∀(l:List (Nat×SB)),ye l=l.map (·.1)
 | []=>rfl
 |(t,b)::r=>by simp [ye,Bz r]
theorem Hu (g:Nat->Nat): ∀(tk:List Nat) (s:List SB),ahH s=ahH tk->(zL g tk s).map (·.1)=tk/\ ∀(j t:Nat) (b:SB),tk[j]? =ahI t->s[j]? =ahI b->(zL g tk s)[j]? =ahI (t,Se g b)
 | [],s,h=>⟨by simp [zL],fun j t b hj=>by simp at hj⟩
 |t::tk,[],h=>by simp at h
 |t::tk,b::s,h=>by
  obtain ⟨h1,h2⟩:=Hu g tk s (by simpa using h);refine ⟨by simp [zL,h1],fun j u c hj hc=>?_⟩;cases j with
  |zero=>simp at hj hc;subst hj hc;rfl
  |succ j=>simp only [zL,abd];exact h2 j u c (by simpa using hj) (by simpa using hc)
theorem Fw (g:Nat->Nat): ∀(tk:List Nat) (s:bS),ahH tk<=ahH s->(oL g tk s).map (·.1)=tk/\ ∀(j t:Nat) (b:jQ),tk[j]? =ahI t->s[j]? =ahI b->(oL g tk s)[j]? =ahI (t,zy g b)
 | [],s,h=>⟨by simp [oL],fun j t b hj=>by simp at hj⟩
 |t::tk,[],h=>by simp at h
 |t::tk,b::s,h=>by
  obtain ⟨h1,h2⟩:=Fw g tk s (by simpa using h);refine ⟨by simp [oL,h1],fun j u c hj hc=>?_⟩;cases j with
  |zero=>simp at hj hc;subst hj hc;rfl
  |succ j=>simp only [oL,abd];exact h2 j u c (by simpa using hj) (by simpa using hc)
theorem Hv: ∀{l:List (Nat×jQ)},(l.map (·.1)).Nodup->vD l=ahK
 | [],_=>rfl
 |p::r,h=>by
  simp only [aak,ag2] at h;simp only [vD,pp,abb,aa3];refine ⟨fun q hq=>?_,Hv h.2⟩;cases hb:NE q.1 p.1 with
  |false=>rfl
  |true=>exact absurd (ahv.2 ⟨q,hq,lw hb⟩) h.1
theorem IJ: ∀(s:List SB),B9 [] s=s
 | []=>rfl
 |b::r=>by simp only [B9,IJ r];cases b<;>simp [Vg,tq]
theorem Kz (s:List SB) (r:fJ):r.nu s=B9 (ye r.wr) (qL r.wr s)++r.news:=by
 unfold fJ.nu;split
 · rename_i h;rw [h];simp only [ye,qL,IJ,my]
 simp only [my]
def acU (g:Nat->Nat) (s s2:List SB):Prop:= ∀(u:Nat) (x:SB),s[u]? =ahI x->match x with
 | .arr r l=>s2[g u]? =ahI (.arr r l)
 | .dead=>s2[g u]? =ahI .dead
 | .box _=> ∃cs,s2[g u]? =ahI (.box cs)
 |_=>True
mutual
theorem On {g:Nat->Nat} {s s2:List SB} (hb:acU g s s2): ∀{v:SV} {p:PV},R s v p->R s2 (Kj g v) (Cc g p)
 | .gQ,_,_=>trivial
 | .undef,p,h| .js,p,h| .dC,p,h| .int _ _,p,h| .bool _,p,h| .str _,p,h| .sl _ _,p,h| .nil _ _,p,h| .bp _ _ _,p,h| .mp _,p,h=>by rw [show p=_ from h];rfl
 | .agg cs,p,h=>by obtain ⟨q,rfl,h⟩:=h;exact ⟨_,rfl,wa hb h⟩
 | .bN cs,p,h=>by obtain ⟨q,rfl,h⟩:=h;exact ⟨_,rfl,wa hb h⟩
 | .bw cs o,p,h=>by obtain ⟨q,rfl,h⟩:=h;exact ⟨_,rfl,wa hb h⟩
 | .eA f a b,p,h=>by obtain ⟨pa,pb,rfl,h1,h2⟩:=h;exact ⟨_,_,rfl,wa hb h1,wa hb h2⟩
 | .own t ex,p,h=>by
  obtain ⟨e,n,rfl,cJ⟩:=h;refine ⟨e,n,rfl,?_⟩;rcases cJ with ⟨r,l,h1,h2,h3⟩|h1
  · exact .inl ⟨r,l,hb t _ h1,h2,h3⟩
  exact .inr (hb t _ h1)
 | .pre t a b c,p,h=>by
  obtain ⟨e,rfl,cJ⟩:=h;refine ⟨e,rfl,?_⟩;rcases cJ with ⟨r,l,h1,h2⟩|h1|⟨cs,h1,h2⟩
  · exact .inl ⟨r,l,hb t _ h1,h2⟩
  · exact .inr (.inl (hb t _ h1))
  obtain ⟨c2,h3⟩:=hb t _ h1
  exact .inr (.inr ⟨c2,h3,h2⟩)
 | .part t o a b c,p,h=>by
  obtain ⟨e,rfl,cJ⟩:=h;refine ⟨e,rfl,?_⟩;rcases cJ with ⟨r,l,h1,h2⟩|h1|⟨cs,h1,h2⟩
  · exact .inl ⟨r,l,hb t _ h1,h2⟩
  · exact .inr (.inl (hb t _ h1))
  obtain ⟨c2,h3⟩:=hb t _ h1
  exact .inr (.inr ⟨c2,h3,h2⟩)
 | .pa t r i a o,p,h=>by
  obtain ⟨rfl,cJ⟩:=h;refine ⟨_,rfl,?_⟩;rcases cJ with ⟨l,h1,h2⟩|h1
  · exact .inl ⟨r,l,hb t _ h1,by rw [h2];rfl⟩
  exact .inr (hb t _ h1)
 | .pb t i o,p,h=>by
  obtain ⟨e,rfl,cJ⟩:=h;refine ⟨e,rfl,?_⟩;rcases cJ with ⟨r,l,h1,h2⟩|h1
  · exact .inl ⟨r,l,hb t _ h1,h2⟩
  exact .inr (hb t _ h1)
theorem wa {g:Nat->Nat} {s s2:List SB} (hb:acU g s s2): ∀{v:List SV} {p:List PV},RL s v p->RL s2 (Dl g v) (xa g p)
 | [],p,h=>by rw [show p=_ from h];rfl
 |x::xs,p,h=>by obtain ⟨a,as,rfl,h1,h2⟩:=h.cons_inv;exact RL.cons (On hb h1) (wa hb h2)
end
theorem Fx: ∀{a b:bS},(∀(t:Nat) (x:jQ),a[t]? =ahI x-> ∃y,b[t]? =ahI y/\x.bB=y.bB)->vC a b=ahK
 | [],b,_=>by cases b<;>rfl
 |x::a,[],h=>by obtain ⟨y,hy,_⟩:=h 0 x rfl;simp at hy
 |x::a,y::b,h=>by obtain ⟨y',h1,h2⟩:=h 0 x rfl;simp at h1;subst h1;have:=Fx (a:=a) (b:=b) (fun t x hx=>by simpa using h (t+1) x (by simpa using hx));simp only [vC,this,ac2,h2];cases y.bB<;>rfl
section
variable {F : kQ} {R' ρ : Type} {w : R' -> ρ} {y : ρ} {s : List SB} {ps : bS} {z : List Nat}
theorem Oo {f:FuncId} {tk:List Nat} {MF vs:List SV} {s0:List SB} {k:XRS->gb R'} (hS:bX s ps) {UA:List PV} (hv:RL s MF UA) (AV:tk=oI (cT (cK ps deep) UA)) (hz:(tk.all fun t=>!has z t)=ahK)
 (h1:tn tk MF=ahI vs) (h2:GR s tk tk=ahI s0):
 ∀{l:List eK},(∀c∈l,oG F f c)->fpS f (ahH s) tk vs s0 k l ρ w=ahI y-> ∃sr pr,(∃n,tU (run F n) f UA ps z=ahI pr)/\Good s ps sr pr/\k (.loc sr) ρ w=ahI y
 | [],_,h=>by cases h
 |c::l,hl,h=>by
  have next:fpS f (ahH s) tk vs s0 k l ρ w=ahI y-> ∃sr pr,(∃n,tU (run F n) f UA ps z=ahI pr)/\Good s ps sr pr/\k (.loc sr) ρ w=ahI y:=
   fun h=>Oo hS hv AV hz h1 h2 (fun c hc=>hl c (ac7 _ hc)) h
  simp only [fpS] at h;cases ua:(yd c.ta vs&&Fa c.tb s0) with
  |false=>rw [ua] at h;exact next h
  |true=>
   rw [ua] at h;simp only [kw] at h;cases hpo:lC c.ka (CC vs++Iz s0) with
   |none=>rw [hpo] at h;exact next h
   |some a=>
    rw [hpo] at h;obtain ⟨b,hb,h3⟩:=ck h;simp only [pp] at ua;have EF:=oV hpo;have hva:c.va a=vs:=by unfold eK.va;rw [EF,nW _ ua.1]
    have hsa:c.sa a=s0:=by unfold eK.sa;rw [EF,nW _ ua.1];have:=Bx [] ua.2;rw [aa8] at this;rw [this]
    have EJ:Fs tk s s0:=by have:=Fs.of (l:=[]) h2;rwa [aa8] at this
    obtain ⟨pa',a1,a2⟩:=tB EJ hv h1;obtain ⟨p0,b1,b2,b3⟩:=CF hS EJ h2;have GN:bX s0 p0:=⟨b2,b3⟩;obtain ⟨VC,ai9⟩:=yh h2;obtain ⟨n,v,sr,r1,r2,r3,r4,r5,r6⟩:=hl c (abK ..) a b pa' p0 hb (by rw [hva,hsa];exact a2) (by rw [hsa];exact GN);rw [hsa] at r2 r4 r5 r6;have GF:tk.Nodup:=by rw [AV];exact tj
    have PA: ∀t∈tk,t<(ahH s):=fun t ht=>by obtain ⟨j,hj,he⟩:=ack ht;obtain ⟨x,c',d1,_,_⟩:=ai9 j t (by rw [Do hj,he]);exact (ut.1 d1).1
    have ai':(c.sb b).length=(ahH tk):=by rw [r5,VC]
    have amM:(ahH tk)<=(ahH sr):=by have:=r4.len;rw [ab8,ai'] at this;rw [VC] at this;omega
    have Fm: ∀j,j<ahH tk->(sr.take (ahH s0))[j]? =sr[j]?:=fun j hj=>EQ (by rw [VC];exact hj)
    have Rv:vC p0 sr=ahK:=Fx (fun t x hx=>by
     have amN:t<(ahH s0):=by have:=(ut.1 hx).1;rw [b2] at this;exact this
     obtain ⟨x0,Kb⟩: ∃x0,s0[t]? =ahI x0:=⟨s0[t],Do amN⟩;obtain ⟨q,q1,q2⟩:=b3 t x0 Kb;rw [hx] at q1;injection q1 with q1;subst q1;obtain ⟨y0,P4⟩: ∃y0,(c.sb b)[t]? =ahI y0:=⟨(c.sb b)[t]'(by omega),Do (by omega)⟩;obtain ⟨q',q3,q4⟩:=r4.at_ t y0 P4;rw [Fm t (by omega)] at q3;refine ⟨q',q3,?_⟩;have GM:=r6 t x0 y0 Kb P4;cases x0 with
     |arr r l=>cases y0 with
      |arr r' l'=>obtain ⟨rfl,Ae⟩:=GM;rw [show x=_ from q2,show q'=_ from q4];cases l<;>cases l'<;>simp_all [jQ.bB]
      |_=>exact GM.elim
     |box cs=>cases y0 with
      |box G1=>obtain ⟨_,rfl,_⟩:=q2;obtain ⟨_,rfl,_⟩:=q4;rfl
      |_=>exact GM.elim
     |set l=>cases y0 with
      |set l'=>rw [show x=_ from q2,show q'=_ from q4];rfl
      |_=>exact GM.elim
     |bA p l=>cases y0 with
      |bA p' l'=>rw [show x=_ from q2,show q'=_ from q4];rfl
      |_=>exact GM.elim
     |dead=>cases y0 with
      |dead=>rw [show x=_ from q2,show q'=_ from q4]
      |_=>exact GM.elim)
    let g:=jW tk (ahH s)
    have hg: ∀j t,tk[j]? =ahI t->g j=t:=fun j t hj=>by show jW tk (ahH s) j=t;unfold jW;rw [hj]
    obtain ⟨w1,w2⟩:=Hu g tk (c.sb b) ai';obtain ⟨u1,u2⟩:=Fw g tk sr amM
    let s2:=B9 tk (qL (zL g tk (c.sb b)) s)
    have xw: ∀(j t:Nat) (x:SB),tk[j]? =ahI t->(c.sb b)[j]? =ahI x->s2[t]? =ahI (Vg tk (Se g x)):=fun j t x hj hx=>by show (B9 tk _)[t]? =_;rw [rz,v7,CK _ s j t _ (by rw [w1];exact GF) (w2 j t x hj hx) (PA t (abn hj))];rfl
    have acV: ∀(t:Nat),t∉tk->s2[t]? =(s[t]?).map (Vg tk):=fun t ht=>by show (B9 tk _)[t]? =_;rw [rz,v7,v8 _ s t (by rw [w1];exact ht)]
    have zo: ∀t∈tk,∃j,tk[j]? =ahI t:=fun t ht=>by obtain ⟨j,hj,he⟩:=ack ht;exact ⟨j,by rw [Do hj,he]⟩
    have qI:Fr tk s s2:=fun t x hx=>by
     by_cases ht:t∈tk
     · obtain ⟨j,hj⟩:=zo t ht
       have LU:j<(ahH tk):=(ut.1 hj).1;obtain ⟨x',c',d1,d2,d3⟩:=ai9 j t hj;rw [hx] at d1;injection d1 with d1;subst d1;obtain ⟨y0,P4⟩: ∃y0,(c.sb b)[j]? =ahI y0:=⟨(c.sb b)[j]'(by omega),Do (by omega)⟩;have GM:=r6 j c' y0 d3 P4;have hs2:=xw j t y0 hj P4;cases x with
       |arr r l=>
        injection d2 with d2;subst d2;cases y0 with
        |arr r' l'=>
         obtain ⟨rfl,Ae⟩:=GM;refine .inl ⟨l',hs2,Ae,fun hb=>?_⟩;exfalso;have:has tk t=ahK:=by unfold has;rw [ahy];exact ⟨t,ht,by simp⟩
         rw [this] at hb;cases hb
        |_=>exact GM.elim
       |dead=>
        injection d2 with d2;subst d2;cases y0 with
        |dead=>exact hs2
        |_=>exact GM.elim
       |box cs=>
        simp only [Mp] at d2;split at d2
        · injection d2 with d2;subst d2
          cases y0 with
          |box c2=>exact .inl ⟨_,hs2⟩
          |_=>exact GM.elim
        cases d2
       |_=>trivial
     have:=acV t ht
     rw [hx] at this;cases x with
     |arr r l=>exact .inl ⟨l,this,rfl,fun _=>rfl⟩
     |dead=>exact this
     |box c2=>exact .inl ⟨_,this⟩
     |_=>trivial
    have abL:acU g (c.sb b) s2:=fun u x hx=>by
     have Oh:u<(ahH tk):=by have:=(ut.1 hx).1;omega
     have hj:tk[u]? =ahI tk[u]:=Do Oh;have:=xw u _ x hj hx;rw [hg u _ hj];cases x with
     |arr r l=>exact this
     |dead=>exact this
     |box cs=>exact ⟨_,this⟩
     |_=>trivial
    have amO:(∃n,tU (run F n) f UA ps z=ahI {v:=Cc g v,wr:=oL g tk sr}):=by
     refine ⟨n,?_⟩;unfold tU UC;rw [<- AV,lm hz,a1,b1];dsimp only;rw [r1];dsimp only;unfold Ep;rw [lm Rv,hS.len];have:hG (ahH tk) v sr=ahK:=by rw [<- VC];exact r2
     rw [lm this]
    refine ⟨{v:=Kj g (c.vb b),wr:=zL g tk (c.sb b)},_,amO,?_,h3⟩;have bM:fJ.nu s {v:=Kj g (c.vb b),wr:=zL g tk (c.sb b)}=s2:=by rw [Kz,aa8,Bz,w1]
    exact {
     rd:=rfl
     fr:=rfl
     wr:=by rw [Bz,w1];exact u1
     nw:=Hv (by rw [u1];exact GF)
     nl:=rfl
     aA:=by
      rw [bM];show bX s2 (fP (oL g tk sr) ps);rw [Dq];refine ⟨by rw [AE,vU,v7,AE,hS.len],fun t x hx=>?_⟩
      by_cases ht:t∈tk
      · obtain ⟨j,hj⟩:=zo t ht
        have LU:j<(ahH tk):=(ut.1 hj).1;obtain ⟨y0,P4⟩: ∃y0,(c.sb b)[j]? =ahI y0:=⟨(c.sb b)[j]'(by omega),Do (by omega)⟩;have hs2:=xw j t y0 hj P4;rw [hx] at hs2;injection hs2 with hs2;subst hs2;obtain ⟨q',q3,q4⟩:=r4.at_ j y0 P4;rw [Fm j LU] at q3;refine ⟨zy g q',CK _ ps j t _ (by rw [u1];exact GF) (u2 j t q' hj q3) (by rw [hS.len];exact PA t ht),?_⟩;cases y0 with
        |box cs=>obtain ⟨pc,rfl,hpc⟩:=q4;exact ⟨_,rfl,RL.fr (Fr.refl tk s2) (wa abL hpc)⟩
        |arr r l=>rw [show q'=_ from q4];rfl
        |set l=>rw [show q'=_ from q4];rfl
        |bA p l=>rw [show q'=_ from q4];rfl
        |dead=>rw [show q'=_ from q4];rfl
      rw [acV t ht,ab2] at hx
      obtain ⟨x0,Kb,rfl⟩:=hx;obtain ⟨q,q1,q2⟩:=hS.at_ t x0 Kb;exact ⟨q,by rw [v8 _ ps t (by rw [u1];exact ht)];exact q1,q2.fr qI⟩
     v:=by rw [bM];exact On abL r3
     fra:=by rw [bM,Bz,w1];exact qI}
end
end Go.Vm
/- What the typed machine makes of a function is what the logical machine runs. -/
namespace Go.Vm
section
variable {F : kQ}
theorem WO.acW {o:bG} {r:List bG} {st:St} {tr:List Tr} {Q:St->List Tr->Prop} {f:FuncId} {args:List PV}
 (hw:wanted o.guard st.env=ahI ahK) (eI: ∀n,xb F (run F n) st.env st.aA st.fz o.op=fI (run F n) f args st.aA st.fz)
 (h:z8 F f args st.aA st.fz fun v s z=>(IR (ahH st.aA) (ahH s)&&st.fz.all (has z))=ahK/\WO F r {st with env:=iK o.dst v st.env,aA:=s,fz:=z} (Sd::tr) Q):
 WO F (o::r) st tr Q:=by
 obtain ⟨n,v,s,z,hr,hc,hk⟩:=h;refine WO.call (.shr v s z) hw ⟨n,?_⟩ rfl hk;rw [eI];simp only [fI,hr];rw [lm hc]
theorem WP.again {live:List (Nat×Option Nat)} {b:jl} {st s1:St} {Q:gS->St->Prop} (h0:norm live st=ahI s1) (h:WP F b s1 (andThen (fun s=>WP F (.loop live b) s Q) Q)):WP F (.loop live b) st Q:=by
 obtain ⟨m,e,s,he,hq⟩:=h;cases e with
 |normal=>
  obtain ⟨k,e',s',B7,QT⟩:=hq;refine ⟨max m k+1,e',s',?_,QT⟩;simp only [sU] at B7 ⊢;rw [kr];simp only [step,h0];rw [p9 (.refl _ _) (qc F (Nat.le_max_left m k)) _ _ _ he];dsimp only;split at B7
  · rename_i e1 s1 Pw
    rw [qc F (Nat.le_max_right m k) _ _ Pw];exact B7
  cases B7
 |exit i=>exact ⟨m+1,.exit i,s,by simp only [sU];rw [kr];simp only [step,h0,he],hq⟩
 |ret=>exact ⟨m+1,.ret,s,by simp only [sU];rw [kr];simp only [step,h0,he],hq⟩
def KA (F : kQ) (inl : Vh) : Prop :=
  ∀ (f : FuncId) (args : List SV) (s : List SB) (z : List Nat) (R' : Type) (k : SV -> List SB -> List Nat -> gb R') (ρ : Type) (w : R' -> ρ) (y : ρ) (pa : List PV) (ps : bS) (Q : R' -> PV -> bS -> List Nat -> Prop),
    RL s args pa -> bX s ps -> inl f args s z R' k ρ w = ahI y ->
    (∀ v s' z' p xD xC (w' : R' -> xC) y', R s' v p -> bX s' xD -> k v s' z' xC w' = ahI y' -> ∃ r, y' = w' r /\ Q r p xD z') ->
    ∃ r, y = w r /\ z8 F f pa ps z (fun p xD z' => Q r p xD z')
def Oq:SB->SB->Prop
 | .arr r l,b=>(∃l',b= .arr r l'/\ahH l'=ahH l)\/b= .dead
 | .dead,b=>b= .dead
 | .box _,b=>(∃cs,b= .box cs)\/b= .dead
 |_,_=>True
theorem BA {R' ρ:Type} {w:R'->ρ} {y:ρ}: ∀{s s':List SB} {k:gb R'},pG s s' k ρ w=ahI y->k ρ w=ahI y/\ahH s<=ahH s'/\
 ∀(t:Nat) (b:SB),s[t]? =ahI b-> ∃b',s'[t]? =ahI b'/\Oq b b'
 | [],s',k,h=>⟨by cases s'<;>exact h,Nat.zero_le _,fun t b ht=>by simp at ht⟩
 |x::xs,[],k,h=>by cases h
 |x::xs,y'::ys,k,h=>by
  have step: ∀(_:pG xs ys k ρ w=ahI y) (_:Oq x y'),k ρ w=ahI y/\(x::xs).length<=(y'::ys).length/\ ∀(t:Nat) (b:SB),(x::xs)[t]? =ahI b-> ∃b',(y'::ys)[t]? =ahI b'/\Oq b b':=by
   intro h hx;obtain ⟨h1,h2,h3⟩:=BA h;refine ⟨h1,by simpa using h2,fun t b ht=>?_⟩;cases t with
   |zero=>simp at ht;subst ht;exact ⟨y',rfl,hx⟩
   |succ t=>simpa using h3 t b (by simpa using ht)
  cases x with
  |arr r l=>
   cases y' with
   |arr q m=>obtain ⟨hr,h2⟩:=cm (a:=fO (ahH m==ahH l) (pG xs ys k) aM) h;obtain ⟨hl,h3⟩:=ic h2;have:=uU hr;subst this;exact step h3 (.inl ⟨m,rfl,by simpa using hl⟩)
   |dead=>exact step h (.inr rfl)
   |_=>cases h
  |dead=>
   cases y' with
   |dead=>exact step h rfl
   |_=>cases h
  |box cs=>
   cases y' with
   |box c2=>exact step h (.inl ⟨c2,rfl⟩)
   |dead=>exact step h (.inr rfl)
   |_=>cases h
  |set l=>exact step h trivial
  |bA p l=>exact step h trivial
theorem SL {n t:Nat} (h:t<n):has (uI n) t=ahK:=by
 induction n with
 |zero=>omega
 |succ n ih=>
  unfold has at ih ⊢;rw [ahy] at*;simp only [uI,ahC,abO];rcases abB t n with h1|h1
  · obtain ⟨x,h2,h3⟩:=ih h1
    exact ⟨x,.inl h2,h3⟩
  have:t=n:=by omega
  subst this;exact ⟨t,.inr rfl,by simp⟩
theorem MG {s s':List SB} (h: ∀(t:Nat) (b:SB),s[t]? =ahI b-> ∃b',s'[t]? =ahI b'/\Oq b b'):Fr (uI (ahH s)) s s':=fun t b hb=>by
 obtain ⟨b',h1,h2⟩:=h t b hb;have c7:=(ut.1 hb).1;cases b with
 |arr r l=>
  rcases h2 with ⟨l',rfl,h3⟩|rfl
  · exact .inl ⟨l',h1,h3,fun hx=>by rw [SL c7] at hx;cases hx⟩
  exact .inr h1
 |dead=>rw [show b'= .dead from h2] at h1;exact h1
 |box cs=>
  rcases h2 with ⟨c2,rfl⟩|rfl
  · exact .inl ⟨c2,h1⟩
  exact .inr h1
 |_=>trivial
theorem aja {s:List SB} {ps:bS} {sr:fJ} {pr:nL} (G:Good s ps sr pr) (hS:bX s ps):(XR.loc pr).tr (ahH ps)=sr.tr (ahH s):=by
 simp only [XR.tr,fJ.tr,G.rd,G.fr,hS.len,<- G.wr,G.nl,ahG];have:pr.news.isEmpty=sr.news.isEmpty:=by have:=G.nl;cases h1:pr.news<;>cases h2:sr.news<;>simp_all
 rw [this];rfl
theorem acX {st:oQ} {p:St} (h:yX st p) {sr:fJ} {pr:nL} (G:Good st.aA p.aA sr pr) (d:Option Nat):yX (sr.next d st) ((XR.loc pr).next d p):=by
 have KB: ∀{s:List SB} {e:SE} {pe:Env} {v:SV} {q:PV},dD s e pe->R s v q->dD s (IA d v e) (iK d q pe):=by
  intro s e pe v q he hv;cases d with
  |none=>exact he
  |some t=>exact ⟨q,pe,rfl,hv,he⟩
 have hs:=Kz st.aA sr;unfold fJ.next
 split
 · rename_i hw
   rw [hw] at hs;simp only [ye,qL,IJ] at hs;have qe:=G.aA;have hv:=G.v;have qI:=G.fra;rw [hs] at qe hv qI;rw [hw] at qI;exact ⟨by simp only [my];exact KB (dD.ext qI h.env) hv,by simp only [my];exact qe,by simp only [XR.next,G.fr,h.fz],h.kn⟩
 have qe:=G.aA
 have hv:=G.v;have qI:=G.fra;rw [hs] at qe hv qI;exact ⟨by simp only [my];exact KB (dD.fr qI h.env) hv,by simp only [my];exact qe,by simp only [XR.next,G.fr,h.fz],h.kn⟩
theorem ok_eq {s:List SB} {ps:bS} {sr:fJ} {pr:nL} (G:Good s ps sr pr) {z:List Nat} (h:sr.ok z=ahK):(XR.loc pr).ok z=ahK:=by simp only [XR.ok,G.nw,ac2];unfold fJ.ok at h;rw [<- G.wr,ahG] at h;exact h
section
variable {cx : Ctx} {inl : Vh} {R' : Type}
def amQ (_F:kQ) (k:oQ->List Tr->gb R') (Q:R'->St->List Tr->Prop):Prop:=
 ∀st p tr ρ (w:R'->ρ) y,yX st p->k st tr ρ w=ahI y-> ∃r,y=w r/\Q r p tr
theorem wb {o:bG} {l:List bG} {st:oQ} {p:St} {tr:List Tr} {k:oQ->List Tr->gb R'} {ρ:Type} {w:R'->ρ} {y:ρ} {Q:R'->St->List Tr->Prop}
 (hl: ∀st p tr ρ (w:R'->ρ) y,yX st p->k st tr ρ w=ahI y-> ∃r,y=w r/\WO F l p tr (Q r)) (h:yX st p) {sr:fJ} {pr:nL} (hw:wanted o.guard p.env=ahI ahK)
 (hx: ∃n,xb F (run F n) p.env p.aA p.fz o.op=ahI (.loc pr)) (G:Good st.aA p.aA sr pr) (hg:N9 o.dst st tr k (.loc sr) ρ w=ahI y): ∃r,y=w r/\WO F (o::l) p tr (Q r):=by
 unfold N9 at hg;dsimp only at hg;obtain ⟨z7,hg⟩:=cm hg;rw [Iw] at hg;have hR:=acX h G o.dst;obtain ⟨r,hr,VD⟩:=hl _ _ _ _ _ _ hR hg;refine ⟨r,hr,WO.call (.loc pr) hw hx (by rw [h.fz];exact ok_eq G z7) ?_⟩;rw [aja G h.aA];exact VD
theorem KC (DP:mz F cx) (IK:KA F inl) {o:bG} {l:List bG} {st:oQ} {p:St} {tr:List Tr} {k:oQ->List Tr->gb R'} {ρ:Type} {w:R'->ρ} {y:ρ} {Q:R'->St->List Tr->Prop}
 (hl: ∀st p tr ρ (w:R'->ρ) y,yX st p->k st tr ρ w=ahI y-> ∃r,y=w r/\WO F l p tr (Q r)) (h:yX st p) (hw:wanted o.guard p.env=ahI ahK)
 (hg:Hj cx inl st.env st.aA st.fz o.op (N9 o.dst st tr k) ρ w=ahI y): ∃r,y=w r/\WO F (o::l) p tr (Q r):=by
 have hS:=h.aA;have hE:=h.env;have shr: ∀(f:FuncId) (MF:List SV) (UA:List PV),RL st.aA MF UA->(∀n,xb F (run F n) p.env p.aA p.fz o.op=fI (run F n) f UA p.aA p.fz)->
  inl f MF st.aA st.fz R' (fun v s' z'=>N9 o.dst st tr k (.shr v s' z')) ρ w=ahI y-> ∃r,y=w r/\WO F (o::l) p tr (Q r):=by
  intro f MF UA hv eI hi;obtain ⟨r,hr,hd⟩:=IK f MF st.aA st.fz R' _ ρ w y UA p.aA (fun r v s z=>(IR (ahH p.aA) (ahH s)&&p.fz.all (has z))=ahK/\WO F l {p with env:=iK o.dst v p.env,aA:=s,fz:=z} (Sd::tr) (Q r)) hv hS hi
   (fun v s' z' pv xD xC w' y' hR hS' hk=>by
    unfold N9 at hk;dsimp only at hk;rw [Iw] at hk;obtain ⟨hk,bU,Rj⟩:=BA hk;obtain ⟨hz,hk⟩:=cm hk;have qI:=MG Rj;have KB:dD s' (IA o.dst v (dgE (uI (ahH st.aA)) st.env)) (iK o.dst pv p.env):=by
     cases o.dst with
     |none=>exact dD.fr qI hE
     |some t=>exact ⟨pv,p.env,rfl,hR,dD.fr qI hE⟩
    have hR':yX {env:=IA o.dst v (dgE (uI (ahH st.aA)) st.env),aA:=s',fz:=z',kn:=st.kn} {p with env:=iK o.dst pv p.env,aA:=xD,fz:=z'}:=⟨KB,hS',rfl,h.kn⟩;obtain ⟨r,hr,VD⟩:=hl _ _ _ _ _ _ hR' hk;refine ⟨r,hr,?_,VD⟩;rw [h.fz,hz,ac2,hS.len,hS'.len];simpa using bU)
  refine ⟨r,hr,WO.acW hw eI ?_⟩;rw [h.fz];rw [h.fz] at hd;exact hd
 have loc: ∀{k':fJ->gb R'},mw st.env st.aA st.fz o.op k' ρ w=ahI y->Cy o.op=ahL->(∀sr,k' sr=N9 o.dst st tr k (.loc sr))-> ∃r,y=w r/\WO F (o::l) p tr (Q r):=by intro k' hv hc hk;obtain ⟨sr,pr,h1,G,h2⟩:=Vz hE hS (pe:=p.env) hv;rw [hk] at h2;exact wb hl h hw ⟨0,by rw [It hc,h.fz,h1];rfl⟩ G h2
 generalize eI:o.op=op at hg;cases op with
 |call m f args=>
  have kZ:=yY hE args;simp only [Hj] at hg;cases m with
  |Ur=>
   dsimp only at hg;cases hx:sg st.aA (kz st.aA deep) (jE st.env args) with
   |none=>rw [hx] at hg;cases hg
   |some vs=>rw [hx] at hg;obtain ⟨q,h1,h2⟩:=uh hS (D7 hS deep) kZ hx;obtain ⟨sr,pr,⟨n,h3⟩,G,h4⟩:=yj (f:=f) (z:=st.fz) hS h1 h2 (zN hS (Fo hS deep) kZ hx) (fun c hc=>DP.con f c hc) hg;exact wb hl h hw ⟨n,by rw [eI,h.fz];simp only [xb,h3];rfl⟩ G h4
  |own=>
   dsimp only at hg;cases hx:sg st.aA (kz st.aA deep) (jE st.env args) with
   |none=>rw [hx] at hg;cases hg
   |some vs=>rw [hx] at hg;obtain ⟨q,h1,h2⟩:=uh hS (D7 hS deep) kZ hx;obtain ⟨sr,pr,⟨n,h3⟩,G,h4⟩:=yj (f:=f) (z:=st.fz) hS h1 h2 (zN hS (Fo hS deep) kZ hx) (fun c hc=>DP.con f c hc) hg;exact wb hl h hw ⟨n,by rw [eI,h.fz];simp only [xb,h3];rfl⟩ G h4
  |shr=>exact shr f _ _ kZ (fun n=>by rw [eI];rfl) hg
  |fp=>
   dsimp only at hg;cases hx:Mm st.aA (kz st.aA deep) (jE st.env args) with
   |false=>rw [hx] at hg;cases hg
   |true=>
    rw [hx] at hg;dsimp only at hg;obtain ⟨hz,hg⟩:=cm hg;cases h1:tn (oI (ri (xx st.aA deep) (jE st.env args))) (jE st.env args) with
    |none=>rw [h1] at hg;cases hg
    |some vs=>
     cases h2:GR st.aA (oI (ri (xx st.aA deep) (jE st.env args))) (oI (ri (xx st.aA deep) (jE st.env args))) with
     |none=>rw [h1,h2] at hg;cases hg
     |some s0=>rw [h1,h2] at hg;obtain ⟨sr,pr,⟨n,h3⟩,G,h4⟩:=Oo (f:=f) (z:=st.fz) hS kZ (by rw [SC hS (Fo hS deep) kZ hx]) hz h1 h2 (fun c hc=>DP.fpc f c hc) hg;exact wb hl h hw ⟨n,by rw [eI,h.fz];simp only [xb,h3];rfl⟩ G h4
 |w9 x args=>
  have kZ:=yY hE args;simp only [Hj] at hg;have hx:=df hE x;generalize bH st.env x=v at hg hx;cases v with
  |eA f a b=>
   dsimp only at hg;obtain ⟨pa,pb,hx,ha,hb⟩:=hx;have amR: ∀{vs:List SV} {q:List PV},RL st.aA vs q->(Au vs=ahK->q.any Eo=ahK):=by
    intro vs
    induction vs with
    |nil=>intro q _ h;cases h
    |cons v vs ih=>
     intro q hq hp;obtain ⟨a,as,rfl,h1,h2⟩:=hq.cons_inv;simp only [Au,ahD] at hp;simp only [ahE,ahD];rcases hp with hp|hp
     · left
       cases v with
       |own _ _=>obtain ⟨_,_,rfl,_⟩:=h1;rfl
       |pre _ _ _ _=>obtain ⟨_,rfl,_⟩:=h1;rfl
       |part _ _ _ _ _=>obtain ⟨_,rfl,_⟩:=h1;rfl
       |pa _ _ _ _ _=>obtain ⟨rfl,_⟩:=h1;rfl
       |pb _ _ _=>obtain ⟨_,rfl,_⟩:=h1;rfl
       |bp _ _ _=>rw [show a=_ from h1];rfl
       |mp _=>rw [show a=_ from h1];rfl
       |_=>cases hp
     right;exact ih h2 hp
   cases hp:Au (jE st.env args++b) with
   |true=>rw [hp] at hg;have:=amR (kZ.append hb) hp;exact shr f _ _ ((ha.append kZ).append hb) (fun n=>by rw [eI];simp only [xb,hx,this,if_true]) hg
   |false=>
    rw [hp] at hg;simp only [lc] at hg;cases hxx:sg st.aA (kz st.aA deep) (a++jE st.env args++b) with
    |none=>rw [hxx] at hg;cases hg
    |some vs=>
     rw [hxx] at hg;have hno: ∀{vs u:List SV} {q:List PV},RL st.aA vs q->Au vs=ahL->sg st.aA (kz st.aA deep) vs=ahI u->q.any Eo=ahL:=by
      intro vs
      induction vs with
      |nil=>intro u q hq _ _;rw [show q=[] from hq];rfl
      |cons v vs ih=>
       intro u q hq hp hu;obtain ⟨a,as,rfl,h1,h2⟩:=hq.cons_inv;simp only [Au,Bool.or_eq_false_iff] at hp;simp only [sg] at hu;split at hu
       · rename_i y1 y2 e1 e2
         simp only [ahE,ih h2 hp.2 e2,Bool.or_false];cases v with
         |agg _|bN _|bw _ _=>obtain ⟨_,rfl,_⟩:=h1;rfl
         |eA _ _ _=>obtain ⟨_,_,rfl,_⟩:=h1;rfl
         |int _ _|bool _|str _|dC|sl _ _|nil _ _|undef|js=>rw [show a=_ from h1];rfl
         |gQ=>cases e1
         |own _ _|pre _ _ _ _|part _ _ _ _ _|pa _ _ _ _ _|pb _ _ _|bp _ _ _|mp _=>cases hp.1
       cases hu
     have acY: ∃u2,sg st.aA (kz st.aA deep) (jE st.env args++b)=ahI u2:=by
      have: ∀(l:List SV) {m u:List SV},sg st.aA (kz st.aA deep) (l++m)=ahI u-> ∃u2,sg st.aA (kz st.aA deep) m=ahI u2:=by
       intro l
       induction l with
       |nil=>intro m u h;exact ⟨u,h⟩
       |cons x l ih=>
        intro m u h;simp only [adc,sg] at h;split at h
        · rename_i e1 e2;exact ih e2
        cases h
      rw [aa5] at hxx;exact this a hxx
     obtain ⟨u2,hu2⟩:=acY;have amS:=hno (kZ.append hb) hp hu2;have q9:=(ha.append kZ).append hb;obtain ⟨q,h1,h2⟩:=uh hS (D7 hS deep) q9 hxx;obtain ⟨sr,pr,⟨n,h3⟩,G,h4⟩:=yj (f:=f) (z:=st.fz) hS h1 h2 (zN hS (Fo hS deep) q9 hxx) (fun c hc=>DP.con f c hc) hg;exact wb hl h hw ⟨n,by rw [eI,h.fz];simp only [xb,hx,amS,PP,if_false,h3];rfl⟩ G h4
  |_=>cases hg
 |_=>exact loc (k':=fun r=>N9 o.dst st tr k (.loc r)) (by rw [eI];exact hg) (by rw [eI];rfl) (fun _=>rfl)
theorem wc (DP:mz F cx) (IK:KA F inl): ∀(ops:List bG) {st:oQ} {p:St} {tr:List Tr} {k:oQ->List Tr->gb R'} {ρ:Type} {w:R'->ρ} {y:ρ} {Q:R'->St->List Tr->Prop},
 amQ F k Q->yX st p->oR cx inl ops st tr k ρ w=ahI y-> ∃r,y=w r/\WO F ops p tr (Q r)
 | [],st,p,tr,k,ρ,w,y,Q,hk,h,he=>by obtain ⟨r,hr,hq⟩:=hk st p tr ρ w y h he;exact ⟨r,hr,WO.nil hq⟩
 |o::l,st,p,tr,k,ρ,w,y,Q,hk,h,he=>by
  have hl: ∀st p tr ρ (w:R'->ρ) y,yX st p->oR cx inl l st tr k ρ w=ahI y-> ∃r,y=w r/\WO F l p tr (Q r):=fun st p tr ρ w y h he=>wc DP IK l hk h he
  have P5: ∀{st:oQ} {c:Nat} {v:SV},yX st p->R st.aA v (lk c p.env)->yX {st with env:=Ap c v st.env} p:=fun h hv=>⟨h.env.Ap hv,h.aA,h.fz,h.kn⟩
  have acZ: ∀{st:oQ},yX st p->wanted o.guard p.env=ahI ahK->(match o.op with
   | .pick (.t c) a b=>match Dj c st.env with
    | .bool x=>fO x (N9 o.dst {st with env:=Ap c (.bool ahK) st.env} tr (oR cx inl l · · k) (.loc {v:=bH st.env a}))
     (N9 o.dst {st with env:=Ap c (.bool ahL) st.env} tr (oR cx inl l · · k) (.loc {v:=bH st.env b}))
    |_=>aM
   |op=>Hj cx inl st.env st.aA st.fz op (N9 o.dst st tr (oR cx inl l · · k))) ρ w=ahI y-> ∃r,y=w r/\WO F (o::l) p tr (Q r):=by
   intro st h hw he;have plain:Hj cx inl st.env st.aA st.fz o.op (N9 o.dst st tr (oR cx inl l · · k)) ρ w=ahI y-> ∃r,y=w r/\WO F (o::l) p tr (Q r):=fun he=>KC DP IK hl h hw he
   generalize eI:o.op=op at he;cases op with
   |pick c a b=>
    cases c with
    |c v=>exact plain (by rw [eI];exact he)
    |t c=>
     dsimp only at he;generalize hv:Dj c st.env=v at he;cases v with
     |bool x=>
      have hx:lk c p.env= .bool x:=by have:=h.env.lk c;rw [hv] at this;exact this
      rcases eF he with ⟨rfl,he⟩|⟨rfl,he⟩
      · have hR:=P5 h (c:=c) (v:= .bool ahK) hx
        exact wb (o:=o) hl hR hw ⟨0,by rw [eI];simp only [xb,bq,fc.ev,hx];rfl⟩ (Good.val hR.aA (df h.env a)) he
      have hR:=P5 h (c:=c) (v:= .bool ahL) hx
      exact wb (o:=o) hl hR hw ⟨0,by rw [eI];simp only [xb,bq,fc.ev,hx];rfl⟩ (Good.val hR.aA (df h.env b)) he
     |_=>cases he
   |_=>exact plain (by rw [eI];exact he)
  have SM: ∀{st:oQ},yX st p->wanted o.guard p.env=ahI ahL->oR cx inl l {st with env:=IA o.dst .js st.env} (Tr.idle::tr) k ρ w=ahI y-> ∃r,y=w r/\WO F (o::l) p tr (Q r):=by
   intro st h hw he;have hR:yX {st with env:=IA o.dst .js st.env} {p with env:=iK o.dst .js p.env}:=by
    refine ⟨?_,h.aA,h.fz,h.kn⟩;cases o.dst with
    |none=>exact h.env
    |some t=>exact ⟨.js,p.env,rfl,rfl,h.env⟩
   obtain ⟨r,hr,VD⟩:=hl _ _ _ _ _ _ hR he;exact ⟨r,hr,WO.skip hw VD⟩
  simp only [oR] at he;cases hgd:o.guard with
  |none=>rw [hgd] at he;exact acZ h (by rw [hgd];rfl) he
  |some g=>
   obtain ⟨c,want⟩:=g;rw [hgd] at he;dsimp only at he;generalize hv:Dj c st.env=v at he;cases v with
   |bool x=>
    have hx:lk c p.env= .bool x:=by have:=h.env.lk c;rw [hv] at this;exact this
    have hwx: ∀b,x=b->wanted o.guard p.env=ahI (b==want):=fun b hb=>by rw [hgd];simp only [wanted,hx,hb]
    cases want with
    |true=>
     simp only [kw] at he;rcases eF he with ⟨rfl,he⟩|⟨rfl,he⟩
     · exact acZ (P5 h (v:= .bool ahK) hx) (hwx ahK rfl) he
     exact SM (P5 h (v:= .bool ahL) hx) (hwx ahL rfl) he
    |false=>
     simp only [lc] at he;rcases eF he with ⟨rfl,he⟩|⟨rfl,he⟩
     · exact SM (P5 h (v:= .bool ahK) hx) (hwx ahK rfl) he
     exact acZ (P5 h (v:= .bool ahL) hx) (hwx ahL rfl) he
   |js=>
    have hx:lk c p.env= .js:=by have:=h.env.lk c;rw [hv] at this;exact this
    exact SM h (by rw [hgd];simp only [wanted,hx]) he
   |_=>cases he
theorem Fy {e:SE}: ∀{fH:List Nat} {k:SE->gb R'} {ρ:Type} {w:R'->ρ} {y:ρ},Kk e fH k ρ w=ahI y->k (fH.map fun s=>(s,Dj s e)) ρ w=ahI y
 | [],k,ρ,w,y,h=>h
 |s::r,k,ρ,w,y,h=>by simp only [Kk] at h;rw [Iw] at h;have:=Fy h;exact this
theorem SN {s:List SB} {e:SE} {pe:Env} (h:dD s e pe): ∀(fH:List Nat),dD s (fH.map fun t=>(t,Dj t e)) (fH.map fun t=>(t,lk t pe))
 | []=>rfl
 |t::r=>⟨_,_,rfl,h.lk t,SN h r⟩
end
mutual
theorem Hw: ∀(v:SV) (q:List xB),sX v (CB v++q)=(v,q)
 | .gQ,q| .undef,q| .js,q| .dC,q| .int _ _,q| .bool _,q| .str _,q| .sl _ _,q| .nil _ _,q| .own _ _,q| .pre _ _ _ _,q| .part _ _ _ _ _,q| .pa _ _ _ _ _,q| .pb _ _ _,q| .bp _ _ _,q| .mp _,q=>rfl
 | .agg cs,q=>by simp only [sX,CB,rO]
 | .bN cs,q=>by simp only [sX,CB,rO]
 | .bw cs o,q=>by simp only [sX,CB,rO]
 | .eA f a b,q=>by simp only [sX,CB,aa5,rO]
theorem rO: ∀(v:List SV) (q:List xB),rq v (CC v++q)=(v,q)
 | [],q=>rfl
 |x::xs,q=>by simp only [rq,CC,aa5,Hw,rO]
end
theorem Hx: ∀(v:List SB) (q:List xB),As v (Iz v++q)=(v,q)
 | [],q=>rfl
 |x::xs,q=>by
  have: ∀q,Mr x (R8 x++q)=(x,q):=by intro q;cases x<;>first|rfl|simp only [Mr,R8,rO]
  simp only [As,Iz,aa5,this,Hx]
theorem Hy: ∀(v:SE) (q:List xB),Ki v (PQ v++q)=(v,q)
 | [],q=>rfl
 |(t,x)::xs,q=>by simp only [Ki,PQ,aa5,Hw,Hy]
theorem MH (st:oQ):uV st (nV st)=st:=by have hs:=Hx st.aA [];rw [aa8] at hs;simp only [uV,nV,Hy,hs]
theorem abM {β:Type 1}: ∀(l:List PT) (c:List PT->β),rK l c=c l
 | [],_=>rfl
 |p::r,c=>by cases p<;>simp only [rK,ptK,abM r]
theorem MJ {β:Type 1}: ∀(l:List AK) (c:List AK->β),Ve l c=c l
 | [],_=>rfl
 |a::r,c=>by cases a<;>simp only [Ve,abM,MJ r]
theorem abN {s:List SB} {o:SE}: ∀{e:SE} {pe:Env},dD s e pe->dD s (jnE o e) pe
 | [],_,h=>h
 |(t,v)::r,_,⟨p,q,h1,h2,h3⟩=>⟨p,q,h1,by cases Dj t o<;>first|exact h2|trivial,abN h3⟩
theorem P6 {cx:Ctx} {inl:Vh} (DP:mz F cx) (IK:KA F inl): ∀(c:jl) (R':Type) {st:oQ} {p:St} {k:gS->oQ->gb R'} {ρ:Type} {w:R'->ρ} {y:ρ} {Q:R'->gS->St->Prop},
 (∀e st p ρ (w:R'->ρ) y,yX st p->k e st ρ w=ahI y-> ∃r,y=w r/\Q r e p)->yX st p->yf cx inl c R' st k ρ w=ahI y-> ∃r,y=w r/\WP F c p (Q r):=by
 intro c
 induction c with
 |skip=>intro R' st p k ρ w y Q hk h he;obtain ⟨r,hr,hq⟩:=hk _ _ _ _ _ _ h he;exact ⟨r,hr,WP.skip hq⟩
 |ret=>intro R' st p k ρ w y Q hk h he;obtain ⟨r,hr,hq⟩:=hk _ _ _ _ _ _ h he;exact ⟨r,hr,WP.ret hq⟩
 |exit id=>intro R' st p k ρ w y Q hk h he;obtain ⟨r,hr,hq⟩:=hk _ _ _ _ _ _ h he;exact ⟨r,hr,WP.exit hq⟩
 |region d ops fH=>
  intro R' st p k ρ w y Q hk h he;simp only [yf] at he;have fin: ∀st p ρ (w:R'->ρ) y,yX st p->Kk st.env fH (fun e=>k .normal {st with env:=e}) ρ w=ahI y-> ∃r,y=w r/\Q r .normal (qd fH p):=by intro st p ρ w y h he;have:=Fy he;have hR:yX {st with env:=fH.map fun t=>(t,Dj t st.env)} (qd fH p):=⟨SN h.env fH,h.aA,h.fz,h.kn⟩;exact hk _ _ _ _ _ _ hR this
  cases d with
  |none=>obtain ⟨r,hr,VD⟩:=wc DP IK ops (Q:=fun r s _=>Q r .normal (qd fH s)) (fun st p tr ρ w y h he=>fin st p ρ w y h he) h he;exact ⟨r,hr,WP.region VD⟩
  |some bf=>
   obtain ⟨r,hr,VD⟩:=wc DP IK ops (Q:=fun r s t=>qY 0 (t.reverse.zip bf)=ahK/\Q r .normal (qd fH s)) (fun st p tr ρ w y h he=>by
    dsimp only at he;cases ho:qY 0 (tr.reverse.zip bf) with
    |false=>rw [ho] at he;cases he
    |true=>rw [ho] at he;obtain ⟨r,hr,hq⟩:=fin st p ρ w y h he;exact ⟨r,hr,ho,hq⟩) h he
   exact ⟨r,hr,WP.UG VD⟩
 |seq a b iha UE=>
  intro R' st p k ρ w y Q hk h he;simp only [yf] at he;cases hj:cx.jn&&jnC a with
  |false=>
   rw [hj] at he;obtain ⟨r,hr,IL⟩:=iha R' (Q:=fun r=>andThen (fun s=>WP F b s (Q r)) (Q r)) (fun e st p ρ w y h he=>by
    cases e with
    |normal=>exact UE R' hk h he
    |exit i=>exact hk _ _ _ _ _ _ h he
    |ret=>exact hk _ _ _ _ _ _ h he) h he
   exact ⟨r,hr,WP.seq IL⟩
  |true=>
   rw [hj] at he;dsimp only at he;rw [MJ] at he;generalize R9 (nV (PR st.env (jnK a) st))=ks at he;generalize PR st.env (jnK a) st=s1 at he;cases hp:lC ks (nV s1) with
   |none=>rw [hp] at he;cases he
   |some y0=>
    rw [hp] at he;dsimp only at he;obtain ⟨n,Fz⟩:=Ke he;clear he;have body: ∀zr,yf cx inl a (Step (Bool×gT ks) ρ) st (fun e st2=>match e with
     | .normal=>bif Ar s1 {st2 with env:=jnE st.env st2.env} then (match lC ks (nV {st2 with env:=jnE st.env st2.env}) with
      |some y'=>Dk (.next (ahL,y'))
      |none=>aM) else aM
     |e=>fun xC w'=>k e st2 xC fun r=>w' (.done (w r))) (Step (Bool×gT ks) ρ) (fun z=>z)=ahI zr->
     WP F a p (fun e s=>match zr with
      | .next y'=>e= .normal/\y'.1=ahL/\yX (uV s1 (k9 ks y'.2)) s
      | .done x=>e≠ .normal/\ ∃r,x=w r/\Q r e s):=by
     intro zr ky;obtain ⟨zr',LK,IL⟩:=iha (Step (Bool×gT ks) ρ) (Q:=fun zr e s=>match zr with
      | .next y'=>e= .normal/\y'.1=ahL/\yX (uV s1 (k9 ks y'.2)) s
      | .done x=>e≠ .normal/\ ∃r,x=w r/\Q r e s) (fun e st2 p2 xC w' y2 h2 xA=>by
      cases e with
      |normal=>
       dsimp only at xA;obtain ⟨ua,xA⟩:=cm xA;cases VE:lC ks (nV {st2 with env:=jnE st.env st2.env}) with
       |none=>rw [VE] at xA;cases xA
       |some y3=>rw [VE] at xA;injection xA with xA;refine ⟨.next (ahL,y3),xA.symm,rfl,rfl,?_⟩;dsimp only;rw [oV VE,Hr ua];exact ⟨abN h2.env,h2.aA,h2.fz,h2.kn⟩
      |exit i=>obtain ⟨r,hr,hq⟩:=hk _ _ _ _ _ _ h2 xA;exact ⟨.done (w r),hr,(by intro e;cases e),r,rfl,hq⟩
      |ret=>obtain ⟨r,hr,hq⟩:=hk _ _ _ _ _ _ h2 xA;exact ⟨.done (w r),hr,(by intro e;cases e),r,rfl,hq⟩) h ky
     subst LK;exact IL
    cases n with
    |zero=>cases Fz
    |succ n=>
     simp only [nT,fO] at Fz;split at Fz
     · rename_i y' ky
       obtain ⟨m,e,s,bI,rfl,hy,hR3⟩:=body _ ky;obtain ⟨y1,y2⟩:=y';dsimp only at hy hR3;subst hy;cases n with
       |zero=>cases Fz
       |succ n=>
        simp only [nT] at Fz;split at Fz
        · rename_i y' L7
          obtain ⟨r,hr,_⟩:=UE R' hk hR3 L7;cases hr
        · rename_i x L7
          obtain ⟨r,hr,IL⟩:=UE R' hk hR3 L7;injection Fz with Fz;injection hr with hr;exact ⟨r,by rw [<- Fz];exact hr,WP.seq ⟨m,.normal,s,bI,IL⟩⟩
        cases Fz
     · rename_i x ky
       injection Fz with Fz;obtain ⟨m,e,s,bI,dM,r,hr,hq⟩:=body _ ky;refine ⟨r,by rw [<- Fz];exact hr,WP.seq ⟨m,e,s,bI,?_⟩⟩;cases e with
       |normal=>exact absurd rfl dM
       |exit i=>exact hq
       |ret=>exact hq
     cases Fz
 |cond c a b iha UE=>
  intro R' st p k ρ w y Q hk h he;simp only [yf] at he;have hx:=df h.env c;generalize bH st.env c=v at he hx;cases v with
  |bool x=>
   rcases eF he with ⟨rfl,he⟩|⟨rfl,he⟩
   · obtain ⟨r,hr,IL⟩:=iha R' hk h he
     exact ⟨r,hr,WP.aa6 hx IL⟩
   obtain ⟨r,hr,IL⟩:=UE R' hk h he
   exact ⟨r,hr,WP.aa7 hx IL⟩
  |_=>cases he
 |block id b ih=>
  intro R' st p k ρ w y Q hk h he;simp only [yf] at he;obtain ⟨r,hr,IL⟩:=ih R' (Q:=fun r=>inBlock id (Q r)) (fun e st p ρ w y h he=>by
   cases e with
   |normal=>exact hk _ _ _ _ _ _ h he
   |ret=>exact hk _ _ _ _ _ _ h he
   |exit j=>
    dsimp only at he;cases hj:NE j id with
    |true=>rw [hj] at he;obtain ⟨r,hr,hq⟩:=hk _ _ _ _ _ _ h he;have UX:=lw hj;exact ⟨r,hr,by simpa [inBlock,UX] using hq⟩
    |false=>
     rw [hj] at he;obtain ⟨r,hr,hq⟩:=hk _ _ _ _ _ _ h he;have:j≠id:=by intro e;subst e;simp at hj
     exact ⟨r,hr,by simpa [inBlock,this] using hq⟩) h he
  exact ⟨r,hr,WP.block IL⟩
 |loop live b ih=>
  intro R' st p k ρ w y Q hk h he;simp only [yf] at he;cases hn:E9 cx.rk live st with
  |none=>rw [hn] at he;cases he
  |some st1=>
   rw [hn] at he;dsimp only at he;rw [MJ] at he;generalize R9 (nV st1)=ks at he;cases hp:lC ks (nV st1) with
   |none=>rw [hp] at he;cases he
   |some y0=>
    rw [hp] at he;dsimp only at he;obtain ⟨p1,hp1,hR1⟩:=Ol h hn;have ajd: ∀(Mt:oQ) (y':gT ks),Ar st1 Mt=ahK->lC ks (nV Mt)=ahI y'->uV st1 (k9 ks y')=Mt:=fun Mt y' h1 h2=>by rw [oV h2,Hr h1]
    obtain ⟨n,Fz⟩:=Ke he;have h0:yX (uV st1 (k9 ks y0)) p1:=by rw [oV hp,MH];exact hR1
    clear he hp hn h hR1
    induction n generalizing y0 p p1 with
    |zero=>cases Fz
    |succ n ihn=>
     have body: ∀zr,yf cx inl b (Step (gT ks) ρ) (uV st1 (k9 ks y0)) (fun e st2=>match e with
      | .normal=>match E9 cx.rk live st2 with
       |some Mt=>bif Ar st1 Mt then (match lC ks (nV Mt) with
        |some y'=>Dk (.next y')
        |none=>aM) else aM
       |none=>aM
      |e=>fun xC w'=>k e st2 xC fun r=>w' (.done (w r))) (Step (gT ks) ρ) (fun z=>z)=ahI zr->
      WP F b p1 (fun e s=>match zr with
       | .next y'=>e= .normal/\ ∃p3,norm live s=ahI p3/\yX (uV st1 (k9 ks y')) p3
       | .done x=>e≠ .normal/\ ∃r,x=w r/\Q r e s):=by
      intro zr ky;obtain ⟨zr',LK,IL⟩:=ih (Step (gT ks) ρ) (Q:=fun zr e s=>match zr with
       | .next y'=>e= .normal/\ ∃p3,norm live s=ahI p3/\yX (uV st1 (k9 ks y')) p3
       | .done x=>e≠ .normal/\ ∃r,x=w r/\Q r e s) (fun e st2 p2 xC w' y2 h2 xA=>by
       cases e with
       |normal=>
        dsimp only at xA;cases VF:E9 cx.rk live st2 with
        |none=>rw [VF] at xA;cases xA
        |some Mt=>
         rw [VF] at xA;obtain ⟨ua,xA⟩:=cm xA;cases VE:lC ks (nV Mt) with
         |none=>rw [VE] at xA;cases xA
         |some y3=>rw [VE] at xA;injection xA with xA;obtain ⟨p3,amT,hR3⟩:=Ol h2 VF;exact ⟨.next y3,xA.symm,rfl,p3,amT,by rw [ajd Mt y3 ua VE];exact hR3⟩
       |exit i=>obtain ⟨r,hr,hq⟩:=hk _ _ _ _ _ _ h2 xA;exact ⟨.done (w r),hr,(by intro e;cases e),r,rfl,hq⟩
       |ret=>obtain ⟨r,hr,hq⟩:=hk _ _ _ _ _ _ h2 xA;exact ⟨.done (w r),hr,(by intro e;cases e),r,rfl,hq⟩) h0 ky
      subst LK;exact IL
     simp only [nT] at Fz;split at Fz
     · rename_i y' ky
       obtain ⟨m,e,s,bI,rfl,p3,VE,hR3⟩:=body _ ky;obtain ⟨r,hr,IL⟩:=ihn y' p3 VE Fz hR3;exact ⟨r,hr,WP.again hp1 ⟨m,.normal,s,bI,IL⟩⟩
     · rename_i x ky
       injection Fz with Fz;obtain ⟨m,e,s,bI,dM,r,hr,hq⟩:=body _ ky;refine ⟨r,by rw [<- Fz];exact hr,WP.again hp1 ⟨m,e,s,bI,?_⟩⟩;cases e with
       |normal=>exact absurd rfl dM
       |exit i=>exact hq
       |ret=>exact hq
     cases Fz
end
end Go.Vm
/- Contracts from the typed machine. -/
namespace Go.Vm
section
variable {F : kQ} {cx : Ctx} {inl : Vh}
theorem KD {s:List SB}: ∀{l:List SV} {q:List PV} (i:Nat),RL s l q->dD s (Mv i l) (uK i q)
 | [],q,i,h=>by rw [show q=[] from h];rfl
 |x::xs,q,i,h=>by obtain ⟨a,as,rfl,h1,h2⟩:=h.cons_inv;exact ⟨a,uK (i+1) as,rfl,h1,KD (i+1) h2⟩
theorem SP {st:oQ} {p:St} (h:yX st p) {r:RV} {v:SV} (hr:Mu st r=ahI v): ∃q,Er p r=ahI q/\R st.aA v q:=by
 cases r with
 |tmp t=>injection hr with hr;subst hr;exact ⟨_,rfl,h.env.lk t⟩
 |cell t agg=>
  simp only [Mu] at hr;have ua:=h.env.lk t;split at hr
  · rename_i u n off hv
    rw [hv] at ua;rw [bP] at hr;split at hr
    · rename_i cs bM
      obtain ⟨q,h1,h2⟩:=h.aA.box bM;obtain ⟨x,h3,h4⟩:=tu h2 hr;refine ⟨x,?_,h4⟩;simp only [Er,show lk t p.env=_ from ua,oH,h1,aaI,if_true,h3];rfl
    cases hr
  · rename_i cs off hv
    rw [hv] at ua;obtain ⟨q,h1,h2⟩:=ua;obtain ⟨x,h3,h4⟩:=tu h2 hr;refine ⟨x,?_,h4⟩;simp only [Er,h1,oH,h3];rfl
  cases hr
theorem Hz {st:oQ} {p:St} (h:yX st p): ∀{l:List RV} {vs:List SV},yW st l=ahI vs-> ∃q,nN p l=ahI q/\RL st.aA vs q
 | [],vs,hr=>by injection hr with hr;subst hr;exact ⟨[],rfl,rfl⟩
 |r::l,vs,hr=>by
  simp only [yW] at hr;split at hr
  · rename_i v LJ h1 h2
    injection hr with hr;subst hr;obtain ⟨q,h3,h4⟩:=SP h h1;obtain ⟨qs,h5,h6⟩:=Hz h h2;exact ⟨q::qs,by simp only [nN,h3,h5],RL.cons h4 h6⟩
  cases hr
theorem KE {s:List SB} {vs:List SV} {q:List PV} (h:RL s vs q):R s (CD vs) (results1 q):=by
 match vs,q,h with
 | [],q,h=>rw [show q=[] from h];exact ⟨[],rfl,rfl⟩
 | [v],q,h=>obtain ⟨a,as,rfl,h1,h2⟩:=h.cons_inv;rw [show as=[] from h2];exact h1
 |v::u::r,q,h=>have q9:=h;obtain ⟨a,as,rfl,h1,h2⟩:=h.cons_inv;obtain ⟨b,bs,rfl,h3,h4⟩:=h2.cons_inv;exact ⟨_,rfl,q9⟩
theorem yk (DP:mz F cx) (IK:KA F inl) {f:FuncId} {x:aK} (hf:F f=ahI (.code x)) {R':Type} {args:List SV} {s:List SB} {z:List Nat} {k:SV->List SB->List Nat->gb R'} {ρ:Type} {w:R'->ρ} {y:ρ} {pa:List PV} {ps:bS}
 {Q:R'->PV->bS->List Nat->Prop} (ha:RL s args pa) (hS:bX s ps) (he:Kl cx inl x R' args s z k ρ w=ahI y)
 (hk: ∀v s' z' p xD xC (w':R'->xC) y',R s' v p->bX s' xD->k v s' z' xC w'=ahI y'-> ∃r,y'=w' r/\Q r p xD z'): ∃r,y=w r/\z8 F f pa ps z (fun p xD z'=>Q r p xD z'):=by
 unfold Kl at he;obtain ⟨hn,he⟩:=cm he;have fin: ∀st p xC (w':R'->xC) y',yX st p->(match yW st x.res with
  |some vs=>k (CD vs) st.aA st.fz
  |none=>aM) xC w'=ahI y'-> ∃r,y'=w' r/\ ∃vs,nN p x.res=ahI vs/\Q r (results1 vs) p.aA p.fz:=by
  intro st p xC w' y' h he;cases hr:yW st x.res with
  |none=>rw [hr] at he;cases he
  |some vs=>rw [hr] at he;obtain ⟨q,h1,h2⟩:=Hz h hr;obtain ⟨r,h3,h4⟩:=hk _ _ _ _ _ _ _ _ (KE h2) h.aA he;exact ⟨r,h3,q,h1,by rw [h.fz];exact h4⟩
 obtain ⟨r,hr,IL⟩:=P6 DP IK x.code R' (Q:=fun r=>H4 x fun p xD z'=>Q r p xD z') (p:={env:=uK 0 pa,aA:=ps,fz:=z,kn:=ahH ps}) (fun e st p xC w' y' h he=>by
  cases e with
  |normal=>exact fin st p xC w' y' h he
  |ret=>exact fin st p xC w' y' h he
  |exit i=>cases he) ⟨KD 0 ha,hS,rfl,hS.len⟩ he
 exact ⟨r,hr,z8.of hf (by rw [ha.mU];exact hn) IL⟩
theorem IM {α:Type} {l m r:List α} {i:Int} (h:Iu l i m=ahI r):0<=i/\i.toNat<=ahH l/\ahH m=1/\ahH l+1<=1048576/\r=l.take i.toNat++m++l.drop i.toNat:=by
 unfold Iu at h;split at h
 · rename_i hc
   injection h with h;exact ⟨hc.1,hc.2.1,hc.2.2.1,hc.2.2.2,h.symm⟩
 cases h
theorem P7 {e:Nat} {args:List SV} {s:List SB} {z:List Nat} {a:aiX} (h:Vi e args s z=ahI a):
 ∃x u x2 m,args=[.own a.t x,.int .i64 a.i,.own u x2]/\nth s a.t=ahI (.arr a.r a.l)/\nth s u=ahI (.arr a.r m)/\a.m=m/\ahH a.r=e/\NE a.t u=ahL/\has z a.t=ahL:=by
 unfold Vi at h;split at h
 case h_2=>cases h
 split at h
 case h_2=>cases h
 split at h
 case h_2=>cases h
 split at h
 case h_2=>cases h
 rename_i m' hm;cases hc:(NE _ e&&_&&_) with
 |false=>rw [hc] at h;cases h
 |true=>rw [hc] at h;injection h with h;subst h;simp only [pp,acp,aa3] at hc;obtain ⟨rfl,rfl⟩:=oS hm;exact ⟨_,_,_,_,rfl,by assumption,by assumption,rfl,hc.1.1,hc.1.2,hc.2⟩
theorem MK {e:Nat} {f:FuncId} (hf:F f=ahI (.O6 (Q5 e))) {R':Type} {args:List SV} {s:List SB} {z:List Nat} {k:SV->List SB->List Nat->gb R'} {ρ:Type} {w:R'->ρ} {y:ρ} {pa:List PV} {ps:bS}
 {Q:R'->PV->bS->List Nat->Prop} (ha:RL s args pa) (hS:bX s ps) (he:acK e args s z k ρ w=ahI y)
 (hk: ∀v s' z' p xD xC (w':R'->xC) y',R s' v p->bX s' xD->k v s' z' xC w'=ahI y'-> ∃r,y'=w' r/\Q r p xD z'): ∃r,y=w r/\z8 F f pa ps z (fun p xD z'=>Q r p xD z'):=by
 unfold acK at he;cases hA:Vi e args s z with
 |none=>rw [hA] at he;cases he
 |some a=>
 rw [hA] at he;dsimp only at he;obtain ⟨l',hl,he⟩:=ck he;obtain ⟨x,u,x2,m0,rfl,ht,hu,hm,Ut,htu,hz⟩:=P7 hA;obtain ⟨t,q,l,i,m⟩:=a;dsimp only at*;subst hm Ut;obtain ⟨i0,il,m1,lx,rfl⟩:=IM hl;obtain ⟨p0,pr0,rfl,h0,ha⟩:=ha;obtain ⟨p1,pr1,rfl,h1,ha⟩:=ha;obtain ⟨p2,pr2,rfl,h2,ha⟩:=ha;obtain rfl:pr2=[]:=ha;obtain rfl:p1= .int .i64 i:=h1;have NW:s[t]? =ahI (.arr q l):=by rw [<- bP];exact ht
 have B8:s[u]? =ahI (.arr q m):=by rw [<- bP];exact hu
 obtain ⟨e0,n0,rfl,o0⟩:=h0;obtain ⟨e2,n2,rfl,o2⟩:=h2;obtain ⟨rfl,rfl⟩:e0=ahH q/\n0=(ahH l):=by
  rcases o0 with ⟨r1,l1,a,b,c⟩|a
  · rw [NW] at a;injection a with a;injection a with a1 a2;subst a1;subst a2;exact ⟨b,c⟩
  rw [NW] at a;cases a
 obtain ⟨rfl,rfl⟩:e2=ahH q/\n2=(ahH m):=by
  rcases o2 with ⟨r1,l1,a,b,c⟩|a
  · rw [B8] at a;injection a with a;injection a with a1 a2;subst a1;subst a2;exact ⟨b,c⟩
  rw [B8] at a;cases a
 obtain ⟨b1,Ah,IN⟩:=hS.at_ t _ NW;obtain ⟨b2,L7,ac1⟩:=hS.at_ u _ B8;have IN:b1= .arr (ahH q) (l.map (RT.pv q)):=IN;have ac1:b2= .arr (ahH q) (m.map (RT.pv q)):=ac1;subst IN ac1;have bU:(B9 [t] (s.set t .dead)).length=(ahH s):=by rw [vU];simp
 obtain ⟨L,hL⟩: ∃L,L=l.take i.toNat++m++l.drop i.toNat:=⟨_,rfl⟩;rw [<- hL] at he;have G:=Good.put hS (b:= .dead) (q:= .dead) (l:=[.arr q L]) (ql:=[.arr (ahH q) (L.map (RT.pv q))]) (v:= .own (ahH s) ahL)
  (p:= .own (ahH s) (ahH q) 0 (ahH L) (ahH L) ahL) (rd:=[]) NW (.inr rfl) rfl rfl
  (fun j b hj=>by
   cases j with
   |zero=>simp at hj;subst hj;exact ⟨_,rfl,rfl⟩
   |succ j=>simp at hj)
  ⟨ahH q,ahH L,rfl,.inl ⟨q,L,by rw [<- bU];exact mD,rfl,rfl⟩⟩
 have Ae:(ahH L)=ahH l+1:=by rw [hL];simp only [acr,ab8,ahz,m1];omega
 obtain ⟨rr,hr,hq⟩:=hk _ _ _ _ _ _ _ _ G.v G.aA he;refine ⟨rr,hr,1,_,_,_,?_,hq⟩;rw [kr];have lA:IR (ahH l+1) lT=ahK:=by simp [lT];omega
 have Py:IR i.toNat (ahH l)=ahK:=by simpa using il
 have hLm:L.map (RT.pv q)=(l.map (RT.pv q)).take i.toNat++m.map (RT.pv q)++(l.map (RT.pv q)).drop i.toNat:=by rw [hL,abe,abe,ab9,abF]
 simp [step,hf,Q5,Ah,L7,m1,htu,hz,i0,lA,il,Ae,hS.len,fP,JA,hLm]
theorem P8 {α:Type} {l m r:List α} (h:acE l m=ahI r):1<=ahH l+ahH m/\ahH l+ahH m<=1048576/\r=l++m:=by
 unfold acE at h;split at h
 · rename_i hc
   injection h with h;exact ⟨hc.1,hc.2,h.symm⟩
 cases h
theorem P9 {args:List SV} {s:List SB} {z:List Nat} {a:aiY} (h:Vj args s z=ahI a):
 ∃cap x m,args=[.part a.t 0 2 cap x]/\nth s a.t=ahI (.box [.sl a.r a.l,.sl a.r m])/\a.m=m/\ahH a.r=1/\has z a.t=ahL:=by
 unfold Vj at h;split at h
 case h_2=>cases h
 split at h
 case h_2=>cases h
 split at h
 case h_2=>cases h
 rename_i m' hm;cases hc:(NE _ 1&&NE _ 0&&NE _ 2&&_) with
 |false=>rw [hc] at h;cases h
 |true=>rw [hc] at h;injection h with h;subst h;simp only [pp,acp,aa3] at hc;obtain ⟨rfl,rfl⟩:=oS hm;obtain ⟨⟨⟨h1,rfl⟩,rfl⟩,h2⟩:=hc;exact ⟨_,_,_,rfl,by assumption,rfl,h1,h2⟩
theorem HA {r:List PT} (h:(ahH r)=1) (l:List (RT r)):Cf (l.map (RT.pv r))=ahK:=by
 unfold Cf;rw [abb];intro x hx;obtain ⟨a,_,rfl⟩:=ahv.1 hx
 match r,h with
 | [p],_=>show (NE [p.pv a].length 1&&[p.pv a].all PV.plain)=ahK;cases p<;>rfl
theorem ML {f:FuncId} (hf:F f=ahI (.O6 ab3)) {R':Type} {args:List SV} {s:List SB} {z:List Nat} {k:SV->List SB->List Nat->gb R'} {ρ:Type} {w:R'->ρ} {y:ρ} {pa:List PV} {ps:bS}
 {Q:R'->PV->bS->List Nat->Prop} (ha:RL s args pa) (hS:bX s ps) (he:acL args s z k ρ w=ahI y)
 (hk: ∀v s' z' p xD xC (w':R'->xC) y',R s' v p->bX s' xD->k v s' z' xC w'=ahI y'-> ∃r,y'=w' r/\Q r p xD z'): ∃r,y=w r/\z8 F f pa ps z (fun p xD z'=>Q r p xD z'):=by
 unfold acL at he;cases hA:Vj args s z with
 |none=>rw [hA] at he;cases he
 |some a=>
 rw [hA] at he;dsimp only at he;obtain ⟨l',hl,he⟩:=ck he;obtain ⟨cap,x,m0,rfl,ht,hm,Ut,hz⟩:=P9 hA;obtain ⟨t,q,l,m⟩:=a;dsimp only at*;subst hm;obtain ⟨hp,lx,rfl⟩:=P8 hl;obtain ⟨p0,pr0,rfl,h0,ha⟩:=ha;obtain rfl:pr0=[]:=ha;have NW:s[t]? =ahI (.box [.sl q l,.sl q m]):=by rw [<- bP];exact ht
 obtain ⟨e0,rfl,o0⟩:=h0;obtain rfl:e0=1:=by
  rcases o0 with ⟨r1,l1,a,b⟩|a|⟨_,a,b⟩
  · rw [NW] at a;cases a
  · rw [NW] at a;cases a
  exact b
 obtain ⟨b1,Ah,IN⟩:=hS.at_ t _ NW;obtain ⟨ps1,rfl,p1,q1,rfl,hp1,p2,q2,rfl,hp2,rfl⟩:=IN;have hp1:p1= .sl (ahH q) ahL (l.map (RT.pv q)):=hp1;have hp2:p2= .sl (ahH q) ahL (m.map (RT.pv q)):=hp2;subst hp1 hp2;have bU:(B9 [t] (s.set t .dead)).length=(ahH s):=by rw [vU];simp
 obtain ⟨L,hL⟩: ∃L,L=l++m:=⟨_,rfl⟩;rw [<- hL] at he;have G:=Good.put hS (b:= .dead) (q:= .dead) (l:=[.arr q L]) (ql:=[.arr (ahH q) (L.map (RT.pv q))]) (v:= .own (ahH s) ahL)
  (p:= .own (ahH s) (ahH q) 0 (ahH L) (ahH L) ahL) (rd:=[]) NW (.inr rfl) rfl rfl
  (fun j b hj=>by
   cases j with
   |zero=>simp at hj;subst hj;exact ⟨_,rfl,rfl⟩
   |succ j=>simp at hj)
  ⟨ahH q,ahH L,rfl,.inl ⟨q,L,by rw [<- bU];exact mD,rfl,rfl⟩⟩
 have Ae:(ahH L)=ahH l+(ahH m):=by rw [hL];simp
 obtain ⟨rr,hr,hq⟩:=hk _ _ _ _ _ _ _ _ G.v G.aA he;refine ⟨rr,hr,1,_,_,_,?_,hq⟩;rw [kr];have lA:IR (ahH l+ahH m) lT=ahK:=by simp [lT];omega
 have Ad:IR 1 (ahH l+ahH m)=ahK:=by simpa using hp
 have hLm:L.map (RT.pv q)=l.map (RT.pv q)++m.map (RT.pv q):=by rw [hL,abe]
 have hc:(NE 1 1&&NE 0 0&&NE 2 2&&!has z t&&Cf (l.map (RT.pv q))&&Cf (m.map (RT.pv q))&&IR 1 ((l.map (RT.pv q)).length+(m.map (RT.pv q)).length)&&IR ((l.map (RT.pv q)).length+(m.map (RT.pv q)).length) lT&&(NE (ahH q) 1||(l.map (RT.pv q)).isEmpty)&&(NE (ahH q) 1||(m.map (RT.pv q)).isEmpty))=ahK:=by rw [HA Ut,HA Ut,hz,aa9,aa9,Ad,lA,Ut];rfl
 simp only [step,hf];unfold ab3
 dsimp only;rw [Ah];dsimp only;rw [hc];simp [hS.len,fP,JA,hLm,Ae,Ut]
theorem KF: ∀(p:PT) (a:p.T),Bl p (p.pv a)=ahI a
 | .i k,a=>by have:eX k k=ahK:=eE.2 rfl;simp [Bl,PT.pv,this]
 | .b,a=>rfl
theorem Ot: ∀(r:List PT) (a:RT r),GS r (RT.pv r a)=ahI a
 | [],a=>rfl
 | [p],a=>KF p a
 |p::q::r,a=>by
  show (match Bl p (p.pv a.1),GS (q::r) (RT.pv (q::r) a.2) with
   |some a,ahI b=>ahI (a,b)
   |_,_=>ahJ)=_
  rw [KF,Ot (q::r)]
theorem FA (r:List PT): ∀l:List (RT r),Bm r (l.map (RT.pv r))=ahI l
 | []=>rfl
 |a::l=>by
  show (match GS r (RT.pv r a),Bm r (l.map (RT.pv r)) with
   |some a,ahI l=>ahI (a::l)
   |_,_=>ahJ)=_
  rw [Ot,FA r l]
theorem VG {s:List SB} {g:Option FuncId} {a:List SV} {p:List PV} (h:Dm g a=ahK) (hr:RL s a p):Vf g p=ahK:=by
 unfold Dm at h;split at h
 · obtain rfl:p=[]:=hr
   rfl
 · obtain ⟨p0,pr,rfl,h0,hr⟩:=hr
   obtain rfl:pr=[]:=hr;obtain ⟨x,y,rfl,hx,hy⟩:=h0;obtain rfl:x=[]:=hx;obtain rfl:y=[]:=hy;exact h
 cases h
theorem P' {r:List PT} {g:Option FuncId} {args:List SV} {s:List SB} {z:List Nat} {t:Nat} {o:Option Nat} {l:List (RT r)} (h:Vk r g args s z=ahI (t,o,l)):
 ∃x a,args=x::a/\nth s t=ahI (.arr r l)/\has z t=ahL/\Dm g a=ahK/\((o=ahJ/\ ∃ex,x= .own t ex)\/ ∃len cap ex,o=ahI len/\x= .pre t len cap ex):=by
 unfold Vk at h;split at h
 · split at h
   · split at h
     · rename_i hm
       cases hc:(!has z _&&Dm g _) with
       |false=>rw [hc] at h;cases h
       |true=>rw [hc] at h;simp only [kw,AC,aa2] at h;obtain ⟨rfl,rfl,rfl⟩:=h;simp only [pp,aa3] at hc;obtain ⟨rfl,rfl⟩:=oS hm;exact ⟨_,_,rfl,by assumption,hc.1,hc.2,.inl ⟨rfl,_,rfl⟩⟩
     cases h
   cases h
 · split at h
   · split at h
     · rename_i hm
       cases hc:(!has z _&&Dm g _) with
       |false=>rw [hc] at h;cases h
       |true=>rw [hc] at h;simp only [kw,AC,aa2] at h;obtain ⟨rfl,rfl,rfl⟩:=h;simp only [pp,aa3] at hc;obtain ⟨rfl,rfl⟩:=oS hm;exact ⟨_,_,rfl,by assumption,hc.1,hc.2,.inr ⟨_,_,_,rfl,rfl⟩⟩
     cases h
   cases h
 cases h
theorem MM {α:Type} {f:List α->Option (List α)} {l m:List α} (h:E0 f l=ahI m):(ahH l)<=1048576/\f l=ahI m/\ahH m=(ahH l):=by
 unfold E0 at h;split at h
 · rename_i hl
   split at h
   · rename_i m' hm
     split at h
     · rename_i he
       injection h with h;subst h;exact ⟨hl,hm,he⟩
     cases h
   cases h
 cases h
theorem IP {α:Type} {f:List α->Option (List α)} {n:Nat} {l m:List α} (h:Iv f n l=ahI m):n<=ahH l/\ ∃m',E0 f (l.take n)=ahI m'/\m=m'++l.drop n:=by
 unfold Iv at h;split at h
 · rename_i hn
   cases hm:E0 f (l.take n) with
   |none=>rw [hm] at h;cases h
   |some m'=>rw [hm] at h;injection h with h;exact ⟨hn,m',rfl,h.symm⟩
 cases h
theorem MN {q:Srt} {f:FuncId} (hf:F f=ahI (.O6 (Sa q))) {R':Type} {args:List SV} {s:List SB} {z:List Nat} {k:SV->List SB->List Nat->gb R'} {ρ:Type} {w:R'->ρ} {y:ρ} {pa:List PV} {ps:bS}
 {Q:R'->PV->bS->List Nat->Prop} (ha:RL s args pa) (hS:bX s ps) (he:acM q args s z k ρ w=ahI y)
 (hk: ∀v s' z' p xD xC (w':R'->xC) y',R s' v p->bX s' xD->k v s' z' xC w'=ahI y'-> ∃r,y'=w' r/\Q r p xD z'): ∃r,y=w r/\z8 F f pa ps z (fun p xD z'=>Q r p xD z'):=by
 have key: ∀(t len:Nat) (l m':List (RT q.r)) (ex:Bool) (cap:Nat) (pr:List PV) (a:List SV),s[t]? =ahI (.arr q.r l)->has z t=ahL->Dm q.g a=ahK->RL s a pr->pa= .own t (ahH q.r) 0 len cap ex::pr->len<=ahH l->E0 q.fn (l.take len)=ahI m'->
  k (.bN []) (fJ.nu s {v:= .bN [],wr:=[(t,.arr q.r (m'++l.drop len))]}) z ρ w=ahI y-> ∃r,y=w r/\z8 F f pa ps z (fun p xD z'=>Q r p xD z'):=by
  intro t len l m' ex cap pr a ht hz hg har L1 bU DL he;subst L1;obtain ⟨s1,s2,s3⟩:=MM DL;obtain ⟨b1,Ah,IN⟩:=hS.at_ t _ ht;have IN:b1= .arr (ahH q.r) (l.map (RT.pv q.r)):=IN;subst IN;have Ae:(l.take len).length=len:=by rw [ab8];omega
  have zp:(m'++l.drop len).length=(ahH l):=by rw [acr,ahz,s3,Ae];omega
  have G:=Good.put hS (b:= .arr q.r (m'++l.drop len)) (q:= .arr (ahH q.r) ((m'++l.drop len).map (RT.pv q.r))) (l:=[]) (ql:=[]) (v:= .bN []) (p:= .bN []) (rd:=[]) ht (.inl ⟨_,rfl,zp⟩) rfl rfl
   (fun j b hj=>by simp at hj) ⟨[],rfl,rfl⟩
  obtain ⟨rr,hr,hq⟩:=hk _ _ _ _ _ _ _ _ G.v G.aA he;refine ⟨rr,hr,1,_,_,_,?_,hq⟩;rw [kr];have hg':=VG hg har;have hrt:Bm q.r ((l.map (RT.pv q.r)).take len)=ahI (l.take len):=by rw [<- ab9];exact FA q.r _
  have Py:IR len (ahH l)=ahK:=by simpa using bU
  have hmo:IR len lT=ahK:=by simp [lT];omega
  have hbe:NE (ahH m') (l.take len).length=ahK:=by rw [s3];exact aaI _
  simp only [step,hf,Sa,Ah,aa9,aaI,Py,hmo,hz,hg',hrt,s2,hbe,abm,ac2,if_true,Option.map_some,fP,JA,abe,abF]
 unfold acM at he;cases hA:Vk q.r q.g args s z with
 |none=>rw [hA] at he;cases he
 |some u=>
  obtain ⟨t,o,l⟩:=u;rw [hA] at he;obtain ⟨x,a,rfl,ht,hz,hg,h⟩:=P' hA;obtain ⟨p0,pr,rfl,h0,ha⟩:=ha;rw [bP] at ht;rcases h with ⟨rfl,ex,rfl⟩|⟨len,cap,ex,rfl,rfl⟩
  · obtain ⟨m,hm,he⟩:=ck he
    obtain ⟨e0,n0,rfl,o0⟩:=h0;obtain ⟨rfl,rfl⟩:e0=ahH q.r/\n0=(ahH l):=by
     rcases o0 with ⟨r1,l1,a,b,c⟩|a
     · rw [ht] at a;injection a with a;injection a with a1 a2;subst a1;cases a2;exact ⟨b,c⟩
     rw [ht] at a;cases a
    refine key t (ahH l) l m ex (ahH l) pr a ht hz hg ha rfl (ag7 _) (by rw [List.take_length];exact hm) ?_;rw [List.drop_length,aa8];exact he
  obtain ⟨m,hm,he⟩:=ck he
  obtain ⟨e0,rfl,o0⟩:=h0;obtain rfl:e0=(ahH q.r):=by
   rcases o0 with ⟨r1,l1,a,b⟩|a|⟨_,a,_⟩
   · rw [ht] at a;injection a with a;injection a with a1 a2;subst a1;exact b
   · rw [ht] at a;cases a
   rw [ht] at a;cases a
  obtain ⟨hn,m',DL,rfl⟩:=IP hm;exact key t len l m' ex cap pr a ht hz hg ha rfl hn DL he
theorem IQ (DP:mz F cx): ∀n,KA F (Sf cx n)
 |0=>fun f args s z R' k ρ w y pa ps Q _ _ h _=>by cases h
 |n+1=>fun f args s z R' k ρ w y pa ps Q ha hS h hk=>by
  simp only [Sf] at h;cases hx:cx.code f with
  |none=>rw [hx] at h;cases h
  |some x=>
   rw [hx] at h;cases x with
   |code x=>exact yk DP (IQ DP n) (DP.code f _ hx) ha hS h hk
   |ins e=>exact MK (DP.code f _ hx) ha hS h hk
   |srt q=>exact MN (DP.code f _ hx) ha hS h hk
   |cat=>exact ML (DP.code f _ hx) ha hS h hk
def SQ:Kd->Bool->Bool
 | .own,b=>b
 |_,b=>!b
def SS (kd:Kd) {β:Type} (res:Arg β) (b:β) (p:PV) (ps:bS) (z:List Nat):Prop:=
 match kd with
 | .pure=>p.jB=ahK/\ru (res.enc b)=ahI p
 | .tp=>p.jB=ahL/\ ∃q,xz ps p=ahI q/\ru (res.enc b)=ahI q
 | .own=> ∀nx,∃p0 p' q seen,zl ps z nx [] p=ahI (p',q,seen)/\ru (res.enc b)=ahI p0/\DO nx p0=ahI (p',q)
mutual
theorem KG {s:List SB}: ∀{v:SV} {p:PV},R s v p->Aq v=ahK->ru v=ahI p
 | .int _ _,p,h,_| .bool _,p,h,_| .str _,p,h,_=>by rw [show p=_ from h];rfl
 | .agg cs,p,h,hn=>by obtain ⟨q,rfl,h⟩:=h;simp only [ru,FB h hn]
 | .bN cs,p,h,hn=>by obtain ⟨q,rfl,h⟩:=h;simp only [ru,FB h hn]
 | .gQ,_,_,h| .undef,_,_,h| .js,_,_,h| .dC,_,_,h| .sl _ _,_,_,h| .nil _ _,_,_,h| .own _ _,_,_,h| .pre _ _ _ _,_,_,h| .part _ _ _ _ _,_,_,h| .pa _ _ _ _ _,_,_,h| .pb _ _ _,_,_,h| .bp _ _ _,_,_,h| .bw _ _,_,_,h| .eA _ _ _,_,_,h| .mp _,_,_,h=>by cases h
theorem FB {s:List SB}: ∀{v:List SV} {p:List PV},RL s v p->rj v=ahK->oK v=ahI p
 | [],p,h,_=>by rw [show p=_ from h];rfl
 |x::xs,p,h,hn=>by obtain ⟨a,as,rfl,h1,h2⟩:=h.cons_inv;simp only [rj,pp] at hn;exact dY.2 ⟨_,_,rfl,KG h1 hn.1,FB h2 hn.2⟩
end
theorem MO {kd:Kd} {β:Type} {res:Arg β} {v:SV} {s:List SB} {z:List Nat} {p:PV} {ps:bS} {ρ:Type} {w:β->ρ} {y:ρ} (hv:R s v p) (hS:bX s ps) (h:Sg kd res v s z ρ w=ahI y):
 ∃b,y=w b/\SS kd res b p ps z:=by
 unfold Sg at h;cases kd with
 |pure=>dsimp only at h;obtain ⟨h1,h2⟩:=cm h;obtain ⟨b,h3,h4⟩:=bC h2;injection h4 with h4;exact ⟨b,h4.symm,Ky hv h1,res.law h3 (KG hv h1)⟩
 |tp=>dsimp only at h;obtain ⟨h1,h2⟩:=rN h;obtain ⟨u,h3,h4⟩:=bC h2;obtain ⟨b,h5,h6⟩:=bC h4;injection h6 with h6;obtain ⟨q,h7,h8⟩:=abI hS hv h3;exact ⟨b,h6.symm,Hs hv h1 h3,q,h7,res.law h5 h8⟩
 |own=>dsimp only at h;obtain ⟨u,h3,h4⟩:=bC h;obtain ⟨b,h5,h6⟩:=bC h4;injection h6 with h6;refine ⟨b,h6.symm,fun nx=>?_⟩;obtain ⟨p0,p',q,h7,h8,h9⟩:=SI hS (v':=u.1) (seen':=u.2) nx hv h3;exact ⟨p0,p',q,u.2,h9,res.law h5 h7,h8⟩
theorem bX.nil:bX [] []:=⟨rfl,fun t b h=>by simp at h⟩
theorem cE.of {f:FuncId} {x:aK} {α β:Type} {args:au α} {res:Arg β} {kd:Kd} {fn:α->Option β} {ow:Bool} (hf:F f=ahI (.code x)) (ho:SQ kd ow=ahK) (DP:mz F cx)
 (h: ∀a,Sh cx x args res kd a=fn a):cE F f ⟨args,res,fn,kd,ow⟩:=by
 intro a b as pa aA fz hb L1 hex;have hb:fn a=ahI b:=hb;rw [<- h a] at hb;obtain ⟨r,hr,n,v,s,z,bI,hl⟩:=yk DP (IQ DP 8) hf (Q:=fun r p ps z=>SS kd res r p ps z) (Fv L1) bX.nil hb (fun v s' z' p xD xC w' y' hv hS hk=>MO hv hS hk);have Q0:b=r:=hr;subst Q0;cases kd with
 |pure=>
  obtain ⟨h1,h2⟩:=hl;have how:ow=ahL:=by simpa [SQ] using ho
  subst how;refine ⟨n,{v:=v,rd:=cT (cK aA deep) as},?_,v,h2,rfl⟩;simp only [cz,hex,hf,bI,PP,if_false,h1,if_true]
 |tp=>
  obtain ⟨h1,q,h2,h3⟩:=hl;have how:ow=ahL:=by simpa [SQ] using ho
  subst how;refine ⟨n,{v:=q,rd:=cT (cK aA deep) as,fr:=cT (cK aA deep) as},?_,q,h3,rfl⟩;simp only [cz,hex,hf,bI,PP,if_false,h1,h2]
 |own=>have how:ow=ahK:=ho;subst how;obtain ⟨p0,p',q,seen,h1,h2,h3⟩:=hl (ahH aA);refine ⟨n,{v:=p',news:=q,rd:=cT (cK aA deep) as},?_,p0,p',q,h2,h3,rfl⟩;simp only [cz,hex,hf,bI,if_true,h1]
theorem KH: ∀(s:List SB) (q:List xB),(As s q).1.length=ahH s
 | [],q=>rfl
 |b::r,q=>by simp only [As,aa4,KH r]
mutual
theorem R.take {s:List SB} {k:Nat}: ∀{v:SV} {p:PV},R s v p->(∀t∈Mn sT v,t<k)->R (s.take k) v p
 | .gQ,_,_,_=>trivial
 | .undef,_,h,_| .js,_,h,_| .dC,_,h,_| .int _ _,_,h,_| .bool _,_,h,_| .str _,_,h,_| .sl _ _,_,h,_| .nil _ _,_,h,_| .bp _ _ _,_,h,_| .mp _,_,h,_=>h
 | .agg cs,_,h,ht=>by obtain ⟨q,rfl,h⟩:=h;exact ⟨q,rfl,RL.FC h ht⟩
 | .bN cs,_,h,ht=>by obtain ⟨q,rfl,h⟩:=h;exact ⟨q,rfl,RL.FC h ht⟩
 | .bw cs o,_,h,ht=>by obtain ⟨q,rfl,h⟩:=h;exact ⟨q,rfl,RL.FC h ht⟩
 | .eA f a b,_,h,ht=>by obtain ⟨pa,pb,rfl,h1,h2⟩:=h;exact ⟨pa,pb,rfl,RL.FC h1 (fun t h=>ht t (ace _ h)),RL.FC h2 (fun t h=>ht t (ac0 _ h))⟩
 | .own t ex,_,h,ht=>by
  obtain ⟨e,n,rfl,cJ⟩:=h;have hk:=ht t (abO.2 rfl);refine ⟨e,n,rfl,?_⟩;rcases cJ with ⟨r,l,h1,h2,h3⟩|h1
  · exact .inl ⟨r,l,by rw [EQ hk];exact h1,h2,h3⟩
  exact .inr (by rw [EQ hk];exact h1)
 | .pre t a b c,_,h,ht=>by
  obtain ⟨e,rfl,cJ⟩:=h;have hk:=ht t (abO.2 rfl);refine ⟨e,rfl,?_⟩;rcases cJ with ⟨r,l,h1,h2⟩|h1
  · exact .inl ⟨r,l,by rw [EQ hk];exact h1,h2⟩
  exact .inr (by rw [EQ hk];exact h1)
 | .part t o a b c,_,h,ht=>by
  obtain ⟨e,rfl,cJ⟩:=h;have hk:=ht t (abO.2 rfl);refine ⟨e,rfl,?_⟩;rcases cJ with ⟨r,l,h1,h2⟩|h1
  · exact .inl ⟨r,l,by rw [EQ hk];exact h1,h2⟩
  exact .inr (by rw [EQ hk];exact h1)
 | .pa t r i a o,_,h,ht=>by
  obtain ⟨rfl,cJ⟩:=h;have hk:=ht t (abK ..);refine ⟨rfl,?_⟩;rcases cJ with ⟨l,h1,h2⟩|h1
  · exact .inl ⟨l,by rw [EQ hk];exact h1,h2⟩
  exact .inr (by rw [EQ hk];exact h1)
 | .pb t i o,_,h,ht=>by
  obtain ⟨e,rfl,cJ⟩:=h;have hk:=ht t (abK ..);refine ⟨e,rfl,?_⟩;rcases cJ with ⟨r,l,h1,h2⟩|h1
  · exact .inl ⟨r,l,by rw [EQ hk];exact h1,h2⟩
  exact .inr (by rw [EQ hk];exact h1)
theorem RL.FC {s:List SB} {k:Nat}: ∀{v:List SV} {p:List PV},RL s v p->(∀t∈ri sT v,t<k)->RL (s.take k) v p
 | [],_,h,_=>h
 |x::xs,_,h,ht=>by obtain ⟨a,as,rfl,h1,h2⟩:=h.cons_inv;exact RL.cons (R.take h1 (fun t h=>ht t (ace _ h))) (RL.FC h2 (fun t h=>ht t (ac0 _ h)))
end
theorem FD {R' ρ:Type} {w:R'->ρ} {y:ρ}: ∀{s s':List SB} {k:gb R'},Bn s s' k ρ w=ahI y->k ρ w=ahI y/\ahH s'=ahH s/\ ∀(t:Nat) (x z:SB),s[t]? =ahI x->s'[t]? =ahI z->SK x z
 | [],[],k,h=>⟨h,rfl,fun t x z h=>by simp at h⟩
 | [],_::_,k,h=>by cases h
 |_::_,[],k,h=>by cases h
 |x::xs,y'::ys,k,h=>by
  have step: ∀(_:Bn xs ys k ρ w=ahI y) (_:SK x y'),k ρ w=ahI y/\(y'::ys).length=(x::xs).length/\ ∀(t:Nat) (a b:SB),(x::xs)[t]? =ahI a->(y'::ys)[t]? =ahI b->SK a b:=by
   intro h hx;obtain ⟨h1,h2,h3⟩:=FD h;refine ⟨h1,by simpa using h2,fun t a b ha hb=>?_⟩;cases t with
   |zero=>simp at ha hb;subst ha hb;exact hx
   |succ t=>exact h3 t a b (by simpa using ha) (by simpa using hb)
  cases x with
  |arr r l=>
   cases y' with
   |arr q m=>obtain ⟨hr,h2⟩:=cm (a:=fO (ahH m==ahH l) (Bn xs ys k) aM) h;obtain ⟨hl,h3⟩:=ic h2;exact step h3 ⟨uU hr,by simpa using hl⟩
   |_=>cases h
  |dead=>cases y' with
   |dead=>exact step h trivial
   |_=>cases h
  |box cs=>cases y' with
   |box _=>exact step h trivial
   |_=>cases h
  |set l=>cases y' with
   |set _=>exact step h trivial
   |_=>cases h
  |bA p l=>cases y' with
   |bA _ _=>exact step h trivial
   |_=>cases h
theorem FE: ∀{s:List SB},Fb s=ahK-> ∀(t:Nat) (b:SB),s[t]? =ahI b->yV b=ahK
 | [],_,t,b,h=>by simp at h
 |x::xs,hs,0,b,h=>by simp only [Fb,pp] at hs;simp at h;subst h;exact hs.1
 |x::xs,hs,t+1,b,h=>by simp only [Fb,pp] at hs;exact FE hs.2 t b (by simpa using h)
theorem oG.of {f:FuncId} {x:aK} {wd:Bool} {ka ko:List AK} {ta:List SV} {tb to:List SB} {tv:SV} {fn:gT ka->Option (gT ko)} (hf:F f=ahI (.code x)) (DP:mz F cx)
 (h: ∀a,amD wd cx x ka ta tb ko tv to a=fn a):oG F f ⟨ka,ta,tb,ko,tv,to,fn⟩:=by
 intro a b pa ps hb ha hS;rw [show (⟨ka,ta,tb,ko,tv,to,fn⟩:eK).fn a=fn a from rfl,<- h a] at hb;have bU:(eK.sa ⟨ka,ta,tb,ko,tv,to,fn⟩ a).length=(ahH tb):=KH _ _;obtain ⟨r,hr,n,v,s,z,bI,hz,hq⟩:=yk DP (IQ DP 8) hf (Q:=fun (r:gT ko) p xD z'=>z'=[]/\hG (ahH tb) p xD=ahK/\
  R (eK.sb ⟨ka,ta,tb,ko,tv,to,fn⟩ r) (eK.vb ⟨ka,ta,tb,ko,tv,to,fn⟩ r) p/\bX (eK.sb ⟨ka,ta,tb,ko,tv,to,fn⟩ r) (xD.take (ahH tb))/\
  (eK.sb ⟨ka,ta,tb,ko,tv,to,fn⟩ r).length=(eK.sa ⟨ka,ta,tb,ko,tv,to,fn⟩ a).length/\
  ∀(t:Nat) (x y:SB),(eK.sa ⟨ka,ta,tb,ko,tv,to,fn⟩ a)[t]? =ahI x->(eK.sb ⟨ka,ta,tb,ko,tv,to,fn⟩ r)[t]? =ahI y->SK x y) ha hS hb (fun v s' z' p xD xC w' y' hv hS' hk=>by
  cases z' with
  |cons _ _=>cases hk
  |nil=>
   dsimp only at hk;obtain ⟨hc,hk⟩:=cm hk;simp only [pp] at hc;obtain ⟨⟨⟨⟨c1,c2⟩,c3⟩,c4⟩,c5⟩:=hc;obtain ⟨hk,f1,f2⟩:=FD hk;obtain ⟨r,hr,hk⟩:=bC hk;injection hk with hk;have hu:R s' (bif wd then Hi s' v else v) p:=by
    cases wd with
    |true=>exact Oi hv
    |false=>exact hv
   generalize (bif wd then Hi s' v else v)=u at c1 c3 c4 hr hu;have EF:=oV hr;have hvb:eK.vb ⟨ka,ta,tb,ko,tv,to,fn⟩ r=u:=by show (sX tv (k9 ko r)).1=u;rw [EF,D8 _ c1]
   have hsb:eK.sb ⟨ka,ta,tb,ko,tv,to,fn⟩ r=s'.take (ahH tb):=by show (As to (sX tv (k9 ko r)).2).1=_;rw [EF,D8 _ c1];have:=Bx [] c2;rw [aa8] at this;rw [this]
   have lx:(ahH tb)<=(ahH s'):=by
    have:=f1;rw [ab8] at this;have h2:(eK.sa ⟨ka,ta,tb,ko,tv,to,fn⟩ a).length=(ahH tb):=bU;have h3:min (ahH tb) (ahH s')=(ahH tb):=by rw [this];exact h2
    omega
   unfold abC at c3;rw [abb] at c3;have hkv: ∀t∈Mn sT u,t<(ahH tb):=fun t ht=>by simpa using c3 t (ace _ ht)
   have hkb: ∀b∈s'.take (ahH tb),∀t∈E4 b,t<(ahH tb):=fun b hb t ht=>by simpa using c3 t (ac0 _ (ahA.2 ⟨b,hb,ht⟩))
   have qe:bX (s'.take (ahH tb)) (xD.take (ahH tb)):=⟨by simp [hS'.len],fun t x hx=>by
    have c7:t<(ahH tb):=by have:=(ut.1 hx).1;rw [ab8] at this;omega
    have hx':=hx;rw [EQ c7] at hx';obtain ⟨q,q1,q2⟩:=hS'.at_ t x hx';refine ⟨q,by rw [EQ c7];exact q1,?_⟩;cases x with
    |box cs=>obtain ⟨pc,rfl,hpc⟩:=q2;exact ⟨pc,rfl,RL.FC hpc (hkb _ (abn hx))⟩
    |_=>exact q2⟩
   refine ⟨r,hk.symm,rfl,?_,by rw [hvb,hsb];exact R.take hu hkv,by rw [hsb];exact qe,by rw [hsb];exact f1,by rw [hsb];exact f2⟩;unfold hG;rw [abb];intro t ht;rw [ahC] at ht;rcases ht with ht|ht
   · rw [<- SA (bx:=sT) (fun _=>rfl) hu c4] at ht
     simpa using hkv t ht
   rw [ahA] at ht
   obtain ⟨q,hq,ht⟩:=ht;obtain ⟨j,hj,he⟩:=ack hq;have LU:j<(s'.take (ahH tb)).length:=by rw [<- qe.len];exact hj
   obtain ⟨x,hx⟩: ∃x,(s'.take (ahH tb))[j]? =ahI x:=⟨_,Do LU⟩;obtain ⟨q',q1,q2⟩:=qe.at_ j x hx;rw [Do hj,he] at q1;injection q1 with q1;subst q1;rw [<- IF q2 (FE c5 j x hx)] at ht;simpa using hkb x (abn hx) t ht)
 have Q0:b=r:=hr;subst Q0;subst hz;refine ⟨n,v,s,bI,?_⟩;rw [bU];obtain ⟨h1,h2,h3,h4,h5⟩:=hq;exact ⟨h1,h2,h3,by rw [h4,bU],h5⟩
theorem MP {f:FuncId} {r:List PT} (hf:F f=ahI (.ja ahL (ff (ahH r)))) (l:List (RT r)) (hl:(ahH l)<=1048576) {as:List PV} {aA:bS} {fz:List Nat} (hex:B6 aA (xq aA deep) as=ahI [.sl (ahH r) ahL (l.map (RT.pv r))]):
 ∃n x,cz F (run F n) ahL f as aA fz=ahI x/\abJ .own (ahH aA) (cT (cK aA deep) as) (.sl r l) x:=by
 refine ⟨0,{v:= .own (ahH aA) (ahH r) 0 (ahH l) (ahH l) ahL,news:=[.arr (ahH r) (l.map (RT.pv r))],rd:=cT (cK aA deep) as},?_,.sl (ahH r) ahL (l.map (RT.pv r)),.own (ahH aA) (ahH r) 0 (ahH l) (ahH l) ahL,[.arr (ahH r) (l.map (RT.pv r))],rfl,by simp only [DO,aa9],rfl⟩;simp only [cz,hex,hf];cases l with
 |nil=>rfl
 |cons a l=>
  have h2:IR ((l.map (RT.pv r)).length+1) lT=ahK:=by simp [lT] at hl ⊢;omega
  simp only [aak,ff,aaI,h2,aaH,if_true,zl];simp [has]
theorem cE.clone {f:FuncId} {n:Nat} {r:List PT} (hf:F f=ahI (.ja ahL (ff n))) (hn:n=ahH r):cE F f (ry.clone r):=by
 intro (a:List (RT r)) (b:List (RT r)) as pa aA fz hb L1 hex;subst hn;have hb:bO a=ahI b:=hb;obtain ⟨rfl,hl⟩:=Ay hb;have SU:pa=[.sl (ahH r) ahL (b.map (RT.pv r))]:=by have:ahI [PV.sl (ahH r) ahL (b.map (RT.pv r))]=ahI pa:=L1;exact (abg this).symm
 subst SU;exact MP hf b hl hex
theorem cE.Oa {f:FuncId} (hf:F f=ahI (.ja ahL z6)):cE F f ry.Oa:=by
 intro a b as pa aA fz hb L1 hex;obtain ⟨x,y,c⟩:=a;have zz:oT x y c=ahI b:=hb;unfold oT at zz;cases hc:(ahM (0<=x)&&ahM (0<=y)&&ahM (0<=c)&&ahM (c<=1)) with
 |false=>rw [hc] at zz;cases zz
 |true=>
  rw [hc] at zz;injection zz with zz;subst zz;simp only [pp,decide_eq_true_eq] at hc;obtain ⟨⟨⟨h1,h2⟩,h3⟩,h4⟩:=hc;obtain ⟨x,rfl⟩:=aa1 h1;obtain ⟨y,rfl⟩:=aa1 h2;obtain ⟨c,rfl⟩:=aa1 h3;have SU:pa=[.int .u64 (.ofNat x),.int .u64 (.ofNat y),.int .u64 (.ofNat c)]:=by have:ahI [PV.int .u64 (x:Int),.int .u64 (y:Int),.int .u64 (c:Int)]=ahI pa:=L1;exact (abg this).symm
  subst SU;have hcb:IR c 1=ahK:=by simp;omega
  refine ⟨0,{v:= .bN [.int .u64 (.ofNat ((x+y+c)%18446744073709551616)),.int .u64 (.ofNat ((x+y+c) / 18446744073709551616))],rd:=cT (cK aA deep) as},?_,_,rfl,rfl⟩;show cz F (run F 0) ahL f as aA fz=_;simp only [cz,hex,hf,z6,hcb,if_true];rfl
theorem oG.zero {f:FuncId} {c:eK} (h: ∀a,c.fn a=ahJ):oG F f c:=fun a b pa ps hb=>by rw [h a] at hb;cases hb
theorem cE.zero {f:FuncId} {c:ry} (h: ∀a,c.fn a=ahJ):cE F f c:=fun a b as pa aA fz hb=>by rw [h a] at hb;cases hb
theorem cE.at0 {f:FuncId} {fn:Unit->Option Bool} (h:cE F f ⟨au.nil,Arg.bool,fn,.pure,ahL⟩) (hb:fn ()=ahI ahK):cE F f ⟨au.nil,Arg.bool,fun _=>ahI ahK,.pure,ahL⟩:=by intro a b as args aA fz hr hp hx;obtain rfl:ahK=b:=abg hr;exact h () ahK as args aA fz hb hp hx
end
end Go.Vm
/- What comes in to a law, as typed values; a law from a contract. -/
namespace Go.Vm
open Go.ChangeShapes Go.WideShapes Go.ChangeAt Go.RowKit
def PT.wf:(p:PT)->p.T->Prop
 | .i k,n=>(Lit.int k n).wf=ahK
 | .b,_=>True
def RT.wf:(r:List PT)->RT r->Prop
 | [],_=>True
 | [p],a=>p.wf a
 |p::q::r,a=>p.wf a.1/\RT.wf (q::r) a.2
def gL (r:List PT) (vs:List SV):Prop:= ∃a:RT r,vs=RT.sv r a/\RT.wf r a
def LO (r:List PT) (vs:List SV):Prop:= ∃l:List (RT r),vs=[.sl r l]/\ ∀a∈l,RT.wf r a
def VH:List (List SV->Prop)->List SV->Prop
 | [],vs=>vs=[]
 |K::Ks,vs=> ∃a b,vs=a++b/\K a/\VH Ks b
theorem gL.cons {p:PT}: ∀{r:List PT} {a b:List SV},gL [p] a->gL r b->gL (p::r) (a++b)
 | [],a,b,⟨x,hx,wx⟩,⟨y,hy,_⟩=>⟨x,by rw [hx,hy];rfl,wx⟩
 |q::r,a,b,⟨x,hx,wx⟩,⟨y,hy,wy⟩=>⟨(x,y),by rw [hx,hy];rfl,wx,wy⟩
theorem gL.split {p q:PT} {r:List PT} {vs:List SV}:gL (p::q::r) vs-> ∃a b,vs=a++b/\gL [p] a/\gL (q::r) b
 |⟨x,hx,wx⟩=>⟨[p.sv x.1],RT.sv (q::r) x.2,hx,⟨x.1,rfl,wx.1⟩,⟨x.2,rfl,wx.2⟩⟩
theorem gL.app: ∀{r s:List PT} {a b:List SV},gL r a->gL s b->gL (r++s) (a++b)
 | [],s,a,b,⟨x,hx,_⟩,h=>by have:a=[]:=hx;subst this;exact h
 | [p],s,a,b,h,k=>gL.cons h k
 |p::q::r,s,a,b,h,k=>by
  obtain ⟨a1,a2,rfl,h1,h2⟩:=gL.split h
  rw [aa5];exact gL.cons h1 (gL.app h2 k)
theorem ny: ∀{rs:List (List PT)} {vs:List SV},VH (rs.map gL) vs->gL rs.flatten vs
 | [],vs,h=>by have:vs=[]:=h;subst this;exact ⟨(),rfl,trivial⟩
 |r::rs,vs,⟨a,b,h1,h2,h3⟩=>by subst h1;rw [List.flatten_cons];exact gL.app h2 (ny h3)
def cp (P : Program) (t : TypeId) (K : List SV -> Prop) : Prop :=
  ∀ (H : Type) (enc : TypeId × Value -> H) (w : World) (Am : Nat) (cs : List Value) (x : DataW H × List MemPlace), DataW.trod enc P w 0 (fun _ => ahK) ahK Am t cs = ahI x ->
    ∃ vs q, K vs /\ oK vs = ahI q /\ eD (GQ w) fC q cs
section
variable {P : Program}
theorem cp.mono {t:TypeId} {K K':List SV->Prop} (h:cp P t K) (hk: ∀vs,K vs->K' vs):cp P t K':=fun H enc w Am cs x hx=>by obtain ⟨vs,q,h1,h2,h3⟩:=h H enc w Am cs x hx;exact ⟨vs,q,hk vs h1,h2,h3⟩
theorem cp.int {t:TypeId} {k:IntKind} (ht:P.underlying t=ahI (.int k)):cp P t (gL [.i k]):=fun H enc w Am cs x h=>by obtain ⟨n,rfl,_,hw⟩:=DataW.trod_int ht h;exact ⟨[.int k n],[.int k n],⟨n,rfl,hw⟩,rfl,.cons _ _ _ _ (.int k n) .nil⟩
theorem cp.bool {t:TypeId} (ht:P.underlying t=ahI .bool):cp P t (gL [.b]):=fun H enc w Am cs x h=>by obtain ⟨b,rfl,_⟩:=DataW.trod_bool ht h;exact ⟨[.bool b],[.bool b],⟨b,rfl,trivial⟩,rfl,.cons _ _ _ _ (.bool b) .nil⟩
def bc (P:Program):List Field->List (List SV->Prop)->Nat->Prop
 | [],[],_=>True
 |f::fs,K::Ks,off=>f.offset=off/\cp P f.type K/\bc P fs Ks (off+P.cellsOf f.type)
 |_,_,_=>False
theorem bc.nil {off:Nat}:bc P [] [] off:=trivial
theorem bc.cons {f:Field} {fs:List Field} {K:List SV->Prop} {Ks:List (List SV->Prop)} {off:Nat} (h1:f.offset=off) (h2:cp P f.type K) (h3:bc P fs Ks (off+P.cellsOf f.type)):bc P (f::fs) (K::Ks) off:=⟨h1,h2,h3⟩
def yl (P:Program):List Field->Nat
 | []=>0
 |f::fs=>P.cellsOf f.type+yl P fs
theorem FF {im:Im} {loc:Loc}: ∀{p:List PV} {vs:List Value} {q:List PV} {us:List Value},eD im loc p vs->eD im loc q us->eD im loc (p++q) (vs++us)
 | [],[],_,_,.nil,h=>h
 |_::_,_::_,_,_,.cons x v xs ws h hs,k=> .cons x v _ _ h (FF hs k)
theorem FG {H:Type} {enc:TypeId×Value->H} {w:World} {n:Nat} {cs:List Value}: ∀{fs:List Field} {Ks:List (List SV->Prop)} {off:Nat},bc P fs Ks off->ahH cs=off+yl P fs->
 (∀f∈fs,∃x,DataW.trod enc P w 0 (fun _=>ahK) ahK n f.type ((cs.drop f.offset).take (P.cellsOf f.type))=ahI x)-> ∃vs q,VH Ks vs/\oK vs=ahI q/\eD (GQ w) fC q (cs.drop off)
 | [],[],off,_,hl,_=>⟨[],[],rfl,rfl,by rw [List.drop_eq_nil_of_le (by simp [yl] at hl;omega)];exact .nil⟩
 |f::fs,K::Ks,off,⟨h1,h2,h3⟩,hl,hx=>by
  obtain ⟨x,QZ⟩:=hx f (by simp);obtain ⟨vs,q,k1,k2,k3⟩:=h2 H enc w n _ x QZ;obtain ⟨LJ,q',k1',k2',k3'⟩:=FG (n:=n) h3 (by simp only [yl] at hl;omega) (fun g hg=>hx g (by simp [hg]));refine ⟨vs++LJ,q++q',⟨vs,LJ,rfl,k1,k1'⟩,Av k2 k2',?_⟩;rw [h1] at k3;have:cs.drop off=(cs.drop off).take (P.cellsOf f.type)++cs.drop (off+P.cellsOf f.type):=by rw [<- List.drop_drop,List.take_append_drop]
  rw [this];exact FF k3 k3'
 | [],_::_,_,h,_,_=>h.elim
 |_::_,[],_,h,_,_=>h.elim
theorem cp.struct {t:TypeId} {fs:Array Field} {Ks:List (List SV->Prop)} (ht:P.underlying t=ahI (.struct fs)) (hF:bc P fs.toList Ks 0) (hc:P.cellsOf t=yl P fs.toList):cp P t (VH Ks):=fun H enc w Am cs x h=>by
 obtain ⟨xs,n,rfl,_,hl,hxl,q9⟩:=DataW.trod_struct ht h;have:=FG (P:=P) (enc:=enc) (w:=w) (n:=n) (cs:=cs) hF (by omega) (fun f hf=>by
  obtain ⟨i,hi,he⟩:=List.mem_iff_getElem.1 hf;have rZ:i<fs.size:=by simpa using hi
  have hg:fs[i]? =ahI f:=by rw [Array.getElem?_eq_getElem rZ];simpa using he
  have:=q9 i f hg;rw [Do (by omega)] at this;exact ⟨_,this⟩)
 rwa [abc] at this
theorem RT.vrl {r:List PT} {a:RT r} {q:List PV} (h:oK (RT.sv r a)=ahI q):q=RT.pv r a:=by rw [RT.Hk] at h;exact (abg h).symm
theorem eD.nth {im:Im} {loc:Loc}: ∀{p:List PV} {vs:List Value},eD im loc p vs-> ∀(k:Nat) (c:PV),p[k]? =ahI c-> ∃v,vs[k]? =ahI v/\VR im loc c v
 |_::_,_::_,.cons x v xs ws h hs,0,c,hc=>by simp at hc;subst hc;exact ⟨v,by simp,h⟩
 |_::_,_::_,.cons x v xs ws h hs,k+1,c,hc=>by obtain ⟨u,h1,h2⟩:=eD.nth hs k c (by simpa using hc);exact ⟨u,by simpa using h1,h2⟩
theorem cp.slice {t e:TypeId} {r:List PT} (ht:P.underlying t=ahI (.slice e)) (he:cp P e (gL r)) (hc:P.cellsOf e=ahH r) (hr:0<ahH r):cp P t (LO r):=fun H enc w Am cs x h=>by
 rcases Go.Deep.open_slice ht h with ⟨rfl,_⟩|⟨a,len,cap,m,n,D,Pl,rfl,_,hl,hm,hmm,_,hx⟩
 · exact ⟨[.sl r []],[.sl (ahH r) ahL []],⟨[],rfl,by simp⟩,rfl,.cons _ _ _ _ (.sl (ahH r) ahL [] ahJ 0 (ag7 _) (fun h=>by cases h) (fun h=>absurd rfl h)) .nil⟩
 have zF:len<=m:=by rw [hmm];split<;>omega
 have each: ∀i,i<len-> ∃A:RT r,RT.wf r A/\ ∃G1,w.cells? 0 (a.add (i*ahH r)) (ahH r)=ahI G1/\eD (GQ w) fC (RT.pv r A) G1:=by intro i hi;obtain ⟨G1,h1,h2⟩:=hx i (by omega);obtain ⟨vs,q,⟨A,hA,wA⟩,k2,k3⟩:=he H enc w n G1 _ h2;subst hA;rw [RT.vrl k2] at k3;rw [hc] at h1;exact ⟨A,wA,G1,h1,k3⟩
 have ch: ∃A:Nat->RT r,∀i,i<len->RT.wf r (A i)/\ ∃G1,w.cells? 0 (a.add (i*ahH r)) (ahH r)=ahI G1/\eD (GQ w) fC (RT.pv r (A i)) G1:=by
  classical
  refine ⟨fun i=>if h:i<len then (each i h).choose else RT.zero r,fun i hi=>?_⟩;simp only [dif_pos hi];exact (each i hi).choose_spec
 obtain ⟨A,hA⟩:=ch;refine ⟨[.sl r ((ah2 len).map A)],[.sl (ahH r) ahL (((ah2 len).map A).map (RT.pv r))],⟨_,rfl,fun x hx=>?_⟩,rfl,.cons _ _ _ _ ?_ .nil⟩
 · obtain ⟨i,hi,rfl⟩:=ahv.1 hx
   exact (hA i (List.mem_range.1 hi)).1
 have bU:(((ah2 len).map A).map (RT.pv r)).length=len:=by simp
 have:=VR.sl (im:=GQ w) (loc:=fC) (ahH r) ahL (((ah2 len).map A).map (RT.pv r)) (ahI a) cap (by rw [bU];exact hl) (fun h=>by cases h) (fun dM=>by
  have Ad:0<len:=by
   rcases agY len with h|h
   · subst h;exact absurd rfl dM
   exact h
  obtain ⟨_,cs0,h0,_⟩:=hA 0 Ad;obtain ⟨_,Jm,GG⟩:=ahw h0;obtain ⟨b,off,spot⟩:=a;have ajf:spot=ahJ:=by have h1:=GG 0 hr;rw [Do (by omega)] at h1;simpa [Addr.add] using World.cell?_spot h1
  subst ajf;refine ⟨b,off,rfl,fun i row mC=>?_⟩;simp only [List.map_map,List.getElem?_map,ab2] at mC;obtain ⟨j,hj,rfl⟩:=mC;have LU:=bZ hj;have:j=i:=by rw [List.getElem?_range (by simpa using LU)] at hj;exact (abg hj).symm
  subst this;have ajg:j<len:=by simpa using LU
  obtain ⟨_,G1,h1,h2⟩:=hA j ajg;obtain ⟨_,NH,AU⟩:=ahw h1;refine ⟨RT.vS r (A j),fun k c hk=>?_⟩;obtain ⟨v,hv,oD⟩:=eD.nth h2 k c hk;have hkr:k<(ahH r):=by
   have:=bZ hk
   rwa [Function.comp,RT.vS] at this
  have cc:=AU k hkr;rw [hv] at cc;rw [Go.WideShapes.add_plain,Go.WideShapes.add_plain] at cc;have LH:c.plain=ahK:=abb.1 (RT.plain r (A j)) c (abn hk);exact ⟨v,oD.plain LH,PL cc⟩)
 rw [bU] at this;exact this
theorem cp.ac3 {t:TypeId} {fs:Array Field} {K:List SV->Prop} (h:cp P t K) (ht:P.underlying t=ahI (.struct fs)) {H:Type} {enc:TypeId×Value->H} {w:World} {oE:Nat} {v:Value} {d:DataW H} {p:List MemPlace}
 (hv:Value.okWide P w .any oE t v) (hd:DataW.Trod enc P w 0 (fun _=>ahK) ahK t v d p): ∃vs q,K vs/\oK vs=ahI q/\VR (GQ w) fC (.agg q) v:=by
 obtain ⟨cs,rfl,_⟩:=okWide_struct ht hv;obtain ⟨Am,hf⟩:=hd;obtain ⟨vs,q,k1,k2,k3⟩:=h H enc w Am _ _ hf;exact ⟨vs,q,k1,k2,.agg q _ k3⟩
theorem wf_i64 {n:Int} (h:(Lit.int .i64 n).wf=ahK): -9223372036854775808<=n/\n<9223372036854775808:=by
 simp only [Lit.wf,pp,decide_eq_true_eq] at h;have e1:IntKind.i64.min= -9223372036854775808:=by decide
 have e2:IntKind.i64.max=9223372036854775807:=by decide
 rw [e1,e2] at h;omega
end
theorem cE.amV {F:kQ} {f:FuncId} {x:aK} {α:Type} {A:au α} {fn:α->Option Bool} (h:cE F f ⟨A,Arg.bool,fn,.pure,ahL⟩) (hf:F f=ahI (.code x)) {a:α} (hb:fn a=ahI ahK) {ps:List PV} (hp:oK (A.enc a)=ahI ps) (hx:B6 [] (xq [] deep) ps=ahI ps):
 ∃n s z,run F n (.func f ps [] [])=ahI (.func (.bool ahK) s z):=by
 obtain ⟨n,r,h1,p,h2,rfl⟩:=h a ahK ps ps [] [] hb hp hx;have hp':p= .bool ahK:=(abg h2).symm;subst hp';refine ⟨n,?_⟩;simp only [cz,hx,hf] at h1;split at h1
 · rename_i v s z hr
   simp only [PP,if_false] at h1;split at h1
   · injection h1 with h1
     injection h1 with h1;subst h1;exact ⟨s,z,hr⟩
   rename_i hn
   split at h1
   · rename_i v' hv
     injection h1 with h1;injection h1 with h1;subst h1;exfalso;cases v with
     |bool b=>exact hn rfl
     |int _ _|str _|sl _ _ _=>injection hv with hv;cases hv
     |agg cs=>simp only [xz,ab2] at hv;obtain ⟨_,_,hv⟩:=hv;cases hv
     |bN cs=>simp only [xz,ab2] at hv;obtain ⟨_,_,hv⟩:=hv;cases hv
     |own t e off len cap ex=>simp only [xz] at hv;split at hv<;>first|(injection hv with hv;cases hv)|cases hv
     |_=>cases hv
   cases h1
 cases h1
end Go.Vm
