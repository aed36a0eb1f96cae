/- The logical machine, part 3: SvCod, SvRel, SvOps1, SvOps2, SvOps3, SvOps4, SvNorm, SvCall, SvFp, SvRun, SvCon, SvLaw. -/
import Derived.Test.YtfejhjllooomlaaGreatAVm2
open Nat renaming eq_of_beq_eq_true->lw,ble->If,beq->IR,le_of_ble_eq_true->NE,beq_refl->abL,lt_or_ge->ack,zero_add->acD,beq_eq->acV,min_eq_left->adF,le_refl->ai1,blt->aig,eq_zero_or_pos->aiN,le_of_lt->aiY,sub_self->ajk
open Bool renaming and_eq_true->rc,false_eq_true->M2,not_eq_true'->aa4,and_self->abK,not_false->ac9,and_true->acJ,not_true->aiH,or_eq_true->aji,true->ajp,false->ajq
open List renaming getElem?_eq_some_iff->ut,getElem?_append_left->v4,getElem?_append_right->v6,getElem?_eq_getElem->AC,getElem?_take_of_lt->Do,getElem?_set->EQ,length_cons->ab0,append_assoc->ab1,append_nil->abH,length_map->abI,map_cons->abJ,replicate->abP,length_take->abQ,map_take->abR,take_of_length_le->abS,all_eq_true->abT,drop_zero->abU,getElem?_cons_succ->abV,map_append->abX,mem_of_getElem?->acg,getElem?_eq_none_iff->acl,map_drop->acr,mem_cons_self->acx,mem_singleton->acy,length_eq_zero_iff->acB,mem_append_right->acH,mem_cons_of_mem->acK,mem_append_left->acO,getElem_of_mem->acP,length_append->acX,getElem?_cons_zero->adk,cons_append->adp,nodup_cons->agd,take_succ_cons->aiA,all_cons->aiD,cons_beq_cons->aiL,range->aiP,map_set->aiS,ext_getElem?->aiZ,map_nil->aj1,flatMap_cons->aj2,mem_map->aj3,any_eq_true->aj8,length_drop->aj9,mem_flatMap->ajf,all_append->ajg,mem_append->ajh,any_cons->ajj,all_map->ajl,length->ajm
open Option.some renaming injEq->ww,inj->abZ
open Int renaming eq_ofNat_of_zero_le->PP,ofNat->ac5,le_trans->acQ
open Prod.mk renaming injEq->UV
open Option renaming map_eq_some_iff->abM,isSome_iff_exists->adc,getD_none->ado,getD_some->aj7,some->ajn,none->ajo
open Go.World renaming cells?_some->aj6
open Decidable renaming decide->ajr
/- The types of arguments and results, as cells. -/
namespace Go.Vm
theorem py {r q:List PT} {l:List (RT r)} {m:List (RT q)} (h:sV r q l=ajn m): ∃e:r=q,m=e▸l:=by
 unfold sV at h;split at h
 · rename_i hs
   injection h with h;exact ⟨vG hs,h.symm⟩
 cases h
theorem Bn {r q:List PT} {l:List (RT r)} {m:List (RT q)} (h:sV r q l=ajn m):r=q/\m.map (RT.pv q)=l.map (RT.pv r)/\ajm m=(ajm l):=by obtain ⟨rfl,rfl⟩:=py h;exact ⟨rfl,rfl,rfl⟩
theorem eZ {x:SV} {xs:List SV} {ps:List PV}:qE (x::xs)=ajn ps↔ ∃p qs,ps=p::qs/\sX x=ajn p/\qE xs=ajn qs:=by
 simp only [qE];constructor
 · intro h
   split at h
   · rename_i y ys h1 h2
     injection h with h;exact ⟨y,ys,h.symm,h1,h2⟩
   cases h
 rintro ⟨p,qs,rfl,h1,h2⟩
 rw [h1,h2]
theorem Au: ∀{xs ys:List SV} {p q:List PV},qE xs=ajn p->qE ys=ajn q->qE (xs++ys)=ajn (p++q)
 | [],ys,p,q,h,k=>by simp only [qE,ww] at h;subst h;exact k
 |x::xs,ys,p,q,h,k=>by obtain ⟨a,as,rfl,h1,h2⟩:=eZ.1 h;exact eZ.2 ⟨a,as++q,rfl,h1,Au h2 k⟩
theorem PT.pZ: ∀{p:PT} {v:SV} {a:p.T},p.of v=ajn a->v=p.sv a
 | .i k,.int l n,a,h=>by
  simp only [PT.of] at h;cases hk:gn l k with
  |false=>rw [hk] at h;cases h
  |true=>rw [hk] at h;injection h with h;subst h;rw [fX.1 hk];rfl
 | .b,.bool x,a,h=>by injection h with h;subst h;rfl
 | .i k,.bool _,a,h=>by cases h
 | .b,.int _ _,a,h=>by cases h
 | .i _,.iz,a,h| .i _,.undef,a,h| .i _,.ke,a,h| .i _,.eo,a,h| .i _,.str _,a,h| .i _,.agg _,a,h| .i _,.b8 _,a,h| .i _,.sl _ _,a,h| .i _,.nil _ _,a,h| .i _,.own _ _,a,h| .i _,.pre _ _ _ _,a,h| .i _,.part _ _ _ _ _,a,h| .i _,.pa _ _ _ _ _,a,h| .i _,.pb _ _ _,a,h| .i _,.bp _ _ _,a,h| .i _,.bM _ _,a,h| .i _,.fh _ _ _,a,h| .i _,.mp _,a,h=>by cases h
 | .b,.iz,a,h| .b,.undef,a,h| .b,.ke,a,h| .b,.eo,a,h| .b,.str _,a,h| .b,.agg _,a,h| .b,.b8 _,a,h| .b,.sl _ _,a,h| .b,.nil _ _,a,h| .b,.own _ _,a,h| .b,.pre _ _ _ _,a,h| .b,.part _ _ _ _ _,a,h| .b,.pa _ _ _ _ _,a,h| .b,.pb _ _ _,a,h| .b,.bp _ _ _,a,h| .b,.bM _ _,a,h| .b,.fh _ _ _,a,h| .b,.mp _,a,h=>by cases h
theorem RT.pZ: ∀{r:List PT} {vs:List SV} {a:RT r},RT.of r vs=ajn a->vs=RT.sv r a
 | [],[],a,_=>rfl
 | [p],[v],a,h=>by have:=PT.pZ (p:=p) h;rw [this];rfl
 |p::q::r,v::vs,a,h=>by
  simp only [RT.of] at h;split at h
  · rename_i x y h1 h2
    injection h with h;subst h;rw [PT.pZ h1,RT.pZ h2];rfl
  cases h
 | [],_::_,a,h=>by simp [RT.of] at h
 | [p],[],a,h=>by simp [RT.of] at h
 | [p],_::_::_,a,h=>by simp [RT.of] at h
 |_::_::_,[],a,h=>by simp [RT.of] at h
theorem PT.Ho (p:PT) (a:p.T):sX (p.sv a)=ajn (p.pv a):=by cases p<;>rfl
theorem RT.Ho: ∀(r:List PT) (a:RT r),qE (RT.sv r a)=ajn (RT.pv r a)
 | [],_=>rfl
 | [p],a=>eZ.2 ⟨_,_,rfl,PT.Ho p a,rfl⟩
 |p::q::r,a=>eZ.2 ⟨_,_,rfl,PT.Ho p a.1,RT.Ho (q::r) a.2⟩
theorem RT.wD: ∀(r:List PT) (a:RT r),(RT.pv r a).length=ajm r
 | [],_=>rfl
 | [p],a=>rfl
 |p::q::r,a=>by simp [RT.pv,RT.wD (q::r) a.2]
theorem RT.IN: ∀(r:List PT) (a:RT r),(RT.sv r a).length=ajm r
 | [],_=>rfl
 | [p],a=>rfl
 |p::q::r,a=>by simp [RT.sv,RT.IN (q::r) a.2]
theorem Hq: ∀(n:Nat) {vs:List SV} {ps:List PV},qE vs=ajn ps-> ∃p q,ps=p++q/\qE (vs.take n)=ajn p/\qE (vs.drop n)=ajn q
 |0,vs,ps,h=>⟨[],ps,rfl,by simp [qE],by simpa using h⟩
 |n+1,[],ps,h=>⟨[],ps,rfl,by simp [qE],by simpa using h⟩
 |n+1,v::vs,ps,h=>by obtain ⟨p,qs,rfl,h1,h2⟩:=eZ.1 h;obtain ⟨a,b,rfl,h3,h4⟩:=Hq n h2;exact ⟨p::a,b,rfl,by rw [aiA];exact eZ.2 ⟨p,a,rfl,h1,h3⟩,by simpa using h4⟩
def cm.int (k:IntKind):cm Int where
 enc n:=[.int k n]
 dec vs:=match vs with
  | .int l n::r=>bif gn l k then ajn (n,r) else ajo
  |_=>ajo
 law:=fun {vs a rest ps} h hp=>by
  split at h
  · rename_i l n r
    cases hk:gn l k with
    |false=>rw [hk] at h;cases h
    |true=>rw [hk] at h;simp only [kw,ww,UV] at h;obtain ⟨rfl,rfl⟩:=h;obtain ⟨p,qs,rfl,h1,h2⟩:=eZ.1 hp;rw [fX.1 hk] at h1;exact ⟨[p],qs,rfl,eZ.2 ⟨p,[],rfl,h1,rfl⟩,h2⟩
  cases h
def cm.bool:cm Bool where
 enc n:=[.bool n]
 dec vs:=match vs with
  | .bool n::r=>ajn (n,r)
  |_=>ajo
 law:=fun {vs a rest ps} h hp=>by
  split at h
  · simp only [ww,UV] at h
    obtain ⟨rfl,rfl⟩:=h;obtain ⟨p,qs,rfl,h1,h2⟩:=eZ.1 hp;exact ⟨[p],qs,rfl,eZ.2 ⟨p,[],rfl,h1,rfl⟩,h2⟩
  cases h
def Ow (r:List PT):SV->Option (List (RT r))
 | .sl q l=>sV q r l
 | .nil e c=>bif IR e (ajm r)&&!c then ajn [] else ajo
 |_=>ajo
theorem Hr {r:List PT} {v:SV} {l:List (RT r)} {p:PV} (h:Ow r v=ajn l) (hp:sX v=ajn p):sX (.sl r l)=ajn p:=by
 cases v with
 |sl q m=>obtain ⟨rfl,h2,_⟩:=Bn h;rw [<- hp];simp only [sX,h2]
 |nil e c=>
  simp only [Ow] at h;cases hc:(IR e (ajm r)&&!c) with
  |false=>rw [hc] at h;cases h
  |true=>rw [hc] at h;injection h with h;subst h;simp only [rc,acV,aa4] at hc;obtain ⟨rfl,rfl⟩:=hc;rw [<- hp];rfl
 |_=>cases h
def cm.sl (r:List PT):cm (List (RT r)) where
 enc l:=[.sl r l]
 dec vs:=match vs with
  |v::rest=>match Ow r v with
   |some l=>ajn (l,rest)
   |none=>ajo
  | []=>ajo
 law:=fun {vs a rest ps} h hp=>by
  split at h
  · split at h
    · rename_i v r' x l hl
      simp only [ww,UV] at h;obtain ⟨rfl,rfl⟩:=h;obtain ⟨p,qs,rfl,h1,h2⟩:=eZ.1 hp;exact ⟨[p],qs,rfl,eZ.2 ⟨p,[],rfl,Hr hl h1,rfl⟩,h2⟩
    cases h
  cases h
def cm.row (r:List PT):cm (RT r) where
 enc:=RT.sv r
 dec vs:=match RT.of r (vs.take (ajm r)) with
  |some a=>ajn (a,vs.drop (ajm r))
  |none=>ajo
 law:=fun {vs a rest ps} h hp=>by
  split at h
  · rename_i x hx
    simp only [ww,UV] at h;obtain ⟨rfl,rfl⟩:=h;obtain ⟨p,q,rfl,h1,h2⟩:=Hq (ajm r) hp;rw [RT.pZ hx] at h1;exact ⟨p,q,rfl,h1,h2⟩
  cases h
def cm.prod {α β:Type} (A:cm α) (B:cm β):cm (α×β) where
 enc p:=A.enc p.1++B.enc p.2
 dec vs:=match A.dec vs with
  |some p=>match B.dec p.2 with
   |some q=>ajn ((p.1,q.1),q.2)
   |none=>ajo
  |none=>ajo
 law:=fun {vs a rest ps} h hp=>by
  split at h
  · rename_i p hA
    split at h
    · rename_i q hB
      simp only [ww,UV] at h;obtain ⟨rfl,rfl⟩:=h;obtain ⟨p1,p2,rfl,h1,h2⟩:=A.law (a:=p.1) (rest:=p.2) hA hp;obtain ⟨q1,q2,rfl,h3,h4⟩:=B.law (a:=q.1) (rest:=q.2) hB h2;exact ⟨p1++q1,q2,by simp,Au h1 h3,h4⟩
    cases h
  cases h
def cm.iso {α β:Type} (A:cm α) (f:α->β) (g:β->α) (h: ∀a,g (f a)=a):cm β where
 enc b:=A.enc (g b)
 dec vs:=match A.dec vs with
  |some p=>ajn (f p.1,p.2)
  |none=>ajo
 law:=fun {vs a rest ps} hd hp=>by
  split at hd
  · rename_i p hA
    simp only [ww,UV] at hd;obtain ⟨rfl,rfl⟩:=hd;rw [h];exact A.law hA hp
  cases hd
def Arg.int (k:IntKind):Arg Int where
 enc n:= .int k n
 dec v:=match v with
  | .int l n=>bif gn l k then ajn n else ajo
  |_=>ajo
 law:=fun {v a p} h hp=>by
  split at h
  · rename_i l n
    cases hk:gn l k with
    |false=>rw [hk] at h;cases h
    |true=>rw [hk] at h;injection h with h;subst h;rw [fX.1 hk] at hp;exact hp
  cases h
def Arg.bool:Arg Bool where
 enc n:= .bool n
 dec v:=match v with
  | .bool n=>ajn n
  |_=>ajo
 law:=fun {v a p} h hp=>by
  split at h
  · injection h with h;subst h;exact hp
  cases h
def Arg.sl (r:List PT):Arg (List (RT r)) where
 enc l:= .sl r l
 dec:=Ow r
 law:=Hr
def Arg.agg {α:Type} (A:cm α):Arg α where
 enc a:= .agg (A.enc a)
 dec v:=match v with
  | .agg cs=>match A.dec cs with
   |some p=>match p.2 with
    | []=>ajn p.1
    |_=>ajo
   |none=>ajo
  |_=>ajo
 law:=fun {v a p} h hp=>by
  split at h
  · rename_i cs
    split at h
    · rename_i q hA
      obtain ⟨x,rest⟩:=q;dsimp only at h;cases rest with
      |cons _ _=>cases h
      |nil=>
       injection h with h;subst h;simp only [sX] at hp;cases hc:qE cs with
       |none=>rw [hc] at hp;cases hp
       |some l=>rw [hc] at hp;injection hp with hp;subst hp;obtain ⟨p1,p2,rfl,h1,h2⟩:=A.law hA hc;simp only [qE,ww] at h2;subst h2;simp only [sX,h1,abH]
    cases h
  cases h
def Arg.ref {α:Type} (A:cm α):Arg α where
 enc a:= .bM (A.enc a) 0
 dec v:=match v with
  | .bM cs 0=>match A.dec cs with
   |some p=>match p.2 with
    | []=>ajn p.1
    |_=>ajo
   |none=>ajo
  |_=>ajo
 law:=fun {v a p} h hp=>by
  split at h
  · rename_i cs
    split at h
    · rename_i q hA
      obtain ⟨x,rest⟩:=q;dsimp only at h;cases rest with
      |cons _ _=>cases h
      |nil=>
       injection h with h;subst h;simp only [sX] at hp;cases hc:qE cs with
       |none=>rw [hc] at hp;cases hp
       |some l=>rw [hc] at hp;injection hp with hp;subst hp;obtain ⟨p1,p2,rfl,h1,h2⟩:=A.law hA hc;simp only [qE,ww] at h2;subst h2;simp only [sX,h1,abH]
    cases h
  cases h
def ax.nil:ax Unit where
 enc _:=[]
 dec vs:=match vs with
  | []=>ajn ()
  |_=>ajo
 law:=fun {vs a ps} h hp=>by
  split at h
  · exact hp
  cases h
def ax.one {α:Type} (A:Arg α):ax α where
 enc a:=[A.enc a]
 dec vs:=match vs with
  | [v]=>A.dec v
  |_=>ajo
 law:=fun {vs a ps} h hp=>by
  split at h
  · obtain ⟨p,qs,rfl,h1,h2⟩:=eZ.1 hp
    exact eZ.2 ⟨p,qs,rfl,A.law h h1,h2⟩
  cases h
def ax.cons {α β:Type} (A:Arg α) (B:ax β):ax (α×β) where
 enc a:=A.enc a.1::B.enc a.2
 dec vs:=match vs with
  |v::r=>match A.dec v with
   |some x=>match B.dec r with
    |some y=>ajn (x,y)
    |none=>ajo
   |none=>ajo
  | []=>ajo
 law:=fun {vs a ps} h hp=>by
  split at h
  · split at h
    · rename_i x hx
      split at h
      · rename_i y hy
        injection h with h;subst h;obtain ⟨p,qs,rfl,h1,h2⟩:=eZ.1 hp;exact eZ.2 ⟨p,qs,rfl,A.law hx h1,B.law hy h2⟩
      cases h
    cases h
  cases h
def Arg.b8 {α:Type} (A:ax α):Arg α where
 enc a:= .b8 (A.enc a)
 dec v:=match v with
  | .b8 vs=>A.dec vs
  |_=>ajo
 law:=fun {v a p} h hp=>by
  split at h
  · rename_i vs
    simp only [sX] at hp;cases hc:qE vs with
    |none=>rw [hc] at hp;cases hp
    |some l=>rw [hc] at hp;injection hp with hp;subst hp;simp only [sX,A.law h hc]
  cases h
def Arg.fh {α:Type} (f:FuncId) (A:ax α):Arg α where
 enc a:= .fh f [] (A.enc a)
 dec v:=match v with
  | .fh g [] b=>bif IR g f then A.dec b else ajo
  |_=>ajo
 law:=fun {v a p} h hp=>by
  split at h
  · rename_i g b
    cases hg:IR g f with
    |false=>rw [hg] at h;cases h
    |true=>
     rw [hg] at h;have:=lw hg;subst this;simp only [sX,qE] at hp ⊢;cases hc:qE b with
     |none=>rw [hc] at hp;cases hp
     |some l=>rw [hc] at hp;rw [A.law h hc];exact hp
  cases h
def sY.clone (r:List PT):sY:=⟨.one (.sl r),.sl r,bN,.own,ajq⟩
def pz (a b c:Int):Option (Int×Int):=bif ajr (0<=a)&&ajr (0<=b)&&ajr (0<=c)&&ajr (c<=1) then ajn ((a+b+c)%18446744073709551616,(a+b+c) / 18446744073709551616) else ajo
def sY.Ox:sY:=⟨.cons (.int .u64) (.cons (.int .u64) (.one (.int .u64))),.b8 (.cons (.int .u64) (.one (.int .u64))),fun a=>pz a.1 a.2.1 a.2.2,.pure,ajq⟩
def Hs:List (Nat×sY)->FuncId->List sY
 | [],_=>[]
 |(g,c)::r,f=>bif IR g f then c::Hs r f else Hs r f
def Ht:List (Nat×dG)->FuncId->List dG
 | [],_=>[]
 |(g,c)::r,f=>bif IR g f then c::Ht r f else Ht r f
def Fb:List (Nat×Cd)->FuncId->Option Cd
 | [],_=>ajo
 |(g,c)::r,f=>bif IR g f then ajn c else Fb r f
def jJ (lp:Option Nat) (c:List (Nat×sY)) (p:List (Nat×dG)) (x:List (Nat×Cd)) (rk:List (Nat×List PT)):Ctx:=⟨lp,Hs c,Ht p,Fb x,rk,ajq⟩
def acj (lp:Option Nat) (c:List (Nat×sY)) (p:List (Nat×dG)) (x:List (Nat×Cd)) (rk:List (Nat×List PT)):Ctx:=⟨lp,Hs c,Ht p,Fb x,rk,ajp⟩
end Go.Vm
/- What a typed value says of a value of the logical machine. -/
namespace Go.Vm
def OwnAt (s:List SB) (t e n:Nat):Prop:=(∃r l,s[t]? =ajn (.arr r l)/\e=ajm r/\n=ajm l)\/s[t]? =ajn .dead
def zU (s:List SB) (t e:Nat):Prop:=(∃r l,s[t]? =ajn (.arr r l)/\e=ajm r)\/s[t]? =ajn .dead\/(∃cs,s[t]? =ajn (.box cs)/\e=1)
def Su (s:List SB) (t:Nat) (r:List PT) (i:Int) (a:RT r):Prop:=(∃l,s[t]? =ajn (.arr r l)/\aE l i=ajn a)\/s[t]? =ajn .dead
def adt (s:List SB) (t:Nat) (i:Int):Prop:=(∃r l,s[t]? =ajn (.arr r l)/\(aE l i).isSome=ajp)\/s[t]? =ajn .dead
mutual
def R (s:List SB):SV->PV->Prop
 | .iz,_=>True
 | .undef,v=>v= .undef
 | .ke,v=>v= .ke
 | .eo,v=>v= .eo
 | .int k n,v=>v= .int k n
 | .bool b,v=>v= .bool b
 | .str x,v=>v= .str x
 | .agg cs,v=> ∃ps,v= .agg ps/\RL s cs ps
 | .b8 cs,v=> ∃ps,v= .b8 ps/\RL s cs ps
 | .sl r l,v=>v= .sl (ajm r) ajq (l.map (RT.pv r))
 | .nil e c,v=>v= .sl e c []
 | .own t ex,v=> ∃e n,v= .own t e 0 n n ex/\OwnAt s t e n
 | .pre t len cap ex,v=> ∃e,v= .own t e 0 len cap ex/\zU s t e
 | .part t off len cap ex,v=> ∃e,v= .own t e off len cap ex/\zU s t e
 | .pa t r i a off,v=>v= .ptr t (ajm r) i.toNat off/\Su s t r i a
 | .pb t i off,v=> ∃e,v= .ptr t e i.toNat off/\adt s t i
 | .bp t n off,v=>v= .ptr t n 0 off
 | .bM cs off,v=> ∃ps,v= .bM ps off/\RL s cs ps
 | .fh f a b,v=> ∃pa pb,v= .fh f pa pb/\RL s a pa/\RL s b pb
 | .mp t,v=>v= .mp t
def RL (s:List SB):List SV->List PV->Prop
 | [],ps=>ps=[]
 |x::xs,ps=> ∃p q,ps=p::q/\R s x p/\RL s xs q
end
def tG:List Int->PV
 | [a]=> .int .i64 a
 |l=> .agg (l.map (.int .i64))
def Bo (k:List Int):PV×PV:=(tG k,.bool ajp)
def DQ (p:PT) (a:RT [.i .i64,p]):PV×PV:=(.int .i64 a.1,p.pv a.2)
def RB (s:List SB):SB->lz->Prop
 | .arr r l,b=>b= .arr (ajm r) (l.map (RT.pv r))
 | .box cs,b=> ∃ps,b= .box ps/\RL s cs ps
 | .set l,b=>b= .map (l.map Bo)
 | .bC p l,b=>b= .map (l.map (DQ p))
 | .dead,b=>b= .dead
structure cD (s:List SB) (p:cI):Prop where
 len:(ajm p)=ajm s
 at_: ∀(t:Nat) (b:SB),s[t]? =ajn b-> ∃q,p[t]? =ajn q/\RB s b q
def eg (s:List SB):SE->Env->Prop
 | [],e=>e=[]
 |(t,v)::r,e=> ∃p q,e=(t,p)::q/\R s v p/\eg s r q
structure zg (st:pq) (p:St):Prop where
 env:eg st.aD st.env p.env
 aD:cD st.aD p.aD
 fz:p.fz=st.fz
 kn:p.kn=st.kn
theorem mQ: ∀(s l:List SB),apS s l=s++l
 | [],_=>rfl
 |b::r,l=>by simp [apS,mQ r l]
theorem Bp: ∀(s:List SB) (t:Nat) (b:SB),So s t b=s.set t b
 | [],_,_=>by simp [So]
 |_::_,0,_=>rfl
 |x::r,n+1,b=>by simp [So,Bp r n b]
theorem RL.nil {s:List SB}:RL s [] []:=rfl
theorem RL.cons {s:List SB} {x:SV} {xs:List SV} {p:PV} {q:List PV} (h:R s x p) (k:RL s xs q):RL s (x::xs) (p::q):=⟨p,q,rfl,h,k⟩
theorem RL.cons_inv {s:List SB} {x:SV} {xs:List SV} {ps:List PV} (h:RL s (x::xs) ps): ∃p q,ps=p::q/\R s x p/\RL s xs q:=h
theorem RL.nm {s:List SB}: ∀{xs:List SV} {ps:List PV},RL s xs ps->ajm ps=ajm xs
 | [],ps,h=>by rw [show ps=[] from h];rfl
 |x::xs,ps,h=>by obtain ⟨p,q,rfl,_,h2⟩:=h.cons_inv;simp [h2.nm]
theorem RL.append {s:List SB}: ∀{xs:List SV} {ps:List PV},RL s xs ps-> ∀{ys:List SV} {qs:List PV},RL s ys qs->RL s (xs++ys) (ps++qs)
 | [],ps,h,_,_,k=>by rw [show ps=[] from h];exact k
 |x::xs,ps,h,_,_,k=>by obtain ⟨p,q,rfl,h1,h2⟩:=h.cons_inv;exact RL.cons h1 (h2.append k)
theorem RL.take {s:List SB}: ∀{xs:List SV} {ps:List PV},RL s xs ps-> ∀n,RL s (xs.take n) (ps.take n)
 | [],ps,h,n=>by rw [show ps=[] from h];simp;exact RL.nil
 |x::xs,ps,h,0=>by simp;exact RL.nil
 |x::xs,ps,h,n+1=>by obtain ⟨p,q,rfl,h1,h2⟩:=h.cons_inv;exact RL.cons h1 (h2.take n)
theorem RL.drop {s:List SB}: ∀{xs:List SV} {ps:List PV},RL s xs ps-> ∀n,RL s (xs.drop n) (ps.drop n)
 | [],ps,h,n=>by rw [show ps=[] from h];simp;exact RL.nil
 |x::xs,ps,h,0=>h
 |x::xs,ps,h,n+1=>by obtain ⟨p,q,rfl,h1,h2⟩:=h.cons_inv;exact h2.drop n
theorem RL.nth {s:List SB}: ∀{xs:List SV} {ps:List PV},RL s xs ps-> ∀{n:Nat} {v:SV},Vm.nth xs n=ajn v-> ∃p,ps[n]? =ajn p/\R s v p
 | [],_,_,_,_,e=>by cases e
 |x::xs,ps,h,0,v,e=>by obtain ⟨p,q,rfl,h1,_⟩:=h.cons_inv;injection e with e;subst e;exact ⟨p,rfl,h1⟩
 |x::xs,ps,h,n+1,v,e=>by obtain ⟨p,q,rfl,_,h2⟩:=h.cons_inv;obtain ⟨p',h3,h4⟩:=h2.nth (n:=n) e;exact ⟨p',by simpa using h3,h4⟩
mutual
theorem MR (s:List SB): ∀v:PV,R s (Vq v) v
 | .undef=>rfl
 | .ke=>rfl
 | .eo=>rfl
 | .int _ _=>rfl
 | .bool _=>rfl
 | .str _=>rfl
 | .agg cs=>⟨cs,rfl,wE s cs⟩
 | .b8 cs=>⟨cs,rfl,wE s cs⟩
 | .sl e c rows=>by
  cases rows with
  |nil=>exact rfl
  |cons _ _=>trivial
 | .fh f a b=>⟨a,b,rfl,wE s a,wE s b⟩
 | .own .. =>trivial
 | .ptr .. =>trivial
 | .bM .. =>trivial
 | .mp _=>trivial
theorem wE (s:List SB): ∀l:List PV,RL s (Bj l) l
 | []=>rfl
 |x::xs=>RL.cons (MR s x) (wE s xs)
end
theorem eg.lk {s:List SB}: ∀{e:SE} {p:Env},eg s e p-> ∀t,R s (Di t e) (Vm.lk t p)
 | [],p,h,t=>by rw [show p=[] from h];rfl
 |(u,v)::r,p,h,t=>by
  obtain ⟨q,qs,rfl,h1,h2⟩:=h;simp only [Di,Vm.lk];cases hb:IR u t with
  |true=>exact h1
  |false=>exact eg.lk h2 t
theorem eg.Ao {s:List SB}: ∀{e:SE} {p:Env},eg s e p-> ∀{t:Nat} {v:SV},R s v (Vm.lk t p)->eg s (Vm.Ao t v e) p
 | [],p,h,t,v,_=>h
 |(u,x)::r,p,h,t,v,hv=>by
  obtain ⟨q,qs,rfl,h1,h2⟩:=h;simp only [Vm.Ao];simp only [Vm.lk] at hv;cases hb:IR u t with
  |true=>rw [hb] at hv;exact ⟨q,qs,rfl,hv,h2⟩
  |false=>rw [hb] at hv;exact ⟨q,qs,rfl,h1,eg.Ao h2 hv⟩
theorem dS {s:List SB} {e:SE} {p:Env} (h:eg s e p): ∀x:fU,R s (bX e x) (x.ev p)
 | .t n=>h.lk n
 | .c v=>MR s v
theorem zh {s:List SB} {e:SE} {p:Env} (h:eg s e p): ∀l:List fU,RL s (kv e l) (Eh p l)
 | []=>rfl
 |x::xs=>RL.cons (dS h x) (zh h xs)
def Fr (bad:List Nat) (s s':List SB):Prop:= ∀(t:Nat) (b:SB),s[t]? =ajn b->match b with
 | .arr r l=>(∃l',s'[t]? =ajn (.arr r l')/\ajm l'=ajm l/\(has bad t=ajq->l'=l))\/s'[t]? =ajn .dead
 | .dead=>s'[t]? =ajn .dead
 | .box _=>(∃cs,s'[t]? =ajn (.box cs))\/s'[t]? =ajn .dead
 |_=>True
theorem Fr.refl (bad:List Nat) (s:List SB):Fr bad s s:=fun t b h=>by
 cases b with
 |arr r l=>exact .inl ⟨l,h,rfl,fun _=>rfl⟩
 |dead=>exact h
 |box cs=>exact .inl ⟨cs,h⟩
 |_=>trivial
theorem Fr.app (bad:List Nat) (s l:List SB):Fr bad s (s++l):=fun t b h=>by
 have h':(s++l)[t]? =ajn b:=by have:=(ut.1 h).1;rw [v4 this];exact h
 cases b with
 |arr r l=>exact .inl ⟨l,h',rfl,fun _=>rfl⟩
 |dead=>exact h'
 |box cs=>exact .inl ⟨cs,h'⟩
 |_=>trivial
theorem Fr.trans {bad:List Nat} {a b c:List SB} (h:Fr bad a b) (k:Fr bad b c):Fr bad a c:=fun t x hx=>by
 have h1:=h t x hx;cases x with
 |arr r l=>
  rcases h1 with ⟨l',h2,h3,h4⟩|h2
  · have k1:=k t _ h2
    rcases k1 with ⟨l2,k2,k3,k4⟩|k2
    · exact .inl ⟨l2,k2,k3.trans h3,fun hb=>(k4 hb).trans (h4 hb)⟩
    exact .inr k2
  exact .inr (k t _ h2)
 |dead=>exact k t _ h1
 |box cs=>
  rcases h1 with ⟨c2,h2⟩|h2
  · exact k t _ h2
  exact .inr (k t _ h2)
 |_=>trivial
theorem Dm {α:Type} {l m:List α} {i:Int} (h:(aE l i).isSome=ajp) (hl:(ajm m)=ajm l):(aE m i).isSome=ajp:=by
 cases i with
 |ofNat n=>simp only [aE] at h ⊢;rw [adc] at h;obtain ⟨a,ha⟩:=h;have:=(ut.1 ha).1;rw [AC (by omega)];rfl
 |negSucc n=>simp [aE] at h
mutual
theorem R.fr {bad:List Nat} {s s':List SB} (hf:Fr bad s s'): ∀{v:SV} {p:PV},R s v p->R s' (UK bad v) p
 | .iz,_,_=>trivial
 | .undef,_,h=>h
 | .ke,_,h=>h
 | .eo,_,h=>h
 | .int _ _,_,h=>h
 | .bool _,_,h=>h
 | .str _,_,h=>h
 | .agg cs,_,h=>by obtain ⟨ps,rfl,h⟩:=h;exact ⟨ps,rfl,RL.fr hf h⟩
 | .b8 cs,_,h=>by obtain ⟨ps,rfl,h⟩:=h;exact ⟨ps,rfl,RL.fr hf h⟩
 | .sl _ _,_,h=>h
 | .nil _ _,_,h=>h
 | .own t ex,_,h=>by
  obtain ⟨e,n,rfl,h⟩:=h;refine ⟨e,n,rfl,?_⟩;rcases h with ⟨r,l,h1,h2,h3⟩|h1
  · rcases hf t _ h1 with ⟨l',k1,k2,_⟩|k1
    · exact .inl ⟨r,l',k1,h2,by rw [h3,k2]⟩
    exact .inr k1
  exact .inr (hf t _ h1)
 | .pre t len cap ex,_,h=>by
  obtain ⟨e,rfl,h⟩:=h;refine ⟨e,rfl,?_⟩;rcases h with ⟨r,l,h1,h2⟩|h1|⟨cs,h1,h2⟩
  · rcases hf t _ h1 with ⟨l',k1,_,_⟩|k1
    · exact .inl ⟨r,l',k1,h2⟩
    exact .inr (.inl k1)
  · exact .inr (.inl (hf t _ h1))
  rcases hf t _ h1 with ⟨c2,k1⟩|k1
  · exact .inr (.inr ⟨c2,k1,h2⟩)
  exact .inr (.inl k1)
 | .part t off len cap ex,_,h=>by
  obtain ⟨e,rfl,h⟩:=h;refine ⟨e,rfl,?_⟩;rcases h with ⟨r,l,h1,h2⟩|h1|⟨cs,h1,h2⟩
  · rcases hf t _ h1 with ⟨l',k1,_,_⟩|k1
    · exact .inl ⟨r,l',k1,h2⟩
    exact .inr (.inl k1)
  · exact .inr (.inl (hf t _ h1))
  rcases hf t _ h1 with ⟨c2,k1⟩|k1
  · exact .inr (.inr ⟨c2,k1,h2⟩)
  exact .inr (.inl k1)
 | .pa t r i a off,_,h=>by
  obtain ⟨rfl,h⟩:=h;simp only [UK];cases hb:has bad t with
  |true=>
   refine ⟨_,rfl,?_⟩;rcases h with ⟨l,h1,h2⟩|h1
   · rcases hf t _ h1 with ⟨l',k1,k2,_⟩|k1
     · exact .inl ⟨r,l',k1,Dm (by rw [h2];rfl) k2⟩
     exact .inr k1
   exact .inr (hf t _ h1)
  |false=>
   refine ⟨rfl,?_⟩;rcases h with ⟨l,h1,h2⟩|h1
   · rcases hf t _ h1 with ⟨l',k1,_,k3⟩|k1
     · exact .inl ⟨l',k1,by rw [k3 hb];exact h2⟩
     exact .inr k1
   exact .inr (hf t _ h1)
 | .pb t i off,_,h=>by
  obtain ⟨e,rfl,h⟩:=h;refine ⟨e,rfl,?_⟩;rcases h with ⟨r,l,h1,h2⟩|h1
  · rcases hf t _ h1 with ⟨l',k1,k2,_⟩|k1
    · exact .inl ⟨r,l',k1,Dm h2 k2⟩
    exact .inr k1
  exact .inr (hf t _ h1)
 | .bp _ _ _,_,h=>h
 | .bM cs off,_,h=>by obtain ⟨ps,rfl,h⟩:=h;exact ⟨ps,rfl,RL.fr hf h⟩
 | .fh f a b,_,h=>by obtain ⟨pa,pb,rfl,h1,h2⟩:=h;exact ⟨pa,pb,rfl,RL.fr hf h1,RL.fr hf h2⟩
 | .mp _,_,h=>h
theorem RL.fr {bad:List Nat} {s s':List SB} (hf:Fr bad s s'): ∀{v:List SV} {p:List PV},RL s v p->RL s' (Sn bad v) p
 | [],_,h=>h
 |x::xs,_,h=>by obtain ⟨p,q,rfl,h1,h2⟩:=h.cons_inv;exact RL.cons (R.fr hf h1) (RL.fr hf h2)
end
mutual
theorem Oy: ∀v:SV,UK [] v=v
 | .iz| .undef| .ke| .eo| .int _ _| .bool _| .str _| .sl _ _| .nil _ _| .own _ _| .pre _ _ _ _| .part _ _ _ _ _| .pb _ _ _| .bp _ _ _| .mp _=>rfl
 | .agg cs=>by simp only [UK,tV cs]
 | .b8 cs=>by simp only [UK,tV cs]
 | .bM cs _=>by simp only [UK,tV cs]
 | .fh _ a b=>by simp only [UK,tV a,tV b]
 | .pa t r i a off=>by simp [UK,has]
theorem tV: ∀v:List SV,Sn [] v=v
 | []=>rfl
 |x::xs=>by simp only [Sn,Oy x,tV xs]
end
theorem R.ext {s s':List SB} (hf:Fr [] s s') {v:SV} {p:PV} (h:R s v p):R s' v p:=by
 have:=R.fr hf h
 rwa [Oy] at this
theorem RL.ext {s s':List SB} (hf:Fr [] s s') {v:List SV} {p:List PV} (h:RL s v p):RL s' v p:=by
 have:=RL.fr hf h
 rwa [tV] at this
theorem RB.fr {bad:List Nat} {s s':List SB} (hf:Fr bad s s') {b:SB} {p:lz} (h:RB s b p):RB s' (Vv bad b) p:=by
 cases b with
 |box cs=>obtain ⟨ps,rfl,h⟩:=h;exact ⟨ps,rfl,RL.fr hf h⟩
 |_=>exact h
theorem RB.ext {s s':List SB} (hf:Fr [] s s') {b:SB} {p:lz} (h:RB s b p):RB s' b p:=by
 cases b with
 |box cs=>obtain ⟨ps,rfl,h⟩:=h;exact ⟨ps,rfl,RL.ext hf h⟩
 |_=>exact h
theorem eg.fr {bad:List Nat} {s s':List SB} (hf:Fr bad s s'): ∀{e:SE} {p:Env},eg s e p->eg s' (dgE bad e) p
 | [],_,h=>h
 |(t,v)::r,_,h=>by obtain ⟨p,q,rfl,h1,h2⟩:=h;exact ⟨p,q,rfl,R.fr hf h1,eg.fr hf h2⟩
theorem eg.ext {s s':List SB} (hf:Fr [] s s'): ∀{e:SE} {p:Env},eg s e p->eg s' e p
 | [],_,h=>h
 |(t,v)::r,_,h=>by obtain ⟨p,q,rfl,h1,h2⟩:=h;exact ⟨p,q,rfl,R.ext hf h1,eg.ext hf h2⟩
theorem cD.app {s:List SB} {p:cI} (h:cD s p) {l:List SB} {q:cI} (hl:(ajm q)=ajm l) (hb: ∀(j:Nat) (b:SB),l[j]? =ajn b-> ∃x,q[j]? =ajn x/\RB (s++l) b x):cD (s++l) (p++q) where
 len:=by simp [h.len,hl]
 at_:=fun t b ht=>by
  rcases ack t (ajm s) with dW|hge
  · rw [v4 dW] at ht
    obtain ⟨x,h1,h2⟩:=h.at_ t b ht;exact ⟨x,by rw [v4 (by rw [h.len];exact dW)];exact h1,h2.ext (Fr.app [] s l)⟩
  rw [v6 hge] at ht
  obtain ⟨x,h1,h2⟩:=hb _ b ht;exact ⟨x,by rw [v6 (by rw [h.len];exact hge),h.len];exact h1,h2⟩
theorem sf (ts:List Nat): ∀(s:List SB) (t:Nat),(B4 ts s)[t]? =(s[t]?).map (Vv ts)
 | [],t=>by simp [B4]
 |b::r,0=>by simp [B4]
 |b::r,t+1=>by simp [B4,sf ts r t]
theorem wF (ts:List Nat): ∀(s:List SB),(B4 ts s).length=ajm s
 | []=>rfl
 |b::r=>by simp [B4,wF ts r]
theorem Fr.dg {bad ts:List Nat} {s s':List SB} (h:Fr bad s s'):Fr bad s (B4 ts s'):=fun t b hb=>by
 have h1:=h t b hb;cases b with
 |arr r l=>
  rcases h1 with ⟨l',h2,h3,h4⟩|h2
  · exact .inl ⟨l',by rw [sf,h2];rfl,h3,h4⟩
  exact .inr (by rw [sf,h2];rfl)
 |dead=>show (B4 ts s')[t]? =_;rw [sf,h1];rfl
 |box cs=>
  rcases h1 with ⟨c2,h2⟩|h2
  · exact .inl ⟨Sn ts c2,by rw [sf,h2];rfl⟩
  exact .inr (by rw [sf,h2];rfl)
 |_=>trivial
theorem Hu {s:List SB}: ∀(r:List PT) (a:RT r),RL s (RT.sv r a) (RT.pv r a)
 | [],_=>rfl
 | [p],a=>by refine RL.cons ?_ RL.nil;cases p<;>rfl
 |p::q::r,a=>by refine RL.cons ?_ (Hu (q::r) a.2);cases p<;>rfl
theorem zi {s:List SB}: ∀(r:List PT) (a:RT r) {ps:List PV},RL s (RT.sv r a) ps->ps=RT.pv r a
 | [],_,ps,h=>h
 | [p],a,ps,h=>by obtain ⟨x,q,rfl,h1,h2⟩:=h.cons_inv;have Qd:q=[]:=h2;subst Qd;cases p<;>(have L2:=h1;simp only [PT.sv,R] at L2;rw [L2];rfl)
 |p::q::r,a,ps,h=>by obtain ⟨x,qs,rfl,h1,h2⟩:=h.cons_inv;rw [zi (q::r) a.2 h2];cases p<;>(have L2:=h1;simp only [PT.sv,R] at L2;rw [L2];rfl)
theorem RT.plain: ∀(r:List PT) (a:RT r),(RT.pv r a).all PV.plain=ajp
 | [],_=>rfl
 | [p],a=>by cases p<;>rfl
 |p::q::r,a=>by have:=RT.plain (q::r) a.2;cases p<;>(simp only [RT.pv,aiD,this,acJ];rfl)
theorem R.cells {s:List SB} {v:SV} {p:PV} (h:R s v p) (hj:v≠ .iz):RL s v.cells p.cells:=by
 cases v with
 |iz=>exact absurd rfl hj
 |agg cs=>obtain ⟨ps,rfl,h⟩:=h;exact h
 |undef=>rw [show p= .undef from h];exact RL.cons rfl RL.nil
 |ke=>rw [show p= .ke from h];exact RL.cons rfl RL.nil
 |eo=>rw [show p= .eo from h];exact RL.cons rfl RL.nil
 |int k n=>rw [show p= .int k n from h];exact RL.cons rfl RL.nil
 |bool b=>rw [show p= .bool b from h];exact RL.cons rfl RL.nil
 |str x=>rw [show p= .str x from h];exact RL.cons rfl RL.nil
 |sl r l=>rw [show p=_ from h];exact RL.cons rfl RL.nil
 |nil e c=>rw [show p=_ from h];exact RL.cons rfl RL.nil
 |bp t n o=>rw [show p=_ from h];exact RL.cons rfl RL.nil
 |mp t=>rw [show p=_ from h];exact RL.cons rfl RL.nil
 |b8 cs=>obtain ⟨ps,rfl,h⟩:=h;exact RL.cons ⟨ps,rfl,h⟩ RL.nil
 |own t ex=>obtain ⟨e,n,rfl,h⟩:=h;exact RL.cons ⟨e,n,rfl,h⟩ RL.nil
 |pre t a b c=>obtain ⟨e,rfl,h⟩:=h;exact RL.cons ⟨e,rfl,h⟩ RL.nil
 |part t o a b c=>obtain ⟨e,rfl,h⟩:=h;exact RL.cons ⟨e,rfl,h⟩ RL.nil
 |pa t r i a o=>obtain ⟨rfl,h⟩:=h;exact RL.cons ⟨rfl,h⟩ RL.nil
 |pb t i o=>obtain ⟨e,rfl,h⟩:=h;exact RL.cons ⟨e,rfl,h⟩ RL.nil
 |bM cs o=>obtain ⟨ps,rfl,h⟩:=h;exact RL.cons ⟨ps,rfl,h⟩ RL.nil
 |fh f a b=>obtain ⟨pa,pb,rfl,h⟩:=h;exact RL.cons ⟨pa,pb,rfl,h⟩ RL.nil
theorem R.qt {s:List SB} {v:SV} {p:PV} (h:R s v p) (ho:v.qt=ajp):p.qt=ajp:=by
 cases v with
 |iz|undef|ke|agg _|b8 _=>cases ho
 |eo|int _ _|bool _|str _|sl _ _|nil _ _|bp _ _ _|mp _=>rw [show p=_ from h];rfl
 |own t ex=>obtain ⟨e,n,rfl,h⟩:=h;rfl
 |pre t a b c=>obtain ⟨e,rfl,h⟩:=h;rfl
 |part t o a b c=>obtain ⟨e,rfl,h⟩:=h;rfl
 |pa t r i a o=>obtain ⟨rfl,h⟩:=h;rfl
 |pb t i o=>obtain ⟨e,rfl,h⟩:=h;rfl
 |bM cs o=>obtain ⟨ps,rfl,h⟩:=h;rfl
 |fh f a b=>obtain ⟨pa,pb,rfl,h⟩:=h;rfl
theorem RL.yk {s:List SB}: ∀{cs:List SV} {ps:List PV},RL s cs ps->Vm.yk cs=ajp->ps.all PV.qt=ajp
 | [],ps,h,_=>by rw [show ps=[] from h];rfl
 |x::xs,ps,h,ho=>by obtain ⟨p,q,rfl,h1,h2⟩:=h.cons_inv;simp only [Vm.yk,rc] at ho;simp only [aiD,rc];exact ⟨h1.qt ho.1,h2.yk ho.2⟩
theorem R.stored {s:List SB} {v:SV} {p:PV} {w:List SV} (h:R s v p) (hs:v.stored=ajn w): ∃q,p.stored=ajn q/\RL s w q:=by
 unfold SV.stored at hs;cases ha:Vm.yk v.cells with
 |false=>rw [ha] at hs;cases hs
 |true=>
  rw [ha] at hs;injection hs with hs;subst hs;have hj:v≠ .iz:=by intro e;subst e;cases ha
  have hc:=h.cells hj;exact ⟨p.cells,by unfold PV.stored;rw [lm (hc.yk ha)],hc⟩
theorem R.ofRow {s:List SB} {v:SV} {p:PV} {r:List PT} {a:RT r} (h:R s v p) (hr:RT.of r v.cells=ajn a):p.cC=ajn (RT.pv r a)/\ajm v.cells=(ajm r):=by
 have hc:=RT.pZ hr;have hl:(ajm v.cells)=(ajm r):=by rw [hc,RT.IN]
 refine ⟨?_,hl⟩;have hj:v≠ .iz:=by
  intro e;subst e;cases r with
  |nil=>simp [SV.cells,RT.of] at hr
  |cons p q=>cases q with
   |nil=>cases p<;>simp [SV.cells,RT.of,PT.of] at hr
   |cons _ _=>simp only [SV.cells,RT.of] at hr;split at hr<;>cases hr<;>(rename_i x y h1 h2;simp at h2)
 have h1:=h.cells hj;rw [hc] at h1;have h2:=zi r a h1;unfold PV.cC;rw [h2,lm (RT.plain r a)]
theorem tX {s:List SB} {agg:Option Nat} {off:Nat} {cs:List SV} {ps:List PV} {v:SV} (h:RL s cs ps) (hp:zR agg off cs=ajn v): ∃p,part agg off ps=ajn p/\R s v p:=by
 cases agg with
 |none=>obtain ⟨p,h1,h2⟩:=h.nth hp;exact ⟨p,h1,h2⟩
 |some n=>
  simp only [zR] at hp;cases hb:If (off+n) (ajm cs) with
  |false=>rw [hb] at hp;cases hp
  |true=>
   rw [hb] at hp;injection hp with hp;subst hp;have:off+n<=(ajm ps):=by rw [h.nm];exact NE hb
   exact ⟨.agg ((ps.drop off).take n),by simp only [part,lm this],_,rfl,(h.drop off).take n⟩
theorem zj {s:List SB} {off:Nat} {new old:List SV} {pn po:List PV} (h:RL s new pn) (k:RL s old po):RL s (pX off new old) (oc off pn po):=by unfold pX oc;rw [h.nm];exact ((k.take off).append h).append (k.drop _)
theorem Oz {s:List SB} {ps:cI} {v:SV} {p:PV} {r:List PT} {l:List (RT r)} (hs:cD s ps) (h:R s v p) (hc:zS s v=ajn ⟨r,l⟩):
 rowsOf ps (ajm r) p=ajn (l.map (RT.pv r))/\js p=wB v:=by
 cases v with
 |sl q m=>
  have Ci:(⟨q,m⟩:Rows)=⟨r,l⟩:=by injection hc
  cases Ci;rw [show p=_ from h];refine ⟨?_,rfl⟩;cases l with
  |nil=>rfl
  |cons a l=>simp [rowsOf]
 |own t ex=>
  simp only [zS,cp] at hc;split at hc
  · rename_i q m cA
    have Ci:(⟨q,m⟩:Rows)=⟨r,l⟩:=by injection hc
    cases Ci;obtain ⟨e,n,rfl,dt⟩:=h;rcases dt with ⟨q',m',h1,rfl,rfl⟩|h1
    · rw [cA] at h1
      injection h1 with h1;cases h1;obtain ⟨b,h2,h3⟩:=hs.at_ t _ cA;rw [show b=_ from h3] at h2;refine ⟨?_,rfl⟩;simp only [rowsOf,abL,if_true,h2,abU];rw [abS (by simp)]
    rw [cA] at h1;cases h1
  cases hc
 |pre t len cap ex=>
  simp only [zS,cp] at hc;split at hc
  · rename_i q m cA
    have Ci:(⟨q,m.take len⟩:Rows)=⟨r,l⟩:=by injection hc
    cases Ci;obtain ⟨e,rfl,dt⟩:=h;rcases dt with ⟨q',m',h1,rfl⟩|h1|⟨_,h1,_⟩
    · rw [cA] at h1
      injection h1 with h1;cases h1;obtain ⟨b,h2,h3⟩:=hs.at_ t _ cA;rw [show b=_ from h3] at h2;refine ⟨?_,rfl⟩;simp only [rowsOf,abL,if_true,h2];simp
    · rw [cA] at h1;cases h1
    rw [cA] at h1;cases h1
  cases hc
 |part t off len cap ex=>
  simp only [zS,cp] at hc;split at hc
  · rename_i q m cA
    have Ci:(⟨q,(m.drop off).take len⟩:Rows)=⟨r,l⟩:=by injection hc
    cases Ci;obtain ⟨e,rfl,dt⟩:=h;rcases dt with ⟨q',m',h1,rfl⟩|h1|⟨_,h1,_⟩
    · rw [cA] at h1
      injection h1 with h1;cases h1;obtain ⟨b,h2,h3⟩:=hs.at_ t _ cA;rw [show b=_ from h3] at h2;refine ⟨?_,rfl⟩;simp only [rowsOf,abL,if_true,h2];simp
    · rw [cA] at h1;cases h1
    rw [cA] at h1;cases h1
  cases hc
 |_=>cases hc
end Go.Vm
/- Operation by operation: what the typed machine does, the logical machine does; the easy ones. -/
namespace Go.Vm
structure Good (s:List SB) (ps:cI) (sr:gz) (pr:od):Prop where
 rd:pr.rd=sr.rd
 fr:pr.fr=sr.fr
 wr:pr.wr.map (·.1)=yo sr.wr
 nw:wa pr.wr=ajp
 nl:(ajm pr.news)=ajm sr.news
 aD:cD (sr.nM s) (JM (gH pr.wr ps) pr.news)
 v:R (sr.nM s) sr.v pr.v
 fra:Fr (yo sr.wr) s (sr.nM s)
section
variable {s : List SB} {ps : cI}
theorem Good.val (hS:cD s ps) {v:SV} {p:PV} {rd fr:List Nat} (hv:R s v p):Good s ps {v,rd,fr} {v:=p,rd,fr} where
 rd:=rfl
 fr:=rfl
 wr:=rfl
 nw:=rfl
 nl:=rfl
 aD:=by simp only [gz.nM,mQ,abH,gH,JM];exact hS
 v:=by simp only [gz.nM,mQ,abH];exact hv
 fra:=by simp only [gz.nM,mQ,abH];exact Fr.refl _ _
theorem Good.news (hS:cD s ps) {v:SV} {p:PV} {l:List SB} {q:cI} {rd:List Nat} (hl:(ajm q)=ajm l) (hb: ∀(j:Nat) (b:SB),l[j]? =ajn b-> ∃x,q[j]? =ajn x/\RB (s++l) b x) (hv:R (s++l) v p):
 Good s ps {v,news:=l,rd} {v:=p,news:=q,rd} where
 rd:=rfl
 fr:=rfl
 wr:=rfl
 nw:=rfl
 nl:=hl
 aD:=by simp only [gz.nM,mQ,gH,rS];exact hS.app hl hb
 v:=by simp only [gz.nM,mQ];exact hv
 fra:=by simp only [gz.nM,mQ];exact Fr.app _ _ _
theorem Good.new (hS:cD s ps) {v:SV} {p:PV} {b:SB} {q:lz} {rd:List Nat} (hb:RB (s++[b]) b q) (hv:R (s++[b]) v p):Good s ps {v,news:=[b],rd} {v:=p,news:=[q],rd}:=
 Good.news hS rfl (fun j x h=>by
  cases j with
  |zero=>simp at h;subst h;exact ⟨q,rfl,hb⟩
  |succ j=>simp at h) hv
def OA (b0 b:SB):Prop:=
 match b0 with
 | .arr r l=>(∃l',b= .arr r l'/\ajm l'=ajm l)\/b= .dead
 | .dead=>b= .dead
 | .box _=>(∃cs,b= .box cs)\/b= .dead
 |_=>True
theorem Fr.set {t:Nat} {b0 b:SB} (h0:s[t]? =ajn b0) (hk:OA b0 b):Fr [t] s (s.set t b):=fun u x hu=>by
 by_cases L3:t=u
 · subst L3
   rw [h0] at hu;injection hu with hu;subst hu;have dW:=(ut.1 h0).1;have hb:(s.set t b)[t]? =ajn b:=by simp [dW]
   cases b0 with
   |arr r l=>
    rcases hk with ⟨l',rfl,hl⟩|rfl
    · exact .inl ⟨l',hb,hl,fun h=>by simp [has] at h⟩
    exact .inr hb
   |dead=>rw [show b= .dead from hk] at hb ⊢;exact hb
   |box cs=>
    rcases hk with ⟨c2,rfl⟩|rfl
    · exact .inl ⟨c2,hb⟩
    exact .inr hb
   |_=>trivial
 have hb:(s.set t b)[u]? =ajn x:=by rw [EQ];simp [L3,hu]
 cases x with
 |arr r l=>exact .inl ⟨l,hb,rfl,fun _=>rfl⟩
 |dead=>exact hb
 |box cs=>exact .inl ⟨cs,hb⟩
 |_=>trivial
theorem cD.put (hS:cD s ps) {t:Nat} {b0 b:SB} {q:lz} (h0:s[t]? =ajn b0) (hk:OA b0 b) (hq:RB (B4 [t] (s.set t b)) (Vv [t] b) q):cD (B4 [t] (s.set t b)) (ps.set t q) where
 len:=by simp [wF,hS.len]
 at_:=fun u x hu=>by
  have dW:=(ut.1 h0).1;rw [sf] at hu
  by_cases L3:t=u
  · subst L3
    have hb:(s.set t b)[t]? =ajn b:=by simp [dW]
    rw [hb] at hu;simp at hu;subst hu;exact ⟨q,by rw [EQ];simp [hS.len,dW],hq⟩
  rw [EQ] at hu
  simp only [L3,if_false,abM] at hu;obtain ⟨y,hy,rfl⟩:=hu;obtain ⟨q',h1,h2⟩:=hS.at_ u y hy;exact ⟨q',by rw [EQ];simp [L3,h1],h2.fr (Fr.dg (Fr.set h0 hk))⟩
theorem Good.put (hS:cD s ps) {v:SV} {p:PV} {t:Nat} {b0 b:SB} {q:lz} {l:List SB} {ql:cI} {rd:List Nat} (h0:s[t]? =ajn b0) (hk:OA b0 b) (hq:RB (B4 [t] (s.set t b)) (Vv [t] b) q)
 (hl:(ajm ql)=ajm l) (hb: ∀(j:Nat) (x:SB),l[j]? =ajn x-> ∃y,ql[j]? =ajn y/\RB (B4 [t] (s.set t b)++l) x y) (hv:R (B4 [t] (s.set t b)++l) v p):
 Good s ps {v,wr:=[(t,b)],news:=l,rd} {v:=p,wr:=[(t,q)],news:=ql,rd} where
 rd:=rfl
 fr:=rfl
 wr:=rfl
 nw:=rfl
 nl:=hl
 aD:=by simp only [gz.nM,mQ,gH,rS,yo,ry,Bp];exact (hS.put h0 hk hq).app hl hb
 v:=by simp only [gz.nM,mQ,yo,ry,Bp];exact hv
 fra:=by simp only [gz.nM,mQ,yo,ry,Bp];exact (Fr.dg (Fr.set h0 hk)).trans (Fr.app _ _ _)
theorem Good.Sv (hS:cD s ps) {t:Nat} {b0 b:SB} {q:lz} {rd:List Nat} (h0:s[t]? =ajn b0) (hk:OA b0 b) (hq:RB (B4 [t] (s.set t b)) (Vv [t] b) q):
 Good s ps {v:= .undef,wr:=[(t,b)],rd} {v:= .undef,wr:=[(t,q)],rd}:=
 Good.put hS h0 hk hq rfl (fun j x h=>by simp at h) rfl
end
section
variable {R' ρ : Type} {w : R' -> ρ} {y : ρ}
theorem bP {α:Type} {x:Option α} {k:α->gT R'} (h:lY x k ρ w=ajn y): ∃a,x=ajn a/\k a ρ w=ajn y:=by
 cases x with
 |none=>cases h
 |some a=>exact ⟨a,rfl,h⟩
theorem cN {α:Type} {x:Option α} {k:α->gT R'} (h:lP x k ρ w=ajn y): ∃a,x=ajn a/\k a ρ w=ajn y:=MC h
theorem fD {c:Bool} {a b:gT R'} (h:gu c a b ρ w=ajn y):(c=ajp/\a ρ w=ajn y)\/(c=ajq/\b ρ w=ajn y):=MD h
theorem cO {c:Bool} {a:gT R'} (h:(bif c then a else aN) ρ w=ajn y):c=ajp/\a ρ w=ajn y:=by
 cases c
 · cases h
 exact ⟨rfl,h⟩
theorem sI {c:Bool} {a:gT R'} (h:(bif c then aN else a) ρ w=ajn y):c=ajq/\a ρ w=ajn y:=by
 cases c
 · exact ⟨rfl,h⟩
 cases h
theorem iS {c:Bool} {a:gT R'} (h:gu c a aN ρ w=ajn y):c=ajp/\a ρ w=ajn y:=by
 rcases fD h with ⟨h1,h2⟩|⟨_,h2⟩
 · exact ⟨h1,h2⟩
 cases h2
theorem wG {c:Bool} {a:gT R'} (h:gu c aN a ρ w=ajn y):c=ajq/\a ρ w=ajn y:=by
 rcases fD h with ⟨_,h2⟩|⟨h1,h2⟩
 · cases h2
 exact ⟨h1,h2⟩
end
def ie {R':Type} (s:List SB) (ps:cI) (po:Option od) (k:gz->gT R') (ρ:Type) (w:R'->ρ) (y:ρ):Prop:=
 ∃sr pr,po=ajn pr/\Good s ps sr pr/\k sr ρ w=ajn y
section
variable {R' ρ : Type} {w : R' -> ρ} {y : ρ} {s : List SB} {ps : cI} {e : SE} {pe : Env} {z : List Nat} {k : gz -> gT R'}
theorem ie.val (hS:cD s ps) {po:Option od} {v:SV} {p:PV} (h:k {v} ρ w=ajn y) (hp:po=ajn {v:=p}) (hv:R s v p):ie s ps po k ρ w y:=
 ⟨_,_,hp,Good.val hS hv,h⟩
theorem ie.rd (hS:cD s ps) {po:Option od} {v:SV} {p:PV} {rd:List Nat} (h:k {v,rd} ρ w=ajn y) (hp:po=ajn {v:=p,rd}) (hv:R s v p):ie s ps po k ρ w y:=
 ⟨_,_,hp,Good.val hS hv,h⟩
theorem nu (hE:eg s e pe) {x:fU} {a:IntKind} {n:Int} (h:bX e x= .int a n):x.ev pe= .int a n:=by have:=dS hE x;rw [h] at this;exact this
theorem Bq (hE:eg s e pe) {x:fU} {b:Bool} (h:bX e x= .bool b):x.ev pe= .bool b:=by have:=dS hE x;rw [h] at this;exact this
theorem Qe (hE:eg s e pe) {x:fU} {v:SV} (h:bX e x=v):R s v (x.ev pe):=by have:=dS hE x;rwa [h] at this
theorem KF (k:IntKind):gn k k=ajp:=by cases k<;>rfl
theorem MS (hS:cD s ps) {op:BinOp} {a:IntKind} {m n:Int} (h:MF op a m n (ofV k) ρ w=ajn y): ∃p,arith op a m n=ajn p/\ie s ps (ajn {v:=p}) k ρ w y:=by
 cases op with
 |quo=>
  obtain ⟨h1,h2⟩:=wG h;have hn:n≠0:=by intro e;subst e;cases h1
  exact ⟨_,by simp only [arith,ls hn],ie.val hS h2 rfl rfl⟩
 |rem=>
  obtain ⟨h1,h2⟩:=wG h;have hn:n≠0:=by intro e;subst e;cases h1
  exact ⟨_,by simp only [arith,ls hn],ie.val hS h2 rfl rfl⟩
 |shl=>cases h
 |shr=>cases h
 |_=>exact ⟨_,rfl,ie.val hS h rfl rfl⟩
theorem VA (hE:eg s e pe) (hS:cD s ps) {op:BinOp} {a b:fU} (h:mP e s z (.bin op a b) k ρ w=ajn y):ie s ps (bJ pe ps z (.bin op a b)) k ρ w y:=by
 simp only [mP] at h;generalize ha:bX e a=va at h;cases va with
 |int ka m=>
  generalize hb:bX e b=vb at h;cases vb with
  |int kb n=>
   have h1:=nu hE ha;have h2:=nu hE hb;have key:(op≠ .shl)->(op≠ .shr)->(bif gn ka kb then MF op ka m n (ofV k) else aN) ρ w=ajn y->ie s ps (bJ pe ps z (.bin op a b)) k ρ w y:=by
    intro n1 n2 h;obtain ⟨hk,h⟩:=cO h;obtain ⟨p,hp,hs⟩:=MS hS h;have:bJ pe ps z (.bin op a b)=ajn {v:=p}:=by simp only [bJ,h1,h2];cases op<;>first|exact absurd rfl n1|exact absurd rfl n2|(simp only [Pw,hk,if_true,hp];rfl)
    rw [this];exact hs
   cases op with
   |shl=>
    obtain ⟨hc,h⟩:=wG h;have Ci: ¬n<0:=by simpa using hc
    exact ie.val hS h (by simp only [bJ,h1,h2,Pw,B6,ls Ci];rfl) rfl
   |shr=>
    obtain ⟨hc,h⟩:=wG h;have Ci: ¬n<0:=by simpa using hc
    exact ie.val hS h (by simp only [bJ,h1,h2,Pw,B6,ls Ci];rfl) rfl
   |_=>exact key (by intro e;cases e) (by intro e;cases e) h
  |_=>cases h
 |_=>cases h
theorem Sw (hE:eg s e pe) (hS:cD s ps) {neg:Bool} {a b:fU} (h:mP e s z (.JF neg a b) k ρ w=ajn y):ie s ps (bJ pe ps z (.JF neg a b)) k ρ w y:=by
 simp only [mP] at h;generalize ha:bX e a=va at h;cases va with
 |bool x=>
  generalize hb:bX e b=vb at h;cases vb with
  |bool x'=>refine ie.val hS h ?_ rfl;simp only [bJ,Bq hE ha,Bq hE hb];cases neg<;>rfl
  |_=>cases h
 |_=>cases h
theorem Sx: ∀{xs ys:List SV} {ps qs:List PV} {r:Bool},RL s xs ps->RL s ys qs->eqS xs ys=ajn r->dE ps qs=ajn r
 | [],[],ps,qs,r,h1,h2,h=>by rw [show ps=[] from h1,show qs=[] from h2];exact h
 |x::xs,b::ys,ps,qs,r,h1,h2,h=>by
  obtain ⟨p,ps,rfl,a1,a2⟩:=h1.cons_inv;obtain ⟨q,qs,rfl,b1,b2⟩:=h2.cons_inv;simp only [eqS] at h;split at h
  · rename_i ka m kb n
    have a1':p= .int ka m:=a1;have b1':q= .int kb n:=b1;subst a1' b1';cases hk:gn ka kb with
    |false=>rw [hk] at h;cases h
    |true=>
     rw [hk] at h;have hc:q9 (.int ka m) (.int kb n)=ajn (m==n):=by simp only [q9,hk,if_true]
     simp only [dE,hc];cases xs with
     |nil=>
      cases ys with
      |nil=>simp only [kw,ww] at h;subst h;rw [show ps=[] from a2,show qs=[] from b2];cases m==n<;>rfl
      |cons _ _=>cases h
     |cons x2 xs2=>
      simp only [kw] at h;split at h
      · rename_i r' hr
        injection h with h;subst h;rw [Sx a2 b2 hr];cases m==n<;>rfl
      cases h
  cases h
 | [],_::_,ps,qs,r,h1,h2,h=>by cases h
 |_::_,[],ps,qs,r,h1,h2,h=>by cases h
theorem VB (hE:eg s e pe) (hS:cD s ps) {n:Nat} {neg:Bool} {a b:fU} (h:mP e s z (.eqc n neg a b) k ρ w=ajn y):ie s ps (bJ pe ps z (.eqc n neg a b)) k ρ w y:=by
 simp only [mP] at h;generalize ha:bX e a=va at h;cases va with
 |agg xs=>
  generalize hb:bX e b=vb at h;cases vb with
  |agg ys=>obtain ⟨hl,h⟩:=cO h;obtain ⟨r,hr,h⟩:=bP h;obtain ⟨p,hp,h1⟩:=Qe hE ha;obtain ⟨q,hq,h2⟩:=Qe hE hb;refine ie.val hS h ?_ rfl;simp only [bJ,hp,hq,h1.nm,h2.nm];rw [lm hl,Sx h1 h2 hr];cases neg<;>rfl
  |_=>cases h
 |_=>cases h
theorem adu (hE:eg s e pe) (hS:cD s ps) {op:UnOp} {a:fU} (h:mP e s z (.un op a) k ρ w=ajn y):ie s ps (bJ pe ps z (.un op a)) k ρ w y:=by
 simp only [mP] at h;cases op with
 |neg=>
  dsimp only at h;generalize ha:bX e a=va at h;cases va with
  |int ka n=>exact ie.val hS h (by simp only [bJ,nu hE ha];rfl) rfl
  |_=>cases h
 |not=>
  dsimp only at h;generalize ha:bX e a=va at h;cases va with
  |bool b=>exact ie.val hS h (by simp only [bJ,Bq hE ha];rfl) rfl
  |_=>cases h
 |_=>cases h
theorem Sy (hE:eg s e pe) (hS:cD s ps) {a:IntKind} {x:fU} (h:mP e s z (.conv a x) k ρ w=ajn y):ie s ps (bJ pe ps z (.conv a x)) k ρ w y:=by
 simp only [mP] at h;generalize ha:bX e x=va at h;cases va with
 |int ka n=>exact ie.val hS h (by simp only [bJ,nu hE ha]) rfl
 |_=>cases h
theorem VC (hE:eg s e pe) (hS:cD s ps) {x:fU} (h:mP e s z (.len x) k ρ w=ajn y):ie s ps (bJ pe ps z (.len x)) k ρ w y:=by
 simp only [mP] at h;have hx:=dS hE x;generalize bX e x=v at h hx;cases v with
 |nil e' c=>exact ie.val hS h (by simp only [bJ,show x.ev pe= .sl e' c [] from hx];rfl) rfl
 |pre t len cap ex=>obtain ⟨e',hx,_⟩:=hx;exact ie.val hS h (by simp only [bJ,hx]) rfl
 |part t off len cap ex=>obtain ⟨e',hx,_⟩:=hx;exact ie.val hS h (by simp only [bJ,hx]) rfl
 |sl q m=>exact ie.val hS h (by simp only [bJ,show x.ev pe=_ from hx,abI]) rfl
 |own t ex=>
  obtain ⟨c,hc,h⟩:=bP h;simp only [zS,cp] at hc;split at hc
  · rename_i q m cA
    injection hc with hc;subst hc;obtain ⟨e',n,hx,dt⟩:=hx;rcases dt with ⟨q',m',h1,rfl,rfl⟩|h1
    · rw [cA] at h1;injection h1 with h1;cases h1
      exact ie.val hS h (by simp only [bJ,hx]) rfl
    rw [cA] at h1;cases h1
  cases hc
 |_=>obtain ⟨c,hc,h⟩:=bP h;cases hc
theorem Br: ∀{l:List (Nat×Nat×SV)} {pl:List (Nat×Nat×PV)} {cs:List SV} {pc:List PV} {r:List SV},
 (ajm pl=ajm l/\ ∀(j:Nat) (a:Nat×Nat×SV),l[j]? =ajn a-> ∃b,pl[j]? =ajn (a.1,a.2.1,b)/\R s a.2.2 b)->RL s cs pc->wC l cs=ajn r-> ∃q,nE pl pc=ajn q/\RL s r q
 | [],pl,cs,pc,r,hl,hc,h=>by have:pl=[]:=acB.1 hl.1;subst this;injection h with h;subst h;exact ⟨pc,rfl,hc⟩
 |(off,sz,v)::l,pl,cs,pc,r,hl,hc,h=>by
  cases pl with
  |nil=>simp at hl
  |cons p pl=>
   obtain ⟨b,h1,h2⟩:=hl.2 0 _ rfl;simp at h1;subst h1;simp only [wC] at h;split at h
   · rename_i w hw
     obtain ⟨q,hq,hqr⟩:=h2.stored hw;cases VD:(IR (ajm w) sz&&If (off+sz) (ajm cs)) with
     |false=>rw [VD] at h;cases h
     |true=>rw [VD] at h;simp only [kw] at h;obtain ⟨q2,h3,h4⟩:=Br (pl:=pl) ⟨by simpa using hl.1,fun j a ha=>hl.2 (j+1) a (by simpa using ha)⟩ (zj hqr hc) h;refine ⟨q2,?_,h4⟩;simp only [nE,hq,hqr.nm,hc.nm];rw [lm VD];exact h3
   cases h
theorem KG (hE:eg s e pe): ∀(l:List (Nat×Nat×fU)),((l.map fun p=>(p.1,p.2.1,p.2.2.ev pe)).length=(yl e l).length/\ ∀(j:Nat) (a:Nat×Nat×SV),(yl e l)[j]? =ajn a-> ∃b,(l.map fun p=>(p.1,p.2.1,p.2.2.ev pe))[j]? =ajn (a.1,a.2.1,b)/\R s a.2.2 b)
 | []=>⟨rfl,fun j a h=>by simp [yl] at h⟩
 |p::l=>by
  obtain ⟨h1,h2⟩:=KG hE l;refine ⟨by simp [yl] at h1 ⊢;omega,fun j a h=>?_⟩;cases j with
  |zero=>simp [yl] at h;subst h;exact ⟨_,rfl,dS hE _⟩
  |succ j=>simp only [yl,abV] at h;obtain ⟨b,h3,h4⟩:=h2 j a h;exact ⟨b,by simpa using h3,h4⟩
theorem Qf (hE:eg s e pe) (hS:cD s ps) {zero:List PV} {parts:List (Nat×Nat×fU)} (h:mP e s z (.build zero parts) k ρ w=ajn y):ie s ps (bJ pe ps z (.build zero parts)) k ρ w y:=by simp only [mP] at h;obtain ⟨cs,hc,h⟩:=bP h;obtain ⟨q,hq,hr⟩:=Br (KG hE parts) (wE s zero) hc;exact ie.val hS h (by simp only [bJ,hq];rfl) ⟨q,rfl,hr⟩
theorem VE (hE:eg s e pe) (hS:cD s ps) {x:fU} (h:mP e s z (.box x) k ρ w=ajn y):ie s ps (bJ pe ps z (.box x)) k ρ w y:=by simp only [mP] at h;obtain ⟨cs,hc,h⟩:=bP h;obtain ⟨q,hq,hr⟩:=(dS hE x).stored hc;refine ⟨_,_,?_,Good.new hS (b:= .box cs) (q:= .box q) (v:= .bp (ajm s) (ajm cs) 0) (p:= .ptr (ajm s) (ajm cs) 0 0) (rd:=[]) ⟨q,rfl,hr.ext (Fr.app _ _ _)⟩ rfl,h⟩;simp only [bJ,hq,hS.len,hr.nm]
theorem Qg (hS:cD s ps) {cells:List PV} (h:mP e s z (.alloc cells) k ρ w=ajn y):ie s ps (bJ pe ps z (.alloc cells)) k ρ w y:=by simp only [mP] at h;refine ⟨_,_,?_,Good.new hS (b:= .box (Bj cells)) (q:= .box cells) (v:= .bp (ajm s) (ajm cells) 0) (p:= .ptr (ajm s) (ajm cells) 0 0) (rd:=[]) ⟨cells,rfl,wE _ _⟩ rfl,h⟩;simp only [bJ,hS.len]
theorem Sz (hE:eg s e pe) (hS:cD s ps) {x:fU} (h:mP e s z (.JG x) k ρ w=ajn y):ie s ps (bJ pe ps z (.JG x)) k ρ w y:=by
 simp only [mP] at h;have hx:=dS hE x;generalize bX e x=v at h hx;cases v with
 |pa t r i a o=>exact ie.val hS h (by simp only [bJ,hx.1]) ⟨rfl,hx.2⟩
 |pb t i o=>obtain ⟨e',h1,h2⟩:=hx;exact ie.val hS h (by simp only [bJ,h1]) ⟨e',rfl,h2⟩
 |bp t n o=>exact ie.val hS h (by simp only [bJ,show x.ev pe=_ from hx]) rfl
 |bM c o=>obtain ⟨q,h1,h2⟩:=hx;exact ie.val hS h (by simp only [bJ,h1]) ⟨q,rfl,h2⟩
 |fh f a b=>obtain ⟨pa,pb,h1,h2⟩:=hx;exact ie.val hS h (by simp only [bJ,h1]) ⟨pa,pb,rfl,h2⟩
 |_=>cases h
theorem SA (hE:eg s e pe) (hS:cD s ps) {off:Nat} {x:fU} (h:mP e s z (.JH off x) k ρ w=ajn y):ie s ps (bJ pe ps z (.JH off x)) k ρ w y:=by
 simp only [mP] at h;have hx:=dS hE x;generalize bX e x=v at h hx;cases v with
 |pa t r i a o=>exact ie.val hS h (by simp only [bJ,hx.1]) ⟨rfl,hx.2⟩
 |pb t i o=>obtain ⟨e',h1,h2⟩:=hx;exact ie.val hS h (by simp only [bJ,h1]) ⟨e',rfl,h2⟩
 |bp t n o=>exact ie.val hS h (by simp only [bJ,show x.ev pe=_ from hx]) rfl
 |bM c o=>obtain ⟨q,h1,h2⟩:=hx;exact ie.val hS h (by simp only [bJ,h1]) ⟨q,rfl,h2⟩
 |_=>cases h
theorem VF (hE:eg s e pe) (hS:cD s ps) {agg:Option Nat} {off:Nat} {x:fU} (h:mP e s z (.iE agg off x) k ρ w=ajn y):ie s ps (bJ pe ps z (.iE agg off x)) k ρ w y:=by
 simp only [mP] at h;generalize hv:bX e x=v at h;cases v with
 |agg cs=>obtain ⟨v,h1,h⟩:=bP h;obtain ⟨q,h2,h3⟩:=Qe hE hv;obtain ⟨p,h4,h5⟩:=tX h3 h1;exact ie.val hS h (by simp only [bJ,h2,h4];rfl) h5
 |_=>cases h
theorem VG (hE:eg s e pe) (hS:cD s ps) {i:Nat} {x:fU} (h:mP e s z (.ext i x) k ρ w=ajn y):ie s ps (bJ pe ps z (.ext i x)) k ρ w y:=by
 simp only [mP] at h;generalize hv:bX e x=v at h;cases v with
 |b8 cs=>obtain ⟨v,h1,h⟩:=bP h;obtain ⟨q,h2,h3⟩:=Qe hE hv;obtain ⟨p,h4,h5⟩:=h3.nth h1;exact ie.val hS h (by simp only [bJ,h2,h4];rfl) h5
 |_=>cases h
theorem VH (hE:eg s e pe) (hS:cD s ps) {f:FuncId} {a b:List fU} (h:mP e s z (.mkf f a b) k ρ w=ajn y):ie s ps (bJ pe ps z (.mkf f a b)) k ρ w y:=by simp only [mP] at h;exact ie.val hS h rfl ⟨_,_,rfl,zh hE a,zh hE b⟩
theorem VI (hS:cD s ps) {m:Option PV} (h:mP e s z (.mkm m) k ρ w=ajn y):ie s ps (bJ pe ps z (.mkm m)) k ρ w y:=by
 simp only [mP] at h;cases m with
 |none=>refine ⟨_,_,?_,Good.new hS (b:= .set []) (q:= .map []) (v:= .mp (ajm s)) (p:= .mp (ajm s)) (rd:=[]) rfl rfl,h⟩;simp only [bJ,hS.len]
 |some m=>obtain ⟨p,_,h⟩:=bP h;refine ⟨_,_,?_,Good.new hS (b:= .bC p []) (q:= .map []) (v:= .mp (ajm s)) (p:= .mp (ajm s)) (rd:=[]) rfl rfl,h⟩;simp only [bJ,hS.len]
theorem acm: ∀{l:List SV} {q:List PV} {m:Bool} {a:IntKind} {n:Int} {v:SV},RL s l q->mmS m a n l=ajn v-> ∃p,mmE m a n q=ajn p/\R s v p
 | [],q,m,a,n,v,hl,h=>by rw [show q=[] from hl];injection h with h;subst h;exact ⟨_,rfl,rfl⟩
 |x::l,q,m,a,n,v,hl,h=>by
  obtain ⟨p,q,rfl,h1,h2⟩:=hl.cons_inv;simp only [mmS] at h;split at h
  · rename_i b c
    have L2:p= .int b c:=h1;subst L2;cases hk:gn a b with
    |true=>rw [hk] at h;obtain ⟨p,h3,h4⟩:=acm h2 h;refine ⟨p,?_,h4⟩;simp only [mmE,hk,if_true];rw [<- h3];cases m<;>rfl
    |false=>rw [hk] at h;cases h
  cases h
theorem adw (hE:eg s e pe) (hS:cD s ps) {m:Bool} {x:fU} {xs:List fU} (h:mP e s z (.mm m x xs) k ρ w=ajn y):ie s ps (bJ pe ps z (.mm m x xs)) k ρ w y:=by
 simp only [mP] at h;generalize hv:bX e x=v at h;cases v with
 |int a n=>obtain ⟨v,h1,h⟩:=bP h;obtain ⟨p,h2,h3⟩:=acm (zh hE xs) h1;exact ie.val hS h (by simp only [bJ,nu hE hv,h2];rfl) h3
 |_=>cases h
theorem SC (hE:eg s e pe) (hS:cD s ps) {c a b:fU} (h:mP e s z (.pick c a b) k ρ w=ajn y):ie s ps (bJ pe ps z (.pick c a b)) k ρ w y:=by
 simp only [mP] at h;generalize hv:bX e c=v at h;cases v with
 |bool x=>
  rcases fD h with ⟨rfl,h⟩|⟨rfl,h⟩
  · exact ie.val hS h (by simp only [bJ,Bq hE hv]) (dS hE a)
  exact ie.val hS h (by simp only [bJ,Bq hE hv]) (dS hE b)
 |_=>cases h
end
end Go.Vm
/- Operation by operation, second part: elements, blocks, slices, sets. -/
namespace Go.Vm
section
variable {R' ρ : Type} {w : R' -> ρ} {y : ρ} {s : List SB} {ps : cI} {e : SE} {pe : Env} {z : List Nat} {k : gz -> gT R'}
theorem cD.arr (hS:cD s ps) {t:Nat} {r:List PT} {l:List (RT r)} (h:s[t]? =ajn (.arr r l)):ps[t]? =ajn (.arr (ajm r) (l.map (RT.pv r))):=by obtain ⟨q,h1,h2⟩:=hS.at_ t _ h;rw [show q=_ from h2] at h1;exact h1
theorem cD.box (hS:cD s ps) {t:Nat} {cs:List SV} (h:s[t]? =ajn (.box cs)): ∃q,ps[t]? =ajn (.box q)/\RL s cs q:=by obtain ⟨q,h1,q',rfl,h2⟩:=hS.at_ t _ h;exact ⟨q',h1,h2⟩
theorem cD.akW (hS:cD s ps) {t:Nat} {l:List (List Int)} (h:s[t]? =ajn (.set l)):ps[t]? =ajn (.map (l.map Bo)):=by obtain ⟨q,h1,h2⟩:=hS.at_ t _ h;rw [show q=_ from h2] at h1;exact h1
theorem cD.VJ (hS:cD s ps) {t:Nat} {p:PT} {l:List (RT [.i .i64,p])} (h:s[t]? =ajn (.bC p l)):ps[t]? =ajn (.map (l.map (DQ p))):=by obtain ⟨q,h1,h2⟩:=hS.at_ t _ h;rw [show q=_ from h2] at h1;exact h1
theorem OwnAt.inv {t e n:Nat} {r:List PT} {l:List (RT r)} (h:OwnAt s t e n) (hs:s[t]? =ajn (.arr r l)):e=ajm r/\n=(ajm l):=by
 rcases h with ⟨q,m,h1,rfl,rfl⟩|h1
 · rw [hs] at h1;injection h1 with h1;cases h1;exact ⟨rfl,rfl⟩
 rw [hs] at h1;cases h1
theorem zU.inv {t e:Nat} {r:List PT} {l:List (RT r)} (h:zU s t e) (hs:s[t]? =ajn (.arr r l)):e=(ajm r):=by
 rcases h with ⟨q,m,h1,rfl⟩|h1|⟨cs,h1,_⟩
 · rw [hs] at h1;injection h1 with h1;cases h1;rfl
 · rw [hs] at h1;cases h1
 rw [hs] at h1;cases h1
theorem Su.inv {t:Nat} {q r:List PT} {i:Int} {a:RT q} {l:List (RT r)} (h:Su s t q i a) (hs:s[t]? =ajn (.arr r l)): ∃e:q=r,aE l i=ajn (e▸a):=by
 rcases h with ⟨m,h1,h2⟩|h1
 · rw [hs] at h1;injection h1 with h1;cases h1;exact ⟨rfl,h2⟩
 rw [hs] at h1;cases h1
theorem adt.inv {t:Nat} {r:List PT} {i:Int} {l:List (RT r)} (h:adt s t i) (hs:s[t]? =ajn (.arr r l)):(aE l i).isSome=ajp:=by
 rcases h with ⟨q,m,h1,h2⟩|h1
 · rw [hs] at h1;injection h1 with h1;cases h1;exact h2
 rw [hs] at h1;cases h1
theorem gi {α:Type} {l:List α} {n:Nat} {i:Int} {a:α} (h:aE (l.take n) i=ajn a): ∃m:Nat,i=ac5 m/\m<n/\l[m]? =ajn a:=by
 obtain ⟨m,rfl,hm⟩:=nL h;have dW:=(ut.1 hm).1;rw [abQ] at dW;have hmn:m<n:=by omega
 rw [Do hmn] at hm;exact ⟨m,rfl,hmn,hm⟩
theorem SD (hE:eg s e pe) (hS:cD s ps) {esz:Nat} {x i:fU} (h:mP e s z (.JI esz x i) k ρ w=ajn y):ie s ps (bJ pe ps z (.JI esz x i)) k ρ w y:=by
 simp only [mP] at h;generalize hi:bX e i=vi at h;cases vi with
 |int ki n=>
  have hi:=nu hE hi;have hx:=dS hE x;dsimp only at h;unfold acb at h;generalize bX e x=v at h hx;cases v with
  |sl r l=>
   obtain ⟨he,h⟩:=cO h;obtain ⟨a,ha,hk⟩:=cN h;obtain ⟨m,rfl,hm⟩:=nL ha;refine ie.val hS (p:= .bM (RT.pv r a) 0) hk ?_ ⟨_,rfl,Hu r a⟩;have hr:(l.map (RT.pv r))[m]? =ajn (RT.pv r a):=by simp [hm]
   simp only [bJ,hi,kK,show x.ev pe=_ from hx,hr,he,if_true]
  |own t ex=>
   simp only [cp] at h;generalize cA:s[t]? =b at h;cases b with
   |none=>cases h
   |some b=>
    cases b with
    |arr r l=>
     obtain ⟨he,h⟩:=cO h;obtain ⟨a,ha,hk⟩:=cN h;obtain ⟨m,rfl,hm⟩:=nL ha;obtain ⟨e',n',hx,dt⟩:=hx;obtain ⟨rfl,rfl⟩:=dt.inv cA;have dW:=(ut.1 hm).1;have h1:aig m (ajm l)=ajp:=by simpa using dW
     refine ie.val hS (p:= .ptr t (ajm r) m 0) hk ?_ ⟨rfl,.inl ⟨l,cA,ha⟩⟩;simp only [bJ,hi,kK,hx,h1,he,abK,if_true,acD]
    |_=>cases h
  |pre t len cap ex=>
   simp only [cp] at h;generalize cA:s[t]? =b at h;cases b with
   |none=>cases h
   |some b=>
    cases b with
    |arr r l=>
     obtain ⟨he,h⟩:=cO h;obtain ⟨a,ha,hk⟩:=cN h;obtain ⟨m,rfl,dW,hm⟩:=gi ha;obtain ⟨e',hx,dt⟩:=hx;have:=dt.inv cA;subst this;have h1:aig m len=ajp:=by simpa using dW
     refine ie.val hS (p:= .ptr t (ajm r) m 0) hk ?_ ⟨rfl,.inl ⟨l,cA,hm⟩⟩;simp only [bJ,hi,kK,hx,h1,he,abK,if_true,acD]
    |_=>cases h
  |part t off len cap ex=>
   simp only [cp] at h;generalize cA:s[t]? =b at h;cases b with
   |none=>cases h
   |some b=>
    cases b with
    |arr r l=>
     obtain ⟨he,h⟩:=cO h;obtain ⟨a,ha,hk⟩:=cN h;obtain ⟨m,rfl,dW,hm⟩:=gi ha;rw [List.getElem?_drop] at hm;obtain ⟨e',hx,dt⟩:=hx;have:=dt.inv cA;subst this;have h1:aig m len=ajp:=by simpa using dW
     refine ie.val hS (p:= .ptr t (ajm r) (off+m) 0) hk ?_ ⟨rfl,.inl ⟨l,cA,hm⟩⟩;simp only [bJ,hi,kK,hx,h1,he,abK,if_true]
    |_=>cases h
  |_=>cases h
 |_=>cases h
theorem Av {n:Nat} {i:Int} {j:Nat} {f:Nat->gT R'}:Kx n i j f ρ w=ajn y-> ∃m,i=ac5 m/\j<=m/\m<j+n/\f m ρ w=ajn y:=by
 induction n generalizing j with
 |zero=>intro h;cases h
 |succ n ih=>
  intro h;rcases fD h with ⟨h1,h2⟩|⟨_,h2⟩
  · exact ⟨j,by simpa using h1,ai1 _,by omega,h2⟩
  obtain ⟨m,h3,h4,h5,h6⟩:=ih h2
  exact ⟨m,h3,by omega,by omega,h6⟩
theorem Qh (hE:eg s e pe) (hS:cD s ps) {n esz:Nat} {p i:fU} (h:mP e s z (.C8 n esz p i) k ρ w=ajn y):ie s ps (bJ pe ps z (.C8 n esz p i)) k ρ w y:=by
 simp only [mP] at h;generalize hi:bX e i=vi at h;cases vi with
 |int ki j=>
  have hi:=nu hE hi;have hx:=dS hE p;generalize bX e p=v at h hx;cases v with
  |bp t m o=>
   obtain ⟨j',rfl,_,h2,h⟩:=Av h;have h1:aig j' n=ajp:=by simp;omega
   exact ie.val hS h (by simp only [bJ,hi,kK,h1,if_true,show p.ev pe=_ from hx]) rfl
  |bM c o=>
   obtain ⟨j',rfl,_,h2,h⟩:=Av h;have h1:aig j' n=ajp:=by simp;omega
   obtain ⟨q,hq,hr⟩:=hx;exact ie.val hS h (by simp only [bJ,hi,kK,h1,if_true,hq]) ⟨q,rfl,hr⟩
  |_=>cases h
 |_=>cases h
theorem VK (hE:eg s e pe) (hS:cD s ps) {n esz:Nat} {agg:Option Nat} {x i:fU} (h:mP e s z (.idx n esz agg x i) k ρ w=ajn y):ie s ps (bJ pe ps z (.idx n esz agg x i)) k ρ w y:=by
 simp only [mP] at h;generalize hi:bX e i=vi at h;cases vi with
 |int ki j=>
  have hi:=nu hE hi;generalize hx:bX e x=v at h;cases v with
  |agg cs=>
   obtain ⟨j',rfl,_,h2,h⟩:=Av h;have h1:aig j' n=ajp:=by simp;omega
   obtain ⟨v,hv,h⟩:=bP h;obtain ⟨q,hq,hr⟩:=Qe hE hx;obtain ⟨p,hp,hpr⟩:=tX hr hv;exact ie.val hS h (by simp only [bJ,hi,kK,h1,if_true,hq,hp];rfl) hpr
  |_=>cases h
 |_=>cases h
theorem SF (hE:eg s e pe) (hS:cD s ps) {x i:fU} (h:mP e s z (.JJ x i) k ρ w=ajn y):ie s ps (bJ pe ps z (.JJ x i)) k ρ w y:=by
 simp only [mP] at h;generalize hi:bX e i=vi at h;cases vi with
 |int ki j=>
  have hi:=nu hE hi;generalize hx:bX e x=v at h;cases v with
  |str t=>
   obtain ⟨b,hb,h⟩:=cN h;have hx:=Qe hE hx;cases j with
   |negSucc _=>cases hb
   |ofNat m=>simp only [rL,abM] at hb;obtain ⟨c,hc,rfl⟩:=hb;exact ie.val hS h (by simp only [bJ,hi,kK,show x.ev pe=_ from hx,hc]) rfl
  |_=>cases h
 |_=>cases h
theorem SG (hE:eg s e pe) (hS:cD s ps) {agg:Option Nat} {p:fU} (h:mP e s z (.load agg p) k ρ w=ajn y):ie s ps (bJ pe ps z (.load agg p)) k ρ w y:=by
 simp only [mP] at h;have hx:=dS hE p;unfold acd at h;generalize bX e p=v at h hx;cases v with
 |bp t n off=>
  simp only [cp] at h;generalize cA:s[t]? =b at h;cases b with
  |none=>cases h
  |some b=>
   cases b with
   |box cs=>obtain ⟨v,hv,h⟩:=bP h;obtain ⟨q,h1,h2⟩:=hS.box cA;obtain ⟨u,h3,h4⟩:=tX h2 hv;refine ie.rd hS h ?_ h4;show o5 ps agg (p.ev pe)=_;rw [show p.ev pe=_ from hx];simp only [o5,h1,abL,if_true,h3];rfl
   |_=>cases h
 |pa t r i a off=>
  simp only [cp] at h;generalize cA:s[t]? =b at h;cases b with
  |none=>cases h
  |some b=>
   cases b with
   |arr q l=>
    obtain ⟨v,hv,hk⟩:=bP h;obtain ⟨hx,dt⟩:=hx;obtain ⟨rfl,hg⟩:=dt.inv cA;obtain ⟨u,h3,h4⟩:=tX (Hu r a) hv;obtain ⟨m,rfl,hm⟩:=nL hg;refine ie.rd hS hk ?_ h4;show o5 ps agg (p.ev pe)=_;rw [hx];have Cr:(l.map (RT.pv r))[m]? =ajn (RT.pv r a):=by simp [hm]
    have e1:(ac5 m).toNat=m:=rfl;simp only [o5,hS.arr cA,e1,Cr,h3];rfl
   |_=>cases h
 |pb t i off=>
  simp only [cp] at h;generalize cA:s[t]? =b at h;cases b with
  |none=>cases h
  |some b=>
   cases b with
   |arr r l=>
    obtain ⟨a,ha,h⟩:=cN h;obtain ⟨v,hv,hk⟩:=bP h;obtain ⟨e',hx,dt⟩:=hx;obtain ⟨u,h3,h4⟩:=tX (Hu r a) hv;obtain ⟨m,rfl,hm⟩:=nL ha;refine ie.rd hS hk ?_ h4;show o5 ps agg (p.ev pe)=_;rw [hx];have Cr:(l.map (RT.pv r))[m]? =ajn (RT.pv r a):=by simp [hm]
    have e1:(ac5 m).toNat=m:=rfl;simp only [o5,hS.arr cA,e1,Cr,h3];rfl
   |_=>cases h
 |bM cs off=>obtain ⟨v,hv,h⟩:=bP h;obtain ⟨q,hq,hr⟩:=hx;obtain ⟨u,h3,h4⟩:=tX hr hv;refine ie.val hS h ?_ h4;show o5 ps agg (p.ev pe)=_;rw [hq];simp only [o5,h3];rfl
 |_=>cases h
theorem IP (hS:cD s ps) {t:Nat} {r:List PT} {l:List (RT r)} (cA:s[t]? =ajn (.arr r l)) {i:Int} {b:RT r} {rd:List Nat}:
 Good s ps {v:= .undef,wr:=[(t,.arr r (bz l i b))],rd} {v:= .undef,wr:=[(t,.arr (ajm r) ((l.map (RT.pv r)).set i.toNat (RT.pv r b)))],rd}:=
 Good.Sv hS cA (.inl ⟨_,rfl,by simp⟩) (by show _=_;simp [bz,aiS])
theorem Qi (hE:eg s e pe) (hS:cD s ps) {sz:Nat} {p x:fU} (h:mP e s z (.store sz p x) k ρ w=ajn y):ie s ps (bJ pe ps z (.store sz p x)) k ρ w y:=by
 simp only [mP] at h;have hx:=dS hE p;have hv:=dS hE x;unfold Se at h;generalize bX e p=v at h hx;generalize bX e x=u at h hv;cases v with
 |bp t n off=>
  simp only [cp] at h;generalize cA:s[t]? =b at h;cases b with
  |none=>cases h
  |some b=>
   cases b with
   |box cs=>
    obtain ⟨w',hw,h⟩:=bP h;obtain ⟨hc,h⟩:=cO h;obtain ⟨q,h1,h2⟩:=hv.stored hw;obtain ⟨b,h3,h4⟩:=hS.box cA;have vp:=Fr.dg (ts:=[t]) (Fr.set (b:= .box (pX off w' cs)) cA (.inl ⟨_,rfl⟩));refine ⟨_,_,?_,Good.Sv hS (b:= .box (pX off w' cs)) (q:= .box (oc off q b)) (rd:=[]) cA (.inl ⟨_,rfl⟩) ⟨_,rfl,RL.fr vp (zj h2 h4)⟩,h⟩
    show sQ ps z sz (x.ev pe) (p.ev pe)=_
    rw [show p.ev pe=_ from hx];simp only [sQ,h3,h1,h2.nm,h4.nm];rw [lm (by simpa using hc)]
   |_=>cases h
 |pa t r i a off=>
  simp only [cp] at h;generalize cA:s[t]? =b at h;cases b with
  |none=>cases h
  |some b=>
   cases b with
   |arr q l=>
    obtain ⟨hc,h⟩:=cO h;obtain ⟨a',JC,hk⟩:=bP h;obtain ⟨hx,dt⟩:=hx;obtain ⟨rfl,hg⟩:=dt.inv cA;obtain ⟨m,rfl,hm⟩:=nL hg;refine ⟨_,_,?_,IP hS cA (rd:=[]),hk⟩;show sQ ps z sz (x.ev pe) (p.ev pe)=_;rw [hx];have Cr:(l.map (RT.pv r))[m]? =ajn (RT.pv r a):=by simp [hm]
    have e1:(ac5 m).toNat=m:=rfl;simp only [rc,aa4] at hc;obtain ⟨⟨c1,c2⟩,c3⟩:=hc;have hj:u≠ .iz:=by
     intro e;subst e;have:=RT.pZ JC;have hq:=congrArg (fun l=>l[off]?) this;have mB:=NE c2;have tC:sz=1:=by have:=lw c1;simpa [SV.cells] using this.symm
     have dW:off<(ajm r):=by omega
     have G9:off<(RT.sv r a).length:=by rw [RT.IN];exact dW
     simp only [pX,SV.cells] at hq;rw [v4 (by simp;omega),v6 (by simp;omega)] at hq;simp only [abQ,adF (aiY G9),ajk,adk] at hq;have: ∀(r:List PT) (b:RT r) (n:Nat),(RT.sv r b)[n]?≠ajn .iz:=by
      intro r
      induction r with
      |nil=>intro b n h;simp [RT.sv] at h
      |cons p rest ih=>
       intro b n;cases rest with
       |nil=>cases n<;>cases p<;>simp [RT.sv,PT.sv]
       |cons p2 akX=>cases n with
        |zero=>cases p<;>simp [RT.sv,PT.sv]
        |succ n=>simpa [RT.sv] using ih b.2 n
     exact this r a' off hq.symm
    have Fc:=hv.cells hj;have vt:=RT.pZ JC;have h5:RL s (RT.sv r a') (oc off (x.ev pe).cells (RT.pv r a)):=by rw [<- vt];exact zj Fc (Hu r a)
    have h6:=zi r a' h5;have MT:(x.ev pe).cC=ajn (x.ev pe).cells:=by unfold PV.cC;rw [lm ?_];have rV:=RT.plain r a';rw [<- h6] at rV;unfold oc at rV;simp only [ajg,rc] at rV;exact rV.1.2
    simp only [sQ,hS.arr cA,e1,Cr,MT,Fc.nm,RT.wD];rw [lm (by simp [c1,c2,c3])];simp only [h6]
   |_=>cases h
 |pb t i off=>
  simp only [cp] at h;generalize cA:s[t]? =b at h;cases b with
  |none=>cases h
  |some b=>
   cases b with
   |arr r l=>
    obtain ⟨hc,h⟩:=cO h;obtain ⟨e',hx,dt⟩:=hx;have rq:=dt.inv cA;rw [adc] at rq;obtain ⟨a0,hg⟩:=rq;obtain ⟨m,rfl,hm⟩:=nL hg;have Cr:(l.map (RT.pv r))[m]? =ajn (RT.pv r a0):=by simp [hm]
    have e1:(ac5 m).toNat=m:=rfl;simp only [rc,aa4] at hc;obtain ⟨⟨c1,c2⟩,c3⟩:=hc;cases tC:IR sz (ajm r) with
    |true=>
     rw [tC] at h;obtain ⟨a',JC,hk⟩:=bP h;obtain ⟨hp,hl⟩:=hv.ofRow JC;have Mk:=lw tC;have Es:off=0:=by have:=NE c2;omega
     subst Es;refine ⟨_,_,?_,IP hS cA (rd:=[]),hk⟩;show sQ ps z sz (x.ev pe) (p.ev pe)=_;rw [hx];simp only [sQ,hS.arr cA,e1,Cr,hp,RT.wD];rw [lm (by rw [acD,Mk];simp [c3])];have:oc 0 (RT.pv r a') (RT.pv r a0)=RT.pv r a':=by unfold oc;rw [RT.wD,List.drop_of_length_le (by rw [RT.wD];omega)];simp
     rw [this]
    |false=>
     rw [tC] at h;obtain ⟨a,ha,h⟩:=cN h;obtain ⟨a',JC,hk⟩:=bP h;rw [hg] at ha;injection ha with ha;subst ha;refine ⟨_,_,?_,IP hS cA (rd:=[]),hk⟩;show sQ ps z sz (x.ev pe) (p.ev pe)=_;rw [hx];have hj:u≠ .iz:=by
      intro e;subst e;have:=RT.pZ JC;have hq:=congrArg (fun l=>l[off]?) this;have mB:=NE c2;have tC:sz=1:=by have:=lw c1;simpa [SV.cells] using this.symm
      have dW:off<(ajm r):=by omega
      have G9:off<(RT.sv r a0).length:=by rw [RT.IN];exact dW
      simp only [pX,SV.cells] at hq;rw [v4 (by simp;omega),v6 (by simp;omega)] at hq;simp only [abQ,adF (aiY G9),ajk,adk] at hq;have: ∀(r:List PT) (b:RT r) (n:Nat),(RT.sv r b)[n]?≠ajn .iz:=by
       intro r
       induction r with
       |nil=>intro b n h;simp [RT.sv] at h
       |cons p rest ih=>
        intro b n;cases rest with
        |nil=>cases n<;>cases p<;>simp [RT.sv,PT.sv]
        |cons p2 akX=>cases n with
         |zero=>cases p<;>simp [RT.sv,PT.sv]
         |succ n=>simpa [RT.sv] using ih b.2 n
      exact this r a' off hq.symm
     have Fc:=hv.cells hj;have vt:=RT.pZ JC;have h5:RL s (RT.sv r a') (oc off (x.ev pe).cells (RT.pv r a0)):=by rw [<- vt];exact zj Fc (Hu r a0)
     have h6:=zi r a' h5;have MT:(x.ev pe).cC=ajn (x.ev pe).cells:=by unfold PV.cC;rw [lm ?_];have rV:=RT.plain r a';rw [<- h6] at rV;unfold oc at rV;simp only [ajg,rc] at rV;exact rV.1.2
     simp only [sQ,hS.arr cA,e1,Cr,MT,Fc.nm,RT.wD];rw [lm (by simp [c1,c2,c3])];simp only [h6]
   |_=>cases h
 |_=>cases h
end
end Go.Vm
/- Operation by operation, third part: slices, new blocks, append, sets; all of them together. -/
namespace Go.Vm
section
variable {R' ρ : Type} {w : R' -> ρ} {y : ρ} {s : List SB} {ps : cI} {e : SE} {pe : Env} {z : List Nat} {k : gz -> gT R'}
def Fe (pe:Env) (o:Option fU):Option (Option Nat):=match o with|none=>ajn ajo|some a=>(kK (a.ev pe)).map ajn
theorem vI (hE:eg s e pe) {o:Option fU} {d a:Int} {n:Nat} (h:Cx e d o=ajn a) (hd:d=ac5 n) (h0:0<=a): ∃b,Fe pe o=ajn b/\b.getD n=a.toNat:=by
 cases o with
 |none=>injection h with h;subst h hd;exact ⟨ajo,rfl,rfl⟩
 |some x=>
  simp only [Cx] at h;split at h
  · rename_i ka m hx
    injection h with h;subst h;obtain ⟨b,rfl⟩:=PP h0;refine ⟨ajn b,?_,rfl⟩;simp only [Fe,nu hE hx];rfl
  cases h
theorem Aw {esz:Nat} {x:fU} {lo hi mx:Option fU} {l h m:Option Nat} {v:PV} (he:vf esz (x.ev pe)=ajp) (h1:Fe pe lo=ajn l) (h2:Fe pe hi=ajn h) (h3:Fe pe mx=ajn m) (hv:rh (x.ev pe) l h m=ajn v):
 bJ pe ps z (.Pv esz x lo hi mx)=ajn {v:=v}:=by
 have e:bJ pe ps z (.Pv esz x lo hi mx)=(match Fe pe lo,Fe pe hi,Fe pe mx with|some l,ajn h,ajn m=>(rh (x.ev pe) l h m).map fun v=>({v}:od)|_,_,_=>ajo):=by simp only [bJ,he,aiH,M2,if_false];rfl
 rw [e,h1,h2,h3];simp only [hv];rfl
theorem Ff {α:Type} {l r:List α} {lo hi:Int} (h:hU l lo hi=ajn r): ∃a b:Nat,lo=ac5 a/\hi=ac5 b/\a<=b/\b<=ajm l/\r=(l.drop a).take (b-a):=by
 unfold hU at h;split at h
 · rename_i hc
   obtain ⟨a,rfl⟩:=PP hc.1;obtain ⟨b,rfl⟩:=PP (acQ hc.1 hc.2.1);injection h with h;exact ⟨a,b,rfl,rfl,by omega,by omega,by rw [<- h];simp⟩
 cases h
theorem IQ (hE:eg s e pe) (hS:cD s ps) {esz t off len cap:Nat} {ex:Bool} {x:fU} {lo hi mx:Option fU} (hx:x.ev pe= .own t esz off len cap ex) (dt:zU s t esz) (h:MG e t off len cap ex lo hi mx k ρ w=ajn y):
 ie s ps (bJ pe ps z (.Pv esz x lo hi mx)) k ρ w y:=by
 unfold MG at h;obtain ⟨a,ha,h⟩:=bP h;obtain ⟨b,hb,h⟩:=bP h;have he:vf esz (x.ev pe)=ajp:=by rw [hx];simp [vf]
 cases mx with
 |none=>
  obtain ⟨hc,h⟩:=iS h;simp only [rc,decide_eq_true_eq] at hc;obtain ⟨⟨c1,c2⟩,c3⟩:=hc;obtain ⟨l,h1,h2⟩:=vI hE (n:=0) ha rfl c1;obtain ⟨u,h3,h4⟩:=vI hE (n:=len) hb rfl (acQ c1 c2);refine ie.val hS h (Aw he h1 h3 (m:=ajo) rfl ?_) ⟨esz,rfl,dt⟩;rw [hx];have c4:(If a.toNat b.toNat&&If b.toNat cap)=ajp:=by have c3':b<=(cap:Int):=c3;simp;omega
  simp only [rh,h2,h4,c4,if_true]
 |some mo=>
  dsimp only at h;generalize hm:bX e mo=vm at h;cases vm with
  |int km c=>
   obtain ⟨hc,h⟩:=iS h;simp only [rc,decide_eq_true_eq] at hc;obtain ⟨⟨⟨c1,c2⟩,c3⟩,c4⟩:=hc;obtain ⟨l,h1,h2⟩:=vI hE (n:=0) ha rfl c1;obtain ⟨u,h3,h4⟩:=vI hE (n:=len) hb rfl (acQ c1 c2);have GJ:0<=c:=acQ (acQ c1 c2) c3;obtain ⟨c,rfl⟩:=PP GJ;refine ie.val hS h (Aw he h1 h3 (m:=ajn c) (by simp only [Fe,nu hE hm];rfl) ?_) ⟨esz,rfl,dt⟩;rw [hx];have c5:(If a.toNat b.toNat&&If b.toNat c&&If c cap)=ajp:=by have c4':(c:Int)<=(cap:Int):=c4;simp;omega
   simp only [rh,h2,h4,c5,if_true];rfl
  |_=>cases h
theorem VL (hE:eg s e pe) (hS:cD s ps) {esz:Nat} {x:fU} {lo hi mx:Option fU} (h:mP e s z (.Pv esz x lo hi mx) k ρ w=ajn y):ie s ps (bJ pe ps z (.Pv esz x lo hi mx)) k ρ w y:=by
 simp only [mP] at h;have hx:=dS hE x;unfold akR at h;generalize bX e x=v at h hx;cases v with
 |sl r l=>
  cases mx with
  |some _=>cases h
  |none=>
   dsimp only at h;obtain ⟨he,h⟩:=cO h;have he:=lw he;obtain ⟨a,ha,h⟩:=bP h;obtain ⟨b,hb,h⟩:=bP h;obtain ⟨m,hm,hk⟩:=cN h;obtain ⟨n1,n2,rfl,rfl,c1,c2,rfl⟩:=Ff hm;obtain ⟨u1,h1,h2⟩:=vI hE (n:=0) ha rfl (by simp);obtain ⟨u2,h3,h4⟩:=vI hE (n:=ajm l) hb rfl (by simp);have hx':x.ev pe= .sl (ajm r) ajq (l.map (RT.pv r)):=hx;subst he;refine ie.val hS (p:= .sl (ajm r) ajq ((((l.drop n1).take (n2-n1))).map (RT.pv r))) hk (Aw (m:=ajo) (by rw [hx'];simp [vf]) h1 h3 rfl ?_) rfl;rw [hx'];have Qd:u1.getD 0=n1:=by rw [h2];rfl
   have h4':u2.getD (l.map (RT.pv r)).length=n2:=by rw [abI,h4];rfl
   have c3:(If n1 n2&&If n2 (l.map (RT.pv r)).length)=ajp:=by simp [c1,c2]
   simp only [rh,Qd,h4',c3,if_true,Bool.false_and,abR,acr]
 |own t ex=>
  simp only [cp] at h;generalize cA:s[t]? =b at h;cases b with
  |none=>cases h
  |some b=>
   cases b with
   |arr r l=>
    dsimp only at h;obtain ⟨he,hk⟩:=cO h;have he:=lw he;obtain ⟨e',n',hx,dt⟩:=hx;obtain ⟨rfl,rfl⟩:=dt.inv cA;subst he;have DM:zU s t (ajm r):= .inl ⟨r,l,cA,rfl⟩;have gen:MG e t 0 (ajm l) (ajm l) ex lo hi mx k ρ w=ajn y->ie s ps (bJ pe ps z (.Pv (ajm r) x lo hi mx)) k ρ w y:=fun h=>IQ hE hS hx DM h
    have he:vf (ajm r) (x.ev pe)=ajp:=by rw [hx];simp [vf]
    cases mx with
    |some m=>cases lo<;>cases hi<;>exact gen hk
    |none=>
     cases lo with
     |some _=>cases hi<;>exact gen hk
     |none=>
      cases hi with
      |none=>refine ie.val hS hk (Aw (l:=ajo) (h:=ajo) (m:=ajo) he rfl rfl rfl ?_) ⟨ajm r,ajm l,rfl,dt⟩;rw [hx];simp [rh]
      |some ho=>
       dsimp only at hk;generalize hh:bX e ho=vh at hk;cases vh with
       |int kh b=>
        obtain ⟨m,hm,hk⟩:=cN hk;obtain ⟨n1,n2,h0,rfl,c1,c2,rfl⟩:=Ff hm;refine ie.val hS hk (Aw (l:=ajo) (h:=ajn n2) (m:=ajo) he rfl (by simp only [Fe,nu hE hh];rfl) rfl ?_) ⟨ajm r,rfl,DM⟩;rw [hx];have c3:(If 0 n2&&If n2 (ajm l))=ajp:=by simp [c2]
        simp only [rh,ado,aj7,c3,if_true];rfl
       |_=>cases hk
   |_=>cases h
 |pre t len cap ex=>
  simp only [cp] at h;generalize cA:s[t]? =b at h;cases b with
  |none=>cases h
  |some b=>
   cases b with
   |arr r l=>
    dsimp only at h;obtain ⟨he,hk⟩:=cO h;have he:=lw he;obtain ⟨e',hx,dt⟩:=hx;have:=dt.inv cA;subst this;subst he;have gen:MG e t 0 len cap ex lo hi mx k ρ w=ajn y->ie s ps (bJ pe ps z (.Pv (ajm r) x lo hi mx)) k ρ w y:=fun h=>IQ hE hS hx dt h
    have he:vf (ajm r) (x.ev pe)=ajp:=by rw [hx];simp [vf]
    cases mx with
    |some m=>cases lo<;>cases hi<;>exact gen hk
    |none=>
     cases lo with
     |some _=>cases hi<;>exact gen hk
     |none=>
      cases hi with
      |none=>
       obtain ⟨hlc,hk⟩:=iS hk;refine ie.val hS hk (Aw (l:=ajo) (h:=ajo) (m:=ajo) he rfl rfl rfl ?_) ⟨ajm r,rfl,dt⟩;rw [hx];have c3:(If 0 len&&If len cap)=ajp:=by simp [hlc]
       simp only [rh,ado,c3,if_true];simp
      |some ho=>
       dsimp only at hk;generalize hh:bX e ho=vh at hk;cases vh with
       |int kh b=>
        obtain ⟨hc,hk⟩:=iS hk;simp only [rc,decide_eq_true_eq] at hc;obtain ⟨c1,c2⟩:=hc;obtain ⟨b,rfl⟩:=PP c1;refine ie.val hS hk (Aw (l:=ajo) (h:=ajn b) (m:=ajo) he rfl (by simp only [Fe,nu hE hh];rfl) rfl ?_) ⟨ajm r,rfl,dt⟩;rw [hx];have c3:(If 0 b&&If b cap)=ajp:=by have c2':(b:Int)<=(cap:Int):=c2;simp;omega
        simp only [rh,ado,aj7,c3,if_true];rfl
       |_=>cases hk
   |_=>cases h
 |part t off len cap ex=>
  simp only [cp] at h;generalize cA:s[t]? =b at h;cases b with
  |none=>cases h
  |some b=>
   cases b with
   |arr r l=>dsimp only at h;obtain ⟨he,hk⟩:=cO h;have he:=lw he;obtain ⟨e',hx,dt⟩:=hx;have:=dt.inv cA;subst this;subst he;exact IQ hE hS hx dt hk
   |_=>cases h
 |_=>cases h
theorem mU {b:SB}:(s++[b])[ajm s]? =ajn b:=by simp
theorem eu: ∀{v:PV} {p:PT},aW v=ajn p->p.pv p.zero=v
 | .int k n,p,h=>by
  simp only [aW] at h;split at h
  · injection h with h;subst h;rfl
  cases h
 | .bool b,p,h=>by
  simp only [aW] at h;split at h
  · injection h with h;subst h;rfl
  cases h
 | .undef,_,h| .ke,_,h| .str _,_,h| .agg _,_,h| .b8 _,_,h| .sl _ _ _,_,h| .own _ _ _ _ _ _,_,h| .ptr _ _ _ _,_,h| .bM _ _,_,h| .mp _,_,h| .fh _ _ _,_,h| .eo,_,h=>by cases h
theorem Bs : ∀ {l : List PV} {r : List PT}, E2 l = ajn r -> RT.pv r (RT.zero r) = l
  | [], r, h => by injection h with h; subst h; rfl
  | v :: vs, r, h => by
    simp only [E2] at h
    split at h
    · rename_i p q h1 h2
      injection h with h; subst h
      have e1 := eu h1
      have e2 := Bs h2
      cases q with
      | nil =>
        have : vs = [] := by
          cases vs with
          | nil => rfl
          | cons a b => simp only [RT.pv] at e2; cases e2
        subst this
        show [p.pv p.zero] = _
        rw [e1]
      | cons p2 q2 =>
        show p.pv p.zero :: RT.pv (p2 :: q2) (RT.zero (p2 :: q2)) = _
        rw [e1, e2]
    cases h
theorem VM (hE:eg s e pe) (hS:cD s ps) {esz:Nat} {zero:Row} {l c:fU} (h:mP e s z (.mks esz zero l c) k ρ w=ajn y):ie s ps (bJ pe ps z (.mks esz zero l c)) k ρ w y:=by
 simp only [mP] at h;generalize hl:bX e l=vl at h;cases vl with
 |int kl n=>
  generalize hc:bX e c=vc at h;cases vc with
  |int kc m=>
   obtain ⟨hnm,h1⟩:=iS h;obtain ⟨r,hr,h2⟩:=bP h1;obtain ⟨he,h3⟩:=cO h2;obtain ⟨x,hx,hk⟩:=cN h3;have hnm:n=m:=by simpa using hnm
   subst hnm;have he:=lw he;subst he;unfold yj at hx;split at hx
   · rename_i Cl
     injection hx with hx;subst hx;obtain ⟨a,rfl⟩:=PP Cl.1;have h1:(If a a&&If a mC)=ajp:=by simp [mC];omega
     refine ⟨_,_,?_,Good.new hS (b:= .arr r (abP (ac5 a).toNat (RT.zero r))) (q:= .arr (ajm r) (abP a zero)) (v:= .own (ajm s) ajp) (p:= .own (ajm s) (ajm r) 0 a a ajp) (rd:=[]) ?_ ?_,hk⟩
     · have e1:kK (.int kl (a:Int))=ajn a:=rfl
       have e2:kK (.int kc (a:Int))=ajn a:=rfl;simp only [bJ,nu hE hl,nu hE hc,e1,e2];rw [lm h1,hS.len]
     · show _=_
       simp [Bs hr]
     exact ⟨ajm r,a,rfl,.inl ⟨r,_,mU,rfl,by simp⟩⟩
   cases hx
  |_=>cases h
 |_=>cases h
def wH {α:Type}:List α->List (Nat×α)->List α
 |l,[]=>l
 |l,(i,a)::r=>wH (l.set i a) r
theorem Fg {α : Type} : ∀ (q : List (Nat × α)) (l : List α) (i : Nat), (wH l q)[i]? = (l[i]?).map fun z => rowAt i z q
  | [], l, i => by simp [wH, rowAt]
  | (j, a) :: q, l, i => by
    simp only [wH, rowAt]
    rw [Fg q (l.set j a) i, EQ]
    by_cases Va : j = i
    · subst Va
      cases hl : l[j]? with
      | none =>
        have : ¬ j < (ajm l) := by intro h; rw [AC h] at hl; cases hl
        simp [this]
      | some z =>
        have : j < (ajm l) := (ut.1 hl).1
        simp [this]
    have : IR j i = ajq := by
      cases hb : IR j i with
      | false => rfl
      | true => exact absurd (lw hb) Va
    simp [Va, this]
theorem KH {α:Type} (f:Nat->α): ∀(n i j:Nat),(IJ f i n)[j]? =if j<n then ajn (f (i+j)) else ajo
 |0,i,j=>by simp [IJ]
 |n+1,i,0=>by simp [IJ]
 |n+1,i,j+1=>by
  simp only [IJ,abV];rw [KH f n (i+1) j,show i+1+j=i+(j+1) by omega]
  by_cases h:j<n
  · simp [h]
  simp [h]
theorem Fh {α:Type} (z:α) (n:Nat) (q:List (Nat×α)):wH (abP n z) q=IJ (fun i=>rowAt i z q) 0 n:=by
 apply aiZ;intro i;rw [Fg,KH]
 by_cases h:i<n
 · simp [h]
 simp [h]
theorem Fi (hE:eg s e pe) {r:List PT} {n:Nat}: ∀{parts:List (Nat×fU)} {q:List (Nat×RT r)} {l:List (RT r)},Ok r e n parts=ajn q->ajm l=n->
 qu (parts.map fun p=>(p.1,p.2.ev pe)) (l.map (RT.pv r)) (ajm r)=ajn ((wH l q).map (RT.pv r))
 | [],q,l,h,hl=>by injection h with h;subst h;rfl
 |p::parts,q,l,h,hl=>by
  simp only [Ok] at h;split at h
  · rename_i a q' h1 h2
    cases hb:aig p.1 n with
    |false=>rw [hb] at h;cases h
    |true=>rw [hb] at h;injection h with h;subst h;have hp:=((dS hE p.2).ofRow h1).1;simp only [abJ,qu,hp,RT.wD,abI,hl,hb,abL,abK,if_true,wH];rw [<- aiS];exact Fi hE h2 (by simp [hl])
  cases h
theorem Qj (hE:eg s e pe) (hS:cD s ps) {esz n:Nat} {zero:Row} {parts:List (Nat×fU)} (h:mP e s z (.AZ esz n zero parts) k ρ w=ajn y):ie s ps (bJ pe ps z (.AZ esz n zero parts)) k ρ w y:=by
 simp only [mP] at h;obtain ⟨r,hr,h1⟩:=bP h;obtain ⟨he,h2⟩:=cO h1;obtain ⟨q,hq,hk⟩:=bP h2;have he:=lw he;subst he;have hf:=Fi hE (l:=abP n (RT.zero r)) hq (by simp);rw [Fh] at hf;have hz:(abP n (RT.zero r)).map (RT.pv r)=abP n zero:=by simp [Bs hr]
 rw [hz] at hf;refine ⟨_,_,?_,Good.new hS (b:= .arr r (IJ (fun i=>rowAt i (RT.zero r) q) 0 n)) (q:= .arr (ajm r) ((IJ (fun i=>rowAt i (RT.zero r) q) 0 n).map (RT.pv r))) (v:= .own (ajm s) ajp) (p:= .own (ajm s) (ajm r) 0 n n ajp) (rd:=[]) rfl ?_,hk⟩
 · simp only [bJ,hf,hS.len]
   rfl
 refine ⟨ajm r,n,rfl,.inl ⟨r,_,mU,rfl,?_⟩⟩
 rw [<- Fh];have: ∀(q:List (Nat×RT r)) (l:List (RT r)),(wH l q).length=(ajm l):=by
  intro q
  induction q with
  |nil=>intro l;rfl
  |cons p q ih=>intro l;simp [wH,ih]
 rw [this];simp
theorem OB: ∀{cs:List SV} {q:List PV} {l:List Int},RL s cs q->Ol cs=ajn l->q=l.map (.int .i64)
 | [],q,l,h,hi=>by injection hi with hi;subst hi;exact h
 |x::xs,q,l,h,hi=>by
  obtain ⟨p,q,rfl,h1,h2⟩:=h.cons_inv;simp only [Ol] at hi;split at hi
  · rename_i n l' hx
    injection hi with hi;subst hi;rw [show p= .int .i64 n from h1,OB h2 hx];rfl
  cases hi
theorem SH {v:SV} {p:PV} {n:Option Nat} {l:List Int} (h:R s v p) (hk:Vs n v=ajn l):p=tG l/\kf n (tG l)=ajp/\(tG l).cC=ajn (tG l).cells/\(tG l).cells=l.map (.int .i64)/\(n=ajo->ajm l=1)/\(∀m,n=ajn m->ajm l=m/\m≠1):=by
 cases n with
 |none=>
  cases v with
  |int kk a=>
   cases kk with
   |i64=>injection hk with hk;subst hk;exact ⟨h,rfl,rfl,rfl,fun _=>rfl,fun m hm=>by cases hm⟩
   |_=>cases hk
  |_=>cases hk
 |some m=>
  cases v with
  |agg cs=>
   simp only [Vs] at hk;cases hc:(IR (ajm cs) m&&!Nat.beq m 1) with
   |false=>rw [hc] at hk;cases hk
   |true=>
    rw [hc] at hk;simp only [kw] at hk;simp only [rc,acV,aa4] at hc;obtain ⟨c1,c2⟩:=hc;obtain ⟨q,rfl,hq⟩:=h;have Q5:=OB hq hk;have dd:(ajm l)=m:=by have:=hq.nm;rw [Q5] at this;simp at this;omega
    have OC:m≠1:=by intro e;subst e;cases c2
    have Q7:tG l= .agg (l.map (.int .i64)):=by
     unfold tG;split
     · simp at dd;omega
     rfl
    refine ⟨by rw [Q7,Q5],by rw [Q7];simp [kf,dd],?_,by rw [Q7];rfl,(fun h=>by cases h),fun m' hm=>by injection hm with hm;subst hm;exact ⟨dd,OC⟩⟩;rw [Q7];unfold PV.cC;rw [lm];simp [PV.cells,PV.plain]
  |_=>cases hk
theorem wI: ∀(a b:List Int),ajm a=ajm b->dE (a.map (.int .i64)) (b.map (.int .i64))=ajn (a==b)
 | [],[],_=>rfl
 |x::a,y::b,h=>by
  have ih:=wI a b (by simpa using h);simp only [abJ,dE,q9,KF,if_true];cases U2:x==y with
  |true=>simp only [ih];simp [aiL,U2]
  |false=>simp [aiL,U2]
 | [],_::_,h=>by simp at h
 |_::_,[],h=>by simp at h
theorem CC {n : Option Nat} {a : List Int} (ha : (tG a).cells = a.map (.int .i64)) (hn : (n = ajo -> (ajm a) = 1) /\ (∀ m, n = ajn m -> (ajm a) = m /\ m ≠ 1)) : ∀ (l : List (List Int)) (i : Nat), (∀ r, fQ n (tG a) (l.map Bo) i = ajn r -> (match r with | none => DP l a = ajq | some j => i <= j /\ DP l a = ajp /\ l[j - i]? = ajn a))
  | [], i, r, h => by
    simp only [aj1, fQ, ww] at h
    subst h; rfl
  | b :: l, i, r, h => by
    simp only [abJ, Bo, fQ] at h
    split at h
    · rename_i hk
      have hb : (tG b).cells = b.map (.int .i64) /\ (ajm a) = (ajm b) := by
        cases n with
        | none =>
          have hl := hn.1 rfl
          unfold tG at hk ⊢
          split at hk
          · exact ⟨rfl, by simpa using hl⟩
          cases hk
        | some m =>
          obtain ⟨hl, hm⟩ := hn.2 m rfl
          unfold tG at hk ⊢
          split at hk
          · cases hk
          simp only [kf, abI, acV] at hk
          exact ⟨rfl, by omega⟩
      rw [ha, hb.1, wI a b hb.2] at h
      cases Mg : a == b with
      | true =>
        rw [Mg] at h
        injection h with h; subst h
        have : a = b := by simpa using Mg
        subst this
        exact ⟨ai1 _, by simp [DP], by simp⟩
      | false =>
        rw [Mg] at h
        have := CC ha hn l (i + 1) r h
        cases r with
        | none => simpa [DP, Mg] using this
        | some j =>
          obtain ⟨h1, h2, h3⟩ := this
          refine ⟨by omega, by simp only [DP] at h2; simp [DP, h2], ?_⟩
          rw [show j - i = (j - (i + 1)) + 1 by omega]; simpa using h3
    cases h
theorem Bt {n:Option Nat} {a:List Int} (ha:(tG a).cells=a.map (.int .i64)) (hn:(n=ajo->ajm a=1)/\(∀m,n=ajn m->ajm a=m/\m≠1)) {l:List (List Int)} (hl:l.all (fun b=>kf n (tG b))=ajp): ∀i,∃r,fQ n (tG a) (l.map Bo) i=ajn r:=by
 induction l with
 |nil=>intro i;exact ⟨ajo,rfl⟩
 |cons b l ih=>
  intro i;simp only [aiD,rc] at hl;obtain ⟨r,hr⟩:=ih hl.2 (i+1);simp only [abJ,Bo,fQ,hl.1,if_true];have hb:(tG b).cells=b.map (.int .i64)/\ajm a=(ajm b):=by
   have hk:=hl.1;cases n with
   |none=>
    have mS:=hn.1 rfl;unfold tG at hk ⊢;split at hk
    · exact ⟨rfl,by simpa using mS⟩
    cases hk
   |some m=>
    obtain ⟨mS,hm⟩:=hn.2 m rfl;unfold tG at hk ⊢;split at hk
    · cases hk
    simp only [kf,abI,acV] at hk
    exact ⟨rfl,by omega⟩
  rw [ha,hb.1,wI a b hb.2];cases Mg:a==b with
  |true=>exact ⟨ajn i,rfl⟩
  |false=>exact ⟨r,hr⟩
theorem Dn {n:Option Nat} {a:List Int} (hn:(n=ajo->ajm a=1)/\(∀m,n=ajn m->ajm a=m/\m≠1)) {l:List (List Int)} (hl: ∀b∈l,ajm b=ajm a):l.all (fun b=>kf n (tG b))=ajp:=by
 rw [abT];intro b hb;have dd:=hl b hb;cases n with
 |none=>
  have h1:=hn.1 rfl;rw [h1] at dd
  match b,dd with
  | [x],_=>rfl
 |some m=>
  obtain ⟨h1,h2⟩:=hn.2 m rfl;unfold tG;split
  · rename_i x;simp at dd;omega
  simp [kf];omega
theorem Bu {a:List Int} {l:List (List Int)} (h:ov a l=ajp): ∀b∈l,ajm b=(ajm a):=by intro b hb;exact lw (abT.1 h b hb)
theorem PT.akZ {s:List SB} {p:PT} {v:SV} {q:PV} {a:p.T} (h:R s v q) (ho:p.of v=ajn a):q=p.pv a:=by
 cases p with
 |i k=>
  cases v with
  |int l n=>
   simp only [PT.of] at ho;cases hk:gn l k with
   |false=>rw [hk] at ho;cases ho
   |true=>rw [hk] at ho;obtain rfl:=fX.1 hk;injection ho with ho;subst ho;exact h
  |_=>cases ho
 |b=>
  cases v with
  |bool x=>injection ho with ho;subst ho;exact h
  |_=>cases ho
theorem Fj {β:Type} (g:Int×β->PV×PV) (hg: ∀x,(g x).1= .int .i64 x.1) (k:Int): ∀(l:List (Int×β)) (i:Nat),
 (∃j x,fQ ajo (.int .i64 k) (l.map g) i=ajn (ajn (i+j))/\l[j]? =ajn x/\(∀z,Dg z l k=x.2)/\ ∀a,Dh l k a=l.set j (k,a))\/
 (fQ ajo (.int .i64 k) (l.map g) i=ajn ajo/\(∀z,Dg z l k=z)/\ ∀a,Dh l k a=l++[(k,a)])
 | [],i=> .inr ⟨rfl,fun _=>rfl,fun _=>rfl⟩
 |x::l,i=>by
  have hk:kf ajo (g x).1=ajp:=by rw [hg];rfl
  have he:dE (PV.int .i64 k).cells (g x).1.cells=ajn (k==x.1):=by rw [hg];show dE [.int .i64 k] [.int .i64 x.1]=_;simp only [dE,q9,gn,if_true];cases k==x.1<;>rfl
  have hf:fQ ajo (.int .i64 k) ((x::l).map g) i=(match ajn (k==x.1) with
   |some ajp=>ajn (ajn i)
   |some ajq=>fQ ajo (.int .i64 k) (l.map g) (i+1)
   |none=>ajo):=by
   rw [abJ];show (if kf ajo (g x).1 then _ else ajo)=_;rw [lm hk,he];cases k==x.1<;>rfl
  cases hb:k==x.1 with
  |true=>rw [hb] at hf;exact .inl ⟨0,x,hf,rfl,fun z=>by simp only [Dg,hb,kw],fun a=>by simp only [Dh,hb,kw,List.set_cons_zero]⟩
  |false=>
   rw [hb] at hf;rcases Fj g hg k l (i+1) with ⟨j,y,h1,h2,h3,h4⟩|⟨h1,h2,h3⟩
   · refine .inl ⟨j+1,y,?_,by simpa using h2,fun z=>?_,fun a=>?_⟩
     · rw [hf];show fQ ajo (.int .i64 k) (l.map g) (i+1)=_
       rw [h1,show i+1+j=i+(j+1) by omega]
     · simp only [Dg,hb,lc,h3]
     simp only [Dh,hb,lc,h4,List.set_cons_succ]
   exact .inr ⟨hf.trans h1,fun z=>by simp only [Dg,hb,lc,h2],fun a=>by simp only [Dh,hb,lc,h3,adp]⟩
theorem Fk (p:PT) (k:Int) (l:List (RT [.i .i64,p])):
 (∃(j:Nat) (x:RT [.i .i64,p]),fQ ajo (.int .i64 k) (l.map (DQ p)) 0=ajn (ajn j)/\l[j]? =ajn x/\(∀z,p.get z l k=x.2)/\ ∀a,p.put l k a=l.set j (k,a))\/
 (fQ ajo (.int .i64 k) (l.map (DQ p)) 0=ajn ajo/\(∀z,p.get z l k=z)/\ ∀a,p.put l k a=l++[(k,a)]):=by
 cases p with
 |i d=>
  rcases Fj (β:=Int) (DQ (.i d)) (fun _=>rfl) k l 0 with ⟨j,x,h1,h2,h3,h4⟩|h
  · exact .inl ⟨j,x,by rw [h1,acD],h2,h3,h4⟩
  exact .inr h
 |b=>
  rcases Fj (β:=Bool) (DQ .b) (fun _=>rfl) k l 0 with ⟨j,x,h1,h2,h3,h4⟩|h
  · exact .inl ⟨j,x,by rw [h1,acD],h2,h3,h4⟩
  exact .inr h
theorem PT.apC {s:List SB} (p:PT) (a:p.T):R s (p.sv a) (p.pv a):=by cases p<;>rfl
theorem PT.KI (p:PT) (a:p.T):(p.pv a).cC=ajn [p.pv a]:=by cases p<;>rfl
theorem MU (hE:eg s e pe) (hS:cD s ps) {n:Option Nat} {zero:PV} {ok:Bool} {m q:fU} (h:mP e s z (.lookup n zero ok m q) k ρ w=ajn y):ie s ps (bJ pe ps z (.lookup n zero ok m q)) k ρ w y:=by
 simp only [mP] at h;have hx:=dS hE m;generalize bX e m=v at h hx;cases v with
 |mp t=>
  simp only [cp] at h;generalize cA:s[t]? =b at h;cases b with
  |none=>cases h
  |some b=>
   cases b with
   |set l=>
    dsimp only at h;unfold On at h;cases zero with
    |bool b=>
     cases b with
     |true=>cases h
     |false=>
      cases ok with
      |true=>cases h
      |false=>
       obtain ⟨a,ha,h1⟩:=bP h;obtain ⟨b,hb,hk⟩:=cN h1;obtain ⟨k1,k2,k3,k4,k5⟩:=SH (dS hE q) ha;unfold Kv at hb;cases uN:ov a l with
       |false=>rw [uN] at hb;cases hb
       |true=>
        rw [uN] at hb;injection hb with hb;subst hb;obtain ⟨r,hr⟩:=Bt k4 k5 (Dn k5 (Bu uN)) 0;have hf:=CC k4 k5 l 0 r hr;refine ie.rd hS hk ?_ rfl;show tL ps n (.bool ajq) ajq (m.ev pe) (q.ev pe)=_;rw [show m.ev pe=_ from hx,k1];simp only [tL,hS.akW cA,k2,if_true,hr];cases r with
        |none=>simp only at hf;simp [hf]
        |some j=>
         obtain ⟨_,h2,h3⟩:=hf;have:(l.map Bo)[j]? =ajn (Bo a):=by simp at h3;simp [h3]
         simp [this,h2,Bo]
    |_=>cases h
   |bC p l=>
    dsimp only at h;unfold Oo at h;cases n with
    |some _=>cases h
    |none=>
     cases ok with
     |true=>cases h
     |false=>
      have hq:=dS hE q;generalize bX e q=u at h hq;cases u with
      |int d a=>
       cases d with
       |i64=>
        obtain ⟨zv,hz,hk⟩:=bP h;have ak0:=PT.akZ (MR s zero) hz;refine ie.rd hS hk ?_ (PT.apC p _);show tL ps ajo zero ajq (m.ev pe) (q.ev pe)=_;rw [show m.ev pe=_ from hx,show q.ev pe=_ from hq];rcases Fk p a l with ⟨j,x,h1,h2,h3,_⟩|⟨h1,h2,_⟩
        · have h5:(l.map (DQ p))[j]? =ajn (DQ p x):=by simp [h2]
          simp only [tL,hS.VJ cA,kf,if_true,h1,h5,h3,DQ,M2,if_false]
        simp only [tL,hS.VJ cA,kf,if_true,h1,h2,ak0,M2,if_false]
       |_=>cases h
      |_=>cases h
   |_=>cases h
 |_=>cases h
theorem SI (hE:eg s e pe) (hS:cD s ps) {n:Option Nat} {m q x:fU} (h:mP e s z (.Ib n m q x) k ρ w=ajn y):ie s ps (bJ pe ps z (.Ib n m q x)) k ρ w y:=by
 simp only [mP] at h;have hx:=dS hE m;generalize bX e m=v at h hx;cases v with
 |mp t=>
  simp only [cp] at h;generalize cA:s[t]? =b at h;cases b with
  |none=>cases h
  |some b=>
   cases b with
   |set l=>
    obtain ⟨hz,h0⟩:=sI h;unfold Sg at h0;have hv:=dS hE x;generalize bX e x=u at h0 hv;cases u with
    |bool b=>
     cases b with
     |false=>cases h0
     |true=>
      obtain ⟨a,ha,h1⟩:=bP h0;obtain ⟨b,hb,hk⟩:=cN h1;obtain ⟨k1,k2,k3,k4,k5⟩:=SH (dS hE q) ha;unfold Kw at hb;cases uN:ov a l with
      |false=>rw [uN] at hb;cases hb
      |true=>
       rw [uN] at hb;injection hb with hb;subst hb;obtain ⟨r,hr⟩:=Bt k4 k5 (Dn k5 (Bu uN)) 0;have hf:=CC k4 k5 l 0 r hr;refine ⟨_,_,?_,Good.Sv hS (b:= .set (ME l a)) (q:= .map ((ME l a).map Bo)) (rd:=[]) cA trivial rfl,hk⟩;show C' ps z n (m.ev pe) (q.ev pe) (x.ev pe)=_;rw [show m.ev pe=_ from hx,k1,show x.ev pe= .bool ajp from hv];have p2:(PV.bool ajp).cC=ajn [.bool ajp]:=rfl;simp only [C',hS.akW cA,k2,hz,ac9,abK,if_true,k3,p2,hr];cases r with
       |none=>simp only at hf;simp [ME,hf,Bo]
       |some j=>
        obtain ⟨_,h2,h3⟩:=hf;have h5:l[j]? =ajn a:=by simpa using h3
        have:(l.map Bo).set j (tG a,.bool ajp)=l.map Bo:=by
         apply aiZ;intro i;rw [EQ];split
         · rename_i nJ
           subst nJ;have dW:=(ut.1 h5).1;have h6:l[j]=a:=(ut.1 h5).2;simp [dW,h6,Bo]
         rfl
        simp [ME,h2,this]
    |_=>cases h0
   |bC p l=>
    obtain ⟨hz,h0⟩:=sI h;unfold Sh at h0;cases n with
    |some _=>cases h0
    |none=>
     have hq:=dS hE q;generalize bX e q=u at h0 hq;cases u with
     |int d a=>
      cases d with
      |i64=>
       obtain ⟨xv,hxv,hk⟩:=bP h0;have MV:=PT.akZ (dS hE x) hxv;refine ⟨_,_,?_,Good.Sv hS (b:= .bC p (p.put l a xv)) (q:= .map ((p.put l a xv).map (DQ p))) (rd:=[]) cA trivial rfl,hk⟩;show C' ps z ajo (m.ev pe) (q.ev pe) (x.ev pe)=_;rw [show m.ev pe=_ from hx,show q.ev pe=_ from hq,MV];have p1:(PV.int .i64 a).cC=ajn [.int .i64 a]:=rfl;rcases Fk p a l with ⟨j,x,h1,_,_,h3⟩|⟨h1,_,h3⟩
       · simp only [C',hS.VJ cA,kf,hz,ac9,abK,if_true,p1,PT.KI,h1,h3,aiS,DQ]
       simp only [C',hS.VJ cA,kf,hz,ac9,abK,if_true,p1,PT.KI,h1,h3,abX,abJ,aj1,DQ]
      |_=>cases h0
     |_=>cases h0
   |_=>cases h
 |_=>cases h
theorem zU.fr' {s s':List SB} {bad:List Nat} {t e:Nat} (h:zU s t e) (hf:Fr bad s s'):zU s' t e:=by
 rcases h with ⟨r,l,h1,h2⟩|h1|⟨cs,h1,h2⟩
 · rcases hf t _ h1 with ⟨l',k1,_,_⟩|k1
   · exact .inl ⟨r,l',k1,h2⟩
   exact .inr (.inl k1)
 · exact .inr (.inl (hf t _ h1))
 rcases hf t _ h1 with ⟨c2,k1⟩|k1
 · exact .inr (.inr ⟨c2,k1,h2⟩)
 exact .inr (.inl k1)
theorem Ax {α:Type} {l r:List α} (h:bN l=ajn r):r=l/\ajm l<=1048576:=by
 unfold bN at h;split at h
 · injection h with h;exact ⟨h.symm,by assumption⟩
 cases h
theorem yq {α:Type} {l m r:List α} (h:bI l m=ajn r):r=l++m/\ajm l+ajm m<=1048576:=by
 unfold bI at h;split at h
 · injection h with h;exact ⟨h.symm,by assumption⟩
 cases h
theorem tY: ∀(m l:List Row) (n:Nat),n+ajm m<=ajm l->lN n m l=ig l n m
 | [],l,n,h=>by simp [lN,ig]
 |a::m,l,n,h=>by
  simp only [ab0] at h;rw [lN,tY m (l.set n a) (n+1) (by simp;omega)];unfold ig;rw [List.take_set,List.drop_set];have hn:n<(ajm l):=by omega
  have h1: ¬(n+1+ajm m<=n):=by omega
  rw [lm (by omega)];have:(l.take (n+1)).set n a=l.take n++[a]:=by rw [List.take_succ_eq_append_getElem hn,List.set_append_right _ _ (by simp;omega)];simp [adF (aiY hn)]
  rw [this];simp only [ab1,adp,List.nil_append,ab0];rw [show n+1+ajm m=n+(ajm m+1) by omega]
theorem Fl {α β:Type} (f:α->β) (l m:List α) (n:Nat):(ig l n m).map f=ig (l.map f) n (m.map f):=by simp [ig,abR,acr]
theorem Bv {α:Type} (l m:List α) (n:Nat) (h:n+ajm m<=ajm l):(ig l n m).length=(ajm l):=by simp [ig];omega
theorem MW (hE:eg s e pe) (hS:cD s ps) {esz:Nat} {x yy:fU} (h:mP e s z (.append esz x yy) k ρ w=ajn y):ie s ps (bJ pe ps z (.append esz x yy)) k ρ w y:=by
 simp only [mP] at h;have hx:=dS hE x;have RS:=dS hE yy;unfold Om at h;generalize bX e yy=vy at h RS;cases hc:zS s vy with
 |none=>rw [hc] at h;cases h
 |some cc=>
  obtain ⟨q,m⟩:=cc;rw [hc] at h;dsimp only at h;obtain ⟨he,h⟩:=cO h;have he:=lw he;obtain ⟨AX,Cm⟩:=Oz hS RS hc;rw [he] at AX;have wJ:bJ pe ps z (.append esz x yy)=jt ps z esz (x.ev pe) (yy.ev pe):=rfl;generalize bX e x=v at h hx;cases v with
  |nil e' c=>
   dsimp only at h;obtain ⟨zK,h⟩:=cO h;obtain ⟨m',Cr,hk⟩:=cN h;obtain ⟨rfl,mB⟩:=Ax Cr;refine ⟨_,_,?_,Good.new hS (b:= .arr q m') (q:= .arr esz (m'.map (RT.pv q))) (v:= .own (ajm s) ajq) (p:= .own (ajm s) esz 0 (ajm m') (ajm m') ajq) (rd:=wB vy) (by rw [<- he];rfl) ⟨esz,ajm m',rfl,.inl ⟨q,m',mU,he.symm,rfl⟩⟩,hk⟩;rw [wJ];have apD:c=ajp:=zK;subst apD;rw [show x.ev pe= .sl e' ajp [] from hx];unfold jt;rw [AX];cases m' with
   |nil=>simp [hS.len,Cm]
   |cons a m'=>
    have h2:If ((a::m').length) mC=ajp:=by simp [mC] at mB ⊢;omega
    simp only [ab0] at h2;simp [hS.len,Cm,h2]
  |own t ex=>
   dsimp only at h;simp only [cp] at h;generalize cA:s[t]? =b at h;cases b with
   |none=>cases h
   |some b=>
    cases b with
    |arr r l=>
     dsimp only at h;cases SJ:sV q r m with
     |none=>rw [SJ] at h;cases h
     |some m2=>
      rw [SJ] at h;dsimp only at h;obtain ⟨rfl,hmp,UE⟩:=Bn SJ;obtain ⟨e',n',hx,dt⟩:=hx;obtain ⟨rfl,rfl⟩:=dt.inv cA;rw [<- hmp] at AX;have GU:=hS.arr cA;cases ex with
      |true=>
       dsimp only at h;rcases fD h with ⟨hl,h⟩|⟨hl,h⟩
       · obtain ⟨m',Cr,hk⟩:=cN h
         obtain ⟨rfl,mB⟩:=Ax Cr;have hl:l=[]:=by simpa using hl
         subst hl;refine ⟨_,_,?_,Good.new hS (b:= .arr q m') (q:= .arr (ajm q) (m'.map (RT.pv q))) (v:= .own (ajm s) ajq) (p:= .own (ajm s) (ajm q) 0 (ajm m') (ajm m') ajq) (rd:=t::wB vy) rfl ⟨ajm q,ajm m',rfl,.inl ⟨q,m',mU,rfl,rfl⟩⟩,hk⟩;rw [wJ,hx];unfold jt;rw [AX];subst he;cases m' with
         |nil=>simp [hS.len,Cm]
         |cons a m'=>
          have h2:If ((a::m').length) mC=ajp:=by simp [mC] at mB ⊢;omega
          simp only [ab0] at h2;simp [hS.len,Cm,h2,GU]
       have hl:l≠[]:=by intro e;subst e;cases hl
       have LX:(ajm l)≠0:=by intro e;exact hl (acB.1 e)
       have hb0:IR (ajm l) 0=ajq:=by
        cases hb:IR (ajm l) 0 with
        |false=>rfl
        |true=>exact absurd (lw hb) LX
       rcases fD h with ⟨hm,h⟩|⟨hm,h⟩
       · have hm:m2=[]:=by simpa using hm
         subst hm;refine ie.rd hS h ?_ ⟨_,_,rfl,dt⟩;rw [wJ,hx];unfold jt;rw [AX];simp [hb0,Cm]
       obtain ⟨l',mS,hk⟩:=cN h
       obtain ⟨rfl,mB⟩:=yq mS;refine ⟨_,_,?_,Good.new hS (b:= .arr q (l++m2)) (q:= .arr (ajm q) ((l++m2).map (RT.pv q))) (v:= .own (ajm s) ajq) (p:= .own (ajm s) (ajm q) 0 (l++m2).length (l++m2).length ajq) (rd:=t::wB vy) rfl ⟨ajm q,(l++m2).length,rfl,.inl ⟨q,l++m2,mU,rfl,rfl⟩⟩,hk⟩;rw [wJ,hx];unfold jt;rw [AX];subst he;cases m2 with
       |nil=>cases hm
       |cons a m2=>
        have h2:If (ajm l+(a::m2).length) mC=ajp:=by simp [mC] at mB ⊢;omega
        have h3:If (ajm l+(ajm m2+1)) (ajm l)=ajq:=by
         cases hb:If (ajm l+(ajm m2+1)) (ajm l) with
         |false=>rfl
         |true=>have:=NE hb;omega
        simp only [ab0] at h2;simp [hS.len,Cm,h2,h3,GU,abS]
      |false=>
       dsimp only at h;rcases fD h with ⟨hm,h⟩|⟨hm,h⟩
       · have hm:m2=[]:=by simpa using hm
         subst hm;refine ie.rd hS h ?_ ⟨_,_,rfl,dt⟩;rw [wJ,hx];unfold jt;rw [AX];simp [Cm]
       obtain ⟨hz,h⟩:=sI h
       obtain ⟨l',mS,hk⟩:=cN h;obtain ⟨rfl,mB⟩:=yq mS;have dd:(B4 [t] (s.set t .dead)).length=(ajm s):=by rw [wF];simp
       refine ⟨_,_,?_,Good.put hS (b:= .dead) (q:= .dead) (l:=[.arr q (l++m2)]) (ql:=[.arr (ajm q) ((l++m2).map (RT.pv q))]) (v:= .own (ajm s) ajq) (p:= .own (ajm s) (ajm q) 0 (l++m2).length (l++m2).length ajq) (rd:=wB vy) cA (.inr rfl) rfl rfl
        (fun j b hj=>by
         cases j with
         |zero=>simp at hj;subst hj;exact ⟨_,rfl,rfl⟩
         |succ j=>simp at hj)
        ⟨ajm q,(l++m2).length,rfl,.inl ⟨q,l++m2,by rw [<- dd];exact mU,rfl,rfl⟩⟩,hk⟩
       rw [wJ,hx];unfold jt;rw [AX];subst he;cases m2 with
       |nil=>cases hm
       |cons a m2=>
        have h2:If (ajm l+(a::m2).length) mC=ajp:=by simp [mC] at mB ⊢;omega
        have h3:If (ajm l+(ajm m2+1)) (ajm l)=ajq:=by
         cases hb:If (ajm l+(ajm m2+1)) (ajm l) with
         |false=>rfl
         |true=>have:=NE hb;omega
        simp only [ab0] at h2;simp [hS.len,Cm,h2,h3,GU,hz,abS]
    |_=>cases h
  |pre t len cap ex=>
   dsimp only at h;simp only [cp] at h;generalize cA:s[t]? =b at h;cases b with
   |none=>cases h
   |some b=>
    cases b with
    |arr r l=>
     dsimp only at h;cases SJ:sV q r m with
     |none=>rw [SJ] at h;cases h
     |some m2=>
      rw [SJ] at h;dsimp only at h;obtain ⟨rfl,hmp,UE⟩:=Bn SJ;obtain ⟨e',hx,dt⟩:=hx;have:=dt.inv cA;subst this;rw [<- hmp] at AX;have GU:=hS.arr cA;obtain ⟨hex,h⟩:=sI h;subst hex;rcases fD h with ⟨hm,h⟩|⟨hm,h⟩
      · have hm:m2=[]:=by simpa using hm
        subst hm;refine ie.rd hS h ?_ ⟨_,rfl,dt⟩;rw [wJ,hx];unfold jt;rw [AX];simp [Cm]
      rcases fD h with ⟨c1,h⟩|⟨c1,h⟩
      · obtain ⟨Cl,hk⟩:=iS h
        simp only [rc,aa4] at Cl;obtain ⟨c2,c3⟩:=Cl;have c2':=NE c2;refine ⟨_,_,?_,Good.put hS (b:= .arr q (ig l len m2)) (q:= .arr (ajm q) ((ig l len m2).map (RT.pv q))) (l:=[]) (ql:=[]) (v:= .pre t (len+ajm m2) cap ajq) (p:= .own t (ajm q) 0 (len+ajm m2) cap ajq) (rd:=wB vy) cA (.inl ⟨_,rfl,Bv _ _ _ c2'⟩) rfl rfl
         (fun j b hj=>by simp at hj) ⟨ajm q,rfl,?_⟩,hk⟩
        · rw [wJ,hx]
          unfold jt;rw [AX];subst he;have oW:lN (0+len) (m2.map (RT.pv q)) (l.map (RT.pv q))=(ig l len m2).map (RT.pv q):=by rw [tY _ _ _ (by simp;omega),Fl,acD]
          cases m2 with
          |nil=>cases hm
          |cons a m2=>simp only [ab0] at c1;simp only [abJ] at oW ⊢;simp only [GU,abL,aiH,M2,if_false,ab0,abI,c1,if_true,c3,oW,Cm]
        have:=zU.fr' (s:=s) (s':=B4 [t] (s.set t (.arr q (ig l len m2)))++[]) dt ((Fr.dg (ts:=[t]) (Fr.set cA (.inl ⟨_,rfl,Bv _ _ _ c2'⟩))).trans (Fr.app [t] _ []))
        exact this
      obtain ⟨hz0,h⟩:=sI h
      have hz:has z t=ajq:=by
       cases hh:has z t with
       |false=>rfl
       |true=>rw [hh] at hz0;cases hz0
      obtain ⟨l',mS,h⟩:=cN h;obtain ⟨B1,hk⟩:=iS h;obtain ⟨apE,mB⟩:=yq mS;subst apE;have avk:=NE B1;have UI:(l.take len).length=len:=by rw [abQ];omega
      rw [UI] at mB;have dd:(B4 [t] (s.set t .dead)).length=(ajm s):=by rw [wF];simp
      have hal:(l.take len++m2).length=len+(ajm m2):=by rw [acX,UI]
      refine ⟨_,_,?_,Good.put hS (b:= .dead) (q:= .dead) (l:=[.arr q (l.take len++m2)]) (ql:=[.arr (ajm q) ((l.take len++m2).map (RT.pv q))]) (v:= .own (ajm s) ajq) (p:= .own (ajm s) (ajm q) 0 (l.take len++m2).length (l.take len++m2).length ajq) (rd:=wB vy) cA (.inr rfl) rfl rfl
       (fun j b hj=>by
        cases j with
        |zero=>simp at hj;subst hj;exact ⟨_,rfl,rfl⟩
        |succ j=>simp at hj)
       ⟨ajm q,(l.take len++m2).length,rfl,.inl ⟨q,l.take len++m2,by rw [<- dd];exact mU,rfl,rfl⟩⟩,hk⟩
      rw [wJ,hx];unfold jt;rw [AX];subst he;cases m2 with
      |nil=>cases hm
      |cons a m2=>
       have h2:If (len+(ajm m2+1)) mC=ajp:=by simp [mC] at mB ⊢;omega
       simp only [ab0] at c1 hal;simp only [abJ,ab0,abI,GU,abL,aiH,M2,if_false,c1,h2,hz,hS.len,Cm,hal,abU,abX,abR]
    |_=>cases h
  |_=>cases h
end
end Go.Vm
/- Operation by operation: all of them. -/
namespace Go.Vm
section
variable {R' ρ : Type} {w : R' -> ρ} {y : ρ} {s : List SB} {ps : cI} {e : SE} {pe : Env} {z : List Nat} {k : gz -> gT R'}
theorem Qk (hE:eg s e pe) (hS:cD s ps) {esz:Nat} {zero:Row} {x:fU} (h:mP e s z (.clear esz zero x) k ρ w=ajn y):ie s ps (bJ pe ps z (.clear esz zero x)) k ρ w y:=by
 simp only [mP] at h;have hx:=dS hE x;unfold Sf at h;generalize bX e x=v at h hx;cases v with
 |part t off len cap ex=>
  simp only [cp] at h;generalize cA:s[t]? =b at h;cases b with
  |none=>cases h
  |some b=>
   cases b with
   |arr r l=>
    dsimp only at h;cases hq:E2 zero with
    |none=>rw [hq] at h;cases h
    |some q=>
     rw [hq] at h;dsimp only at h;obtain ⟨hc,h1⟩:=cO h;simp only [rc] at hc;obtain ⟨hqr,he⟩:=hc;have hqr:=vG hqr;have he:=lw he;obtain ⟨e',hx,dt⟩:=hx;have:=dt.inv cA;subst this;subst hqr;subst he;rcases fD h1 with ⟨hl,hk⟩|⟨hl,hk⟩
     · have hl:=lw hl
       subst hl;exact ie.val hS hk (by simp only [bJ,hx]) rfl
     obtain ⟨Cl,hk⟩:=iS hk
     simp only [rc,aa4] at Cl;obtain ⟨c1,c2⟩:=Cl;have c1':=NE c1;have dd:=Bv l (abP len (RT.zero q)) off (by simpa using c1');refine ⟨_,_,?_,Good.Sv hS (b:= .arr q (ig l off (abP len (RT.zero q)))) (q:= .arr (ajm q) ((ig l off (abP len (RT.zero q))).map (RT.pv q))) (rd:=[]) cA (.inl ⟨_,rfl,dd⟩) rfl,hk⟩;cases len with
     |zero=>cases hl
     |succ len=>
      have oW:lN off (abP (len+1) zero) (l.map (RT.pv q))=(ig l off (abP (len+1) (RT.zero q))).map (RT.pv q):=by rw [Fl,tY _ _ _ (by simpa using c1')];simp [Bs hq]
      simp only [bJ,hx,hS.arr cA,abL,c2,ac9,abK,if_true,oW]
   |_=>cases h
 |_=>cases h
theorem Ay (hS:cD s ps) {t off len cap:Nat} {ex:Bool} {r:List PT} {l:List (RT r)} {x yy:fU} {vy:SV} (cA:s[t]? =ajn (.arr r l)) (hx:x.ev pe= .own t (ajm r) off len cap ex) (RS:R s vy (yy.ev pe))
 (h:E3 s z t r l off len vy k ρ w=ajn y):ie s ps (bJ pe ps z (.copy (ajm r) x yy)) k ρ w y:=by
 unfold E3 at h;cases hc:zS s vy with
 |none=>rw [hc] at h;cases h
 |some cc=>
  obtain ⟨q,m⟩:=cc;rw [hc] at h;dsimp only at h;cases SJ:sV q r m with
  |none=>rw [SJ] at h;cases h
  |some m2=>
   rw [SJ] at h;dsimp only at h;obtain ⟨hqr,hmp,UE⟩:=Bn SJ;subst hqr;obtain ⟨AX,Cm⟩:=Oz hS RS hc;rw [<- hmp] at AX;have Fm:(m2.map (RT.pv q)).take len=(m2.take len).map (RT.pv q):=by rw [abR]
   generalize m2.take len=mm at h Fm;rcases fD h with ⟨hm,hk⟩|⟨hm,hk⟩
   · have hm:mm=[]:=by simpa using hm
     subst hm;refine ie.rd hS hk ?_ rfl;simp only [bJ,AX,hx,Fm,aj1,Cm]
   obtain ⟨Cl,hk⟩:=iS hk
   simp only [rc,aa4] at Cl;obtain ⟨c1,c2⟩:=Cl;have c1':=NE c1;have dd:=Bv l mm off c1';refine ⟨_,_,?_,Good.put hS (b:= .arr q (ig l off mm)) (q:= .arr (ajm q) ((ig l off mm).map (RT.pv q))) (l:=[]) (ql:=[]) (v:= .int .i64 (.ofNat (ajm mm))) (p:= .int .i64 (.ofNat (ajm mm))) (rd:=wB vy) cA (.inl ⟨_,rfl,dd⟩) rfl rfl (fun j b hj=>by simp at hj) rfl,hk⟩;have oW:lN off (mm.map (RT.pv q)) (l.map (RT.pv q))=(ig l off mm).map (RT.pv q):=by rw [Fl,tY _ _ _ (by simpa using c1')]
   cases mm with
   |nil=>cases hm
   |cons a mm=>simp only [abJ] at oW Fm;simp only [bJ,AX,hx,Fm,hS.arr cA,abL,c2,ac9,abK,if_true,oW,Cm,abI,ab0]
theorem SK (hE:eg s e pe) (hS:cD s ps) {esz:Nat} {x yy:fU} (h:mP e s z (.copy esz x yy) k ρ w=ajn y):ie s ps (bJ pe ps z (.copy esz x yy)) k ρ w y:=by
 simp only [mP] at h;have hx:=dS hE x;have RS:=dS hE yy;unfold ace at h;generalize bX e yy=vy at h RS;generalize bX e x=v at h hx;cases v with
 |own t ex=>
  simp only [cp] at h;generalize cA:s[t]? =b at h;cases b with
  |none=>cases h
  |some b=>
   cases b with
   |arr r l=>obtain ⟨he,hk⟩:=cO h;have he:=lw he;subst he;obtain ⟨e',n',hx,dt⟩:=hx;obtain ⟨rfl,rfl⟩:=dt.inv cA;exact Ay hS cA hx RS hk
   |_=>cases h
 |pre t len cap ex=>
  simp only [cp] at h;generalize cA:s[t]? =b at h;cases b with
  |none=>cases h
  |some b=>
   cases b with
   |arr r l=>obtain ⟨he,hk⟩:=cO h;have he:=lw he;subst he;obtain ⟨e',hx,dt⟩:=hx;have:=dt.inv cA;subst this;exact Ay hS cA hx RS hk
   |_=>cases h
 |part t off len cap ex=>
  simp only [cp] at h;generalize cA:s[t]? =b at h;cases b with
  |none=>cases h
  |some b=>
   cases b with
   |arr r l=>obtain ⟨he,hk⟩:=cO h;have he:=lw he;subst he;obtain ⟨e',hx,dt⟩:=hx;have:=dt.inv cA;subst this;exact Ay hS cA hx RS hk
   |_=>cases h
 |_=>cases h
theorem Ql (hE:eg s e pe) (hS:cD s ps) {x1 x2:fU} (h:mP e s z (.C7 x1 x2) k ρ w=ajn y):ie s ps (bJ pe ps z (.C7 x1 x2)) k ρ w y:=by
 simp only [mP] at h;have hx:=dS hE x1;have hy:=dS hE x2;generalize bX e x1=v at h hx;generalize bX e x2=u at h hy;cases v with
 |sl r l=>
  cases u with
  |sl q m=>have hx:x1.ev pe= .sl (ajm r) ajq (l.map (RT.pv r)):=hx;have hy:x2.ev pe= .sl (ajm q) ajq (m.map (RT.pv q)):=hy;refine ⟨_,_,?_,Good.new hS (b:= .box [.sl r l,.sl q m]) (q:= .box [.sl (ajm r) ajq (l.map (RT.pv r)),.sl (ajm q) ajq (m.map (RT.pv q))]) (v:= .part (ajm s) 0 2 2 ajp) (p:= .own (ajm s) 1 0 2 2 ajp) (rd:=[]) ⟨_,rfl,_,_,rfl,rfl,_,_,rfl,rfl,rfl⟩ ⟨1,rfl,.inr (.inr ⟨_,mU,rfl⟩)⟩,h⟩;simp only [bJ,hx,hy,hS.len];rfl
  |_=>cases h
 |_=>cases h
theorem VN (hE:eg s e pe) (hS:cD s ps) {op:lJ} (h:mP e s z op k ρ w=ajn y):ie s ps (bJ pe ps z op) k ρ w y:=by
 cases op with
 |Q4 x=>exact ie.val hS h rfl (dS hE x)
 |pick c a b=>exact SC hE hS h
 |bin op a b=>exact VA hE hS h
 |JF n a b=>exact Sw hE hS h
 |eqc n g a b=>exact VB hE hS h
 |un op a=>exact adu hE hS h
 |conv a x=>exact Sy hE hS h
 |len x=>exact VC hE hS h
 |L8 n=>exact ie.val hS h rfl rfl
 |box x=>exact VE hE hS h
 |alloc c=>exact Qg hS h
 |build z p=>exact Qf hE hS h
 |AZ a b c d=>exact Qj hE hS h
 |C7 a b=>exact Ql hE hS h
 |load a p=>exact SG hE hS h
 |store a p x=>exact Qi hE hS h
 |JG x=>exact Sz hE hS h
 |JH o x=>exact SA hE hS h
 |iE a o x=>exact VF hE hS h
 |JI a x i=>exact SD hE hS h
 |C8 n a x i=>exact Qh hE hS h
 |idx n a g x i=>exact VK hE hS h
 |JJ x i=>exact SF hE hS h
 |Pv a x l h' m=>exact VL hE hS h
 |mks a z l c=>exact VM hE hS h
 |mkf f a b=>exact VH hE hS h
 |mkm m=>exact VI hS h
 |lookup n z o m q=>exact MU hE hS h
 |Ib n m q x=>exact SI hE hS h
 |ext i x=>exact VG hE hS h
 |append a x b=>exact MW hE hS h
 |copy a x b=>exact SK hE hS h
 |clear a z x=>exact Qk hE hS h
 |mm m x xs=>exact adw hE hS h
 |call m f a=>cases h
 |xt x a=>cases h
 |bad=>cases h
mutual
theorem ak3 {bx:Nat->Option (List SV)} {SL:Nat->Option (List PV)} (hS:cD s ps) (hb: ∀t l,bx t=ajn l-> ∃q,SL t=ajn q/\qE l=ajn q): ∀{v u:SV} {p:PV},R s v p->Hl s bx v=ajn u-> ∃q,B7 ps SL p=ajn q/\sX u=ajn q
 | .int k n,u,p,h,hx=>by injection hx with hx;subst hx;rw [show p=_ from h];exact ⟨_,rfl,rfl⟩
 | .bool b,u,p,h,hx=>by injection hx with hx;subst hx;rw [show p=_ from h];exact ⟨_,rfl,rfl⟩
 | .str x,u,p,h,hx=>by injection hx with hx;subst hx;rw [show p=_ from h];exact ⟨_,rfl,rfl⟩
 | .eo,u,p,h,hx=>by injection hx with hx;subst hx;rw [show p=_ from h];exact ⟨_,rfl,rfl⟩
 | .agg cs,u,p,h,hx=>by
  obtain ⟨q,rfl,h⟩:=h;simp only [Hl] at hx;split at hx
  · rename_i l hl
    injection hx with hx;subst hx;obtain ⟨q',h1,h2⟩:=uQ hS hb h hl;exact ⟨.agg q',by simp only [B7,h1];rfl,by simp only [sX,h2]⟩
  cases hx
 | .b8 cs,u,p,h,hx=>by
  obtain ⟨q,rfl,h⟩:=h;simp only [Hl] at hx;split at hx
  · rename_i l hl
    injection hx with hx;subst hx;obtain ⟨q',h1,h2⟩:=uQ hS hb h hl;exact ⟨.b8 q',by simp only [B7,h1];rfl,by simp only [sX,h2]⟩
  cases hx
 | .sl r l,u,p,h,hx=>by injection hx with hx;subst hx;rw [show p=_ from h];exact ⟨_,rfl,rfl⟩
 | .nil e c,u,p,h,hx=>by injection hx with hx;subst hx;rw [show p=_ from h];exact ⟨_,rfl,rfl⟩
 | .own t ex,u,p,h,hx=>by
  simp only [Hl,cp] at hx;split at hx
  · rename_i r l cA
    injection hx with hx;subst hx;obtain ⟨e,n,rfl,dt⟩:=h;obtain ⟨rfl,rfl⟩:=dt.inv cA;refine ⟨.sl (ajm r) ajq (l.map (RT.pv r)),?_,rfl⟩;simp only [B7,hS.arr cA,abU];rw [abS (by simp)]
  cases hx
 | .pre t len cap ex,u,p,h,hx=>by
  simp only [Hl,cp] at hx;split at hx
  · rename_i r l cA
    injection hx with hx;subst hx;obtain ⟨e,rfl,dt⟩:=h;have:=dt.inv cA;subst this;refine ⟨.sl (ajm r) ajq ((l.take len).map (RT.pv r)),?_,rfl⟩;simp only [B7,hS.arr cA,abU,abR]
  cases hx
 | .part t off len cap ex,u,p,h,hx=>by
  simp only [Hl,cp] at hx;split at hx
  · rename_i r l cA
    injection hx with hx;subst hx;obtain ⟨e,rfl,dt⟩:=h;have:=dt.inv cA;subst this;refine ⟨.sl (ajm r) ajq (((l.drop off).take len).map (RT.pv r)),?_,rfl⟩;simp only [B7,hS.arr cA,abR,acr]
  cases hx
 | .pa t r i a off,u,p,h,hx=>by
  simp only [Hl,cp] at hx;split at hx
  · rename_i q l cA
    injection hx with hx;subst hx;obtain ⟨rfl,dt⟩:=h;obtain ⟨rfl,hg⟩:=dt.inv cA;obtain ⟨m,rfl,hm⟩:=nL hg;refine ⟨.bM (RT.pv r a) off,?_,by simp only [sX,RT.Ho]⟩;have Cr:(l.map (RT.pv r))[m]? =ajn (RT.pv r a):=by simp [hm]
    have e1:(ac5 m).toNat=m:=rfl;simp only [B7,hS.arr cA,e1,Cr];rfl
  cases hx
 | .bp t n off,u,p,h,hx=>by
  simp only [Hl,cp] at hx;split at hx
  · rename_i cs cA
    split at hx
    · rename_i l hl
      injection hx with hx;subst hx;rw [show p=_ from h];obtain ⟨q,h1,h2⟩:=hb t l hl;obtain ⟨c,h3,_⟩:=hS.box cA;refine ⟨.bM q off,?_,by simp only [sX,h2]⟩;simp only [B7,h3,abL,if_true,h1];rfl
    cases hx
  cases hx
 | .bM cs off,u,p,h,hx=>by
  obtain ⟨q,rfl,h⟩:=h;simp only [Hl] at hx;split at hx
  · rename_i l hl
    injection hx with hx;subst hx;obtain ⟨q',h1,h2⟩:=uQ hS hb h hl;exact ⟨.bM q' off,by simp only [B7,h1];rfl,by simp only [sX,h2]⟩
  cases hx
 | .fh f a b,u,p,h,hx=>by
  obtain ⟨pa,pb,rfl,h1,h2⟩:=h;simp only [Hl] at hx;split at hx
  · rename_i x y' h3 h4
    injection hx with hx;subst hx;obtain ⟨qa,h5,h6⟩:=uQ hS hb h1 h3;obtain ⟨qb,h7,h8⟩:=uQ hS hb h2 h4;exact ⟨.fh f qa qb,by simp only [B7,h5,h7],by simp only [sX,h6,h8]⟩
  cases hx
 | .iz,_,_,_,hx| .undef,_,_,_,hx| .ke,_,_,_,hx| .pb _ _ _,_,_,_,hx| .mp _,_,_,_,hx=>by cases hx
theorem uQ {bx:Nat->Option (List SV)} {SL:Nat->Option (List PV)} (hS:cD s ps) (hb: ∀t l,bx t=ajn l-> ∃q,SL t=ajn q/\qE l=ajn q): ∀{v u:List SV} {p:List PV},RL s v p->sW s bx v=ajn u-> ∃q,B8 ps SL p=ajn q/\qE u=ajn q
 | [],u,p,h,hx=>by injection hx with hx;subst hx;rw [show p=_ from h];exact ⟨_,rfl,rfl⟩
 |x::xs,u,p,h,hx=>by
  obtain ⟨q,qs,rfl,h1,h2⟩:=h.cons_inv;simp only [sW] at hx;split at hx
  · rename_i y' ys h3 h4
    injection hx with hx;subst hx;obtain ⟨a,h5,h6⟩:=ak3 hS hb h1 h3;obtain ⟨as,h7,h8⟩:=uQ hS hb h2 h4;exact ⟨a::as,by simp only [B8,h5,h7],eZ.2 ⟨a,as,rfl,h6,h8⟩⟩
  cases hx
end
theorem D6 (hS:cD s ps): ∀(n t:Nat) (l:List SV),lh s n t=ajn l-> ∃q,xT ps n t=ajn q/\qE l=ajn q
 |0,t,l,h=>by cases h
 |n+1,t,l,h=>by
  simp only [lh,cp] at h;split at h
  · rename_i cs cA
    obtain ⟨q,h1,h2⟩:=hS.box cA;obtain ⟨u,h3,h4⟩:=uQ hS (D6 hS n) h2 h;exact ⟨u,by simp only [xT,h1,h3],h4⟩
  cases h
mutual
theorem SM {bx SL:Nat->List Nat} (hb: ∀t,bx t=SL t): ∀{v:SV} {p:PV},R s v p->v.sure=ajp->MI bx v=jH SL p
 | .iz,_,_,h=>by cases h
 | .undef,p,h,_| .ke,p,h,_| .eo,p,h,_| .int _ _,p,h,_| .bool _,p,h,_| .str _,p,h,_| .sl _ _,p,h,_| .nil _ _,p,h,_=>by rw [show p=_ from h];rfl
 | .agg cs,p,h,hs=>by obtain ⟨q,rfl,h⟩:=h;exact Az hb h hs
 | .b8 cs,p,h,hs=>by obtain ⟨q,rfl,h⟩:=h;exact Az hb h hs
 | .own t ex,p,h,_=>by obtain ⟨e,n,rfl,_⟩:=h;rfl
 | .pre t a b c,p,h,_=>by obtain ⟨e,rfl,_⟩:=h;rfl
 | .part t o a b c,p,h,_=>by obtain ⟨e,rfl,_⟩:=h;rfl
 | .pa t r i a o,p,h,_=>by obtain ⟨rfl,_⟩:=h;simp only [MI,jH,hb]
 | .pb t i o,p,h,_=>by obtain ⟨e,rfl,_⟩:=h;simp only [MI,jH,hb]
 | .bp t n o,p,h,_=>by rw [show p=_ from h];simp only [MI,jH,hb]
 | .bM cs o,p,h,hs=>by obtain ⟨q,rfl,h⟩:=h;exact Az hb h hs
 | .mp t,p,h,_=>by rw [show p=_ from h];rfl
 | .fh f a b,p,h,hs=>by obtain ⟨pa,pb,rfl,h1,h2⟩:=h;simp only [SV.sure,rc] at hs;simp only [MI,jH,Az hb h1 hs.1,Az hb h2 hs.2]
theorem Az {bx SL:Nat->List Nat} (hb: ∀t,bx t=SL t): ∀{v:List SV} {p:List PV},RL s v p->mO v=ajp->rY bx v=dF SL p
 | [],p,h,_=>by rw [show p=_ from h];rfl
 |x::xs,p,h,hs=>by obtain ⟨q,qs,rfl,h1,h2⟩:=h.cons_inv;simp only [mO,rc] at hs;simp only [rY,dF,SM hb h1 hs.1,Az hb h2 hs.2]
end
end
end Go.Vm
/- The head of a loop: what the typed machine keeps there, the logical machine keeps there. -/
namespace Go.Vm
section
variable {s : List SB} {ps : cI}
mutual
theorem ak4 {n:Nat} (hS:cD s ps) (hB: ∀t l,lh s n t=ajn l->xN s n t=df ps n t): ∀{v u:SV} {p:PV},R s v p->Hl s (lh s n) v=ajn u->MI (xN s n) v=jH (df ps n) p
 | .int _ _,_,p,h,_| .bool _,_,p,h,_| .str _,_,p,h,_| .eo,_,p,h,_| .sl _ _,_,p,h,_| .nil _ _,_,p,h,_=>by rw [show p=_ from h];rfl
 | .agg cs,u,p,h,hx=>by
  obtain ⟨q,rfl,h⟩:=h;simp only [Hl] at hx;split at hx
  · rename_i l hl;exact zV hS hB h hl
  cases hx
 | .b8 cs,u,p,h,hx=>by
  obtain ⟨q,rfl,h⟩:=h;simp only [Hl] at hx;split at hx
  · rename_i l hl;exact zV hS hB h hl
  cases hx
 | .own t ex,_,p,h,_=>by obtain ⟨e,n,rfl,_⟩:=h;rfl
 | .pre t a b c,_,p,h,_=>by obtain ⟨e,rfl,_⟩:=h;rfl
 | .part t o a b c,_,p,h,_=>by obtain ⟨e,rfl,_⟩:=h;rfl
 | .pa t r i a o,_,p,h,hx=>by
  obtain ⟨rfl,dt⟩:=h;simp only [Hl,cp] at hx;split at hx
  · rename_i q l cA
    simp only [MI,jH];cases n with
    |zero=>rfl
    |succ n=>simp only [xN,df,cp,cA,hS.arr cA]
  cases hx
 | .bp t m o,u,p,h,hx=>by
  rw [show p=_ from h];simp only [Hl,cp] at hx;split at hx
  · split at hx
    · rename_i l hl
      simp only [MI,jH,hB t l hl]
    cases hx
  cases hx
 | .bM cs o,u,p,h,hx=>by
  obtain ⟨q,rfl,h⟩:=h;simp only [Hl] at hx;split at hx
  · rename_i l hl;exact zV hS hB h hl
  cases hx
 | .fh f a b,u,p,h,hx=>by
  obtain ⟨pa,pb,rfl,h1,h2⟩:=h;simp only [Hl] at hx;split at hx
  · rename_i x y h3 h4
    simp only [MI,jH,zV hS hB h1 h3,zV hS hB h2 h4]
  cases hx
 | .iz,_,_,_,hx| .undef,_,_,_,hx| .ke,_,_,_,hx| .pb _ _ _,_,_,_,hx| .mp _,_,_,_,hx=>by cases hx
theorem zV {n:Nat} (hS:cD s ps) (hB: ∀t l,lh s n t=ajn l->xN s n t=df ps n t): ∀{v u:List SV} {p:List PV},RL s v p->sW s (lh s n) v=ajn u->rY (xN s n) v=dF (df ps n) p
 | [],_,p,h,_=>by rw [show p=_ from h];rfl
 |x::xs,u,p,h,hx=>by
  obtain ⟨q,qs,rfl,h1,h2⟩:=h.cons_inv;simp only [sW] at hx;split at hx
  · rename_i a b h3 h4
    simp only [rY,dF,ak4 hS hB h1 h3,zV hS hB h2 h4]
  cases hx
end
theorem SN {n:Nat} (hS:cD s ps) (hB: ∀t l,lh s n t=ajn l->xN s n t=df ps n t): ∀{v:List SV} {p:List PV},RL s v p->MH s (lh s n) v=ajp->rY (xN s n) v=dF (df ps n) p
 | [],p,h,_=>by rw [show p=[] from h];rfl
 |x::xs,p,h,hx=>by
  obtain ⟨a,as,rfl,h1,h2⟩:=h.cons_inv;have other: ∀u,Hl s (lh s n) x=ajn u->MH s (lh s n) xs=ajp->rY (xN s n) (x::xs)=dF (df ps n) (a::as):=fun u h3 h4=>by simp only [rY,dF,ak4 hS hB h1 h3,SN hS hB h2 h4]
  unfold MH at hx;split at hx
  · rename_i t
    rw [show a= .mp t from h1];simp only [rY,dF,MI,jH,SN hS hB h2 hx]
  split at hx
  · rename_i u h3
    exact other u h3 hx
  cases hx
theorem Fo (hS:cD s ps): ∀(n t:Nat) (l:List SV),lh s n t=ajn l->xN s n t=df ps n t
 |0,t,l,h=>rfl
 |n+1,t,l,h=>by
  simp only [lh,cp] at h;split at h
  · rename_i cs cA
    obtain ⟨q,h1,h2⟩:=hS.box cA;simp only [xN,df,cp,cA,h1];exact zV hS (Fo hS n) h2 h
  cases h
theorem IS {b:SB} {q:lz} (h:RB s b q) (hs:ze b=ajp):E4 b=rO q:=by
 cases b with
 |box cs=>obtain ⟨c,rfl,h⟩:=h;exact Az (fun _=>rfl) h hs
 |arr r l=>rw [show q=_ from h];rfl
 |set l=>rw [show q=_ from h];rfl
 |bC p l=>rw [show q=_ from h];rfl
 |dead=>rw [show q=_ from h];rfl
theorem Fp (hS:cD s ps): ∀(n:Nat) (ts seen m:List Nat),Cy s n ts seen=ajn m->reach ps n ts seen=ajn m
 |n,[],seen,m,h=>by cases n<;>(simp only [Cy] at h;exact h)
 |0,_::_,_,_,h=>by cases h
 |n+1,t::ts,seen,m,h=>by
  simp only [Cy,cp] at h;simp only [reach];cases hh:has seen t with
  |true=>rw [hh] at h;simp only [kw] at h;simp only [if_true];exact Fp hS n ts seen m h
  |false=>
   rw [hh] at h;simp only [lc] at h;simp only [M2,if_false];split at h
   · rename_i b cA
     obtain ⟨q,h1,h2⟩:=hS.at_ t b cA;cases hb:ze b with
     |false=>rw [hb] at h;cases h
     |true=>rw [hb] at h;simp only [kw] at h;rw [h1,IS h2 hb] at*;exact Fp hS n _ _ m h
   cases h
theorem Fq: ∀{t u:Nat} {m:List Nat},qv t m=ajn u->m[u]? =ajn t
 |t,u,[],h=>by cases h
 |t,u,x::m,h=>by
  simp only [qv] at h;cases hb:IR x t with
  |true=>rw [hb] at h;simp at h;subst h;simp [lw hb]
  |false=>rw [hb] at h;simp only [M2,if_false,abM] at h;obtain ⟨v,hv,rfl⟩:=h;simpa using Fq hv
def Fs (m:List Nat) (s s':List SB):Prop:= ∀(t u:Nat) (b:SB),qv t m=ajn u->s[t]? =ajn b->match b with
 | .arr r l=>s'[u]? =ajn (.arr r l)
 | .dead=>s'[u]? =ajn .dead
 | .box _=> ∃cs,s'[u]? =ajn (.box cs)
 |_=>True
mutual
theorem SP {m:List Nat} {s':List SB} (hr:Fs m s s'): ∀{v u:SV} {p:PV},R s v p->qD m v=ajn u-> ∃q,A0 m p=ajn q/\R s' u q
 | .iz,_,_,_,hx=>by cases hx
 | .undef,u,p,h,hx| .ke,u,p,h,hx| .eo,u,p,h,hx| .int _ _,u,p,h,hx| .bool _,u,p,h,hx| .str _,u,p,h,hx| .sl _ _,u,p,h,hx| .nil _ _,u,p,h,hx=>by injection hx with hx;subst hx;rw [show p=_ from h];exact ⟨_,rfl,rfl⟩
 | .agg cs,u,p,h,hx=>by
  obtain ⟨q,rfl,h⟩:=h;simp only [qD] at hx;split at hx
  · rename_i l hl
    injection hx with hx;subst hx;obtain ⟨q',h1,h2⟩:=tZ hr h hl;exact ⟨.agg q',by simp only [A0,h1];rfl,q',rfl,h2⟩
  cases hx
 | .b8 cs,u,p,h,hx=>by
  obtain ⟨q,rfl,h⟩:=h;simp only [qD] at hx;split at hx
  · rename_i l hl
    injection hx with hx;subst hx;obtain ⟨q',h1,h2⟩:=tZ hr h hl;exact ⟨.b8 q',by simp only [A0,h1];rfl,q',rfl,h2⟩
  cases hx
 | .own t ex,u,p,h,hx=>by
  obtain ⟨e,n,rfl,dt⟩:=h;simp only [qD] at hx;split at hx
  · rename_i v hv
    injection hx with hx;subst hx;refine ⟨.own v e 0 n n ex,by simp only [A0,hv];rfl,e,n,rfl,?_⟩;rcases dt with ⟨r,l,h1,h2,h3⟩|h1
    · exact .inl ⟨r,l,hr t v _ hv h1,h2,h3⟩
    exact .inr (hr t v _ hv h1)
  cases hx
 | .pre t len cap ex,u,p,h,hx=>by
  obtain ⟨e,rfl,dt⟩:=h;simp only [qD] at hx;split at hx
  · rename_i v hv
    injection hx with hx;subst hx;refine ⟨.own v e 0 len cap ex,by simp only [A0,hv];rfl,e,rfl,?_⟩;rcases dt with ⟨r,l,h1,h2⟩|h1|⟨cs,h1,h2⟩
    · exact .inl ⟨r,l,hr t v _ hv h1,h2⟩
    · exact .inr (.inl (hr t v _ hv h1))
    obtain ⟨c2,h3⟩:=hr t v _ hv h1
    exact .inr (.inr ⟨c2,h3,h2⟩)
  cases hx
 | .part t off len cap ex,u,p,h,hx=>by
  obtain ⟨e,rfl,dt⟩:=h;simp only [qD] at hx;split at hx
  · rename_i v hv
    injection hx with hx;subst hx;refine ⟨.own v e off len cap ex,by simp only [A0,hv];rfl,e,rfl,?_⟩;rcases dt with ⟨r,l,h1,h2⟩|h1|⟨cs,h1,h2⟩
    · exact .inl ⟨r,l,hr t v _ hv h1,h2⟩
    · exact .inr (.inl (hr t v _ hv h1))
    obtain ⟨c2,h3⟩:=hr t v _ hv h1
    exact .inr (.inr ⟨c2,h3,h2⟩)
  cases hx
 | .pa t r i a off,u,p,h,hx=>by
  obtain ⟨rfl,dt⟩:=h;simp only [qD] at hx;split at hx
  · rename_i v hv
    injection hx with hx;subst hx;refine ⟨.ptr v (ajm r) i.toNat off,by simp only [A0,hv];rfl,ajm r,rfl,?_⟩;rcases dt with ⟨l,h1,h2⟩|h1
    · exact .inl ⟨r,l,hr t v _ hv h1,by rw [h2];rfl⟩
    exact .inr (hr t v _ hv h1)
  cases hx
 | .pb t i off,u,p,h,hx=>by
  obtain ⟨e,rfl,dt⟩:=h;simp only [qD] at hx;split at hx
  · rename_i v hv
    injection hx with hx;subst hx;refine ⟨.ptr v e i.toNat off,by simp only [A0,hv];rfl,e,rfl,?_⟩;rcases dt with ⟨r,l,h1,h2⟩|h1
    · exact .inl ⟨r,l,hr t v _ hv h1,h2⟩
    exact .inr (hr t v _ hv h1)
  cases hx
 | .bp t n off,u,p,h,hx=>by
  rw [show p=_ from h];simp only [qD] at hx;split at hx
  · rename_i v hv
    injection hx with hx;subst hx;exact ⟨.ptr v n 0 off,by simp only [A0,hv];rfl,rfl⟩
  cases hx
 | .bM cs off,u,p,h,hx=>by
  obtain ⟨q,rfl,h⟩:=h;simp only [qD] at hx;split at hx
  · rename_i l hl
    injection hx with hx;subst hx;obtain ⟨q',h1,h2⟩:=tZ hr h hl;exact ⟨.bM q' off,by simp only [A0,h1];rfl,q',rfl,h2⟩
  cases hx
 | .mp t,u,p,h,hx=>by
  rw [show p=_ from h];simp only [qD] at hx;split at hx
  · rename_i v hv
    injection hx with hx;subst hx;exact ⟨.mp v,by simp only [A0,hv];rfl,rfl⟩
  cases hx
 | .fh f a b,u,p,h,hx=>by
  obtain ⟨pa,pb,rfl,h1,h2⟩:=h;simp only [qD] at hx;split at hx
  · rename_i x y h3 h4
    injection hx with hx;subst hx;obtain ⟨qa,h5,h6⟩:=tZ hr h1 h3;obtain ⟨qb,h7,h8⟩:=tZ hr h2 h4;exact ⟨.fh f qa qb,by simp only [A0,h5,h7],qa,qb,rfl,h6,h8⟩
  cases hx
theorem tZ {m:List Nat} {s':List SB} (hr:Fs m s s'): ∀{v u:List SV} {p:List PV},RL s v p->tU m v=ajn u-> ∃q,zE m p=ajn q/\RL s' u q
 | [],u,p,h,hx=>by injection hx with hx;subst hx;rw [show p=_ from h];exact ⟨_,rfl,rfl⟩
 |x::xs,u,p,h,hx=>by
  obtain ⟨q,qs,rfl,h1,h2⟩:=h.cons_inv;simp only [tU] at hx;split at hx
  · rename_i a b h3 h4
    injection hx with hx;subst hx;obtain ⟨a',h5,h6⟩:=SP hr h1 h3;obtain ⟨b',h7,h8⟩:=tZ hr h2 h4;exact ⟨a'::b',by simp only [zE,h5,h7],RL.cons h6 h8⟩
  cases hx
end
theorem adx {m:List Nat} {s':List SB} (hr:Fs m s s') {b c:SB} {q:lz} (h:RB s b q) (hx:MK m b=ajn c): ∃q',oe m q=ajn q'/\RB s' c q':=by
 cases b with
 |box cs=>
  obtain ⟨p,rfl,h⟩:=h;simp only [MK] at hx;split at hx
  · rename_i l hl
    injection hx with hx;subst hx;obtain ⟨q',h1,h2⟩:=tZ hr h hl;exact ⟨.box q',by simp only [oe,h1];rfl,q',rfl,h2⟩
  cases hx
 |arr r l=>injection hx with hx;subst hx;rw [show q=_ from h];exact ⟨_,rfl,rfl⟩
 |set l=>injection hx with hx;subst hx;rw [show q=_ from h];exact ⟨_,rfl,rfl⟩
 |bC p l=>injection hx with hx;subst hx;rw [show q=_ from h];exact ⟨_,rfl,rfl⟩
 |dead=>injection hx with hx;subst hx;rw [show q=_ from h];exact ⟨_,rfl,rfl⟩
theorem yr {m:List Nat}: ∀{ts:List Nat} {s1:List SB},GV s m ts=ajn s1->ajm s1=ajm ts/\ ∀(j t:Nat),ts[j]? =ajn t-> ∃b c,s[t]? =ajn b/\MK m b=ajn c/\s1[j]? =ajn c
 | [],s1,h=>by injection h with h;subst h;exact ⟨rfl,fun j t h=>by simp at h⟩
 |t::ts,s1,h=>by
  simp only [GV,cp] at h;split at h
  · rename_i b hb
    split at h
    · rename_i c r hc hr
      injection h with h;subst h;obtain ⟨h1,h2⟩:=yr hr;refine ⟨by simp [h1],fun j u hj=>?_⟩;cases j with
      |zero=>simp at hj;subst hj;exact ⟨b,c,hb,hc,rfl⟩
      |succ j=>simpa using h2 j u (by simpa using hj)
    cases h
  cases h
theorem CD (hS:cD s ps) {m:List Nat} {s':List SB} (hr:Fs m s s'): ∀{ts:List Nat} {s1:List SB},GV s m ts=ajn s1-> ∃p1,xU ps m ts=ajn p1/\ajm p1=ajm s1/\ ∀(j:Nat) (b:SB),s1[j]? =ajn b-> ∃q,p1[j]? =ajn q/\RB s' b q
 | [],s1,h=>by injection h with h;subst h;exact ⟨[],rfl,rfl,fun j b h=>by simp at h⟩
 |t::ts,s1,h=>by
  simp only [GV,cp] at h;split at h
  · rename_i b hb
    split at h
    · rename_i c r hc UL
      injection h with h;subst h;obtain ⟨q,h1,h2⟩:=hS.at_ t b hb;obtain ⟨q',h3,h4⟩:=adx hr h2 hc;obtain ⟨p1,h5,h6,h7⟩:=CD hS hr UL;refine ⟨q'::p1,by simp only [xU,h1,h3,h5],by simp [h6],fun j x hj=>?_⟩;cases j with
      |zero=>simp at hj;subst hj;exact ⟨q',rfl,h4⟩
      |succ j=>simpa using h7 j x (by simpa using hj)
    cases h
  cases h
theorem Fs.of {m:List Nat} {s1 l:List SB} (h:GV s m m=ajn s1):Fs m s (s1++l):=fun t u b hu hb=>by
 have hm:=Fq hu;obtain ⟨h1,h2⟩:=yr h;obtain ⟨b',c,h3,h4,h5⟩:=h2 u t hm;rw [hb] at h3;injection h3 with h3;subst h3;have dW:=(ut.1 h5).1;cases b with
 |arr r l'=>injection h4 with h4;subst h4;rw [v4 dW];exact h5
 |dead=>injection h4 with h4;subst h4;rw [v4 dW];exact h5
 |box cs=>
  simp only [MK] at h4;split at h4
  · injection h4 with h4;subst h4;exact ⟨_,by rw [v4 dW];exact h5⟩
  cases h4
 |_=>trivial
theorem vJ: ∀(rk:List (Nat×List PT)) (n:Nat),(rowOf rk n).length=n
 | [],n=>by simp [rowOf]
 |(m,r)::q,n=>by
  simp only [rowOf];cases hc:(IR m n&&IR (ajm r) n) with
  |true=>simp only [rc] at hc;exact lw hc.2
  |false=>exact vJ q n
theorem CE {rk:List (Nat×List PT)} {e:SE} {m:List Nat}: ∀{live:List (Nat×Option Nat)} {nx:Nat} {e1:SE} {s2:List SB},xC rk e m nx live=ajn (e1,s2)-> ∀(j:Nat) (b:SB),s2[j]? =ajn b-> ∃r,b= .arr r []
 | [],nx,e1,s2,h,j,b,hj=>by simp only [xC,ww,UV] at h;rw [<- h.2] at hj;simp at hj
 |(t,k)::live,nx,e1,s2,h,j,b,hj=>by
  simp only [xC] at h;split at h
  · split at h
    · rename_i p hp
      simp only [ww,UV] at h;obtain ⟨rfl,rfl⟩:=h;cases j with
      |zero=>simp at hj;exact ⟨_,hj.symm⟩
      |succ j=>exact CE (e1:=p.1) (s2:=p.2) hp j b (by simpa using hj)
    cases h
  split at h
  · rename_i v' p hv hp
    simp only [ww,UV] at h;obtain ⟨rfl,rfl⟩:=h;exact CE (e1:=p.1) (s2:=p.2) hp j b hj
  cases h
mutual
theorem CF {m:List Nat}: ∀{v u:SV},qD m v=ajn u->u.sure=ajp
 | .iz,_,h=>by cases h
 | .undef,u,h| .ke,u,h| .eo,u,h| .int _ _,u,h| .bool _,u,h| .str _,u,h| .sl _ _,u,h| .nil _ _,u,h=>by injection h with h;subst h;rfl
 | .agg cs,u,h=>by
  simp only [qD] at h;split at h
  · rename_i l hl;injection h with h;subst h;exact nv hl
  cases h
 | .b8 cs,u,h=>by
  simp only [qD] at h;split at h
  · rename_i l hl;injection h with h;subst h;exact nv hl
  cases h
 | .bM cs _,u,h=>by
  simp only [qD] at h;split at h
  · rename_i l hl;injection h with h;subst h;exact nv hl
  cases h
 | .own _ _,u,h=>by simp only [qD] at h;split at h<;>first|(injection h with h;subst h;rfl)|cases h
 | .pre _ _ _ _,u,h=>by simp only [qD] at h;split at h<;>first|(injection h with h;subst h;rfl)|cases h
 | .part _ _ _ _ _,u,h=>by simp only [qD] at h;split at h<;>first|(injection h with h;subst h;rfl)|cases h
 | .pa _ _ _ _ _,u,h=>by simp only [qD] at h;split at h<;>first|(injection h with h;subst h;rfl)|cases h
 | .pb _ _ _,u,h=>by simp only [qD] at h;split at h<;>first|(injection h with h;subst h;rfl)|cases h
 | .bp _ _ _,u,h=>by simp only [qD] at h;split at h<;>first|(injection h with h;subst h;rfl)|cases h
 | .mp _,u,h=>by simp only [qD] at h;split at h<;>first|(injection h with h;subst h;rfl)|cases h
 | .fh f a b,u,h=>by
  simp only [qD] at h;split at h
  · rename_i x y h1 h2
    injection h with h;subst h;simp only [SV.sure,nv h1,nv h2,abK]
  cases h
theorem nv {m:List Nat}: ∀{v u:List SV},tU m v=ajn u->mO u=ajp
 | [],u,h=>by injection h with h;subst h;rfl
 |x::xs,u,h=>by
  simp only [tU] at h;split at h
  · rename_i a b h1 h2
    injection h with h;subst h;simp only [mO,CF h1,nv h2,abK]
  cases h
end
theorem VO {s:List SB} {v:SV} {p:PV} (h:R s v p): ∀k:Option Nat,v.sure=ajp->R s (IK k v) (G5 k p)
 |none,_=>h
 |some _,hs=>by
  cases v with
  |own t ex=>obtain ⟨e,n,rfl,h⟩:=h;exact ⟨e,n,rfl,h⟩
  |pre t l c ex=>obtain ⟨e,rfl,h⟩:=h;exact ⟨e,rfl,h⟩
  |part t o l c ex=>obtain ⟨e,rfl,h⟩:=h;exact ⟨e,rfl,h⟩
  |iz=>cases hs
  |undef|ke|eo|int _ _|bool _|str _|bp _ _ _|mp _|sl _ _|nil _ _=>rw [show p=_ from h];rfl
  |agg _|b8 _|bM _ _=>obtain ⟨q,rfl,h⟩:=h;exact ⟨q,rfl,h⟩
  |fh _ _ _=>obtain ⟨q,q2,rfl,h⟩:=h;exact ⟨q,q2,rfl,h⟩
  |pa _ _ _ _ _=>obtain ⟨rfl,h⟩:=h;exact ⟨rfl,h⟩
  |pb _ _ _=>obtain ⟨q,rfl,h⟩:=h;exact ⟨q,rfl,h⟩
theorem MX {v:SV} (h:v.sure=ajp) (k:Option Nat):(IK k v).sure=ajp:=by unfold IK;split<;>first|rfl|exact h
theorem IT {rk:List (Nat×List PT)} {e:SE} {pe:Env} (hE:eg s e pe) {m:List Nat} {s':List SB} (hr:Fs m s s'): ∀{live:List (Nat×Option Nat)} {nx:Nat} {e1:SE} {s2:List SB},xC rk e m nx live=ajn (e1,s2)->(∀(j:Nat) (b:SB),s2[j]? =ajn b->s'[nx+j]? =ajn b)->
 ∃p1 q2,rQ pe m nx live=ajn (p1,q2)/\eg s' e1 p1/\ajm q2=ajm s2/\ ∀(j:Nat) (b:SB),s2[j]? =ajn b-> ∃q,q2[j]? =ajn q/\RB s' b q
 | [],nx,e1,s2,h,_=>by simp only [xC,ww,UV] at h;obtain ⟨rfl,rfl⟩:=h;exact ⟨[],[],rfl,rfl,rfl,fun j b h=>by simp at h⟩
 |(t,k)::live,nx,e1,s2,h,hs=>by
  have uN:=hE.lk t;simp only [xC] at h;split at h
  · rename_i kk esz en hv
    split at h
    · rename_i p hp
      simp only [ww,UV] at h;obtain ⟨rfl,rfl⟩:=h;rw [hv] at uN;obtain ⟨p1,q2,h1,h2,h3,h4⟩:=IT (live:=live) (nx:=nx+1) (e1:=p.1) (s2:=p.2) hE hr hp (fun j b hj=>by have:=hs (j+1) b (by simpa using hj);rw [show nx+1+j=nx+(j+1) by omega];exact this);refine ⟨(t,.own nx esz 0 0 0 ajq)::p1,.arr esz []::q2,?_,⟨_,_,rfl,⟨esz,0,rfl,.inl ⟨rowOf rk esz,[],by simpa using hs 0 _ rfl,(vJ rk esz).symm,rfl⟩⟩,h2⟩,by simp [h3],fun j b hj=>?_⟩
      · have ady:lk t pe= .sl en ajp []:=uN
        simp only [rQ,ady,h1];rfl
      cases j with
      |zero=>simp at hj;subst hj;exact ⟨_,rfl,by show _=_;rw [vJ];rfl⟩
      |succ j=>simpa using h4 j b (by simpa using hj)
    cases h
  rename_i dK
  split at h
  · rename_i v' p hv hp
    simp only [ww,UV] at h;obtain ⟨rfl,rfl⟩:=h;obtain ⟨q',h5,h6⟩:=SP hr uN hv;obtain ⟨p1,q2,h1,h2,h3,h4⟩:=IT (live:=live) (e1:=p.1) (s2:=p.2) hE hr hp hs;refine ⟨(t,G5 _ q')::p1,q2,?_,⟨_,_,rfl,VO h6 _ (CF hv),h2⟩,h3,h4⟩;simp only [rQ];split
    · rename_i esz x hx
      exfalso;rw [hx] at uN;generalize Di t e=v0 at uN hv dK;cases v0 with
      |iz=>cases hv
      |nil e' c=>have ady:PV.sl x ajp []= .sl e' c []:=uN;injection ady with h1 h2;subst h2;exact dK _ _ rfl rfl
      |undef|ke|eo|int _ _|bool _|str _|bp _ _ _|mp _=>cases (show PV.sl x ajp []=_ from uN)
      |sl r l=>cases (show PV.sl x ajp []=_ from uN)
      |agg _|b8 _|bM _ _=>obtain ⟨q,hq,_⟩:=uN;cases hq
      |fh _ _ _=>obtain ⟨q,q2,hq,_⟩:=uN;cases hq
      |own _ _=>obtain ⟨q,q2,hq,_⟩:=uN;cases hq
      |pre _ _ _ _=>obtain ⟨q,hq,_⟩:=uN;cases hq
      |part _ _ _ _ _=>obtain ⟨q,hq,_⟩:=uN;cases hq
      |pa _ _ _ _ _=>obtain ⟨hq,_⟩:=uN;cases hq
      |pb _ _ _=>obtain ⟨q,hq,_⟩:=uN;cases hq
    simp only [h5,h1]
  cases h
def acn (s:List SB):Prop:= ∀(t:Nat) (cs:List SV),s[t]? =ajn (.box cs)->mO cs=ajp
def Hv:SE->Prop
 | []=>True
 |(_,v)::r=>v.sure=ajp/\Hv r
theorem Hv.lk: ∀{e:SE},Hv e-> ∀t,(Di t e).sure=ajp
 | [],_,t=>rfl
 |(u,v)::r,h,t=>by
  simp only [Di];cases hb:IR u t with
  |true=>exact h.1
  |false=>exact Hv.lk h.2 t
theorem AA {rk:List (Nat×List PT)} {e:SE} {m:List Nat}: ∀{live:List (Nat×Option Nat)} {nx:Nat} {e1:SE} {s2:List SB},xC rk e m nx live=ajn (e1,s2)->Hv e1
 | [],nx,e1,s2,h=>by simp only [xC,ww,UV] at h;rw [<- h.1];trivial
 |(t,k)::live,nx,e1,s2,h=>by
  simp only [xC] at h;split at h
  · split at h
    · rename_i p hp
      simp only [ww,UV] at h;obtain ⟨rfl,rfl⟩:=h;exact ⟨rfl,AA (e1:=p.1) (s2:=p.2) hp⟩
    cases h
  split at h
  · rename_i v' p hv hp
    simp only [ww,UV] at h;obtain ⟨rfl,rfl⟩:=h;exact ⟨MX (CF hv) _,AA (e1:=p.1) (s2:=p.2) hp⟩
  cases h
theorem Hw: ∀{l:List SV},mO l=ajp-> ∀{n:Nat} {v:SV},nth l n=ajn v->v.sure=ajp
 | [],_,_,_,h=>by cases h
 |x::xs,hs,0,v,h=>by injection h with h;subst h;simp only [mO,rc] at hs;exact hs.1
 |x::xs,hs,n+1,v,h=>by simp only [mO,rc] at hs;exact Hw hs.2 (n:=n) h
theorem Hx: ∀{l:List SV},mO l=ajp-> ∀(n:Nat) {v:SV},v.sure=ajp->mO (l.set n v)=ajp
 | [],_,n,v,_=>rfl
 |x::xs,hs,0,v,h=>by simp only [mO,rc] at hs;simp [mO,h,hs.2]
 |x::xs,hs,n+1,v,h=>by simp only [mO,rc] at hs;simp [mO,hs.1,Hx hs.2 n h]
theorem RL.set {s:List SB}: ∀{xs:List SV} {ps:List PV},RL s xs ps-> ∀(n:Nat) {v:SV} {p:PV},R s v p->RL s (xs.set n v) (ps.set n p)
 | [],ps,h,n,v,p,_=>by rw [show ps=[] from h];exact RL.nil
 |x::xs,ps,h,0,v,p,hv=>by obtain ⟨a,q,rfl,h1,h2⟩:=h.cons_inv;exact RL.cons hv h2
 |x::xs,ps,h,n+1,v,p,hv=>by obtain ⟨a,q,rfl,h1,h2⟩:=h.cons_inv;exact RL.cons h1 (RL.set h2 n hv)
structure VP (st:pq) (p:St):Prop where
 r:zg st p
 s:acn st.aD
 e:Hv st.env
theorem MY {rk:List (Nat×List PT)} {st:pq} {p:St} (h:VP st p) (t c esz:Nat):VP (E5 rk st t c esz) (rR p t c esz):=by
 unfold E5 rR;rw [cp];cases cA:st.aD[t]? with
 |none=>
  have:p.aD[t]? =ajo:=by rw [acl] at cA ⊢;rw [h.r.aD.len];exact cA
  rw [this];exact h
 |some b=>
  obtain ⟨q,h1,h2⟩:=h.r.aD.at_ t b cA;rw [h1];cases b with
  |arr r l=>rw [show q=_ from h2];exact h
  |set l=>rw [show q=_ from h2];exact h
  |bC p l=>rw [show q=_ from h2];exact h
  |dead=>rw [show q=_ from h2];exact h
  |box cs=>
   obtain ⟨pc,rfl,h3⟩:=h2;dsimp only;cases hc:nth cs c with
   |none=>
    have:pc[c]? =ajo:=by rw [cp,acl] at hc;rw [acl,h3.nm];exact hc
    rw [this];exact h
   |some v=>
    obtain ⟨pv,h4,h5⟩:=h3.nth hc;rw [h4];have ak5:=Hw (h.s t cs cA) hc;have np:=h.s t cs cA;have other:(∀e,pv≠ .sl e ajp [])->(∀e,v≠ .nil e ajp)->VP (match ajn v with
     |some (.nil _ ajp)=>{st with aD:=st.aD.set t (.box (cs.set c (.own (ajm st.aD) ajq)))++[.arr (rowOf rk esz) []]}
     |_=>st) (match ajn pv with
     |some (.sl _ ajp [])=>{p with aD:=p.aD.set t (.box (pc.set c (.own (ajm p.aD) esz 0 0 0 ajq)))++[.arr esz []]}
     |_=>p):=by
     intro n1 n2;split
     · rename_i e he;injection he with he;exact absurd he (n2 e)
     split
     · rename_i e he;injection he with he;exact absurd he (n1 e)
     exact h
    cases v with
    |iz=>cases ak5
    |nil e' cl=>
     have h5':pv= .sl e' cl []:=h5;subst h5';cases cl with
     |false=>exact other (fun e he=>by cases he) (fun e he=>by cases he)
     |true=>
      dsimp only;have dW:=(ut.1 cA).1;have vp:Fr [] st.aD (st.aD.set t (.box (cs.set c (.own (ajm st.aD) ajq)))++[.arr (rowOf rk esz) []]):=fun u x hu=>by
       by_cases L3:t=u
       · subst L3;rw [cA] at hu;injection hu with hu;subst hu;exact .inl ⟨_,by rw [v4 (by simpa using dW),EQ];simp [dW];rfl⟩
       have OD:=(ut.1 hu).1
       have:(st.aD.set t (.box (cs.set c (.own (ajm st.aD) ajq)))++[.arr (rowOf rk esz) []])[u]? =ajn x:=by rw [v4 (by simpa using OD),EQ];simp [L3,hu]
       cases x with
       |arr r l=>exact .inl ⟨l,this,rfl,fun _=>rfl⟩
       |dead=>exact this
       |box c2=>exact .inl ⟨c2,this⟩
       |_=>trivial
      have dd:(st.aD.set t (.box (cs.set c (.own (ajm st.aD) ajq)))).length=(ajm st.aD):=by simp
      have apF:R (st.aD.set t (.box (cs.set c (.own (ajm st.aD) ajq)))++[.arr (rowOf rk esz) []]) (.own (ajm st.aD) ajq) (.own (ajm p.aD) esz 0 0 0 ajq):=by refine ⟨esz,0,by rw [h.r.aD.len],.inl ⟨rowOf rk esz,[],?_,(vJ rk esz).symm,rfl⟩⟩;rw [v6 (by simp)];simp
      refine ⟨⟨eg.ext vp h.r.env,⟨by simp [h.r.aD.len],fun u x hu=>?_⟩,h.r.fz,h.r.kn⟩,fun u x hu=>?_,h.e⟩
      · rcases ack u (ajm st.aD) with OD|OD
        · rw [v4 (by simpa using OD),EQ] at hu
          by_cases L3:t=u
          · subst L3
            simp [dW] at hu;subst hu;refine ⟨.box (pc.set c (.own (ajm p.aD) esz 0 0 0 ajq)),?_,_,rfl,RL.set (RL.ext vp h3) c apF⟩;rw [v4 (by simp [h.r.aD.len,OD]),EQ];simp [h.r.aD.len,OD]
          simp [L3] at hu
          obtain ⟨q,h6,h7⟩:=h.r.aD.at_ u x hu;refine ⟨q,?_,h7.ext vp⟩;rw [v4 (by simp [h.r.aD.len,OD]),EQ];simp [L3,h6]
        rw [v6 (by simpa using OD)] at hu
        simp only [dd] at hu;have U9:u-(ajm st.aD)=0:=by
         rcases aiN (u-(ajm st.aD)) with h|h
         · exact h
         rw [List.getElem?_eq_none (by simp;omega)] at hu;cases hu
        rw [U9] at hu;simp at hu;subst hu;refine ⟨.arr esz [],?_,by show _=_;rw [vJ];rfl⟩;rw [v6 (by simp [h.r.aD.len];omega)];simp [h.r.aD.len,U9]
      rcases ack u (ajm st.aD) with OD|OD
      · rw [v4 (by simpa using OD),EQ] at hu
        by_cases L3:t=u
        · subst L3
          simp [dW] at hu;subst hu;exact Hx np c rfl
        simp [L3] at hu;exact h.s u x hu
      rw [v6 (by simpa using OD)] at hu
      cases hj:u- (st.aD.set t (.box (cs.set c (.own (ajm st.aD) ajq)))).length with
      |zero=>rw [hj] at hu;simp at hu
      |succ j=>rw [hj] at hu;simp at hu
    |undef|ke|eo|int _ _|bool _|str _|bp _ _ _|mp _=>exact other (fun e he=>by rw [show pv=_ from h5] at he;cases he) (fun e he=>by cases he)
    |sl r l=>exact other (fun e he=>by rw [show pv=_ from h5] at he;cases he) (fun e he=>by cases he)
    |agg _|b8 _|bM _ _=>exact other (fun e he=>by obtain ⟨q,hq,_⟩:=h5;rw [hq] at he;cases he) (fun e he=>by cases he)
    |fh _ _ _=>exact other (fun e he=>by obtain ⟨q,q2,hq,_⟩:=h5;rw [hq] at he;cases he) (fun e he=>by cases he)
    |own _ _=>exact other (fun e he=>by obtain ⟨q,q2,hq,_⟩:=h5;rw [hq] at he;cases he) (fun e he=>by cases he)
    |pre _ _ _ _|part _ _ _ _ _|pb _ _ _=>exact other (fun e he=>by obtain ⟨q,hq,_⟩:=h5;rw [hq] at he;cases he) (fun e he=>by cases he)
    |pa _ _ _ _ _=>exact other (fun e he=>by obtain ⟨hq,_⟩:=h5;rw [hq] at he;cases he) (fun e he=>by cases he)
theorem IU {p:St} {t c esz:Nat} (h: ∀cs,p.aD[t]?≠ajn (.box cs)):rR p t c esz=p:=by
 unfold rR;split
 · rename_i cs np;exact absurd np (h cs)
 rfl
theorem SQ {st:pq} {p:St} (h:VP st p) {v:SV} {q:PV} (hv:R st.aD v q) (hs:v≠ .iz):(∃t,Sj v=ajn t/\Ei q=ajn t)\/(Sj v=ajo/\ ∀t,Ei q=ajn t-> ∀cs,p.aD[t]?≠ajn (.box cs)):=by
 cases v with
 |iz=>exact absurd rfl hs
 |bp u m off=>
  have hq:q= .ptr u m 0 off:=hv;subst hq;cases off with
  |zero=>exact .inl ⟨u,rfl,rfl⟩
  |succ off=>exact .inr ⟨rfl,fun t ht=>by cases ht⟩
 |pb u i off=>
  obtain ⟨e',hq,dt⟩:=hv;subst hq;refine .inr ⟨rfl,fun t ht cs np=>?_⟩;have:t=u:=by
   unfold Ei at ht;split at ht
   · rename_i heq;injection heq with e1;injection ht with ht;rw [<- ht,e1]
   cases ht
  subst this;rcases dt with ⟨r,l,h1,_⟩|h1
  · rw [h.r.aD.arr h1] at np;cases np
  obtain ⟨q,h2,h3⟩:=h.r.aD.at_ t _ h1
  rw [np] at h2;injection h2 with h2;subst h2;cases (show lz.box cs= .dead from h3)
 |pa u r i a off=>
  obtain ⟨hq,dt⟩:=hv;subst hq;refine .inr ⟨rfl,fun t ht cs np=>?_⟩;have:t=u:=by
   unfold Ei at ht;split at ht
   · rename_i heq;injection heq with e1;injection ht with ht;rw [<- ht,e1]
   cases ht
  subst this;rcases dt with ⟨l,h1,_⟩|h1
  · rw [h.r.aD.arr h1] at np;cases np
  obtain ⟨q,h2,h3⟩:=h.r.aD.at_ t _ h1
  rw [np] at h2;injection h2 with h2;subst h2;cases (show lz.box cs= .dead from h3)
 |undef|ke|eo|int _ _|bool _|str _|mp _|sl _ _|nil _ _=>exact .inr ⟨rfl,fun t ht=>by rw [show q=_ from hv] at ht;cases ht⟩
 |agg _|b8 _|bM _ _=>exact .inr ⟨rfl,fun t ht=>by obtain ⟨_,rfl,_⟩:=hv;cases ht⟩
 |fh _ _ _=>exact .inr ⟨rfl,fun t ht=>by obtain ⟨_,_,rfl,_⟩:=hv;cases ht⟩
 |own _ _=>exact .inr ⟨rfl,fun t ht=>by obtain ⟨_,_,rfl,_⟩:=hv;cases ht⟩
 |pre _ _ _ _|part _ _ _ _ _=>exact .inr ⟨rfl,fun t ht=>by obtain ⟨_,rfl,_⟩:=hv;cases ht⟩
theorem adz {st:pq} {p:St} (h:VP st p) {v:SV} {q:PV} (hv:R st.aD v q) (hs:v.sure=ajp):(∃t,Vt v=ajn t/\JK q=ajn t)\/(Vt v=ajo/\ ∀t,JK q=ajn t-> ∀cs,p.aD[t]?≠ajn (.box cs)):=by
 have hj:v≠ .iz:=fun e=>by subst e;cases hs
 by_cases hc: ∃f a b,v= .fh f a b
 · obtain ⟨f,a,b,rfl⟩:=hc
   obtain ⟨pa,pb,rfl,h1,h2⟩:=hv;cases b with
   |nil=>have:pb=[]:=h2;subst this;exact .inr ⟨rfl,fun t ht=>by cases ht⟩
   |cons y ys=>obtain ⟨z,zs,rfl,g1,g2⟩:=h2;exact SQ h g1 (fun e=>by subst e;simp [SV.sure,mO] at hs)
 have e1:Vt v=Sj v:=by
  cases v with
  |fh f a b=>exact absurd ⟨f,a,b,rfl⟩ hc
  |_=>rfl
 have e2:JK q=Ei q:=by
  cases q with
  |fh f a b=>
   exfalso;cases v with
   |iz=>exact hj rfl
   |fh f a b=>exact hc ⟨f,a,b,rfl⟩
   |bp _ _ _|undef|ke|eo|int _ _|bool _|str _|mp _|sl _ _|nil _ _=>cases (show PV.fh f a b=_ from hv)
   |agg _|b8 _|bM _ _|pre _ _ _ _|part _ _ _ _ _|pb _ _ _=>obtain ⟨_,hq,_⟩:=hv;cases hq
   |own _ _=>obtain ⟨_,_,hq,_⟩:=hv;cases hq
   |pa _ _ _ _ _=>obtain ⟨hq,_⟩:=hv;cases hq
  |_=>rfl
 rw [e1,e2];exact SQ h hv hj
theorem nN {rk:List (Nat×List PT)}: ∀(live:List (Nat×Option Nat)) {st:pq} {p:St},VP st p->VP (mE rk live st) (ld live p)
 | [],st,p,h=>h
 |(t,k)::live,st,p,h=>by
  cases k with
  |none=>simp only [mE,ld];exact nN live h
  |some n=>
   simp only [mE,ld];cases hn:If 1000 n with
   |false=>simp only [lc,M2,if_false];exact nN live h
   |true=>
    simp only [kw,if_true];have uN:=h.r.env.lk t;have hsu:=h.e.lk t;rcases adz h uN hsu with ⟨u,e1,e2⟩|⟨e1,e2⟩
    · rw [e1,e2]
      exact nN live (MY h u _ _)
    rw [e1]
    cases hb:JK (lk t p.env) with
    |none=>exact nN live h
    |some u=>show VP (mE rk live st) (ld live (rR p u (n / 1000-1) (n%1000)));rw [IU (e2 u hb)];exact nN live h
theorem KJ {e:SE} {pe:Env} (hE:eg s e pe): ∀{live:List (Nat×Option Nat)},Bl e live=ajp->E6 e live=live.flatMap fun p=>jH tz (lk p.1 pe)
 | [],_=>rfl
 |(t,k)::live,h=>by simp only [Bl,rc] at h;simp only [E6,aj2,KJ hE h.2];rw [SM (fun _=>rfl) (hE.lk t) h.1]
theorem SS: ∀{s':List SB} {s:List SB} {ps:cI} (n:Nat),(ajm ps=ajm s/\ ∀(t:Nat) (b:SB),s[t]? =ajn b-> ∃q,ps[t]? =ajn q/\RB s' b q)->E7 s n=ajp->ML s n=(ps.take n).flatMap rO
 |s',[],ps,n,h,_=>by have:ps=[]:=acB.1 (by simpa using h.1);subst this;cases n<;>simp [ML]
 |s',b::s,ps,0,h,_=>by simp [ML]
 |s',b::s,ps,n+1,h,hk=>by
  cases ps with
  |nil=>have:=h.1;simp at this
  |cons q ps=>simp only [E7,rc] at hk;obtain ⟨q',h1,h2⟩:=h.2 0 b rfl;simp at h1;subst h1;simp only [ML,aiA,aj2,IS h2 hk.1];rw [SS (s':=s') (ps:=ps) n ⟨by simpa using h.1,fun t x hx=>by simpa using h.2 (t+1) x (by simpa using hx)⟩ hk.2]
theorem OE {s:List SB} {v:SV} {p:PV} (h:R s v p):R s (Hm s v) p:=by
 unfold Hm;split
 · rename_i t ex
   rw [cp];split
   · rename_i r l cA
     obtain ⟨e,n,rfl,dt⟩:=h;obtain ⟨rfl,rfl⟩:=dt.inv cA;exact ⟨ajm r,rfl,.inl ⟨r,l,cA,rfl⟩⟩
   exact h
 exact h
theorem OF {s:List SB} (c:Nat): ∀{e:SE} {p:Env},eg s e p->eg s (Oq s c e) p
 | [],_,h=>h
 |(t,v)::r,_,h=>by
  obtain ⟨q,qs,rfl,h1,h2⟩:=h;simp only [Oq];cases hb:IR t c with
  |true=>exact ⟨q,qs,rfl,OE h1,h2⟩
  |false=>exact ⟨q,qs,rfl,h1,OF c h2⟩
theorem CG: ∀(live:List (Nat×Option Nat)) {st:pq} {p:St},zg st p->zg (Bk live st) p
 | [],st,p,h=>h
 |(t,k)::r,st,p,h=>by
  simp only [Bk];cases hn:If 1000000 t with
  |true=>exact CG r ⟨OF _ h.env,h.aD,h.fz,h.kn⟩
  |false=>exact CG r h
theorem KK {rk:List (Nat×List PT)} {live:List (Nat×Option Nat)} {st oh:pq} {p:St} (h:zg st p) (hn:E8 rk live st=ajn oh): ∃p1,Ej live p=ajn p1/\zg oh p1:=by
 unfold E8 at hn;cases hc:(Bl st.env live&&E7 st.aD st.kn) with
 |false=>rw [hc] at hn;cases hn
 |true=>
  rw [hc] at hn;simp only [kw] at hn;simp only [rc] at hc;split at hn
  · cases hn
  rename_i m hm
  split at hn
  · rename_i s1 e1 s2 h1 h2
    injection hn with hn;subst hn;have ht:ML st.aD st.kn++E6 st.env live=(p.aD.take p.kn).flatMap rO++live.flatMap fun q=>jH tz (lk q.1 p.env):=by rw [KJ h.env hc.1,SS (s':=st.aD) st.kn ⟨h.aD.len,h.aD.at_⟩ hc.2,h.kn]
    rw [ht] at hm;have Cr:=Fp h.aD _ _ _ _ hm;have hr:Fs m st.aD (s1++s2):=Fs.of h1;obtain ⟨p1,a1,a2,a3⟩:=CD h.aD hr h1;have dd:(ajm s1)=(ajm m):=(yr h1).1;obtain ⟨pe1,q2,b1,b2,b3,b4⟩:=IT h.env hr h2 (fun j b hj=>by rw [<- dd,v6 (by omega)];simpa using hj);have qz:cD (s1++s2) (p1++q2):=⟨by simp [a2,b3],fun t b ht=>by
     rcases ack t (ajm s1) with hl|hl
     · rw [v4 hl] at ht
       obtain ⟨q,c1,c2⟩:=a3 t b ht;exact ⟨q,by rw [v4 (by omega)];exact c1,c2⟩
     rw [v6 hl] at ht
     obtain ⟨q,c1,c2⟩:=b4 _ b ht;exact ⟨q,by rw [v6 (by omega),a2];exact c1,c2⟩⟩
    have hs:acn (s1++s2):=fun t cs ht=>by
     rcases ack t (ajm s1) with hl|hl
     · rw [v4 hl] at ht
       obtain ⟨b,c,d1,d2,d3⟩:=(yr h1).2 t (m[t]'(by omega)) (AC (by omega));rw [ht] at d3;injection d3 with d3;subst d3;cases b with
       |box x=>
        simp only [MK] at d2;split at d2
        · rename_i l mS;injection d2 with d2;injection d2 with d2;subst d2;exact nv mS
        cases d2
       |arr _ _=>injection d2 with d2;cases d2
       |set _=>injection d2 with d2;cases d2
       |bC _ _=>injection d2 with d2;cases d2
       |dead=>injection d2 with d2;cases d2
     rw [v6 hl] at ht
     obtain ⟨r,UL⟩:=CE h2 _ _ ht;cases UL
    have hR:VP {env:=e1,aD:=s1++s2,fz:=xV st.fz 0 m,kn:=st.kn} {env:=pe1,aD:=p1++q2,fz:=xV p.fz 0 m,kn:=p.kn}:=
     ⟨⟨b2,qz,by rw [h.fz],h.kn⟩,hs,AA h2⟩
    refine ⟨_,?_,CG live (nN live hR).r⟩;unfold Ej;rw [h.kn] at Cr;rw [h.kn];rw [Cr];dsimp only;rw [a1,b1]
  cases hn
theorem OG {rk:List (Nat×List PT)} {live:List (Nat×Option Nat)} {st oh:pq} {p:St} (h:zg st p) (hn:E9 rk live st=ajn oh): ∃p1,norm live p=ajn p1/\zg oh p1:=by
 unfold E9 at hn;cases h1:E8 rk live st with
 |none=>rw [h1] at hn;cases hn
 |some s=>
  rw [h1] at hn;dsimp only at hn;obtain ⟨p1,h2,h3⟩:=KK h h1;unfold norm;rw [h2];dsimp only;cases ha:(live.any fun p=>p.2.isSome) with
  |true=>rw [ha] at hn;simp only [kw] at hn;rw [lm rfl];exact KK h3 hn
  |false=>rw [ha] at hn;injection hn with hn;subst hn;exact ⟨p1,by rw [ls (by simp)],h3⟩
mutual
theorem D7: ∀{a b:SV} (q:List xQ),xD a b=ajp->tF a (Cz b++q)=(b,q)
 | .undef,.undef,q,_=>rfl
 | .ke,.ke,q,_=>rfl
 | .eo,.eo,q,_=>rfl
 | .int k _,.int l n,q,h=>by rw [fX.1 h];rfl
 | .bool _,.bool _,q,_=>rfl
 | .agg a,.agg b,q,h=>by simp only [tF,Cz,oy q h]
 | .b8 a,.b8 b,q,h=>by simp only [tF,Cz,oy q h]
 | .sl r _,.sl r' l,q,h=>rfl
 | .nil e c,.nil f d,q,h=>by simp only [xD,rc,beq_iff_eq] at h;rw [lw h.1,h.2];rfl
 | .own t x,.own u y,q,h=>by simp only [xD,rc,beq_iff_eq] at h;rw [lw h.1,h.2];rfl
 | .pre t _ _ x,.pre u _ _ y,q,h=>by simp only [xD,rc,beq_iff_eq] at h;rw [lw h.1,h.2];rfl
 | .part t _ _ _ x,.part u _ _ _ y,q,h=>by simp only [xD,rc,beq_iff_eq] at h;rw [lw h.1,h.2];rfl
 | .pb t _ o,.pb u _ p,q,h=>by simp only [xD,rc] at h;rw [lw h.1,lw h.2];rfl
 | .bp t n o,.bp u m p,q,h=>by simp only [xD,rc] at h;rw [lw h.1.1,lw h.1.2,lw h.2];rfl
 | .bM a o,.bM b p,q,h=>by simp only [xD,rc] at h;simp only [tF,Cz,oy q h.1,lw h.2]
 | .fh f a b,.fh g c d,q,h=>by simp only [xD,rc] at h;simp only [tF,Cz,ab1,oy _ h.1.2,oy q h.2,lw h.1.1]
 | .mp t,.mp u,q,h=>by rw [lw h];rfl
 | .iz,.iz,q,_=>rfl
theorem oy: ∀{a b:List SV} (q:List xQ),yn a b=ajp->sd a (CA b++q)=(b,q)
 | [],[],q,_=>rfl
 |x::xs,y::ys,q,h=>by simp only [yn,rc] at h;simp only [sd,CA,ab1,D7 _ h.1,oy q h.2]
 | [],_::_,_,h=>by cases h
 |_::_,[],_,h=>by cases h
end
theorem SU: ∀{a b:SB} (q:List xQ),acf a b=ajp->MM a (Sk b++q)=(b,q)
 | .arr r _,.arr r' l,q,h=>rfl
 | .box a,.box b,q,h=>by simp only [MM,Sk,oy q h]
 | .set _,.set _,q,_=>rfl
 | .bC p _,.bC p' l,q,h=>by obtain rfl:p=p':=PT.Oj h;rfl
 | .dead,.dead,q,_=>rfl
 | .arr _ _,.box _,_,h| .arr _ _,.set _,_,h| .arr _ _,.dead,_,h| .box _,.arr _ _,_,h| .box _,.set _,_,h| .box _,.dead,_,h| .set _,.arr _ _,_,h| .set _,.box _,_,h| .set _,.dead,_,h| .dead,.arr _ _,_,h| .dead,.box _,_,h| .dead,.set _,_,h
 | .bC _ _,.arr _ _,_,h| .bC _ _,.box _,_,h| .bC _ _,.set _,_,h| .bC _ _,.dead,_,h| .arr _ _,.bC _ _,_,h| .box _,.bC _ _,_,h| .set _,.bC _ _,_,h| .dead,.bC _ _,_,h=>by cases h
theorem Bw: ∀{a b:List SB} (q:List xQ),E' a b=ajp->Ar a (IL b++q)=(b,q)
 | [],[],q,_=>rfl
 |x::xs,y::ys,q,h=>by simp only [E',rc] at h;simp only [Ar,IL,ab1,SU _ h.1,Bw q h.2]
 | [],_::_,_,h=>by cases h
 |_::_,[],_,h=>by cases h
theorem KL: ∀{a b:SE} (q:List xQ),Ot a b=ajp->Kz a (Qb b++q)=(b,q)
 | [],[],q,_=>rfl
 |(t,x)::xs,(u,y)::ys,q,h=>by simp only [Ot,rc] at h;simp only [Kz,Qb,ab1,D7 _ h.1.2,KL q h.2,lw h.1.1]
 | [],_::_,_,h=>by cases h
 |_::_,[],_,h=>by cases h
theorem KM: ∀{a b:List Nat},Ou a b=ajp->a=b
 | [],[],_=>rfl
 |x::xs,y::ys,h=>by simp only [Ou,rc] at h;rw [lw h.1,KM h.2]
 | [],_::_,h=>by cases h
 |_::_,[],h=>by cases h
theorem Hy {a b:pq} (h:Aq a b=ajp):vH a (ox b)=b:=by obtain ⟨e1,s1,z1,k1⟩:=a;obtain ⟨e2,s2,z2,k2⟩:=b;simp only [Aq,rc] at h;obtain ⟨⟨⟨h1,h2⟩,h3⟩,h4⟩:=h;have hs:=Bw [] h2;rw [abH] at hs;simp only [vH,ox,KL _ h1,hs,KM h3,lw h4]
theorem AK.aco: ∀{a:AK} {x:xQ} {y:a.T},a.of x=ajn y->a.at y=x
 | .i,.i _,y,h=>by injection h with h;subst h;rfl
 | .b,.b _,y,h=>by injection h with h;subst h;rfl
 | .n,.n _,y,h=>by injection h with h;subst h;rfl
 | .l r,.l q x,y,h=>by obtain ⟨rfl,rfl⟩:=py h;rfl
 | .s,.s _,y,h=>by injection h with h;subst h;rfl
 | .i,.b _,_,h| .i,.n _,_,h| .i,.l _ _,_,h| .i,.s _,_,h| .b,.i _,_,h| .b,.n _,_,h| .b,.l _ _,_,h| .b,.s _,_,h| .n,.i _,_,h| .n,.b _,_,h| .n,.l _ _,_,h| .n,.s _,_,h
 | .l _,.i _,_,h| .l _,.b _,_,h| .l _,.n _,_,h| .l _,.s _,_,h| .s,.i _,_,h| .s,.b _,_,h| .s,.n _,_,h| .s,.l _ _,_,h=>by cases h
theorem pA: ∀{ks:List AK} {l:List xQ} {y:iG ks},lZ ks l=ajn y->lQ ks y=l
 | [],[],y,_=>rfl
 | [a],[x],y,h=>by have:=AK.aco (a:=a) h;simp only [lQ,this]
 |a::q::r,x::xs,y,h=>by
  simp only [lZ] at h;split at h
  · rename_i u v h1 h2
    injection h with h;subst h;simp only [lQ,AK.aco h1,pA h2]
  cases h
 | [],_::_,_,h=>by cases h
 | [_],[],_,h=>by cases h
 | [_],_::_::_,_,h=>by cases h
 |_::_::_,[],_,h=>by cases h
end
end Go.Vm
/- What is known of functions, and what a call of one comes to. -/
namespace Go.Vm
mutual
def Ft:Nat->PV->Option (PV×cI)
 |_,.int k n=>ajn (.int k n,[])
 |_,.bool b=>ajn (.bool b,[])
 |nx,.agg cs=>match Fu nx cs with|some r=>ajn (.agg r.1,r.2)|none=>ajo
 |nx,.b8 cs=>match Fu nx cs with|some r=>ajn (.b8 r.1,r.2)|none=>ajo
 |nx,.sl e ajq rows=>ajn (.own nx e 0 (ajm rows) (ajm rows) ajq,[.arr e rows])
 |_,_=>ajo
def Fu:Nat->List PV->Option (List PV×cI)
 |_,[]=>ajn ([],[])
 |nx,x::xs=>match Ft nx x with
  |some a=>match Fu (nx+ajm a.2) xs with
   |some b=>ajn (a.1::b.1,a.2++b.2)
   |none=>ajo
  |none=>ajo
end
def wK (s:List SB) (n:Nat) (l:List SB):Prop:= ∀(j:Nat) (b:SB),l[j]? =ajn b->s[n+j]? =ajn b
theorem wK.left {s:List SB} {n:Nat} {l m:List SB} (h:wK s n (l++m)):wK s n l:=fun j b hj=>h j b (by rw [v4 (ut.1 hj).1];exact hj)
theorem wK.right {s:List SB} {n:Nat} {l m:List SB} (h:wK s n (l++m)):wK s (n+ajm l) m:=fun j b hj=>by
 have:=h (ajm l+j) b (by rw [v6 (by omega)];simpa using hj)
 rwa [Nat.add_assoc]
def MZ (s:List SB) (l:List SB) (q:cI):Prop:=ajm q=ajm l/\ ∀(j:Nat) (b:SB),l[j]? =ajn b-> ∃x,q[j]? =ajn x/\RB s b x
theorem MZ.append {s l m:List SB} {q r:cI} (h:MZ s l q) (k:MZ s m r):MZ s (l++m) (q++r):=by
 refine ⟨by simp [h.1,k.1],fun j b hj=>?_⟩;rcases ack j (ajm l) with hl|hl
 · rw [v4 hl] at hj
   obtain ⟨x,h1,h2⟩:=h.2 j b hj;exact ⟨x,by rw [v4 (by rw [h.1];exact hl)];exact h1,h2⟩
 rw [v6 hl] at hj
 obtain ⟨x,h1,h2⟩:=k.2 _ b hj;exact ⟨x,by rw [v6 (by rw [h.1];exact hl),h.1];exact h1,h2⟩
theorem MZ.nil {s:List SB}:MZ s [] []:=⟨rfl,fun j b h=>by simp at h⟩
theorem MZ.one {s:List SB} {b:SB} {x:lz} (h:RB s b x):MZ s [b] [x]:=⟨rfl,fun j c hc=>by
 cases j with
 |zero=>simp at hc;subst hc;exact ⟨x,rfl,h⟩
 |succ j=>simp at hc⟩
mutual
theorem OH: ∀{v:SV} {nx:Nat} {p0 p:PV} {q:cI},sX v=ajn p0->Ft nx p0=ajn (p,q)-> ∀{s:List SB},wK s nx (ym nx v).2->R s (ym nx v).1 p/\MZ s (ym nx v).2 q
 | .int k n,nx,p0,p,q,h0,h,s,_=>by injection h0 with h0;subst h0;injection h with h;injection h with h1 h2;subst h1 h2;exact ⟨rfl,MZ.nil⟩
 | .bool b,nx,p0,p,q,h0,h,s,_=>by injection h0 with h0;subst h0;injection h with h;injection h with h1 h2;subst h1 h2;exact ⟨rfl,MZ.nil⟩
 | .agg cs,nx,p0,p,q,h0,h,s,hb=>by
  simp only [sX] at h0;split at h0
  · rename_i l hl
    injection h0 with h0;subst h0;simp only [Ft] at h;split at h
    · rename_i r hr
      injection h with h;injection h with h1 h2;subst h1 h2;obtain ⟨h3,h4⟩:=Fv (p:=r.1) (q:=r.2) hl hr hb;exact ⟨⟨r.1,rfl,h3⟩,h4⟩
    cases h
  cases h0
 | .b8 cs,nx,p0,p,q,h0,h,s,hb=>by
  simp only [sX] at h0;split at h0
  · rename_i l hl
    injection h0 with h0;subst h0;simp only [Ft] at h;split at h
    · rename_i r hr
      injection h with h;injection h with h1 h2;subst h1 h2;obtain ⟨h3,h4⟩:=Fv (p:=r.1) (q:=r.2) hl hr hb;exact ⟨⟨r.1,rfl,h3⟩,h4⟩
    cases h
  cases h0
 | .sl r l,nx,p0,p,q,h0,h,s,hb=>by injection h0 with h0;subst h0;injection h with h;injection h with h1 h2;subst h1 h2;refine ⟨⟨ajm r,ajm l,by simp,.inl ⟨r,l,hb 0 _ rfl,rfl,rfl⟩⟩,MZ.one rfl⟩
 | .nil e c,nx,p0,p,q,h0,h,s,hb=>by
  injection h0 with h0;subst h0;cases c with
  |true=>simp [Ft] at h
  |false=>injection h with h;injection h with h1 h2;subst h1 h2;exact ⟨⟨e,0,rfl,.inl ⟨_,[],hb 0 _ rfl,by simp,rfl⟩⟩,MZ.one (by show _=_;simp)⟩
 | .str _,nx,p0,p,q,h0,h,s,_=>by injection h0 with h0;subst h0;cases h
 | .eo,nx,p0,p,q,h0,h,s,_=>by injection h0 with h0;subst h0;cases h
 | .bM cs o,nx,p0,p,q,h0,h,s,_=>by
  simp only [sX] at h0;split at h0
  · injection h0 with h0;subst h0;cases h
  cases h0
 | .fh f a b,nx,p0,p,q,h0,h,s,_=>by
  simp only [sX] at h0;split at h0
  · injection h0 with h0;subst h0;cases h
  cases h0
 | .iz,_,_,_,_,h0,_,_,_| .undef,_,_,_,_,h0,_,_,_| .ke,_,_,_,_,h0,_,_,_| .own _ _,_,_,_,_,h0,_,_,_| .pre _ _ _ _,_,_,_,_,h0,_,_,_| .part _ _ _ _ _,_,_,_,_,h0,_,_,_
 | .pa _ _ _ _ _,_,_,_,_,h0,_,_,_| .pb _ _ _,_,_,_,_,h0,_,_,_| .bp _ _ _,_,_,_,_,h0,_,_,_| .mp _,_,_,_,_,h0,_,_,_=>by cases h0
theorem Fv: ∀{v:List SV} {nx:Nat} {p0 p:List PV} {q:cI},qE v=ajn p0->Fu nx p0=ajn (p,q)-> ∀{s:List SB},wK s nx (uP nx v).2->RL s (uP nx v).1 p/\MZ s (uP nx v).2 q
 | [],nx,p0,p,q,h0,h,s,_=>by injection h0 with h0;subst h0;injection h with h;injection h with h1 h2;subst h1 h2;exact ⟨rfl,MZ.nil⟩
 |x::xs,nx,p0,p,q,h0,h,s,hb=>by
  obtain ⟨a,as,rfl,h1,h2⟩:=eZ.1 h0;simp only [Fu] at h;split at h
  · rename_i ra hra
    split at h
    · rename_i rb hrb
      injection h with h;injection h with e1 e2;subst e1 e2;simp only [uP] at hb ⊢;obtain ⟨k1,k2⟩:=OH (p:=ra.1) (q:=ra.2) h1 hra hb.left;rw [k2.1] at hrb;obtain ⟨k3,k4⟩:=Fv (p:=rb.1) (q:=rb.2) h2 hrb hb.right;exact ⟨RL.cons k1 k3,k2.append k4⟩
    cases h
  cases h
end
mutual
theorem SW {s:List SB} {ps:cI} {z:List Nat} (hS:cD s ps): ∀{v v':SV} {p:PV} {seen seen':List Nat} (nx:Nat),R s v p->Qa s z seen v=ajn (v',seen')-> ∃p0 p' q,sX v'=ajn p0/\Ft nx p0=ajn (p',q)/\zI ps z nx seen p=ajn (p',q,seen')
 | .int k n,v',p,seen,seen',nx,h,hx=>by injection hx with hx;injection hx with h1 h2;subst h1 h2;rw [show p=_ from h];exact ⟨_,_,_,rfl,rfl,rfl⟩
 | .bool k,v',p,seen,seen',nx,h,hx=>by injection hx with hx;injection hx with h1 h2;subst h1 h2;rw [show p=_ from h];exact ⟨_,_,_,rfl,rfl,rfl⟩
 | .agg cs,v',p,seen,seen',nx,h,hx=>by
  obtain ⟨q,rfl,h⟩:=h;simp only [Qa] at hx;split at hx
  · rename_i r hr
    injection hx with hx;injection hx with h1 h2;subst h1 h2;obtain ⟨p0,p',q',h3,h4,h5⟩:=IV hS (v':=r.1) (seen':=r.2) nx h hr;exact ⟨.agg p0,.agg p',q',by simp only [sX,h3],by simp only [Ft,h4],by simp only [zI,h5];rfl⟩
  cases hx
 | .b8 cs,v',p,seen,seen',nx,h,hx=>by
  obtain ⟨q,rfl,h⟩:=h;simp only [Qa] at hx;split at hx
  · rename_i r hr
    injection hx with hx;injection hx with h1 h2;subst h1 h2;obtain ⟨p0,p',q',h3,h4,h5⟩:=IV hS (v':=r.1) (seen':=r.2) nx h hr;exact ⟨.b8 p0,.b8 p',q',by simp only [sX,h3],by simp only [Ft,h4],by simp only [zI,h5];rfl⟩
  cases hx
 | .nil e c,v',p,seen,seen',nx,h,hx=>by
  cases c with
  |false=>cases hx
  |true=>injection hx with hx;injection hx with h1 h2;subst h1 h2;rw [show p=_ from h];exact ⟨_,_,_,rfl,rfl,rfl⟩
 | .own t ex,v',p,seen,seen',nx,h,hx=>by
  obtain ⟨e,n,rfl,dt⟩:=h;simp only [Qa,cp] at hx;split at hx
  · rename_i r l cA
    obtain ⟨rfl,rfl⟩:=dt.inv cA;cases hc:(has seen t||has z t) with
    |true=>rw [hc] at hx;cases hx
    |false=>rw [hc] at hx;injection hx with hx;injection hx with h1 h2;subst h1 h2;refine ⟨_,_,_,rfl,rfl,?_⟩;simp only [zI,hS.arr cA,hc];simp
  cases hx
 | .iz,_,_,_,_,_,_,hx| .undef,_,_,_,_,_,_,hx| .ke,_,_,_,_,_,_,hx| .eo,_,_,_,_,_,_,hx| .str _,_,_,_,_,_,_,hx| .sl _ _,_,_,_,_,_,_,hx| .pre _ _ _ _,_,_,_,_,_,_,hx| .part _ _ _ _ _,_,_,_,_,_,_,hx
 | .pa _ _ _ _ _,_,_,_,_,_,_,hx| .pb _ _ _,_,_,_,_,_,_,hx| .bp _ _ _,_,_,_,_,_,_,hx| .bM _ _,_,_,_,_,_,_,hx| .fh _ _ _,_,_,_,_,_,_,hx| .mp _,_,_,_,_,_,_,hx=>by cases hx
theorem IV {s:List SB} {ps:cI} {z:List Nat} (hS:cD s ps): ∀{v v':List SV} {p:List PV} {seen seen':List Nat} (nx:Nat),RL s v p->Ky s z seen v=ajn (v',seen')-> ∃p0 p' q,qE v'=ajn p0/\Fu nx p0=ajn (p',q)/\Ie ps z nx seen p=ajn (p',q,seen')
 | [],v',p,seen,seen',nx,h,hx=>by injection hx with hx;injection hx with h1 h2;subst h1 h2;rw [show p=_ from h];exact ⟨_,_,_,rfl,rfl,rfl⟩
 |x::xs,v',p,seen,seen',nx,h,hx=>by
  obtain ⟨a,as,rfl,h1,h2⟩:=h.cons_inv;simp only [Ky] at hx;split at hx
  · rename_i r hr
    split at hx
    · rename_i r2 RR
      injection hx with hx;injection hx with e1 e2;subst e1 e2;obtain ⟨p0,p',q,k1,k2,k3⟩:=SW hS (v':=r.1) (seen':=r.2) nx h1 hr;obtain ⟨p02,p'2,q2,k4,k5,k6⟩:=IV hS (v':=r2.1) (seen':=r2.2) (nx+ajm q) h2 RR;exact ⟨p0::p02,p'::p'2,q++q2,eZ.2 ⟨_,_,rfl,k1,k4⟩,by simp only [Fu,k2,k5],by simp only [Ie,k3,k6]⟩
    cases hx
  cases hx
end
mutual
theorem KN {s:List SB}: ∀{v:SV} {p:PV},R s v p->Ap v=ajp->p.la=ajp
 | .int _ _,p,h,_| .bool _,p,h,_| .str _,p,h,_=>by rw [show p=_ from h];rfl
 | .agg cs,p,h,hn=>by obtain ⟨q,rfl,h⟩:=h;exact CH h hn
 | .b8 cs,p,h,hn=>by obtain ⟨q,rfl,h⟩:=h;exact CH h hn
 | .iz,_,_,h| .undef,_,_,h| .ke,_,_,h| .eo,_,_,h| .sl _ _,_,_,h| .nil _ _,_,_,h| .own _ _,_,_,h| .pre _ _ _ _,_,_,h| .part _ _ _ _ _,_,_,h| .pa _ _ _ _ _,_,_,h| .pb _ _ _,_,_,h| .bp _ _ _,_,_,h| .bM _ _,_,_,h| .fh _ _ _,_,_,h| .mp _,_,_,h=>by cases h
theorem CH {s:List SB}: ∀{v:List SV} {p:List PV},RL s v p->rZ v=ajp->v8 p=ajp
 | [],p,h,_=>by rw [show p=_ from h];rfl
 |x::xs,p,h,hn=>by obtain ⟨a,as,rfl,h1,h2⟩:=h.cons_inv;simp only [rZ,rc] at hn;simp only [v8,KN h1 hn.1,CH h2 hn.2,abK]
end
mutual
theorem Hz {s:List SB} {u:SV}: ∀{v:SV} {p:PV},R s v p->Ap v=ajq->Si s v=ajn u->p.la=ajq
 | .int _ _,p,h,hn,_| .bool _,p,h,hn,_| .str _,p,h,hn,_=>by cases hn
 | .agg cs,p,h,hn,hi=>by
  obtain ⟨q,rfl,h⟩:=h;simp only [Si] at hi;split at hi
  · rename_i l hl;exact AB h hn hl
  cases hi
 | .b8 cs,p,h,hn,hi=>by
  obtain ⟨q,rfl,h⟩:=h;simp only [Si] at hi;split at hi
  · rename_i l hl;exact AB h hn hl
  cases hi
 | .sl _ _,p,h,_,_=>by rw [show p=_ from h];rfl
 | .nil _ _,p,h,_,_=>by rw [show p=_ from h];rfl
 | .own _ _,p,h,_,_=>by obtain ⟨e,n,rfl,_⟩:=h;rfl
 | .pre _ _ _ _,p,h,_,_=>by obtain ⟨e,rfl,_⟩:=h;rfl
 | .part _ _ _ _ _,p,h,_,_=>by obtain ⟨e,rfl,_⟩:=h;rfl
 | .iz,_,_,_,h| .undef,_,_,_,h| .ke,_,_,_,h| .eo,_,_,_,h| .pa _ _ _ _ _,_,_,_,h| .pb _ _ _,_,_,_,h| .bp _ _ _,_,_,_,h| .bM _ _,_,_,_,h| .fh _ _ _,_,_,_,h| .mp _,_,_,_,h=>by cases h
theorem AB {s:List SB}: ∀{v u:List SV} {p:List PV},RL s v p->rZ v=ajq->MJ s v=ajn u->v8 p=ajq
 | [],u,p,h,hn,_=>by cases hn
 |x::xs,u,p,h,hn,hi=>by
  obtain ⟨a,as,rfl,h1,h2⟩:=h.cons_inv;simp only [MJ] at hi;split at hi
  · rename_i y ys h3 h4
    simp only [rZ] at hn;simp only [v8];cases hx:Ap x with
    |false=>rw [Hz h1 hx h3];rfl
    |true=>rw [hx] at hn;rw [AB h2 (by simpa using hn) h4];simp
  cases hi
end
mutual
theorem acp {s:List SB} {ps:cI} (hS:cD s ps): ∀{v u:SV} {p:PV},R s v p->Si s v=ajn u-> ∃q,yY ps p=ajn q/\sX u=ajn q
 | .int k n,u,p,h,hx=>by injection hx with hx;subst hx;rw [show p=_ from h];exact ⟨_,rfl,rfl⟩
 | .bool b,u,p,h,hx=>by injection hx with hx;subst hx;rw [show p=_ from h];exact ⟨_,rfl,rfl⟩
 | .str x,u,p,h,hx=>by injection hx with hx;subst hx;rw [show p=_ from h];exact ⟨_,rfl,rfl⟩
 | .agg cs,u,p,h,hx=>by
  obtain ⟨q,rfl,h⟩:=h;simp only [Si] at hx;split at hx
  · rename_i l hl
    injection hx with hx;subst hx;obtain ⟨q',h1,h2⟩:=M0 hS h hl;exact ⟨.agg q',by simp only [yY,h1];rfl,by simp only [sX,h2]⟩
  cases hx
 | .b8 cs,u,p,h,hx=>by
  obtain ⟨q,rfl,h⟩:=h;simp only [Si] at hx;split at hx
  · rename_i l hl
    injection hx with hx;subst hx;obtain ⟨q',h1,h2⟩:=M0 hS h hl;exact ⟨.b8 q',by simp only [yY,h1];rfl,by simp only [sX,h2]⟩
  cases hx
 | .sl r l,u,p,h,hx=>by injection hx with hx;subst hx;rw [show p=_ from h];exact ⟨_,rfl,rfl⟩
 | .nil e c,u,p,h,hx=>by injection hx with hx;subst hx;rw [show p=_ from h];exact ⟨_,rfl,rfl⟩
 | .own t ex,u,p,h,hx=>by
  simp only [Si,cp] at hx;split at hx
  · rename_i r l cA
    injection hx with hx;subst hx;obtain ⟨e,n,rfl,dt⟩:=h;obtain ⟨rfl,rfl⟩:=dt.inv cA;refine ⟨.sl (ajm r) ajq (l.map (RT.pv r)),?_,rfl⟩;simp only [yY,hS.arr cA,abU];rw [abS (by simp)]
  cases hx
 | .pre t len cap ex,u,p,h,hx=>by
  simp only [Si,cp] at hx;split at hx
  · rename_i r l cA
    injection hx with hx;subst hx;obtain ⟨e,rfl,dt⟩:=h;have:=dt.inv cA;subst this;refine ⟨.sl (ajm r) ajq ((l.take len).map (RT.pv r)),?_,rfl⟩;simp only [yY,hS.arr cA,abU,abR]
  cases hx
 | .part t off len cap ex,u,p,h,hx=>by
  simp only [Si,cp] at hx;split at hx
  · rename_i r l cA
    injection hx with hx;subst hx;obtain ⟨e,rfl,dt⟩:=h;have:=dt.inv cA;subst this;refine ⟨.sl (ajm r) ajq (((l.drop off).take len).map (RT.pv r)),?_,rfl⟩;simp only [yY,hS.arr cA,abR,acr]
  cases hx
 | .iz,_,_,_,hx| .undef,_,_,_,hx| .ke,_,_,_,hx| .eo,_,_,_,hx| .pa _ _ _ _ _,_,_,_,hx| .pb _ _ _,_,_,_,hx| .bp _ _ _,_,_,_,hx| .bM _ _,_,_,_,hx| .fh _ _ _,_,_,_,hx| .mp _,_,_,_,hx=>by cases hx
theorem M0 {s:List SB} {ps:cI} (hS:cD s ps): ∀{v u:List SV} {p:List PV},RL s v p->MJ s v=ajn u-> ∃q,Ic ps p=ajn q/\qE u=ajn q
 | [],u,p,h,hx=>by injection hx with hx;subst hx;rw [show p=_ from h];exact ⟨_,rfl,rfl⟩
 |x::xs,u,p,h,hx=>by
  obtain ⟨a,as,rfl,h1,h2⟩:=h.cons_inv;simp only [MJ] at hx;split at hx
  · rename_i y ys h3 h4
    injection hx with hx;subst hx;obtain ⟨q,h5,h6⟩:=acp hS h1 h3;obtain ⟨qs,h7,h8⟩:=M0 hS h2 h4;exact ⟨q::qs,by simp only [Ic,h5,h7],eZ.2 ⟨_,_,rfl,h6,h8⟩⟩
  cases hx
end
mutual
theorem SX {s:List SB}: ∀{v:SV} {p:PV},sX v=ajn p->R s v p
 | .int _ _,p,h| .bool _,p,h| .str _,p,h| .eo,p,h| .sl _ _,p,h| .nil _ _,p,h=>by injection h with h;exact h.symm
 | .agg cs,p,h=>by
  simp only [sX] at h;split at h
  · rename_i l hl;injection h with h;exact ⟨l,h.symm,Fw hl⟩
  cases h
 | .b8 cs,p,h=>by
  simp only [sX] at h;split at h
  · rename_i l hl;injection h with h;exact ⟨l,h.symm,Fw hl⟩
  cases h
 | .bM cs o,p,h=>by
  simp only [sX] at h;split at h
  · rename_i l hl;injection h with h;exact ⟨l,h.symm,Fw hl⟩
  cases h
 | .fh f a b,p,h=>by
  simp only [sX] at h;split at h
  · rename_i x y h1 h2;injection h with h;exact ⟨x,y,h.symm,Fw h1,Fw h2⟩
  cases h
 | .iz,_,h| .undef,_,h| .ke,_,h| .own _ _,_,h| .pre _ _ _ _,_,h| .part _ _ _ _ _,_,h| .pa _ _ _ _ _,_,h| .pb _ _ _,_,h| .bp _ _ _,_,h| .mp _,_,h=>by cases h
theorem Fw {s:List SB}: ∀{v:List SV} {p:List PV},qE v=ajn p->RL s v p
 | [],p,h=>by injection h with h;exact h.symm
 |x::xs,p,h=>by obtain ⟨a,as,rfl,h1,h2⟩:=eZ.1 h;exact RL.cons (SX h1) (Fw h2)
end
def acq (kd:Kd) (n:Nat) (tk:List Nat) (v:SV) (r:od):Prop:=
 match kd with
 | .pure=> ∃p,sX v=ajn p/\r={v:=p,rd:=tk}
 | .l9=> ∃p,sX v=ajn p/\r={v:=p,rd:=tk,fr:=tk}
 | .own=> ∃p0 p q,sX v=ajn p0/\Ft n p0=ajn (p,q)/\r={v:=p,news:=q,rd:=tk}
def dU (F : mY) (f : FuncId) (c : sY) : Prop :=
  ∀ (a : c.α) (b : c.β) (as args : List PV) (aD : cI) (fz : List Nat), c.fn a = ajn b -> qE (c.args.enc a) = ajn args -> B8 aD (xT aD deep) as = ajn args ->
    ∃ n r, dz F (run F n) c.ow f as aD fz = ajn r /\ acq c.kd (ajm aD) (dF (df aD deep) as) (c.res.enc b) r
def dG.va (c:dG) (a:iG c.ka):List SV:=(sd c.ta (lQ c.ka a)).1
def dG.sa (c:dG) (a:iG c.ka):List SB:=(Ar c.tb (sd c.ta (lQ c.ka a)).2).1
def dG.vb (c:dG) (b:iG c.ko):SV:=(tF c.tv (lQ c.ko b)).1
def dG.sb (c:dG) (b:iG c.ko):List SB:=(Ar c.to (tF c.tv (lQ c.ko b)).2).1
def SY:SB->SB->Prop
 | .arr r l,.arr q m=>r=q/\ajm m=ajm l
 | .box _,.box _=>True
 | .set _,.set _=>True
 | .bC _ _,.bC _ _=>True
 | .dead,.dead=>True
 |_,_=>False
def iM (F : mY) (f : FuncId) (c : dG) : Prop :=
  ∀ (a : iG c.ka) (b : iG c.ko) (pa : List PV) (ps : cI), c.fn a = ajn b -> RL (c.sa a) (c.va a) pa -> cD (c.sa a) ps ->
    ∃ n v s, run F n (.func f pa ps []) = ajn (.func v s []) /\ iQ (c.sa a).length v s = ajp /\ R (c.sb b) (c.vb b) v /\ cD (c.sb b) (s.take (c.sa a).length) /\ (c.sb b).length = (c.sa a).length /\
      ∀ (t : Nat) (x y : SB), (c.sa a)[t]? = ajn x -> (c.sb b)[t]? = ajn y -> SY x y
def yt (F:mY):List (Nat×sY)->Prop
 | []=>True
 |(f,c)::r=>dU F f c/\yt F r
def Fx (F:mY):List (Nat×dG)->Prop
 | []=>True
 |(f,c)::r=>iM F f c/\Fx F r
def zk (F:mY):List (Nat×Cd)->Prop
 | []=>True
 |(f,x)::r=>F f=ajn x.ent/\zk F r
structure gO (F:mY) (cx:Ctx):Prop where
 con: ∀f c,c∈cx.con f->dU F f c
 fpc: ∀f c,c∈cx.fpc f->iM F f c
 code: ∀f x,cx.code f=ajn x->F f=ajn x.ent
theorem yt.mem {F:mY}: ∀{l:List (Nat×sY)},yt F l-> ∀f c,c∈Hs l f->dU F f c
 | [],_,f,c,h=>by cases h
 |(g,d)::r,hl,f,c,h=>by
  simp only [Hs] at h;cases hb:IR g f with
  |true=>
   rw [hb] at h;have:=lw hb;subst this;simp only [kw] at h;rcases h with _|⟨_,h⟩
   · exact hl.1
   exact yt.mem hl.2 _ c h
  |false=>rw [hb] at h;exact yt.mem hl.2 f c h
theorem Fx.mem {F:mY}: ∀{l:List (Nat×dG)},Fx F l-> ∀f c,c∈Ht l f->iM F f c
 | [],_,f,c,h=>by cases h
 |(g,d)::r,hl,f,c,h=>by
  simp only [Ht] at h;cases hb:IR g f with
  |true=>
   rw [hb] at h;have:=lw hb;subst this;simp only [kw] at h;rcases h with _|⟨_,h⟩
   · exact hl.1
   exact Fx.mem hl.2 _ c h
  |false=>rw [hb] at h;exact Fx.mem hl.2 f c h
theorem zk.mem {F:mY}: ∀{l:List (Nat×Cd)},zk F l-> ∀f x,Fb l f=ajn x->F f=ajn x.ent
 | [],_,f,c,h=>by cases h
 |(g,d)::r,hl,f,c,h=>by
  simp only [Fb] at h;cases hb:IR g f with
  |true=>rw [hb] at h;have:=lw hb;subst this;injection h with h;subst h;exact hl.1
  |false=>rw [hb] at h;exact zk.mem hl.2 f c h
theorem gO.make {F:mY} {lp:Option Nat} {c:List (Nat×sY)} {p:List (Nat×dG)} {x:List (Nat×Cd)} {rk:List (Nat×List PT)} (h1:yt F c) (h2:Fx F p) (h3:zk F x):gO F (jJ lp c p x rk):=
 ⟨h1.mem,h2.mem,h3.mem⟩
theorem gO.ak6 {F:mY} {lp:Option Nat} {c:List (Nat×sY)} {p:List (Nat×dG)} {x:List (Nat×Cd)} {rk:List (Nat×List PT)} (h1:yt F c) (h2:Fx F p) (h3:zk F x):gO F (acj lp c p x rk):=
 ⟨h1.mem,h2.mem,h3.mem⟩
section
variable {F : mY} {R' ρ : Type} {w : R' -> ρ} {y : ρ} {s : List SB} {ps : cI} {z : List Nat}
theorem yu {f:FuncId} {m:Bool} {tk:List Nat} {vs:List SV} {k:XRS->gT R'} (hS:cD s ps) {as args:List PV} (hx:B8 ps (xT ps deep) as=ajn args) (hv:qE vs=ajn args) (Cm:tk=dF (df ps deep) as):
 ∀{l:List sY},(∀c∈l,dU F f c)->MN f m s tk vs k l ρ w=ajn y-> ∃sr pr,(∃n,dz F (run F n) m f as ps z=ajn pr)/\Good s ps sr pr/\k (.loc sr) ρ w=ajn y
 | [],_,h=>by cases h
 |c::l,hl,h=>by
  simp only [MN] at h;cases hd:c.args.dec vs with
  |none=>rw [hd] at h;exact yu hS hx hv Cm (fun c hc=>hl c (acK _ hc)) h
  |some a=>
   rw [hd] at h;cases hmo:(m==c.ow) with
   |false=>rw [hmo] at h;exact yu hS hx hv Cm (fun c hc=>hl c (acK _ hc)) h
   |true=>
   rw [hmo] at h;obtain ⟨b,hb,h2⟩:=cN h;have hm:m=c.ow:=by simpa using hmo
   subst hm;have apG:=c.args.law hd hv;obtain ⟨n,r,hr,Bg⟩:=hl c (acx ..) a b as args ps z hb apG hx;cases hkd:c.kd with
   |pure=>rw [hkd] at h2 Bg;obtain ⟨p,h3,rfl⟩:=Bg;exact ⟨_,_,⟨n,hr⟩,by rw [<- Cm];exact Good.val hS (SX h3),h2⟩
   |l9=>rw [hkd] at h2 Bg;obtain ⟨p,h3,rfl⟩:=Bg;exact ⟨_,_,⟨n,hr⟩,by rw [<- Cm];exact Good.val hS (SX h3),h2⟩
   |own=>
    rw [hkd] at h2 Bg;obtain ⟨p0,p,q,h3,h4,rfl⟩:=Bg;rw [hS.len] at h4;have hbh:wK (s++(ym (ajm s) (c.res.enc b)).2) (ajm s) (ym (ajm s) (c.res.enc b)).2:=fun j x hj=>by rw [v6 (by omega)];simpa using hj
    obtain ⟨k1,k2⟩:=OH h3 h4 hbh;exact ⟨_,_,⟨n,hr⟩,by rw [<- Cm];exact Good.news hS k2.1 k2.2 k1,h2⟩
end
end Go.Vm
/- A call of a function that works on the blocks that are lent to it. -/
namespace Go.Vm
def rz {α:Type}:List (Nat×α)->List α->List α
 | [],s=>s
 |(t,b)::r,s=>rz r (s.set t b)
theorem wL: ∀(l:List (Nat×SB)) (s:List SB),ry l s=rz l s
 | [],s=>rfl
 |(t,b)::r,s=>by simp only [ry,rz,Bp,wL r]
theorem Dp: ∀(l:List (Nat×lz)) (s:cI),gH l s=rz l s
 | [],s=>rfl
 |(t,b)::r,s=>by simp only [gH,rz,Dp r]
theorem AD {α:Type}: ∀(l:List (Nat×α)) (s:List α),(rz l s).length=ajm s
 | [],s=>rfl
 |(t,b)::r,s=>by simp [rz,AD r]
theorem wM {α:Type}: ∀(l:List (Nat×α)) (s:List α) (t:Nat),t∉l.map (·.1)->(rz l s)[t]? =s[t]?
 | [],s,t,_=>rfl
 |(u,b)::r,s,t,h=>by simp only [abJ,List.mem_cons,not_or] at h;simp only [rz];rw [wM r _ t h.2,EQ];simp [Ne.symm h.1]
theorem CI {α:Type}: ∀(l:List (Nat×α)) (s:List α) (j t:Nat) (b:α),(l.map (·.1)).Nodup->l[j]? =ajn (t,b)->t<ajm s->(rz l s)[t]? =ajn b
 | [],s,j,t,b,_,h,_=>by simp at h
 |(u,c)::r,s,0,t,b,hn,h,ht=>by simp at h;obtain ⟨rfl,rfl⟩:=h;simp only [abJ,agd] at hn;simp only [rz];rw [wM r _ u hn.1,EQ];simp [ht]
 |(u,c)::r,s,j+1,t,b,hn,h,ht=>by simp only [abJ,agd] at hn;simp only [rz];exact CI r _ j t b hn.2 (by simpa using h) (by simpa using ht)
theorem Bx: ∀(l:List (Nat×SB)),yo l=l.map (·.1)
 | []=>rfl
 |(t,b)::r=>by simp [yo,Bx r]
theorem HA (g:Nat->Nat): ∀(tk:List Nat) (s:List SB),ajm s=ajm tk->(zT g tk s).map (·.1)=tk/\ ∀(j t:Nat) (b:SB),tk[j]? =ajn t->s[j]? =ajn b->(zT g tk s)[j]? =ajn (t,Sq g b)
 | [],s,h=>⟨by simp [zT],fun j t b hj=>by simp at hj⟩
 |t::tk,[],h=>by simp at h
 |t::tk,b::s,h=>by
  obtain ⟨h1,h2⟩:=HA g tk s (by simpa using h);refine ⟨by simp [zT,h1],fun j u c hj hc=>?_⟩;cases j with
  |zero=>simp at hj hc;subst hj hc;rfl
  |succ j=>simp only [zT,abV];exact h2 j u c (by simpa using hj) (by simpa using hc)
theorem Fy (g:Nat->Nat): ∀(tk:List Nat) (s:cI),ajm tk<=ajm s->(o9 g tk s).map (·.1)=tk/\ ∀(j t:Nat) (b:lz),tk[j]? =ajn t->s[j]? =ajn b->(o9 g tk s)[j]? =ajn (t,zJ g b)
 | [],s,h=>⟨by simp [o9],fun j t b hj=>by simp at hj⟩
 |t::tk,[],h=>by simp at h
 |t::tk,b::s,h=>by
  obtain ⟨h1,h2⟩:=Fy g tk s (by simpa using h);refine ⟨by simp [o9,h1],fun j u c hj hc=>?_⟩;cases j with
  |zero=>simp at hj hc;subst hj hc;rfl
  |succ j=>simp only [o9,abV];exact h2 j u c (by simpa using hj) (by simpa using hc)
theorem HB: ∀{l:List (Nat×lz)},(l.map (·.1)).Nodup->wa l=ajp
 | [],_=>rfl
 |p::r,h=>by
  simp only [abJ,agd] at h;simp only [wa,rc,abT,aa4];refine ⟨fun q hq=>?_,HB h.2⟩;cases hb:IR q.1 p.1 with
  |false=>rfl
  |true=>exact absurd (aj3.2 ⟨q,hq,lw hb⟩) h.1
theorem IW: ∀(s:List SB),B4 [] s=s
 | []=>rfl
 |b::r=>by simp only [B4,IW r];cases b<;>simp [Vv,tV]
theorem KO (s:List SB) (r:gz):r.nM s=B4 (yo r.wr) (ry r.wr s)++r.news:=by
 unfold gz.nM;split
 · rename_i h;rw [h];simp only [yo,ry,IW,mQ]
 simp only [mQ]
def adA (g:Nat->Nat) (s s2:List SB):Prop:= ∀(u:Nat) (x:SB),s[u]? =ajn x->match x with
 | .arr r l=>s2[g u]? =ajn (.arr r l)
 | .dead=>s2[g u]? =ajn .dead
 | .box _=> ∃cs,s2[g u]? =ajn (.box cs)
 |_=>True
mutual
theorem OI {g:Nat->Nat} {s s2:List SB} (hb:adA g s s2): ∀{v:SV} {p:PV},R s v p->R s2 (KC g v) (B9 g p)
 | .iz,_,_=>trivial
 | .undef,p,h| .ke,p,h| .eo,p,h| .int _ _,p,h| .bool _,p,h| .str _,p,h| .sl _ _,p,h| .nil _ _,p,h| .bp _ _ _,p,h| .mp _,p,h=>by rw [show p=_ from h];rfl
 | .agg cs,p,h=>by obtain ⟨q,rfl,h⟩:=h;exact ⟨_,rfl,wN hb h⟩
 | .b8 cs,p,h=>by obtain ⟨q,rfl,h⟩:=h;exact ⟨_,rfl,wN hb h⟩
 | .bM cs o,p,h=>by obtain ⟨q,rfl,h⟩:=h;exact ⟨_,rfl,wN hb h⟩
 | .fh f a b,p,h=>by obtain ⟨pa,pb,rfl,h1,h2⟩:=h;exact ⟨_,_,rfl,wN hb h1,wN hb h2⟩
 | .own t ex,p,h=>by
  obtain ⟨e,n,rfl,dt⟩:=h;refine ⟨e,n,rfl,?_⟩;rcases dt with ⟨r,l,h1,h2,h3⟩|h1
  · exact .inl ⟨r,l,hb t _ h1,h2,h3⟩
  exact .inr (hb t _ h1)
 | .pre t a b c,p,h=>by
  obtain ⟨e,rfl,dt⟩:=h;refine ⟨e,rfl,?_⟩;rcases dt with ⟨r,l,h1,h2⟩|h1|⟨cs,h1,h2⟩
  · exact .inl ⟨r,l,hb t _ h1,h2⟩
  · exact .inr (.inl (hb t _ h1))
  obtain ⟨c2,h3⟩:=hb t _ h1
  exact .inr (.inr ⟨c2,h3,h2⟩)
 | .part t o a b c,p,h=>by
  obtain ⟨e,rfl,dt⟩:=h;refine ⟨e,rfl,?_⟩;rcases dt with ⟨r,l,h1,h2⟩|h1|⟨cs,h1,h2⟩
  · exact .inl ⟨r,l,hb t _ h1,h2⟩
  · exact .inr (.inl (hb t _ h1))
  obtain ⟨c2,h3⟩:=hb t _ h1
  exact .inr (.inr ⟨c2,h3,h2⟩)
 | .pa t r i a o,p,h=>by
  obtain ⟨rfl,dt⟩:=h;refine ⟨_,rfl,?_⟩;rcases dt with ⟨l,h1,h2⟩|h1
  · exact .inl ⟨r,l,hb t _ h1,by rw [h2];rfl⟩
  exact .inr (hb t _ h1)
 | .pb t i o,p,h=>by
  obtain ⟨e,rfl,dt⟩:=h;refine ⟨e,rfl,?_⟩;rcases dt with ⟨r,l,h1,h2⟩|h1
  · exact .inl ⟨r,l,hb t _ h1,h2⟩
  exact .inr (hb t _ h1)
theorem wN {g:Nat->Nat} {s s2:List SB} (hb:adA g s s2): ∀{v:List SV} {p:List PV},RL s v p->RL s2 (Dk g v) (xu g p)
 | [],p,h=>by rw [show p=_ from h];rfl
 |x::xs,p,h=>by obtain ⟨a,as,rfl,h1,h2⟩:=h.cons_inv;exact RL.cons (OI hb h1) (wN hb h2)
end
theorem Fz: ∀{a b:cI},(∀(t:Nat) (x:lz),a[t]? =ajn x-> ∃y,b[t]? =ajn y/\x.bT=y.bT)->v9 a b=ajp
 | [],b,_=>by cases b<;>rfl
 |x::a,[],h=>by obtain ⟨y,hy,_⟩:=h 0 x rfl;simp at hy
 |x::a,y::b,h=>by obtain ⟨y',h1,h2⟩:=h 0 x rfl;simp at h1;subst h1;have:=Fz (a:=a) (b:=b) (fun t x hx=>by simpa using h (t+1) x (by simpa using hx));simp only [v9,this,acJ,h2];cases y.bT<;>rfl
section
variable {F : mY} {R' ρ : Type} {w : R' -> ρ} {y : ρ} {s : List SB} {ps : cI} {z : List Nat}
theorem OJ {f:FuncId} {tk:List Nat} {M1 vs:List SV} {s0:List SB} {k:XRS->gT R'} (hS:cD s ps) {UM:List PV} (hv:RL s M1 UM) (Cm:tk=o6 (dF (df ps deep) UM)) (hz:(tk.all fun t=>!has z t)=ajp)
 (h1:tU tk M1=ajn vs) (h2:GV s tk tk=ajn s0):
 ∀{l:List dG},(∀c∈l,iM F f c)->fpS f (ajm s) tk vs s0 k l ρ w=ajn y-> ∃sr pr,(∃n,uE (run F n) f UM ps z=ajn pr)/\Good s ps sr pr/\k (.loc sr) ρ w=ajn y
 | [],_,h=>by cases h
 |c::l,hl,h=>by
  have next:fpS f (ajm s) tk vs s0 k l ρ w=ajn y-> ∃sr pr,(∃n,uE (run F n) f UM ps z=ajn pr)/\Good s ps sr pr/\k (.loc sr) ρ w=ajn y:=
   fun h=>OJ hS hv Cm hz h1 h2 (fun c hc=>hl c (acK _ hc)) h
  simp only [fpS] at h;cases uN:(yn c.ta vs&&E' c.tb s0) with
  |false=>rw [uN] at h;exact next h
  |true=>
   rw [uN] at h;simp only [kw] at h;cases hpo:lZ c.ka (CA vs++IL s0) with
   |none=>rw [hpo] at h;exact next h
   |some a=>
    rw [hpo] at h;obtain ⟨b,hb,h3⟩:=cN h;simp only [rc] at uN;have EF:=pA hpo;have hva:c.va a=vs:=by unfold dG.va;rw [EF,oy _ uN.1]
    have hsa:c.sa a=s0:=by unfold dG.sa;rw [EF,oy _ uN.1];have:=Bw [] uN.2;rw [abH] at this;rw [this]
    have EK:Fs tk s s0:=by have:=Fs.of (l:=[]) h2;rwa [abH] at this
    obtain ⟨pa',a1,a2⟩:=tZ EK hv h1;obtain ⟨p0,b1,b2,b3⟩:=CD hS EK h2;have Oc:cD s0 p0:=⟨b2,b3⟩;obtain ⟨VQ,ak7⟩:=yr h2;obtain ⟨n,v,sr,r1,r2,r3,r4,r5,r6⟩:=hl c (acx ..) a b pa' p0 hb (by rw [hva,hsa];exact a2) (by rw [hsa];exact Oc);rw [hsa] at r2 r4 r5 r6;have GI:tk.Nodup:=by rw [Cm];exact tT
    have UI: ∀t∈tk,t<(ajm s):=fun t ht=>by obtain ⟨j,hj,he⟩:=acP ht;obtain ⟨x,c',d1,_,_⟩:=ak7 j t (by rw [AC hj,he]);exact (ut.1 d1).1
    have ak8:(c.sb b).length=(ajm tk):=by rw [r5,VQ]
    have apJ:(ajm tk)<=(ajm sr):=by have:=r4.len;rw [abQ,ak8] at this;rw [VQ] at this;omega
    have Fm: ∀j,j<ajm tk->(sr.take (ajm s0))[j]? =sr[j]?:=fun j hj=>Do (by rw [VQ];exact hj)
    have RD:v9 p0 sr=ajp:=Fz (fun t x hx=>by
     have apK:t<(ajm s0):=by have:=(ut.1 hx).1;rw [b2] at this;exact this
     obtain ⟨x0,Mz⟩: ∃x0,s0[t]? =ajn x0:=⟨s0[t],AC apK⟩;obtain ⟨q,q1,q2⟩:=b3 t x0 Mz;rw [hx] at q1;injection q1 with q1;subst q1;obtain ⟨y0,Qm⟩: ∃y0,(c.sb b)[t]? =ajn y0:=⟨(c.sb b)[t]'(by omega),AC (by omega)⟩;obtain ⟨q',q3,q4⟩:=r4.at_ t y0 Qm;rw [Fm t (by omega)] at q3;refine ⟨q',q3,?_⟩;have GR:=r6 t x0 y0 Mz Qm;cases x0 with
     |arr r l=>cases y0 with
      |arr r' l'=>obtain ⟨rfl,B1⟩:=GR;rw [show x=_ from q2,show q'=_ from q4];cases l<;>cases l'<;>simp_all [lz.bT]
      |_=>exact GR.elim
     |box cs=>cases y0 with
      |box G6=>obtain ⟨_,rfl,_⟩:=q2;obtain ⟨_,rfl,_⟩:=q4;rfl
      |_=>exact GR.elim
     |set l=>cases y0 with
      |set l'=>rw [show x=_ from q2,show q'=_ from q4];rfl
      |_=>exact GR.elim
     |bC p l=>cases y0 with
      |bC p' l'=>rw [show x=_ from q2,show q'=_ from q4];rfl
      |_=>exact GR.elim
     |dead=>cases y0 with
      |dead=>rw [show x=_ from q2,show q'=_ from q4]
      |_=>exact GR.elim)
    let g:=kT tk (ajm s)
    have hg: ∀j t,tk[j]? =ajn t->g j=t:=fun j t hj=>by show kT tk (ajm s) j=t;unfold kT;rw [hj]
    obtain ⟨w1,w2⟩:=HA g tk (c.sb b) ak8;obtain ⟨u1,u2⟩:=Fy g tk sr apJ
    let s2:=B4 tk (ry (zT g tk (c.sb b)) s)
    have rq: ∀(j t:Nat) (x:SB),tk[j]? =ajn t->(c.sb b)[j]? =ajn x->s2[t]? =ajn (Vv tk (Sq g x)):=fun j t x hj hx=>by show (B4 tk _)[t]? =_;rw [sf,wL,CI _ s j t _ (by rw [w1];exact GI) (w2 j t x hj hx) (UI t (acg hj))];rfl
    have ak9: ∀(t:Nat),t∉tk->s2[t]? =(s[t]?).map (Vv tk):=fun t ht=>by show (B4 tk _)[t]? =_;rw [sf,wL,wM _ s t (by rw [w1];exact ht)]
    have zF: ∀t∈tk,∃j,tk[j]? =ajn t:=fun t ht=>by obtain ⟨j,hj,he⟩:=acP ht;exact ⟨j,by rw [AC hj,he]⟩
    have vp:Fr tk s s2:=fun t x hx=>by
     by_cases ht:t∈tk
     · obtain ⟨j,hj⟩:=zF t ht
       have Mb:j<(ajm tk):=(ut.1 hj).1;obtain ⟨x',c',d1,d2,d3⟩:=ak7 j t hj;rw [hx] at d1;injection d1 with d1;subst d1;obtain ⟨y0,Qm⟩: ∃y0,(c.sb b)[j]? =ajn y0:=⟨(c.sb b)[j]'(by omega),AC (by omega)⟩;have GR:=r6 j c' y0 d3 Qm;have hs2:=rq j t y0 hj Qm;cases x with
       |arr r l=>
        injection d2 with d2;subst d2;cases y0 with
        |arr r' l'=>
         obtain ⟨rfl,B1⟩:=GR;refine .inl ⟨l',hs2,B1,fun hb=>?_⟩;exfalso;have:has tk t=ajp:=by unfold has;rw [aj8];exact ⟨t,ht,by simp⟩
         rw [this] at hb;cases hb
        |_=>exact GR.elim
       |dead=>
        injection d2 with d2;subst d2;cases y0 with
        |dead=>exact hs2
        |_=>exact GR.elim
       |box cs=>
        simp only [MK] at d2;split at d2
        · injection d2 with d2;subst d2
          cases y0 with
          |box c2=>exact .inl ⟨_,hs2⟩
          |_=>exact GR.elim
        cases d2
       |_=>trivial
     have:=ak9 t ht
     rw [hx] at this;cases x with
     |arr r l=>exact .inl ⟨l,this,rfl,fun _=>rfl⟩
     |dead=>exact this
     |box c2=>exact .inl ⟨_,this⟩
     |_=>trivial
    have acs:adA g (c.sb b) s2:=fun u x hx=>by
     have OD:u<(ajm tk):=by have:=(ut.1 hx).1;omega
     have hj:tk[u]? =ajn tk[u]:=AC OD;have:=rq u _ x hj hx;rw [hg u _ hj];cases x with
     |arr r l=>exact this
     |dead=>exact this
     |box cs=>exact ⟨_,this⟩
     |_=>trivial
    have apL:(∃n,uE (run F n) f UM ps z=ajn {v:=B9 g v,wr:=o9 g tk sr}):=by
     refine ⟨n,?_⟩;unfold uE UR;rw [<- Cm,lm hz,a1,b1];dsimp only;rw [r1];dsimp only;unfold El;rw [lm RD,hS.len];have:iQ (ajm tk) v sr=ajp:=by rw [<- VQ];exact r2
     rw [lm this]
    refine ⟨{v:=KC g (c.vb b),wr:=zT g tk (c.sb b)},_,apL,?_,h3⟩;have cA:gz.nM s {v:=KC g (c.vb b),wr:=zT g tk (c.sb b)}=s2:=by rw [KO,abH,Bx,w1]
    exact {
     rd:=rfl
     fr:=rfl
     wr:=by rw [Bx,w1];exact u1
     nw:=HB (by rw [u1];exact GI)
     nl:=rfl
     aD:=by
      rw [cA];show cD s2 (gH (o9 g tk sr) ps);rw [Dp];refine ⟨by rw [AD,wF,wL,AD,hS.len],fun t x hx=>?_⟩
      by_cases ht:t∈tk
      · obtain ⟨j,hj⟩:=zF t ht
        have Mb:j<(ajm tk):=(ut.1 hj).1;obtain ⟨y0,Qm⟩: ∃y0,(c.sb b)[j]? =ajn y0:=⟨(c.sb b)[j]'(by omega),AC (by omega)⟩;have hs2:=rq j t y0 hj Qm;rw [hx] at hs2;injection hs2 with hs2;subst hs2;obtain ⟨q',q3,q4⟩:=r4.at_ j y0 Qm;rw [Fm j Mb] at q3;refine ⟨zJ g q',CI _ ps j t _ (by rw [u1];exact GI) (u2 j t q' hj q3) (by rw [hS.len];exact UI t ht),?_⟩;cases y0 with
        |box cs=>obtain ⟨pc,rfl,hpc⟩:=q4;exact ⟨_,rfl,RL.fr (Fr.refl tk s2) (wN acs hpc)⟩
        |arr r l=>rw [show q'=_ from q4];rfl
        |set l=>rw [show q'=_ from q4];rfl
        |bC p l=>rw [show q'=_ from q4];rfl
        |dead=>rw [show q'=_ from q4];rfl
      rw [ak9 t ht,abM] at hx
      obtain ⟨x0,Mz,rfl⟩:=hx;obtain ⟨q,q1,q2⟩:=hS.at_ t x0 Mz;exact ⟨q,by rw [wM _ ps t (by rw [u1];exact ht)];exact q1,q2.fr vp⟩
     v:=by rw [cA];exact OI acs r3
     fra:=by rw [cA,Bx,w1];exact vp}
end
end Go.Vm
/- What the typed machine makes of a function is what the logical machine runs. -/
namespace Go.Vm
section
variable {F : mY}
theorem WO.adB {o:bW} {r:List bW} {st:St} {tr:List Tr} {Q:St->List Tr->Prop} {f:FuncId} {args:List PV}
 (hw:wanted o.guard st.env=ajn ajp) (fR: ∀n,xw F (run F n) st.env st.aD st.fz o.op=gy (run F n) f args st.aD st.fz)
 (h:Ad F f args st.aD st.fz fun v s z=>(If (ajm st.aD) (ajm s)&&st.fz.all (has z))=ajp/\WO F r {st with env:=jm o.dst v st.env,aD:=s,fz:=z} (Sp::tr) Q):
 WO F (o::r) st tr Q:=by
 obtain ⟨n,v,s,z,hr,hc,hk⟩:=h;refine WO.call (.shr v s z) hw ⟨n,?_⟩ rfl hk;rw [fR];simp only [gy,hr];rw [lm hc]
theorem WP.again {live:List (Nat×Option Nat)} {b:jR} {st s1:St} {Q:iF->St->Prop} (h0:norm live st=ajn s1) (h:WP F b s1 (andThen (fun s=>WP F (.loop live b) s Q) Q)):WP F (.loop live b) st Q:=by
 obtain ⟨m,e,s,he,hq⟩:=h;cases e with
 |normal=>
  obtain ⟨k,e',s',B0,Q5⟩:=hq;refine ⟨max m k+1,e',s',?_,Q5⟩;simp only [tB] at B0 ⊢;rw [lU];simp only [step,h0];rw [qw (qx F (Nat.le_max_left m k)) _ _ _ he];dsimp only;split at B0
  · rename_i e1 s1 PU
    rw [qx F (Nat.le_max_right m k) _ _ PU];exact B0
  cases B0
 |exit i=>exact ⟨m+1,.exit i,s,by simp only [tB];rw [lU];simp only [step,h0,he],hq⟩
 |ret=>exact ⟨m+1,.ret,s,by simp only [tB];rw [lU];simp only [step,h0,he],hq⟩
def KP (F : mY) (inl : Vw) : Prop :=
  ∀ (f : FuncId) (args : List SV) (s : List SB) (z : List Nat) (R' : Type) (k : SV -> List SB -> List Nat -> gT R') (ρ : Type) (w : R' -> ρ) (y : ρ) (pa : List PV) (ps : cI) (Q : R' -> PV -> cI -> List Nat -> Prop),
    RL s args pa -> cD s ps -> inl f args s z R' k ρ w = ajn y ->
    (∀ v s' z' p xS xR (w' : R' -> xR) y', R s' v p -> cD s' xS -> k v s' z' xR w' = ajn y' -> ∃ r, y' = w' r /\ Q r p xS z') ->
    ∃ r, y = w r /\ Ad F f pa ps z (fun p xS z' => Q r p xS z')
def OK:SB->SB->Prop
 | .arr r l,b=>(∃l',b= .arr r l'/\ajm l'=ajm l)\/b= .dead
 | .dead,b=>b= .dead
 | .box _,b=>(∃cs,b= .box cs)\/b= .dead
 |_,_=>True
theorem By {R' ρ:Type} {w:R'->ρ} {y:ρ}: ∀{s s':List SB} {k:gT R'},pY s s' k ρ w=ajn y->k ρ w=ajn y/\ajm s<=ajm s'/\
 ∀(t:Nat) (b:SB),s[t]? =ajn b-> ∃b',s'[t]? =ajn b'/\OK b b'
 | [],s',k,h=>⟨by cases s'<;>exact h,Nat.zero_le _,fun t b ht=>by simp at ht⟩
 |x::xs,[],k,h=>by cases h
 |x::xs,y'::ys,k,h=>by
  have step: ∀(_:pY xs ys k ρ w=ajn y) (_:OK x y'),k ρ w=ajn y/\(x::xs).length<=(y'::ys).length/\ ∀(t:Nat) (b:SB),(x::xs)[t]? =ajn b-> ∃b',(y'::ys)[t]? =ajn b'/\OK b b':=by
   intro h hx;obtain ⟨h1,h2,h3⟩:=By h;refine ⟨h1,by simpa using h2,fun t b ht=>?_⟩;cases t with
   |zero=>simp at ht;subst ht;exact ⟨y',rfl,hx⟩
   |succ t=>simpa using h3 t b (by simpa using ht)
  cases x with
  |arr r l=>
   cases y' with
   |arr q m=>obtain ⟨hr,h2⟩:=cO (a:=gu (ajm m==ajm l) (pY xs ys k) aN) h;obtain ⟨hl,h3⟩:=iS h2;have:=vG hr;subst this;exact step h3 (.inl ⟨m,rfl,by simpa using hl⟩)
   |dead=>exact step h (.inr rfl)
   |_=>cases h
  |dead=>
   cases y' with
   |dead=>exact step h rfl
   |_=>cases h
  |box cs=>
   cases y' with
   |box c2=>exact step h (.inl ⟨c2,rfl⟩)
   |dead=>exact step h (.inr rfl)
   |_=>cases h
  |set l=>exact step h trivial
  |bC p l=>exact step h trivial
theorem SZ {n t:Nat} (h:t<n):has (vg n) t=ajp:=by
 induction n with
 |zero=>omega
 |succ n ih=>
  unfold has at ih ⊢;rw [aj8] at*;simp only [vg,ajh,acy];rcases ack t n with h1|h1
  · obtain ⟨x,h2,h3⟩:=ih h1
    exact ⟨x,.inl h2,h3⟩
  have:t=n:=by omega
  subst this;exact ⟨t,.inr rfl,by simp⟩
theorem M3 {s s':List SB} (h: ∀(t:Nat) (b:SB),s[t]? =ajn b-> ∃b',s'[t]? =ajn b'/\OK b b'):Fr (vg (ajm s)) s s':=fun t b hb=>by
 obtain ⟨b',h1,h2⟩:=h t b hb;have dW:=(ut.1 hb).1;cases b with
 |arr r l=>
  rcases h2 with ⟨l',rfl,h3⟩|rfl
  · exact .inl ⟨l',h1,h3,fun hx=>by rw [SZ dW] at hx;cases hx⟩
  exact .inr h1
 |dead=>rw [show b'= .dead from h2] at h1;exact h1
 |box cs=>
  rcases h2 with ⟨c2,rfl⟩|rfl
  · exact .inl ⟨c2,h1⟩
  exact .inr h1
 |_=>trivial
theorem ak' {s:List SB} {ps:cI} {sr:gz} {pr:od} (G:Good s ps sr pr) (hS:cD s ps):(XR.loc pr).tr (ajm ps)=sr.tr (ajm s):=by
 simp only [XR.tr,gz.tr,G.rd,G.fr,hS.len,<- G.wr,G.nl,ajl];have:pr.news.isEmpty=sr.news.isEmpty:=by have:=G.nl;cases h1:pr.news<;>cases h2:sr.news<;>simp_all
 rw [this];rfl
theorem adC {st:pq} {p:St} (h:zg st p) {sr:gz} {pr:od} (G:Good st.aD p.aD sr pr) (d:Option Nat):zg (sr.next d st) ((XR.loc pr).next d p):=by
 have VS: ∀{s:List SB} {e:SE} {pe:Env} {v:SV} {q:PV},eg s e pe->R s v q->eg s (IM d v e) (jm d q pe):=by
  intro s e pe v q he hv;cases d with
  |none=>exact he
  |some t=>exact ⟨q,pe,rfl,hv,he⟩
 have hs:=KO st.aD sr;unfold gz.next
 split
 · rename_i hw
   rw [hw] at hs;simp only [yo,ry,IW] at hs;have qz:=G.aD;have hv:=G.v;have vp:=G.fra;rw [hs] at qz hv vp;rw [hw] at vp;exact ⟨by simp only [mQ];exact VS (eg.ext vp h.env) hv,by simp only [mQ];exact qz,by simp only [XR.next,G.fr,h.fz],h.kn⟩
 have qz:=G.aD
 have hv:=G.v;have vp:=G.fra;rw [hs] at qz hv vp;exact ⟨by simp only [mQ];exact VS (eg.fr vp h.env) hv,by simp only [mQ];exact qz,by simp only [XR.next,G.fr,h.fz],h.kn⟩
theorem ok_eq {s:List SB} {ps:cI} {sr:gz} {pr:od} (G:Good s ps sr pr) {z:List Nat} (h:sr.ok z=ajp):(XR.loc pr).ok z=ajp:=by simp only [XR.ok,G.nw,acJ];unfold gz.ok at h;rw [<- G.wr,ajl] at h;exact h
section
variable {cx : Ctx} {inl : Vw} {R' : Type}
def apN (_F:mY) (k:pq->List Tr->gT R') (Q:R'->St->List Tr->Prop):Prop:=
 ∀st p tr ρ (w:R'->ρ) y,zg st p->k st tr ρ w=ajn y-> ∃r,y=w r/\Q r p tr
theorem wO {o:bW} {l:List bW} {st:pq} {p:St} {tr:List Tr} {k:pq->List Tr->gT R'} {ρ:Type} {w:R'->ρ} {y:ρ} {Q:R'->St->List Tr->Prop}
 (hl: ∀st p tr ρ (w:R'->ρ) y,zg st p->k st tr ρ w=ajn y-> ∃r,y=w r/\WO F l p tr (Q r)) (h:zg st p) {sr:gz} {pr:od} (hw:wanted o.guard p.env=ajn ajp)
 (hx: ∃n,xw F (run F n) p.env p.aD p.fz o.op=ajn (.loc pr)) (G:Good st.aD p.aD sr pr) (hg:Ov o.dst st tr k (.loc sr) ρ w=ajn y): ∃r,y=w r/\WO F (o::l) p tr (Q r):=by
 unfold Ov at hg;dsimp only at hg;obtain ⟨Ac,hg⟩:=cO hg;rw [II] at hg;have hR:=adC h G o.dst;obtain ⟨r,hr,VT⟩:=hl _ _ _ _ _ _ hR hg;refine ⟨r,hr,WO.call (.loc pr) hw hx (by rw [h.fz];exact ok_eq G Ac) ?_⟩;rw [ak' G h.aD];exact VT
theorem KQ (DR:gO F cx) (IX:KP F inl) {o:bW} {l:List bW} {st:pq} {p:St} {tr:List Tr} {k:pq->List Tr->gT R'} {ρ:Type} {w:R'->ρ} {y:ρ} {Q:R'->St->List Tr->Prop}
 (hl: ∀st p tr ρ (w:R'->ρ) y,zg st p->k st tr ρ w=ajn y-> ∃r,y=w r/\WO F l p tr (Q r)) (h:zg st p) (hw:wanted o.guard p.env=ajn ajp)
 (hg:Hn cx inl st.env st.aD st.fz o.op (Ov o.dst st tr k) ρ w=ajn y): ∃r,y=w r/\WO F (o::l) p tr (Q r):=by
 have hS:=h.aD;have hE:=h.env;have shr: ∀(f:FuncId) (M1:List SV) (UM:List PV),RL st.aD M1 UM->(∀n,xw F (run F n) p.env p.aD p.fz o.op=gy (run F n) f UM p.aD p.fz)->
  inl f M1 st.aD st.fz R' (fun v s' z'=>Ov o.dst st tr k (.shr v s' z')) ρ w=ajn y-> ∃r,y=w r/\WO F (o::l) p tr (Q r):=by
  intro f M1 UM hv fR hi;obtain ⟨r,hr,hd⟩:=IX f M1 st.aD st.fz R' _ ρ w y UM p.aD (fun r v s z=>(If (ajm p.aD) (ajm s)&&p.fz.all (has z))=ajp/\WO F l {p with env:=jm o.dst v p.env,aD:=s,fz:=z} (Sp::tr) (Q r)) hv hS hi
   (fun v s' z' pv xS xR w' y' hR hS' hk=>by
    unfold Ov at hk;dsimp only at hk;rw [II] at hk;obtain ⟨hk,dd,Rq⟩:=By hk;obtain ⟨hz,hk⟩:=cO hk;have vp:=M3 Rq;have VS:eg s' (IM o.dst v (dgE (vg (ajm st.aD)) st.env)) (jm o.dst pv p.env):=by
     cases o.dst with
     |none=>exact eg.fr vp hE
     |some t=>exact ⟨pv,p.env,rfl,hR,eg.fr vp hE⟩
    have hR':zg {env:=IM o.dst v (dgE (vg (ajm st.aD)) st.env),aD:=s',fz:=z',kn:=st.kn} {p with env:=jm o.dst pv p.env,aD:=xS,fz:=z'}:=⟨VS,hS',rfl,h.kn⟩;obtain ⟨r,hr,VT⟩:=hl _ _ _ _ _ _ hR' hk;refine ⟨r,hr,?_,VT⟩;rw [h.fz,hz,acJ,hS.len,hS'.len];simpa using dd)
  refine ⟨r,hr,WO.adB hw fR ?_⟩;rw [h.fz];rw [h.fz] at hd;exact hd
 have loc: ∀{k':gz->gT R'},mP st.env st.aD st.fz o.op k' ρ w=ajn y->Cw o.op=ajq->(∀sr,k' sr=Ov o.dst st tr k (.loc sr))-> ∃r,y=w r/\WO F (o::l) p tr (Q r):=by intro k' hv hc hk;obtain ⟨sr,pr,h1,G,h2⟩:=VN hE hS (pe:=p.env) hv;rw [hk] at h2;exact wO hl h hw ⟨0,by rw [IG hc,h.fz,h1];rfl⟩ G h2
 generalize fR:o.op=op at hg;cases op with
 |call m f args=>
  have lO:=zh hE args;simp only [Hn] at hg;cases m with
  |UB=>
   dsimp only at hg;cases hx:sW st.aD (lh st.aD deep) (kv st.env args) with
   |none=>rw [hx] at hg;cases hg
   |some vs=>rw [hx] at hg;obtain ⟨q,h1,h2⟩:=uQ hS (D6 hS deep) lO hx;obtain ⟨sr,pr,⟨n,h3⟩,G,h4⟩:=yu (f:=f) (z:=st.fz) hS h1 h2 (zV hS (Fo hS deep) lO hx) (fun c hc=>DR.con f c hc) hg;exact wO hl h hw ⟨n,by rw [fR,h.fz];simp only [xw,h3];rfl⟩ G h4
  |own=>
   dsimp only at hg;cases hx:sW st.aD (lh st.aD deep) (kv st.env args) with
   |none=>rw [hx] at hg;cases hg
   |some vs=>rw [hx] at hg;obtain ⟨q,h1,h2⟩:=uQ hS (D6 hS deep) lO hx;obtain ⟨sr,pr,⟨n,h3⟩,G,h4⟩:=yu (f:=f) (z:=st.fz) hS h1 h2 (zV hS (Fo hS deep) lO hx) (fun c hc=>DR.con f c hc) hg;exact wO hl h hw ⟨n,by rw [fR,h.fz];simp only [xw,h3];rfl⟩ G h4
  |shr=>exact shr f _ _ lO (fun n=>by rw [fR];rfl) hg
  |fp=>
   dsimp only at hg;cases hx:MH st.aD (lh st.aD deep) (kv st.env args) with
   |false=>rw [hx] at hg;cases hg
   |true=>
    rw [hx] at hg;dsimp only at hg;obtain ⟨hz,hg⟩:=cO hg;cases h1:tU (o6 (rY (xN st.aD deep) (kv st.env args))) (kv st.env args) with
    |none=>rw [h1] at hg;cases hg
    |some vs=>
     cases h2:GV st.aD (o6 (rY (xN st.aD deep) (kv st.env args))) (o6 (rY (xN st.aD deep) (kv st.env args))) with
     |none=>rw [h1,h2] at hg;cases hg
     |some s0=>rw [h1,h2] at hg;obtain ⟨sr,pr,⟨n,h3⟩,G,h4⟩:=OJ (f:=f) (z:=st.fz) hS lO (by rw [SN hS (Fo hS deep) lO hx]) hz h1 h2 (fun c hc=>DR.fpc f c hc) hg;exact wO hl h hw ⟨n,by rw [fR,h.fz];simp only [xw,h3];rfl⟩ G h4
 |xt x args=>
  have lO:=zh hE args;simp only [Hn] at hg;have hx:=dS hE x;generalize bX st.env x=v at hg hx;cases v with
  |fh f a b=>
   dsimp only at hg;obtain ⟨pa,pb,hx,ha,hb⟩:=hx;have apO: ∀{vs:List SV} {q:List PV},RL st.aD vs q->(As vs=ajp->q.any Ek=ajp):=by
    intro vs
    induction vs with
    |nil=>intro q _ h;cases h
    |cons v vs ih=>
     intro q hq hp;obtain ⟨a,as,rfl,h1,h2⟩:=hq.cons_inv;simp only [As,aji] at hp;simp only [ajj,aji];rcases hp with hp|hp
     · left
       cases v with
       |own _ _=>obtain ⟨_,_,rfl,_⟩:=h1;rfl
       |pre _ _ _ _=>obtain ⟨_,rfl,_⟩:=h1;rfl
       |part _ _ _ _ _=>obtain ⟨_,rfl,_⟩:=h1;rfl
       |pa _ _ _ _ _=>obtain ⟨rfl,_⟩:=h1;rfl
       |pb _ _ _=>obtain ⟨_,rfl,_⟩:=h1;rfl
       |bp _ _ _=>rw [show a=_ from h1];rfl
       |mp _=>rw [show a=_ from h1];rfl
       |_=>cases hp
     right;exact ih h2 hp
   cases hp:As (kv st.env args++b) with
   |true=>rw [hp] at hg;have:=apO (lO.append hb) hp;exact shr f _ _ ((ha.append lO).append hb) (fun n=>by rw [fR];simp only [xw,hx,this,if_true]) hg
   |false=>
    rw [hp] at hg;simp only [lc] at hg;cases hxx:sW st.aD (lh st.aD deep) (a++kv st.env args++b) with
    |none=>rw [hxx] at hg;cases hg
    |some vs=>
     rw [hxx] at hg;have hno: ∀{vs u:List SV} {q:List PV},RL st.aD vs q->As vs=ajq->sW st.aD (lh st.aD deep) vs=ajn u->q.any Ek=ajq:=by
      intro vs
      induction vs with
      |nil=>intro u q hq _ _;rw [show q=[] from hq];rfl
      |cons v vs ih=>
       intro u q hq hp hu;obtain ⟨a,as,rfl,h1,h2⟩:=hq.cons_inv;simp only [As,Bool.or_eq_false_iff] at hp;simp only [sW] at hu;split at hu
       · rename_i y1 y2 e1 e2
         simp only [ajj,ih h2 hp.2 e2,Bool.or_false];cases v with
         |agg _|b8 _|bM _ _=>obtain ⟨_,rfl,_⟩:=h1;rfl
         |fh _ _ _=>obtain ⟨_,_,rfl,_⟩:=h1;rfl
         |int _ _|bool _|str _|eo|sl _ _|nil _ _|undef|ke=>rw [show a=_ from h1];rfl
         |iz=>cases e1
         |own _ _|pre _ _ _ _|part _ _ _ _ _|pa _ _ _ _ _|pb _ _ _|bp _ _ _|mp _=>cases hp.1
       cases hu
     have adD: ∃u2,sW st.aD (lh st.aD deep) (kv st.env args++b)=ajn u2:=by
      have: ∀(l:List SV) {m u:List SV},sW st.aD (lh st.aD deep) (l++m)=ajn u-> ∃u2,sW st.aD (lh st.aD deep) m=ajn u2:=by
       intro l
       induction l with
       |nil=>intro m u h;exact ⟨u,h⟩
       |cons x l ih=>
        intro m u h;simp only [adp,sW] at h;split at h
        · rename_i e1 e2;exact ih e2
        cases h
      rw [ab1] at hxx;exact this a hxx
     obtain ⟨u2,hu2⟩:=adD;have apP:=hno (lO.append hb) hp hu2;have rV:=(ha.append lO).append hb;obtain ⟨q,h1,h2⟩:=uQ hS (D6 hS deep) rV hxx;obtain ⟨sr,pr,⟨n,h3⟩,G,h4⟩:=yu (f:=f) (z:=st.fz) hS h1 h2 (zV hS (Fo hS deep) rV hxx) (fun c hc=>DR.con f c hc) hg;exact wO hl h hw ⟨n,by rw [fR,h.fz];simp only [xw,hx,apP,M2,if_false,h3];rfl⟩ G h4
  |_=>cases hg
 |_=>exact loc (k':=fun r=>Ov o.dst st tr k (.loc r)) (by rw [fR];exact hg) (by rw [fR];rfl) (fun _=>rfl)
theorem wP (DR:gO F cx) (IX:KP F inl): ∀(ops:List bW) {st:pq} {p:St} {tr:List Tr} {k:pq->List Tr->gT R'} {ρ:Type} {w:R'->ρ} {y:ρ} {Q:R'->St->List Tr->Prop},
 apN F k Q->zg st p->px cx inl ops st tr k ρ w=ajn y-> ∃r,y=w r/\WO F ops p tr (Q r)
 | [],st,p,tr,k,ρ,w,y,Q,hk,h,he=>by obtain ⟨r,hr,hq⟩:=hk st p tr ρ w y h he;exact ⟨r,hr,WO.nil hq⟩
 |o::l,st,p,tr,k,ρ,w,y,Q,hk,h,he=>by
  have hl: ∀st p tr ρ (w:R'->ρ) y,zg st p->px cx inl l st tr k ρ w=ajn y-> ∃r,y=w r/\WO F l p tr (Q r):=fun st p tr ρ w y h he=>wP DR IX l hk h he
  have wQ: ∀{st:pq} {c:Nat} {v:SV},zg st p->R st.aD v (lk c p.env)->zg {st with env:=Ao c v st.env} p:=fun h hv=>⟨h.env.Ao hv,h.aD,h.fz,h.kn⟩
  have adE: ∀{st:pq},zg st p->wanted o.guard p.env=ajn ajp->(match o.op with
   | .pick (.t c) a b=>match Di c st.env with
    | .bool x=>gu x (Ov o.dst {st with env:=Ao c (.bool ajp) st.env} tr (px cx inl l · · k) (.loc {v:=bX st.env a}))
     (Ov o.dst {st with env:=Ao c (.bool ajq) st.env} tr (px cx inl l · · k) (.loc {v:=bX st.env b}))
    |_=>aN
   |op=>Hn cx inl st.env st.aD st.fz op (Ov o.dst st tr (px cx inl l · · k))) ρ w=ajn y-> ∃r,y=w r/\WO F (o::l) p tr (Q r):=by
   intro st h hw he;have plain:Hn cx inl st.env st.aD st.fz o.op (Ov o.dst st tr (px cx inl l · · k)) ρ w=ajn y-> ∃r,y=w r/\WO F (o::l) p tr (Q r):=fun he=>KQ DR IX hl h hw he
   generalize fR:o.op=op at he;cases op with
   |pick c a b=>
    cases c with
    |c v=>exact plain (by rw [fR];exact he)
    |t c=>
     dsimp only at he;generalize hv:Di c st.env=v at he;cases v with
     |bool x=>
      have hx:lk c p.env= .bool x:=by have:=h.env.lk c;rw [hv] at this;exact this
      rcases fD he with ⟨rfl,he⟩|⟨rfl,he⟩
      · have hR:=wQ h (c:=c) (v:= .bool ajp) hx
        exact wO (o:=o) hl hR hw ⟨0,by rw [fR];simp only [xw,bJ,fU.ev,hx];rfl⟩ (Good.val hR.aD (dS h.env a)) he
      have hR:=wQ h (c:=c) (v:= .bool ajq) hx
      exact wO (o:=o) hl hR hw ⟨0,by rw [fR];simp only [xw,bJ,fU.ev,hx];rfl⟩ (Good.val hR.aD (dS h.env b)) he
     |_=>cases he
   |_=>exact plain (by rw [fR];exact he)
  have S0: ∀{st:pq},zg st p->wanted o.guard p.env=ajn ajq->px cx inl l {st with env:=IM o.dst .ke st.env} (Tr.idle::tr) k ρ w=ajn y-> ∃r,y=w r/\WO F (o::l) p tr (Q r):=by
   intro st h hw he;have hR:zg {st with env:=IM o.dst .ke st.env} {p with env:=jm o.dst .ke p.env}:=by
    refine ⟨?_,h.aD,h.fz,h.kn⟩;cases o.dst with
    |none=>exact h.env
    |some t=>exact ⟨.ke,p.env,rfl,rfl,h.env⟩
   obtain ⟨r,hr,VT⟩:=hl _ _ _ _ _ _ hR he;exact ⟨r,hr,WO.skip hw VT⟩
  simp only [px] at he;cases L4:o.guard with
  |none=>rw [L4] at he;exact adE h (by rw [L4];rfl) he
  |some g=>
   obtain ⟨c,want⟩:=g;rw [L4] at he;dsimp only at he;generalize hv:Di c st.env=v at he;cases v with
   |bool x=>
    have hx:lk c p.env= .bool x:=by have:=h.env.lk c;rw [hv] at this;exact this
    have hwx: ∀b,x=b->wanted o.guard p.env=ajn (b==want):=fun b hb=>by rw [L4];simp only [wanted,hx,hb]
    cases want with
    |true=>
     simp only [kw] at he;rcases fD he with ⟨rfl,he⟩|⟨rfl,he⟩
     · exact adE (wQ h (v:= .bool ajp) hx) (hwx ajp rfl) he
     exact S0 (wQ h (v:= .bool ajq) hx) (hwx ajq rfl) he
    |false=>
     simp only [lc] at he;rcases fD he with ⟨rfl,he⟩|⟨rfl,he⟩
     · exact S0 (wQ h (v:= .bool ajp) hx) (hwx ajp rfl) he
     exact adE (wQ h (v:= .bool ajq) hx) (hwx ajq rfl) he
   |ke=>
    have hx:lk c p.env= .ke:=by have:=h.env.lk c;rw [hv] at this;exact this
    exact S0 h (by rw [L4];simp only [wanted,hx]) he
   |_=>cases he
theorem FA {e:SE}: ∀{gG:List Nat} {k:SE->gT R'} {ρ:Type} {w:R'->ρ} {y:ρ},KD e gG k ρ w=ajn y->k (gG.map fun s=>(s,Di s e)) ρ w=ajn y
 | [],k,ρ,w,y,h=>h
 |s::r,k,ρ,w,y,h=>by simp only [KD] at h;rw [II] at h;have:=FA h;exact this
theorem S1 {s:List SB} {e:SE} {pe:Env} (h:eg s e pe): ∀(gG:List Nat),eg s (gG.map fun t=>(t,Di t e)) (gG.map fun t=>(t,lk t pe))
 | []=>rfl
 |t::r=>⟨_,_,rfl,h.lk t,S1 h r⟩
end
mutual
theorem HC: ∀(v:SV) (q:List xQ),tF v (Cz v++q)=(v,q)
 | .iz,q| .undef,q| .ke,q| .eo,q| .int _ _,q| .bool _,q| .str _,q| .sl _ _,q| .nil _ _,q| .own _ _,q| .pre _ _ _ _,q| .part _ _ _ _ _,q| .pa _ _ _ _ _,q| .pb _ _ _,q| .bp _ _ _,q| .mp _,q=>rfl
 | .agg cs,q=>by simp only [tF,Cz,sJ]
 | .b8 cs,q=>by simp only [tF,Cz,sJ]
 | .bM cs o,q=>by simp only [tF,Cz,sJ]
 | .fh f a b,q=>by simp only [tF,Cz,ab1,sJ]
theorem sJ: ∀(v:List SV) (q:List xQ),sd v (CA v++q)=(v,q)
 | [],q=>rfl
 |x::xs,q=>by simp only [sd,CA,ab1,HC,sJ]
end
theorem HD: ∀(v:List SB) (q:List xQ),Ar v (IL v++q)=(v,q)
 | [],q=>rfl
 |x::xs,q=>by
  have: ∀q,MM x (Sk x++q)=(x,q):=by intro q;cases x<;>first|rfl|simp only [MM,Sk,sJ]
  simp only [Ar,IL,ab1,this,HD]
theorem HE: ∀(v:SE) (q:List xQ),Kz v (Qb v++q)=(v,q)
 | [],q=>rfl
 |(t,x)::xs,q=>by simp only [Kz,Qb,ab1,HC,HE]
theorem M4 (st:pq):vH st (ox st)=st:=by have hs:=HD st.aD [];rw [abH] at hs;simp only [vH,ox,HE,hs]
theorem acu {β:Type 1}: ∀(l:List PT) (c:List PT->β),rK l c=c l
 | [],_=>rfl
 |p::r,c=>by cases p<;>simp only [rK,ptK,acu r]
theorem M5 {β:Type 1}: ∀(l:List AK) (c:List AK->β),Vu l c=c l
 | [],_=>rfl
 |a::r,c=>by cases a<;>simp only [Vu,acu,M5 r]
theorem acv {s:List SB} {o:SE}: ∀{e:SE} {pe:Env},eg s e pe->eg s (jnE o e) pe
 | [],_,h=>h
 |(t,v)::r,_,⟨p,q,h1,h2,h3⟩=>⟨p,q,h1,by cases Di t o<;>first|exact h2|trivial,acv h3⟩
theorem Qn {cx:Ctx} {inl:Vw} (DR:gO F cx) (IX:KP F inl): ∀(c:jR) (R':Type) {st:pq} {p:St} {k:iF->pq->gT R'} {ρ:Type} {w:R'->ρ} {y:ρ} {Q:R'->iF->St->Prop},
 (∀e st p ρ (w:R'->ρ) y,zg st p->k e st ρ w=ajn y-> ∃r,y=w r/\Q r e p)->zg st p->yp cx inl c R' st k ρ w=ajn y-> ∃r,y=w r/\WP F c p (Q r):=by
 intro c
 induction c with
 |skip=>intro R' st p k ρ w y Q hk h he;obtain ⟨r,hr,hq⟩:=hk _ _ _ _ _ _ h he;exact ⟨r,hr,WP.skip hq⟩
 |ret=>intro R' st p k ρ w y Q hk h he;obtain ⟨r,hr,hq⟩:=hk _ _ _ _ _ _ h he;exact ⟨r,hr,WP.ret hq⟩
 |exit id=>intro R' st p k ρ w y Q hk h he;obtain ⟨r,hr,hq⟩:=hk _ _ _ _ _ _ h he;exact ⟨r,hr,WP.exit hq⟩
 |region d ops gG=>
  intro R' st p k ρ w y Q hk h he;simp only [yp] at he;have fin: ∀st p ρ (w:R'->ρ) y,zg st p->KD st.env gG (fun e=>k .normal {st with env:=e}) ρ w=ajn y-> ∃r,y=w r/\Q r .normal (qy gG p):=by intro st p ρ w y h he;have:=FA he;have hR:zg {st with env:=gG.map fun t=>(t,Di t st.env)} (qy gG p):=⟨S1 h.env gG,h.aD,h.fz,h.kn⟩;exact hk _ _ _ _ _ _ hR this
  cases d with
  |none=>obtain ⟨r,hr,VT⟩:=wP DR IX ops (Q:=fun r s _=>Q r .normal (qy gG s)) (fun st p tr ρ w y h he=>fin st p ρ w y h he) h he;exact ⟨r,hr,WP.region VT⟩
  |some bf=>
   obtain ⟨r,hr,VT⟩:=wP DR IX ops (Q:=fun r s t=>rT 0 (t.reverse.zip bf)=ajp/\Q r .normal (qy gG s)) (fun st p tr ρ w y h he=>by
    dsimp only at he;cases ho:rT 0 (tr.reverse.zip bf) with
    |false=>rw [ho] at he;cases he
    |true=>rw [ho] at he;obtain ⟨r,hr,hq⟩:=fin st p ρ w y h he;exact ⟨r,hr,ho,hq⟩) h he
   exact ⟨r,hr,WP.UT VT⟩
 |seq a b iha US=>
  intro R' st p k ρ w y Q hk h he;simp only [yp] at he;cases hj:cx.jn&&jnC a with
  |false=>
   rw [hj] at he;obtain ⟨r,hr,IY⟩:=iha R' (Q:=fun r=>andThen (fun s=>WP F b s (Q r)) (Q r)) (fun e st p ρ w y h he=>by
    cases e with
    |normal=>exact US R' hk h he
    |exit i=>exact hk _ _ _ _ _ _ h he
    |ret=>exact hk _ _ _ _ _ _ h he) h he
   exact ⟨r,hr,WP.seq IY⟩
  |true=>
   rw [hj] at he;dsimp only at he;rw [M5] at he;generalize Sl (ox (Qc st.env (jnK a) st))=ks at he;generalize Qc st.env (jnK a) st=s1 at he;cases hp:lZ ks (ox s1) with
   |none=>rw [hp] at he;cases he
   |some y0=>
    rw [hp] at he;dsimp only at he;obtain ⟨n,FB⟩:=Ku he;clear he;have body: ∀zr,yp cx inl a (Step (Bool×iG ks) ρ) st (fun e v5=>match e with
     | .normal=>bif Aq s1 {v5 with env:=jnE st.env v5.env} then (match lZ ks (ox {v5 with env:=jnE st.env v5.env}) with
      |some y'=>Dj (.next (ajq,y'))
      |none=>aN) else aN
     |e=>fun xR w'=>k e v5 xR fun r=>w' (.done (w r))) (Step (Bool×iG ks) ρ) (fun z=>z)=ajn zr->
     WP F a p (fun e s=>match zr with
      | .next y'=>e= .normal/\y'.1=ajq/\zg (vH s1 (lQ ks y'.2)) s
      | .done x=>e≠ .normal/\ ∃r,x=w r/\Q r e s):=by
     intro zr lX;obtain ⟨zr',LZ,IY⟩:=iha (Step (Bool×iG ks) ρ) (Q:=fun zr e s=>match zr with
      | .next y'=>e= .normal/\y'.1=ajq/\zg (vH s1 (lQ ks y'.2)) s
      | .done x=>e≠ .normal/\ ∃r,x=w r/\Q r e s) (fun e v5 p2 xR w' y2 h2 xP=>by
      cases e with
      |normal=>
       dsimp only at xP;obtain ⟨uN,xP⟩:=cO xP;cases VU:lZ ks (ox {v5 with env:=jnE st.env v5.env}) with
       |none=>rw [VU] at xP;cases xP
       |some y3=>rw [VU] at xP;injection xP with xP;refine ⟨.next (ajq,y3),xP.symm,rfl,rfl,?_⟩;dsimp only;rw [pA VU,Hy uN];exact ⟨acv h2.env,h2.aD,h2.fz,h2.kn⟩
      |exit i=>obtain ⟨r,hr,hq⟩:=hk _ _ _ _ _ _ h2 xP;exact ⟨.done (w r),hr,(by intro e;cases e),r,rfl,hq⟩
      |ret=>obtain ⟨r,hr,hq⟩:=hk _ _ _ _ _ _ h2 xP;exact ⟨.done (w r),hr,(by intro e;cases e),r,rfl,hq⟩) h lX
     subst LZ;exact IY
    cases n with
    |zero=>cases FB
    |succ n=>
     simp only [ou,gu,kw] at FB;split at FB
     · rename_i y' lX
       obtain ⟨m,e,s,cf,rfl,hy,hR3⟩:=body _ lX;obtain ⟨y1,y2⟩:=y';dsimp only at hy hR3;subst hy;cases n with
       |zero=>cases FB
       |succ n=>
        simp only [ou,gu,lc] at FB;split at FB
        · rename_i y' RN
          obtain ⟨r,hr,_⟩:=US R' hk hR3 RN;cases hr
        · rename_i x RN
          obtain ⟨r,hr,IY⟩:=US R' hk hR3 RN;injection FB with FB;injection hr with hr;exact ⟨r,by rw [<- FB];exact hr,WP.seq ⟨m,.normal,s,cf,IY⟩⟩
        cases FB
     · rename_i x lX
       injection FB with FB;obtain ⟨m,e,s,cf,dK,r,hr,hq⟩:=body _ lX;refine ⟨r,by rw [<- FB];exact hr,WP.seq ⟨m,e,s,cf,?_⟩⟩;cases e with
       |normal=>exact absurd rfl dK
       |exit i=>exact hq
       |ret=>exact hq
     cases FB
 |cond c a b iha US=>
  intro R' st p k ρ w y Q hk h he;simp only [yp] at he;have hx:=dS h.env c;generalize bX st.env c=v at he hx;cases v with
  |bool x=>
   rcases fD he with ⟨rfl,he⟩|⟨rfl,he⟩
   · obtain ⟨r,hr,IY⟩:=iha R' hk h he
     exact ⟨r,hr,WP.abN hx IY⟩
   obtain ⟨r,hr,IY⟩:=US R' hk h he
   exact ⟨r,hr,WP.abO hx IY⟩
  |_=>cases he
 |block id b ih=>
  intro R' st p k ρ w y Q hk h he;simp only [yp] at he;obtain ⟨r,hr,IY⟩:=ih R' (Q:=fun r=>inBlock id (Q r)) (fun e st p ρ w y h he=>by
   cases e with
   |normal=>exact hk _ _ _ _ _ _ h he
   |ret=>exact hk _ _ _ _ _ _ h he
   |exit j=>
    dsimp only at he;cases hj:IR j id with
    |true=>rw [hj] at he;obtain ⟨r,hr,hq⟩:=hk _ _ _ _ _ _ h he;have Va:=lw hj;exact ⟨r,hr,by simpa [inBlock,Va] using hq⟩
    |false=>
     rw [hj] at he;obtain ⟨r,hr,hq⟩:=hk _ _ _ _ _ _ h he;have:j≠id:=by intro e;subst e;simp at hj
     exact ⟨r,hr,by simpa [inBlock,this] using hq⟩) h he
  exact ⟨r,hr,WP.block IY⟩
 |loop live b ih=>
  intro R' st p k ρ w y Q hk h he;simp only [yp] at he;cases hn:E9 cx.rk live st with
  |none=>rw [hn] at he;cases he
  |some oh=>
   rw [hn] at he;dsimp only at he;rw [M5] at he;generalize Sl (ox oh)=ks at he;cases hp:lZ ks (ox oh) with
   |none=>rw [hp] at he;cases he
   |some y0=>
    rw [hp] at he;dsimp only at he;obtain ⟨p1,Rk,hR1⟩:=OG h hn;have alb: ∀(MO:pq) (y':iG ks),Aq oh MO=ajp->lZ ks (ox MO)=ajn y'->vH oh (lQ ks y')=MO:=fun MO y' h1 h2=>by rw [pA h2,Hy h1]
    obtain ⟨n,FB⟩:=Ku he;have h0:zg (vH oh (lQ ks y0)) p1:=by rw [pA hp,M4];exact hR1
    clear he hp hn h hR1
    induction n generalizing y0 p p1 with
    |zero=>cases FB
    |succ n ihn=>
     have body: ∀zr,yp cx inl b (Step (iG ks) ρ) (vH oh (lQ ks y0)) (fun e v5=>match e with
      | .normal=>match E9 cx.rk live v5 with
       |some MO=>bif Aq oh MO then (match lZ ks (ox MO) with
        |some y'=>Dj (.next y')
        |none=>aN) else aN
       |none=>aN
      |e=>fun xR w'=>k e v5 xR fun r=>w' (.done (w r))) (Step (iG ks) ρ) (fun z=>z)=ajn zr->
      WP F b p1 (fun e s=>match zr with
       | .next y'=>e= .normal/\ ∃p3,norm live s=ajn p3/\zg (vH oh (lQ ks y')) p3
       | .done x=>e≠ .normal/\ ∃r,x=w r/\Q r e s):=by
      intro zr lX;obtain ⟨zr',LZ,IY⟩:=ih (Step (iG ks) ρ) (Q:=fun zr e s=>match zr with
       | .next y'=>e= .normal/\ ∃p3,norm live s=ajn p3/\zg (vH oh (lQ ks y')) p3
       | .done x=>e≠ .normal/\ ∃r,x=w r/\Q r e s) (fun e v5 p2 xR w' y2 h2 xP=>by
       cases e with
       |normal=>
        dsimp only at xP;cases hn3:E9 cx.rk live v5 with
        |none=>rw [hn3] at xP;cases xP
        |some MO=>
         rw [hn3] at xP;obtain ⟨uN,xP⟩:=cO xP;cases VU:lZ ks (ox MO) with
         |none=>rw [VU] at xP;cases xP
         |some y3=>rw [VU] at xP;injection xP with xP;obtain ⟨p3,apR,hR3⟩:=OG h2 hn3;exact ⟨.next y3,xP.symm,rfl,p3,apR,by rw [alb MO y3 uN VU];exact hR3⟩
       |exit i=>obtain ⟨r,hr,hq⟩:=hk _ _ _ _ _ _ h2 xP;exact ⟨.done (w r),hr,(by intro e;cases e),r,rfl,hq⟩
       |ret=>obtain ⟨r,hr,hq⟩:=hk _ _ _ _ _ _ h2 xP;exact ⟨.done (w r),hr,(by intro e;cases e),r,rfl,hq⟩) h0 lX
      subst LZ;exact IY
     simp only [ou] at FB;split at FB
     · rename_i y' lX
       obtain ⟨m,e,s,cf,rfl,p3,VU,hR3⟩:=body _ lX;obtain ⟨r,hr,IY⟩:=ihn y' p3 VU FB hR3;exact ⟨r,hr,WP.again Rk ⟨m,.normal,s,cf,IY⟩⟩
     · rename_i x lX
       injection FB with FB;obtain ⟨m,e,s,cf,dK,r,hr,hq⟩:=body _ lX;refine ⟨r,by rw [<- FB];exact hr,WP.again Rk ⟨m,e,s,cf,?_⟩⟩;cases e with
       |normal=>exact absurd rfl dK
       |exit i=>exact hq
       |ret=>exact hq
     cases FB
end
end Go.Vm
/- Contracts from the typed machine. -/
namespace Go.Vm
section
variable {F : mY} {cx : Ctx} {inl : Vw}
theorem KR {s:List SB}: ∀{l:List SV} {q:List PV} (i:Nat),RL s l q->eg s (MQ i l) (vn i q)
 | [],q,i,h=>by rw [show q=[] from h];rfl
 |x::xs,q,i,h=>by obtain ⟨a,as,rfl,h1,h2⟩:=h.cons_inv;exact ⟨a,vn (i+1) as,rfl,h1,KR (i+1) h2⟩
theorem S2 {st:pq} {p:St} (h:zg st p) {r:RV} {v:SV} (hr:MP st r=ajn v): ∃q,Em p r=ajn q/\R st.aD v q:=by
 cases r with
 |tmp t=>injection hr with hr;subst hr;exact ⟨_,rfl,h.env.lk t⟩
 |cell t agg=>
  simp only [MP] at hr;have uN:=h.env.lk t;split at hr
  · rename_i u n off hv
    rw [hv] at uN;rw [cp] at hr;split at hr
    · rename_i cs cA
      obtain ⟨q,h1,h2⟩:=h.aD.box cA;obtain ⟨x,h3,h4⟩:=tX h2 hr;refine ⟨x,?_,h4⟩;simp only [Em,show lk t p.env=_ from uN,o5,h1,abL,if_true,h3];rfl
    cases hr
  · rename_i cs off hv
    rw [hv] at uN;obtain ⟨q,h1,h2⟩:=uN;obtain ⟨x,h3,h4⟩:=tX h2 hr;refine ⟨x,?_,h4⟩;simp only [Em,h1,o5,h3];rfl
  cases hr
theorem HF {st:pq} {p:St} (h:zg st p): ∀{l:List RV} {vs:List SV},zf st l=ajn vs-> ∃q,og p l=ajn q/\RL st.aD vs q
 | [],vs,hr=>by injection hr with hr;subst hr;exact ⟨[],rfl,rfl⟩
 |r::l,vs,hr=>by
  simp only [zf] at hr;split at hr
  · rename_i v LY h1 h2
    injection hr with hr;subst hr;obtain ⟨q,h3,h4⟩:=S2 h h1;obtain ⟨qs,h5,h6⟩:=HF h h2;exact ⟨q::qs,by simp only [og,h3,h5],RL.cons h4 h6⟩
  cases hr
theorem KS {s:List SB} {vs:List SV} {q:List PV} (h:RL s vs q):R s (CB vs) (results1 q):=by
 match vs,q,h with
 | [],q,h=>rw [show q=[] from h];exact ⟨[],rfl,rfl⟩
 | [v],q,h=>obtain ⟨a,as,rfl,h1,h2⟩:=h.cons_inv;rw [show as=[] from h2];exact h1
 |v::u::r,q,h=>have rV:=h;obtain ⟨a,as,rfl,h1,h2⟩:=h.cons_inv;obtain ⟨b,bs,rfl,h3,h4⟩:=h2.cons_inv;exact ⟨_,rfl,rV⟩
theorem yv (DR:gO F cx) (IX:KP F inl) {f:FuncId} {x:aG} (hf:F f=ajn (.code x)) {R':Type} {args:List SV} {s:List SB} {z:List Nat} {k:SV->List SB->List Nat->gT R'} {ρ:Type} {w:R'->ρ} {y:ρ} {pa:List PV} {ps:cI}
 {Q:R'->PV->cI->List Nat->Prop} (ha:RL s args pa) (hS:cD s ps) (he:KE cx inl x R' args s z k ρ w=ajn y)
 (hk: ∀v s' z' p xS xR (w':R'->xR) y',R s' v p->cD s' xS->k v s' z' xR w'=ajn y'-> ∃r,y'=w' r/\Q r p xS z'): ∃r,y=w r/\Ad F f pa ps z (fun p xS z'=>Q r p xS z'):=by
 unfold KE at he;obtain ⟨hn,he⟩:=cO he;have fin: ∀st p xR (w':R'->xR) y',zg st p->(match zf st x.res with
  |some vs=>k (CB vs) st.aD st.fz
  |none=>aN) xR w'=ajn y'-> ∃r,y'=w' r/\ ∃vs,og p x.res=ajn vs/\Q r (results1 vs) p.aD p.fz:=by
  intro st p xR w' y' h he;cases hr:zf st x.res with
  |none=>rw [hr] at he;cases he
  |some vs=>rw [hr] at he;obtain ⟨q,h1,h2⟩:=HF h hr;obtain ⟨r,h3,h4⟩:=hk _ _ _ _ _ _ _ _ (KS h2) h.aD he;exact ⟨r,h3,q,h1,by rw [h.fz];exact h4⟩
 obtain ⟨r,hr,IY⟩:=Qn DR IX x.code R' (Q:=fun r=>Ii x fun p xS z'=>Q r p xS z') (p:={env:=vn 0 pa,aD:=ps,fz:=z,kn:=ajm ps}) (fun e st p xR w' y' h he=>by
  cases e with
  |normal=>exact fin st p xR w' y' h he
  |ret=>exact fin st p xR w' y' h he
  |exit i=>cases he) ⟨KR 0 ha,hS,rfl,hS.len⟩ he
 exact ⟨r,hr,Ad.of hf (by rw [ha.nm];exact hn) IY⟩
theorem IZ {α:Type} {l m r:List α} {i:Int} (h:zd l i m=ajn r):0<=i/\i.toNat<=ajm l/\ajm m=1/\ajm l+1<=1048576/\r=l.take i.toNat++m++l.drop i.toNat:=by
 unfold zd at h;split at h
 · rename_i hc
   injection h with h;exact ⟨hc.1,hc.2.1,hc.2.2.1,hc.2.2.2,h.symm⟩
 cases h
theorem Qo {e:Nat} {args:List SV} {s:List SB} {z:List Nat} {a:akU} (h:Vx e args s z=ajn a):
 ∃x u x2 m,args=[.own a.t x,.int .i64 a.i,.own u x2]/\nth s a.t=ajn (.arr a.r a.l)/\nth s u=ajn (.arr a.r m)/\a.m=m/\ajm a.r=e/\IR a.t u=ajq/\has z a.t=ajq:=by
 unfold Vx at h;split at h
 case h_2=>cases h
 split at h
 case h_2=>cases h
 split at h
 case h_2=>cases h
 split at h
 case h_2=>cases h
 rename_i m' hm;cases hc:(IR _ e&&_&&_) with
 |false=>rw [hc] at h;cases h
 |true=>rw [hc] at h;injection h with h;subst h;simp only [rc,acV,aa4] at hc;obtain ⟨rfl,rfl⟩:=py hm;exact ⟨_,_,_,_,rfl,by assumption,by assumption,rfl,hc.1.1,hc.1.2,hc.2⟩
theorem M6 {e:Nat} {f:FuncId} (hf:F f=ajn (.LV (Ih e))) {R':Type} {args:List SV} {s:List SB} {z:List Nat} {k:SV->List SB->List Nat->gT R'} {ρ:Type} {w:R'->ρ} {y:ρ} {pa:List PV} {ps:cI}
 {Q:R'->PV->cI->List Nat->Prop} (ha:RL s args pa) (hS:cD s ps) (he:adq e args s z k ρ w=ajn y)
 (hk: ∀v s' z' p xS xR (w':R'->xR) y',R s' v p->cD s' xS->k v s' z' xR w'=ajn y'-> ∃r,y'=w' r/\Q r p xS z'): ∃r,y=w r/\Ad F f pa ps z (fun p xS z'=>Q r p xS z'):=by
 unfold adq at he;cases hA:Vx e args s z with
 |none=>rw [hA] at he;cases he
 |some a=>
 rw [hA] at he;dsimp only at he;obtain ⟨l',hl,he⟩:=cN he;obtain ⟨x,u,x2,m0,rfl,ht,hu,hm,UD,htu,hz⟩:=Qo hA;obtain ⟨t,q,l,i,m⟩:=a;dsimp only at*;subst hm UD;obtain ⟨i0,il,m1,mB,rfl⟩:=IZ hl;obtain ⟨p0,pr0,rfl,h0,ha⟩:=ha;obtain ⟨p1,pr1,rfl,h1,ha⟩:=ha;obtain ⟨p2,pr2,rfl,h2,ha⟩:=ha;obtain rfl:pr2=[]:=ha;obtain rfl:p1= .int .i64 i:=h1;have Of:s[t]? =ajn (.arr q l):=by rw [<- cp];exact ht
 have B3:s[u]? =ajn (.arr q m):=by rw [<- cp];exact hu
 obtain ⟨e0,n0,rfl,o0⟩:=h0;obtain ⟨e2,n2,rfl,o2⟩:=h2;obtain ⟨rfl,rfl⟩:e0=ajm q/\n0=(ajm l):=by
  rcases o0 with ⟨r1,l1,a,b,c⟩|a
  · rw [Of] at a;injection a with a;injection a with a1 a2;subst a1;subst a2;exact ⟨b,c⟩
  rw [Of] at a;cases a
 obtain ⟨rfl,rfl⟩:e2=ajm q/\n2=(ajm m):=by
  rcases o2 with ⟨r1,l1,a,b,c⟩|a
  · rw [B3] at a;injection a with a;injection a with a1 a2;subst a1;subst a2;exact ⟨b,c⟩
  rw [B3] at a;cases a
 obtain ⟨b1,J3,I0⟩:=hS.at_ t _ Of;obtain ⟨b2,RN,adG⟩:=hS.at_ u _ B3;have I0:b1= .arr (ajm q) (l.map (RT.pv q)):=I0;have adG:b2= .arr (ajm q) (m.map (RT.pv q)):=adG;subst I0 adG;have dd:(B4 [t] (s.set t .dead)).length=(ajm s):=by rw [wF];simp
 obtain ⟨L,hL⟩: ∃L,L=l.take i.toNat++m++l.drop i.toNat:=⟨_,rfl⟩;rw [<- hL] at he;have G:=Good.put hS (b:= .dead) (q:= .dead) (l:=[.arr q L]) (ql:=[.arr (ajm q) (L.map (RT.pv q))]) (v:= .own (ajm s) ajq)
  (p:= .own (ajm s) (ajm q) 0 (ajm L) (ajm L) ajq) (rd:=[]) Of (.inr rfl) rfl rfl
  (fun j b hj=>by
   cases j with
   |zero=>simp at hj;subst hj;exact ⟨_,rfl,rfl⟩
   |succ j=>simp at hj)
  ⟨ajm q,ajm L,rfl,.inl ⟨q,L,by rw [<- dd];exact mU,rfl,rfl⟩⟩
 have B1:(ajm L)=ajm l+1:=by rw [hL];simp only [acX,abQ,aj9,m1];omega
 obtain ⟨rr,hr,hq⟩:=hk _ _ _ _ _ _ _ _ G.v G.aD he;refine ⟨rr,hr,1,_,_,_,?_,hq⟩;rw [lU];have oq:If (ajm l+1) mC=ajp:=by simp [mC];omega
 have hbl:If i.toNat (ajm l)=ajp:=by simpa using il
 have hLm:L.map (RT.pv q)=(l.map (RT.pv q)).take i.toNat++m.map (RT.pv q)++(l.map (RT.pv q)).drop i.toNat:=by rw [hL,abX,abX,abR,acr]
 simp [step,hf,Ih,J3,RN,m1,htu,hz,i0,oq,il,B1,hS.len,gH,JM,hLm]
theorem Qp {α:Type} {l m r:List α} (h:adj l m=ajn r):1<=ajm l+ajm m/\ajm l+ajm m<=1048576/\r=l++m:=by
 unfold adj at h;split at h
 · rename_i hc
   injection h with h;exact ⟨hc.1,hc.2,h.symm⟩
 cases h
theorem Qq {args:List SV} {s:List SB} {z:List Nat} {a:akV} (h:Vy args s z=ajn a):
 ∃cap x m,args=[.part a.t 0 2 cap x]/\nth s a.t=ajn (.box [.sl a.r a.l,.sl a.r m])/\a.m=m/\ajm a.r=1/\has z a.t=ajq:=by
 unfold Vy at h;split at h
 case h_2=>cases h
 split at h
 case h_2=>cases h
 split at h
 case h_2=>cases h
 rename_i m' hm;cases hc:(IR _ 1&&IR _ 0&&IR _ 2&&_) with
 |false=>rw [hc] at h;cases h
 |true=>rw [hc] at h;injection h with h;subst h;simp only [rc,acV,aa4] at hc;obtain ⟨rfl,rfl⟩:=py hm;obtain ⟨⟨⟨h1,rfl⟩,rfl⟩,h2⟩:=hc;exact ⟨_,_,_,rfl,by assumption,rfl,h1,h2⟩
theorem HG {r:List PT} (h:(ajm r)=1) (l:List (RT r)):B' (l.map (RT.pv r))=ajp:=by
 unfold B';rw [abT];intro x hx;obtain ⟨a,_,rfl⟩:=aj3.1 hx
 match r,h with
 | [p],_=>show (IR [p.pv a].length 1&&[p.pv a].all PV.plain)=ajp;cases p<;>rfl
theorem M7 {f:FuncId} (hf:F f=ajn (.LV acL)) {R':Type} {args:List SV} {s:List SB} {z:List Nat} {k:SV->List SB->List Nat->gT R'} {ρ:Type} {w:R'->ρ} {y:ρ} {pa:List PV} {ps:cI}
 {Q:R'->PV->cI->List Nat->Prop} (ha:RL s args pa) (hS:cD s ps) (he:adr args s z k ρ w=ajn y)
 (hk: ∀v s' z' p xS xR (w':R'->xR) y',R s' v p->cD s' xS->k v s' z' xR w'=ajn y'-> ∃r,y'=w' r/\Q r p xS z'): ∃r,y=w r/\Ad F f pa ps z (fun p xS z'=>Q r p xS z'):=by
 unfold adr at he;cases hA:Vy args s z with
 |none=>rw [hA] at he;cases he
 |some a=>
 rw [hA] at he;dsimp only at he;obtain ⟨l',hl,he⟩:=cN he;obtain ⟨cap,x,m0,rfl,ht,hm,UD,hz⟩:=Qq hA;obtain ⟨t,q,l,m⟩:=a;dsimp only at*;subst hm;obtain ⟨hp,mB,rfl⟩:=Qp hl;obtain ⟨p0,pr0,rfl,h0,ha⟩:=ha;obtain rfl:pr0=[]:=ha;have Of:s[t]? =ajn (.box [.sl q l,.sl q m]):=by rw [<- cp];exact ht
 obtain ⟨e0,rfl,o0⟩:=h0;obtain rfl:e0=1:=by
  rcases o0 with ⟨r1,l1,a,b⟩|a|⟨_,a,b⟩
  · rw [Of] at a;cases a
  · rw [Of] at a;cases a
  exact b
 obtain ⟨b1,J3,I0⟩:=hS.at_ t _ Of;obtain ⟨ps1,rfl,p1,q1,rfl,Rk,p2,q2,rfl,hp2,rfl⟩:=I0;have Rk:p1= .sl (ajm q) ajq (l.map (RT.pv q)):=Rk;have hp2:p2= .sl (ajm q) ajq (m.map (RT.pv q)):=hp2;subst Rk hp2;have dd:(B4 [t] (s.set t .dead)).length=(ajm s):=by rw [wF];simp
 obtain ⟨L,hL⟩: ∃L,L=l++m:=⟨_,rfl⟩;rw [<- hL] at he;have G:=Good.put hS (b:= .dead) (q:= .dead) (l:=[.arr q L]) (ql:=[.arr (ajm q) (L.map (RT.pv q))]) (v:= .own (ajm s) ajq)
  (p:= .own (ajm s) (ajm q) 0 (ajm L) (ajm L) ajq) (rd:=[]) Of (.inr rfl) rfl rfl
  (fun j b hj=>by
   cases j with
   |zero=>simp at hj;subst hj;exact ⟨_,rfl,rfl⟩
   |succ j=>simp at hj)
  ⟨ajm q,ajm L,rfl,.inl ⟨q,L,by rw [<- dd];exact mU,rfl,rfl⟩⟩
 have B1:(ajm L)=ajm l+(ajm m):=by rw [hL];simp
 obtain ⟨rr,hr,hq⟩:=hk _ _ _ _ _ _ _ _ G.v G.aD he;refine ⟨rr,hr,1,_,_,_,?_,hq⟩;rw [lU];have oq:If (ajm l+ajm m) mC=ajp:=by simp [mC];omega
 have U0:If 1 (ajm l+ajm m)=ajp:=by simpa using hp
 have hLm:L.map (RT.pv q)=l.map (RT.pv q)++m.map (RT.pv q):=by rw [hL,abX]
 have hc:(IR 1 1&&IR 0 0&&IR 2 2&&!has z t&&B' (l.map (RT.pv q))&&B' (m.map (RT.pv q))&&If 1 ((l.map (RT.pv q)).length+(m.map (RT.pv q)).length)&&If ((l.map (RT.pv q)).length+(m.map (RT.pv q)).length) mC&&(IR (ajm q) 1||(l.map (RT.pv q)).isEmpty)&&(IR (ajm q) 1||(m.map (RT.pv q)).isEmpty))=ajp:=by rw [HG UD,HG UD,hz,abI,abI,U0,oq,UD];rfl
 simp only [step,hf];unfold acL
 dsimp only;rw [J3];dsimp only;rw [hc];simp [hS.len,gH,JM,hLm,B1,UD]
theorem KT: ∀(p:PT) (a:p.T),KA p (p.pv a)=ajn a
 | .i k,a=>by have:gn k k=ajp:=fX.2 rfl;simp [KA,PT.pv,this]
 | .b,a=>rfl
theorem OL: ∀(r:List PT) (a:RT r),Sm r (RT.pv r a)=ajn a
 | [],a=>rfl
 | [p],a=>KT p a
 |p::q::r,a=>by
  show (match KA p (p.pv a.1),Sm (q::r) (RT.pv (q::r) a.2) with
   |some a,ajn b=>ajn (a,b)
   |_,_=>ajo)=_
  rw [KT,OL (q::r)]
theorem KU (r:List PT): ∀l:List (RT r),KB r (l.map (RT.pv r))=ajn l
 | []=>rfl
 |a::l=>by
  show (match Sm r (RT.pv r a),KB r (l.map (RT.pv r)) with
   |some a,ajn l=>ajn (a::l)
   |_,_=>ajo)=_
  rw [OL,KU r l]
theorem VV {s:List SB} {g:Option FuncId} {a:List SV} {p:List PV} (h:Dl g a=ajp) (hr:RL s a p):akS g p=ajp:=by
 unfold Dl at h;split at h
 · obtain rfl:p=[]:=hr
   rfl
 · obtain ⟨p0,pr,rfl,h0,hr⟩:=hr
   obtain rfl:pr=[]:=hr;obtain ⟨x,y,rfl,hx,hy⟩:=h0;obtain rfl:x=[]:=hx;obtain rfl:y=[]:=hy;exact h
 cases h
theorem Qr {r:List PT} {g:Option FuncId} {args:List SV} {s:List SB} {z:List Nat} {t:Nat} {o:Option Nat} {l:List (RT r)} (h:Vz r g args s z=ajn (t,o,l)):
 ∃x a,args=x::a/\nth s t=ajn (.arr r l)/\has z t=ajq/\Dl g a=ajp/\((o=ajo/\ ∃ex,x= .own t ex)\/ ∃len cap ex,o=ajn len/\x= .pre t len cap ex):=by
 unfold Vz at h;split at h
 · split at h
   · split at h
     · rename_i hm
       cases hc:(!has z _&&Dl g _) with
       |false=>rw [hc] at h;cases h
       |true=>rw [hc] at h;simp only [kw,ww,UV] at h;obtain ⟨rfl,rfl,rfl⟩:=h;simp only [rc,aa4] at hc;obtain ⟨rfl,rfl⟩:=py hm;exact ⟨_,_,rfl,by assumption,hc.1,hc.2,.inl ⟨rfl,_,rfl⟩⟩
     cases h
   cases h
 · split at h
   · split at h
     · rename_i hm
       cases hc:(!has z _&&Dl g _) with
       |false=>rw [hc] at h;cases h
       |true=>rw [hc] at h;simp only [kw,ww,UV] at h;obtain ⟨rfl,rfl,rfl⟩:=h;simp only [rc,aa4] at hc;obtain ⟨rfl,rfl⟩:=py hm;exact ⟨_,_,rfl,by assumption,hc.1,hc.2,.inr ⟨_,_,_,rfl,rfl⟩⟩
     cases h
   cases h
 cases h
theorem M8 {α:Type} {f:List α->Option (List α)} {l m:List α} (h:E1 f l=ajn m):(ajm l)<=1048576/\f l=ajn m/\ajm m=(ajm l):=by
 unfold E1 at h;split at h
 · rename_i hl
   split at h
   · rename_i m' hm
     split at h
     · rename_i he
       injection h with h;subst h;exact ⟨hl,hm,he⟩
     cases h
   cases h
 cases h
theorem I1 {α:Type} {f:List α->Option (List α)} {n:Nat} {l m:List α} (h:IH f n l=ajn m):n<=ajm l/\ ∃m',E1 f (l.take n)=ajn m'/\m=m'++l.drop n:=by
 unfold IH at h;split at h
 · rename_i hn
   cases hm:E1 f (l.take n) with
   |none=>rw [hm] at h;cases h
   |some m'=>rw [hm] at h;injection h with h;exact ⟨hn,m',rfl,h.symm⟩
 cases h
theorem M9 {q:Srt} {f:FuncId} (hf:F f=ajn (.LV (adm q))) {R':Type} {args:List SV} {s:List SB} {z:List Nat} {k:SV->List SB->List Nat->gT R'} {ρ:Type} {w:R'->ρ} {y:ρ} {pa:List PV} {ps:cI}
 {Q:R'->PV->cI->List Nat->Prop} (ha:RL s args pa) (hS:cD s ps) (he:ads q args s z k ρ w=ajn y)
 (hk: ∀v s' z' p xS xR (w':R'->xR) y',R s' v p->cD s' xS->k v s' z' xR w'=ajn y'-> ∃r,y'=w' r/\Q r p xS z'): ∃r,y=w r/\Ad F f pa ps z (fun p xS z'=>Q r p xS z'):=by
 have key: ∀(t len:Nat) (l m':List (RT q.r)) (ex:Bool) (cap:Nat) (pr:List PV) (a:List SV),s[t]? =ajn (.arr q.r l)->has z t=ajq->Dl q.g a=ajp->RL s a pr->pa= .own t (ajm q.r) 0 len cap ex::pr->len<=ajm l->E1 q.fn (l.take len)=ajn m'->
  k (.b8 []) (gz.nM s {v:= .b8 [],wr:=[(t,.arr q.r (m'++l.drop len))]}) z ρ w=ajn y-> ∃r,y=w r/\Ad F f pa ps z (fun p xS z'=>Q r p xS z'):=by
  intro t len l m' ex cap pr a ht hz hg har RC dd DN he;subst RC;obtain ⟨s1,s2,s3⟩:=M8 DN;obtain ⟨b1,J3,I0⟩:=hS.at_ t _ ht;have I0:b1= .arr (ajm q.r) (l.map (RT.pv q.r)):=I0;subst I0;have B1:(l.take len).length=len:=by rw [abQ];omega
  have UE:(m'++l.drop len).length=(ajm l):=by rw [acX,aj9,s3,B1];omega
  have G:=Good.put hS (b:= .arr q.r (m'++l.drop len)) (q:= .arr (ajm q.r) ((m'++l.drop len).map (RT.pv q.r))) (l:=[]) (ql:=[]) (v:= .b8 []) (p:= .b8 []) (rd:=[]) ht (.inl ⟨_,rfl,UE⟩) rfl rfl
   (fun j b hj=>by simp at hj) ⟨[],rfl,rfl⟩
  obtain ⟨rr,hr,hq⟩:=hk _ _ _ _ _ _ _ _ G.v G.aD he;refine ⟨rr,hr,1,_,_,_,?_,hq⟩;rw [lU];have hg':=VV hg har;have hrt:KB q.r ((l.map (RT.pv q.r)).take len)=ajn (l.take len):=by rw [<- abR];exact KU q.r _
  have hbl:If len (ajm l)=ajp:=by simpa using dd
  have hmo:If len mC=ajp:=by simp [mC];omega
  have hbe:IR (ajm m') (l.take len).length=ajp:=by rw [s3];exact abL _
  simp only [step,hf,adm,J3,abI,abL,hbl,hmo,hz,hg',hrt,s2,hbe,ac9,acJ,if_true,Option.map_some,gH,JM,abX,acr]
 unfold ads at he;cases hA:Vz q.r q.g args s z with
 |none=>rw [hA] at he;cases he
 |some u=>
  obtain ⟨t,o,l⟩:=u;rw [hA] at he;obtain ⟨x,a,rfl,ht,hz,hg,h⟩:=Qr hA;obtain ⟨p0,pr,rfl,h0,ha⟩:=ha;rw [cp] at ht;rcases h with ⟨rfl,ex,rfl⟩|⟨len,cap,ex,rfl,rfl⟩
  · obtain ⟨m,hm,he⟩:=cN he
    obtain ⟨e0,n0,rfl,o0⟩:=h0;obtain ⟨rfl,rfl⟩:e0=ajm q.r/\n0=(ajm l):=by
     rcases o0 with ⟨r1,l1,a,b,c⟩|a
     · rw [ht] at a;injection a with a;injection a with a1 a2;subst a1;cases a2;exact ⟨b,c⟩
     rw [ht] at a;cases a
    refine key t (ajm l) l m ex (ajm l) pr a ht hz hg ha rfl (ai1 _) (by rw [List.take_length];exact hm) ?_;rw [List.drop_length,abH];exact he
  obtain ⟨m,hm,he⟩:=cN he
  obtain ⟨e0,rfl,o0⟩:=h0;obtain rfl:e0=(ajm q.r):=by
   rcases o0 with ⟨r1,l1,a,b⟩|a|⟨_,a,_⟩
   · rw [ht] at a;injection a with a;injection a with a1 a2;subst a1;exact b
   · rw [ht] at a;cases a
   rw [ht] at a;cases a
  obtain ⟨hn,m',DN,rfl⟩:=I1 hm;exact key t len l m' ex cap pr a ht hz hg ha rfl hn DN he
theorem I2 (DR:gO F cx): ∀n,KP F (Sr cx n)
 |0=>fun f args s z R' k ρ w y pa ps Q _ _ h _=>by cases h
 |n+1=>fun f args s z R' k ρ w y pa ps Q ha hS h hk=>by
  simp only [Sr] at h;cases hx:cx.code f with
  |none=>rw [hx] at h;cases h
  |some x=>
   rw [hx] at h;cases x with
   |code x=>exact yv DR (I2 DR n) (DR.code f _ hx) ha hS h hk
   |ins e=>exact M6 (DR.code f _ hx) ha hS h hk
   |srt q=>exact M9 (DR.code f _ hx) ha hS h hk
   |cat=>exact M7 (DR.code f _ hx) ha hS h hk
def VW:Kd->Bool->Bool
 | .own,b=>b
 |_,b=>!b
def S3 (kd:Kd) {β:Type} (res:Arg β) (b:β) (p:PV) (ps:cI) (z:List Nat):Prop:=
 match kd with
 | .pure=>p.la=ajp/\sX (res.enc b)=ajn p
 | .l9=>p.la=ajq/\ ∃q,yY ps p=ajn q/\sX (res.enc b)=ajn q
 | .own=> ∀nx,∃p0 p' q seen,zI ps z nx [] p=ajn (p',q,seen)/\sX (res.enc b)=ajn p0/\Ft nx p0=ajn (p',q)
mutual
theorem KV {s:List SB}: ∀{v:SV} {p:PV},R s v p->Ap v=ajp->sX v=ajn p
 | .int _ _,p,h,_| .bool _,p,h,_| .str _,p,h,_=>by rw [show p=_ from h];rfl
 | .agg cs,p,h,hn=>by obtain ⟨q,rfl,h⟩:=h;simp only [sX,FC h hn]
 | .b8 cs,p,h,hn=>by obtain ⟨q,rfl,h⟩:=h;simp only [sX,FC h hn]
 | .iz,_,_,h| .undef,_,_,h| .ke,_,_,h| .eo,_,_,h| .sl _ _,_,_,h| .nil _ _,_,_,h| .own _ _,_,_,h| .pre _ _ _ _,_,_,h| .part _ _ _ _ _,_,_,h| .pa _ _ _ _ _,_,_,h| .pb _ _ _,_,_,h| .bp _ _ _,_,_,h| .bM _ _,_,_,h| .fh _ _ _,_,_,h| .mp _,_,_,h=>by cases h
theorem FC {s:List SB}: ∀{v:List SV} {p:List PV},RL s v p->rZ v=ajp->qE v=ajn p
 | [],p,h,_=>by rw [show p=_ from h];rfl
 |x::xs,p,h,hn=>by obtain ⟨a,as,rfl,h1,h2⟩:=h.cons_inv;simp only [rZ,rc] at hn;exact eZ.2 ⟨_,_,rfl,KV h1 hn.1,FC h2 hn.2⟩
end
theorem M' {kd:Kd} {β:Type} {res:Arg β} {v:SV} {s:List SB} {z:List Nat} {p:PV} {ps:cI} {ρ:Type} {w:β->ρ} {y:ρ} (hv:R s v p) (hS:cD s ps) (h:Ss kd res v s z ρ w=ajn y):
 ∃b,y=w b/\S3 kd res b p ps z:=by
 unfold Ss at h;cases kd with
 |pure=>dsimp only at h;obtain ⟨h1,h2⟩:=cO h;obtain ⟨b,h3,h4⟩:=bP h2;injection h4 with h4;exact ⟨b,h4.symm,KN hv h1,res.law h3 (KV hv h1)⟩
 |l9=>dsimp only at h;obtain ⟨h1,h2⟩:=sI h;obtain ⟨u,h3,h4⟩:=bP h2;obtain ⟨b,h5,h6⟩:=bP h4;injection h6 with h6;obtain ⟨q,h7,h8⟩:=acp hS hv h3;exact ⟨b,h6.symm,Hz hv h1 h3,q,h7,res.law h5 h8⟩
 |own=>dsimp only at h;obtain ⟨u,h3,h4⟩:=bP h;obtain ⟨b,h5,h6⟩:=bP h4;injection h6 with h6;refine ⟨b,h6.symm,fun nx=>?_⟩;obtain ⟨p0,p',q,h7,h8,h9⟩:=SW hS (v':=u.1) (seen':=u.2) nx hv h3;exact ⟨p0,p',q,u.2,h9,res.law h5 h7,h8⟩
theorem cD.nil:cD [] []:=⟨rfl,fun t b h=>by simp at h⟩
theorem dU.of {f:FuncId} {x:aG} {α β:Type} {args:ax α} {res:Arg β} {kd:Kd} {fn:α->Option β} {ow:Bool} (hf:F f=ajn (.code x)) (ho:VW kd ow=ajp) (DR:gO F cx)
 (h: ∀a,aci cx x args res kd a=fn a):dU F f ⟨args,res,fn,kd,ow⟩:=by
 intro a b as pa aD fz hb RC hex;have hb:fn a=ajn b:=hb;rw [<- h a] at hb;obtain ⟨r,hr,n,v,s,z,cf,hl⟩:=yv DR (I2 DR 8) hf (Q:=fun r p ps z=>S3 kd res r p ps z) (Fw RC) cD.nil hb (fun v s' z' p xS xR w' y' hv hS hk=>M' hv hS hk);have UL:b=r:=hr;subst UL;cases kd with
 |pure=>
  obtain ⟨h1,h2⟩:=hl;have how:ow=ajq:=by simpa [VW] using ho
  subst how;refine ⟨n,{v:=v,rd:=dF (df aD deep) as},?_,v,h2,rfl⟩;simp only [dz,hex,hf,cf,M2,if_false,h1,if_true]
 |l9=>
  obtain ⟨h1,q,h2,h3⟩:=hl;have how:ow=ajq:=by simpa [VW] using ho
  subst how;refine ⟨n,{v:=q,rd:=dF (df aD deep) as,fr:=dF (df aD deep) as},?_,q,h3,rfl⟩;simp only [dz,hex,hf,cf,M2,if_false,h1,h2]
 |own=>have how:ow=ajp:=ho;subst how;obtain ⟨p0,p',q,seen,h1,h2,h3⟩:=hl (ajm aD);refine ⟨n,{v:=p',news:=q,rd:=dF (df aD deep) as},?_,p0,p',q,h2,h3,rfl⟩;simp only [dz,hex,hf,cf,if_true,h1]
theorem KW: ∀(s:List SB) (q:List xQ),(Ar s q).1.length=ajm s
 | [],q=>rfl
 |b::r,q=>by simp only [Ar,ab0,KW r]
mutual
theorem R.take {s:List SB} {k:Nat}: ∀{v:SV} {p:PV},R s v p->(∀t∈MI tz v,t<k)->R (s.take k) v p
 | .iz,_,_,_=>trivial
 | .undef,_,h,_| .ke,_,h,_| .eo,_,h,_| .int _ _,_,h,_| .bool _,_,h,_| .str _,_,h,_| .sl _ _,_,h,_| .nil _ _,_,h,_| .bp _ _ _,_,h,_| .mp _,_,h,_=>h
 | .agg cs,_,h,ht=>by obtain ⟨q,rfl,h⟩:=h;exact ⟨q,rfl,RL.FD h ht⟩
 | .b8 cs,_,h,ht=>by obtain ⟨q,rfl,h⟩:=h;exact ⟨q,rfl,RL.FD h ht⟩
 | .bM cs o,_,h,ht=>by obtain ⟨q,rfl,h⟩:=h;exact ⟨q,rfl,RL.FD h ht⟩
 | .fh f a b,_,h,ht=>by obtain ⟨pa,pb,rfl,h1,h2⟩:=h;exact ⟨pa,pb,rfl,RL.FD h1 (fun t h=>ht t (acO _ h)),RL.FD h2 (fun t h=>ht t (acH _ h))⟩
 | .own t ex,_,h,ht=>by
  obtain ⟨e,n,rfl,dt⟩:=h;have hk:=ht t (acy.2 rfl);refine ⟨e,n,rfl,?_⟩;rcases dt with ⟨r,l,h1,h2,h3⟩|h1
  · exact .inl ⟨r,l,by rw [Do hk];exact h1,h2,h3⟩
  exact .inr (by rw [Do hk];exact h1)
 | .pre t a b c,_,h,ht=>by
  obtain ⟨e,rfl,dt⟩:=h;have hk:=ht t (acy.2 rfl);refine ⟨e,rfl,?_⟩;rcases dt with ⟨r,l,h1,h2⟩|h1
  · exact .inl ⟨r,l,by rw [Do hk];exact h1,h2⟩
  exact .inr (by rw [Do hk];exact h1)
 | .part t o a b c,_,h,ht=>by
  obtain ⟨e,rfl,dt⟩:=h;have hk:=ht t (acy.2 rfl);refine ⟨e,rfl,?_⟩;rcases dt with ⟨r,l,h1,h2⟩|h1
  · exact .inl ⟨r,l,by rw [Do hk];exact h1,h2⟩
  exact .inr (by rw [Do hk];exact h1)
 | .pa t r i a o,_,h,ht=>by
  obtain ⟨rfl,dt⟩:=h;have hk:=ht t (acx ..);refine ⟨rfl,?_⟩;rcases dt with ⟨l,h1,h2⟩|h1
  · exact .inl ⟨l,by rw [Do hk];exact h1,h2⟩
  exact .inr (by rw [Do hk];exact h1)
 | .pb t i o,_,h,ht=>by
  obtain ⟨e,rfl,dt⟩:=h;have hk:=ht t (acx ..);refine ⟨e,rfl,?_⟩;rcases dt with ⟨r,l,h1,h2⟩|h1
  · exact .inl ⟨r,l,by rw [Do hk];exact h1,h2⟩
  exact .inr (by rw [Do hk];exact h1)
theorem RL.FD {s:List SB} {k:Nat}: ∀{v:List SV} {p:List PV},RL s v p->(∀t∈rY tz v,t<k)->RL (s.take k) v p
 | [],_,h,_=>h
 |x::xs,_,h,ht=>by obtain ⟨a,as,rfl,h1,h2⟩:=h.cons_inv;exact RL.cons (R.take h1 (fun t h=>ht t (acO _ h))) (RL.FD h2 (fun t h=>ht t (acH _ h)))
end
theorem FE {R' ρ:Type} {w:R'->ρ} {y:ρ}: ∀{s s':List SB} {k:gT R'},Bm s s' k ρ w=ajn y->k ρ w=ajn y/\ajm s'=ajm s/\ ∀(t:Nat) (x z:SB),s[t]? =ajn x->s'[t]? =ajn z->SY x z
 | [],[],k,h=>⟨h,rfl,fun t x z h=>by simp at h⟩
 | [],_::_,k,h=>by cases h
 |_::_,[],k,h=>by cases h
 |x::xs,y'::ys,k,h=>by
  have step: ∀(_:Bm xs ys k ρ w=ajn y) (_:SY x y'),k ρ w=ajn y/\(y'::ys).length=(x::xs).length/\ ∀(t:Nat) (a b:SB),(x::xs)[t]? =ajn a->(y'::ys)[t]? =ajn b->SY a b:=by
   intro h hx;obtain ⟨h1,h2,h3⟩:=FE h;refine ⟨h1,by simpa using h2,fun t a b ha hb=>?_⟩;cases t with
   |zero=>simp at ha hb;subst ha hb;exact hx
   |succ t=>exact h3 t a b (by simpa using ha) (by simpa using hb)
  cases x with
  |arr r l=>
   cases y' with
   |arr q m=>obtain ⟨hr,h2⟩:=cO (a:=gu (ajm m==ajm l) (Bm xs ys k) aN) h;obtain ⟨hl,h3⟩:=iS h2;exact step h3 ⟨vG hr,by simpa using hl⟩
   |_=>cases h
  |dead=>cases y' with
   |dead=>exact step h trivial
   |_=>cases h
  |box cs=>cases y' with
   |box _=>exact step h trivial
   |_=>cases h
  |set l=>cases y' with
   |set _=>exact step h trivial
   |_=>cases h
  |bC p l=>cases y' with
   |bC _ _=>exact step h trivial
   |_=>cases h
theorem FF: ∀{s:List SB},Fa s=ajp-> ∀(t:Nat) (b:SB),s[t]? =ajn b->ze b=ajp
 | [],_,t,b,h=>by simp at h
 |x::xs,hs,0,b,h=>by simp only [Fa,rc] at hs;simp at h;subst h;exact hs.1
 |x::xs,hs,t+1,b,h=>by simp only [Fa,rc] at hs;exact FF hs.2 t b (by simpa using h)
theorem iM.of {f:FuncId} {x:aG} {wd:Bool} {ka ko:List AK} {ta:List SV} {tb to:List SB} {tv:SV} {fn:iG ka->Option (iG ko)} (hf:F f=ajn (.code x)) (DR:gO F cx)
 (h: ∀a,apz wd cx x ka ta tb ko tv to a=fn a):iM F f ⟨ka,ta,tb,ko,tv,to,fn⟩:=by
 intro a b pa ps hb ha hS;rw [show (⟨ka,ta,tb,ko,tv,to,fn⟩:dG).fn a=fn a from rfl,<- h a] at hb;have dd:(dG.sa ⟨ka,ta,tb,ko,tv,to,fn⟩ a).length=(ajm tb):=KW _ _;obtain ⟨r,hr,n,v,s,z,cf,hz,hq⟩:=yv DR (I2 DR 8) hf (Q:=fun (r:iG ko) p xS z'=>z'=[]/\iQ (ajm tb) p xS=ajp/\
  R (dG.sb ⟨ka,ta,tb,ko,tv,to,fn⟩ r) (dG.vb ⟨ka,ta,tb,ko,tv,to,fn⟩ r) p/\cD (dG.sb ⟨ka,ta,tb,ko,tv,to,fn⟩ r) (xS.take (ajm tb))/\
  (dG.sb ⟨ka,ta,tb,ko,tv,to,fn⟩ r).length=(dG.sa ⟨ka,ta,tb,ko,tv,to,fn⟩ a).length/\
  ∀(t:Nat) (x y:SB),(dG.sa ⟨ka,ta,tb,ko,tv,to,fn⟩ a)[t]? =ajn x->(dG.sb ⟨ka,ta,tb,ko,tv,to,fn⟩ r)[t]? =ajn y->SY x y) ha hS hb (fun v s' z' p xS xR w' y' hv hS' hk=>by
  cases z' with
  |cons _ _=>cases hk
  |nil=>
   dsimp only at hk;obtain ⟨hc,hk⟩:=cO hk;simp only [rc] at hc;obtain ⟨⟨⟨⟨c1,c2⟩,c3⟩,c4⟩,c5⟩:=hc;obtain ⟨hk,f1,f2⟩:=FE hk;obtain ⟨r,hr,hk⟩:=bP hk;injection hk with hk;have hu:R s' (bif wd then Hm s' v else v) p:=by
    cases wd with
    |true=>exact OE hv
    |false=>exact hv
   generalize (bif wd then Hm s' v else v)=u at c1 c3 c4 hr hu;have EF:=pA hr;have hvb:dG.vb ⟨ka,ta,tb,ko,tv,to,fn⟩ r=u:=by show (tF tv (lQ ko r)).1=u;rw [EF,D7 _ c1]
   have hsb:dG.sb ⟨ka,ta,tb,ko,tv,to,fn⟩ r=s'.take (ajm tb):=by show (Ar to (tF tv (lQ ko r)).2).1=_;rw [EF,D7 _ c1];have:=Bw [] c2;rw [abH] at this;rw [this]
   have mB:(ajm tb)<=(ajm s'):=by
    have:=f1;rw [abQ] at this;have h2:(dG.sa ⟨ka,ta,tb,ko,tv,to,fn⟩ a).length=(ajm tb):=dd;have h3:min (ajm tb) (ajm s')=(ajm tb):=by rw [this];exact h2
    omega
   unfold ach at c3;rw [abT] at c3;have hkv: ∀t∈MI tz u,t<(ajm tb):=fun t ht=>by simpa using c3 t (acO _ ht)
   have hkb: ∀b∈s'.take (ajm tb),∀t∈E4 b,t<(ajm tb):=fun b hb t ht=>by simpa using c3 t (acH _ (ajf.2 ⟨b,hb,ht⟩))
   have qz:cD (s'.take (ajm tb)) (xS.take (ajm tb)):=⟨by simp [hS'.len],fun t x hx=>by
    have dW:t<(ajm tb):=by have:=(ut.1 hx).1;rw [abQ] at this;omega
    have hx':=hx;rw [Do dW] at hx';obtain ⟨q,q1,q2⟩:=hS'.at_ t x hx';refine ⟨q,by rw [Do dW];exact q1,?_⟩;cases x with
    |box cs=>obtain ⟨pc,rfl,hpc⟩:=q2;exact ⟨pc,rfl,RL.FD hpc (hkb _ (acg hx))⟩
    |_=>exact q2⟩
   refine ⟨r,hk.symm,rfl,?_,by rw [hvb,hsb];exact R.take hu hkv,by rw [hsb];exact qz,by rw [hsb];exact f1,by rw [hsb];exact f2⟩;unfold iQ;rw [abT];intro t ht;rw [ajh] at ht;rcases ht with ht|ht
   · rw [<- SM (bx:=tz) (fun _=>rfl) hu c4] at ht
     simpa using hkv t ht
   rw [ajf] at ht
   obtain ⟨q,hq,ht⟩:=ht;obtain ⟨j,hj,he⟩:=acP hq;have Mb:j<(s'.take (ajm tb)).length:=by rw [<- qz.len];exact hj
   obtain ⟨x,hx⟩: ∃x,(s'.take (ajm tb))[j]? =ajn x:=⟨_,AC Mb⟩;obtain ⟨q',q1,q2⟩:=qz.at_ j x hx;rw [AC hj,he] at q1;injection q1 with q1;subst q1;rw [<- IS q2 (FF c5 j x hx)] at ht;simpa using hkb x (acg hx) t ht)
 have UL:b=r:=hr;subst UL;subst hz;refine ⟨n,v,s,cf,?_⟩;rw [dd];obtain ⟨h1,h2,h3,h4,h5⟩:=hq;exact ⟨h1,h2,h3,by rw [h4,dd],h5⟩
theorem Na {f:FuncId} {r:List PT} (hf:F f=ajn (.kS ajq (fV (ajm r)))) (l:List (RT r)) (hl:(ajm l)<=1048576) {as:List PV} {aD:cI} {fz:List Nat} (hex:B8 aD (xT aD deep) as=ajn [.sl (ajm r) ajq (l.map (RT.pv r))]):
 ∃n x,dz F (run F n) ajq f as aD fz=ajn x/\acq .own (ajm aD) (dF (df aD deep) as) (.sl r l) x:=by
 refine ⟨0,{v:= .own (ajm aD) (ajm r) 0 (ajm l) (ajm l) ajq,news:=[.arr (ajm r) (l.map (RT.pv r))],rd:=dF (df aD deep) as},?_,.sl (ajm r) ajq (l.map (RT.pv r)),.own (ajm aD) (ajm r) 0 (ajm l) (ajm l) ajq,[.arr (ajm r) (l.map (RT.pv r))],rfl,by simp only [Ft,abI],rfl⟩;simp only [dz,hex,hf];cases l with
 |nil=>rfl
 |cons a l=>
  have h2:If ((l.map (RT.pv r)).length+1) mC=ajp:=by simp [mC] at hl ⊢;omega
  simp only [abJ,fV,abL,h2,abK,if_true,zI];simp [has]
theorem dU.clone {f:FuncId} {n:Nat} {r:List PT} (hf:F f=ajn (.kS ajq (fV n))) (hn:n=ajm r):dU F f (sY.clone r):=by
 intro (a:List (RT r)) (b:List (RT r)) as pa aD fz hb RC hex;subst hn;have hb:bN a=ajn b:=hb;obtain ⟨rfl,hl⟩:=Ax hb;have adH:pa=[.sl (ajm r) ajq (b.map (RT.pv r))]:=by have:ajn [PV.sl (ajm r) ajq (b.map (RT.pv r))]=ajn pa:=RC;exact (abZ this).symm
 subst adH;exact Na hf b hl hex
theorem dU.Ox {f:FuncId} (hf:F f=ajn (.kS ajq Ab)):dU F f sY.Ox:=by
 intro a b as pa aD fz hb RC hex;obtain ⟨x,y,c⟩:=a;have AW:pz x y c=ajn b:=hb;unfold pz at AW;cases hc:(ajr (0<=x)&&ajr (0<=y)&&ajr (0<=c)&&ajr (c<=1)) with
 |false=>rw [hc] at AW;cases AW
 |true=>
  rw [hc] at AW;injection AW with AW;subst AW;simp only [rc,decide_eq_true_eq] at hc;obtain ⟨⟨⟨h1,h2⟩,h3⟩,h4⟩:=hc;obtain ⟨x,rfl⟩:=PP h1;obtain ⟨y,rfl⟩:=PP h2;obtain ⟨c,rfl⟩:=PP h3;have adH:pa=[.int .u64 (.ofNat x),.int .u64 (.ofNat y),.int .u64 (.ofNat c)]:=by have:ajn [PV.int .u64 (x:Int),.int .u64 (y:Int),.int .u64 (c:Int)]=ajn pa:=RC;exact (abZ this).symm
  subst adH;have hcb:If c 1=ajp:=by simp;omega
  refine ⟨0,{v:= .b8 [.int .u64 (.ofNat ((x+y+c)%18446744073709551616)),.int .u64 (.ofNat ((x+y+c) / 18446744073709551616))],rd:=dF (df aD deep) as},?_,_,rfl,rfl⟩;show dz F (run F 0) ajq f as aD fz=_;simp only [dz,hex,hf,Ab,hcb,if_true];rfl
theorem iM.zero {f:FuncId} {c:dG} (h: ∀a,c.fn a=ajo):iM F f c:=fun a b pa ps hb=>by rw [h a] at hb;cases hb
theorem dU.zero {f:FuncId} {c:sY} (h: ∀a,c.fn a=ajo):dU F f c:=fun a b as pa aD fz hb=>by rw [h a] at hb;cases hb
theorem dU.at0 {f:FuncId} {fn:Unit->Option Bool} (h:dU F f ⟨ax.nil,Arg.bool,fn,.pure,ajq⟩) (hb:fn ()=ajn ajp):dU F f ⟨ax.nil,Arg.bool,fun _=>ajn ajp,.pure,ajq⟩:=by intro a b as args aD fz hr hp hx;obtain rfl:ajp=b:=abZ hr;exact h () ajp as args aD fz hb hp hx
end
end Go.Vm
/- What comes in to a law, as typed values; a law from a contract. -/
namespace Go.Vm
open Go.ChangeShapes Go.WideShapes Go.ChangeAt Go.RowKit
def PT.wf:(p:PT)->p.T->Prop
 | .i k,n=>(Lit.int k n).wf=ajp
 | .b,_=>True
def RT.wf:(r:List PT)->RT r->Prop
 | [],_=>True
 | [p],a=>p.wf a
 |p::q::r,a=>p.wf a.1/\RT.wf (q::r) a.2
def ij (r:List PT) (vs:List SV):Prop:= ∃a:RT r,vs=RT.sv r a/\RT.wf r a
def L5 (r:List PT) (vs:List SV):Prop:= ∃l:List (RT r),vs=[.sl r l]/\ ∀a∈l,RT.wf r a
def VX:List (List SV->Prop)->List SV->Prop
 | [],vs=>vs=[]
 |K::Ks,vs=> ∃a b,vs=a++b/\K a/\VX Ks b
theorem ij.cons {p:PT}: ∀{r:List PT} {a b:List SV},ij [p] a->ij r b->ij (p::r) (a++b)
 | [],a,b,⟨x,hx,wx⟩,⟨y,hy,_⟩=>⟨x,by rw [hx,hy];rfl,wx⟩
 |q::r,a,b,⟨x,hx,wx⟩,⟨y,hy,wy⟩=>⟨(x,y),by rw [hx,hy];rfl,wx,wy⟩
theorem ij.split {p q:PT} {r:List PT} {vs:List SV}:ij (p::q::r) vs-> ∃a b,vs=a++b/\ij [p] a/\ij (q::r) b
 |⟨x,hx,wx⟩=>⟨[p.sv x.1],RT.sv (q::r) x.2,hx,⟨x.1,rfl,wx.1⟩,⟨x.2,rfl,wx.2⟩⟩
theorem ij.app: ∀{r s:List PT} {a b:List SV},ij r a->ij s b->ij (r++s) (a++b)
 | [],s,a,b,⟨x,hx,_⟩,h=>by have:a=[]:=hx;subst this;exact h
 | [p],s,a,b,h,k=>ij.cons h k
 |p::q::r,s,a,b,h,k=>by
  obtain ⟨a1,a2,rfl,h1,h2⟩:=ij.split h
  rw [ab1];exact ij.cons h1 (ij.app h2 k)
theorem nO: ∀{rs:List (List PT)} {vs:List SV},VX (rs.map ij) vs->ij rs.flatten vs
 | [],vs,h=>by have:vs=[]:=h;subst this;exact ⟨(),rfl,trivial⟩
 |r::rs,vs,⟨a,b,h1,h2,h3⟩=>by subst h1;rw [List.flatten_cons];exact ij.app h2 (nO h3)
def cE (P : Program) (t : TypeId) (K : List SV -> Prop) : Prop :=
  ∀ (H : Type) (enc : TypeId × Value -> H) (w : World) (Al : Nat) (cs : List Value) (x : DataW H × List MemPlace), DataW.trod enc P w 0 (fun _ => ajp) ajp Al t cs = ajn x ->
    ∃ vs q, K vs /\ qE vs = ajn q /\ fF (E0 w) gF q cs
section
variable {P : Program}
theorem cE.mono {t:TypeId} {K K':List SV->Prop} (h:cE P t K) (hk: ∀vs,K vs->K' vs):cE P t K':=fun H enc w Al cs x hx=>by obtain ⟨vs,q,h1,h2,h3⟩:=h H enc w Al cs x hx;exact ⟨vs,q,hk vs h1,h2,h3⟩
theorem cE.int {t:TypeId} {k:IntKind} (ht:P.underlying t=ajn (.int k)):cE P t (ij [.i k]):=fun H enc w Al cs x h=>by obtain ⟨n,rfl,_,hw⟩:=DataW.trod_int ht h;exact ⟨[.int k n],[.int k n],⟨n,rfl,hw⟩,rfl,.cons _ _ _ _ (.int k n) .nil⟩
theorem cE.bool {t:TypeId} (ht:P.underlying t=ajn .bool):cE P t (ij [.b]):=fun H enc w Al cs x h=>by obtain ⟨b,rfl,_⟩:=DataW.trod_bool ht h;exact ⟨[.bool b],[.bool b],⟨b,rfl,trivial⟩,rfl,.cons _ _ _ _ (.bool b) .nil⟩
def bw (P:Program):List Field->List (List SV->Prop)->Nat->Prop
 | [],[],_=>True
 |f::fs,K::Ks,off=>f.offset=off/\cE P f.type K/\bw P fs Ks (off+P.cellsOf f.type)
 |_,_,_=>False
theorem bw.nil {off:Nat}:bw P [] [] off:=trivial
theorem bw.cons {f:Field} {fs:List Field} {K:List SV->Prop} {Ks:List (List SV->Prop)} {off:Nat} (h1:f.offset=off) (h2:cE P f.type K) (h3:bw P fs Ks (off+P.cellsOf f.type)):bw P (f::fs) (K::Ks) off:=⟨h1,h2,h3⟩
def yw (P:Program):List Field->Nat
 | []=>0
 |f::fs=>P.cellsOf f.type+yw P fs
theorem FG {im:Im} {loc:Loc}: ∀{p:List PV} {vs:List Value} {q:List PV} {us:List Value},fF im loc p vs->fF im loc q us->fF im loc (p++q) (vs++us)
 | [],[],_,_,.nil,h=>h
 |_::_,_::_,_,_,.cons x v xs ws h hs,k=> .cons x v _ _ h (FG hs k)
theorem FH {H:Type} {enc:TypeId×Value->H} {w:World} {n:Nat} {cs:List Value}: ∀{fs:List Field} {Ks:List (List SV->Prop)} {off:Nat},bw P fs Ks off->ajm cs=off+yw P fs->
 (∀f∈fs,∃x,DataW.trod enc P w 0 (fun _=>ajp) ajp n f.type ((cs.drop f.offset).take (P.cellsOf f.type))=ajn x)-> ∃vs q,VX Ks vs/\qE vs=ajn q/\fF (E0 w) gF q (cs.drop off)
 | [],[],off,_,hl,_=>⟨[],[],rfl,rfl,by rw [List.drop_eq_nil_of_le (by simp [yw] at hl;omega)];exact .nil⟩
 |f::fs,K::Ks,off,⟨h1,h2,h3⟩,hl,hx=>by
  obtain ⟨x,Kr⟩:=hx f (by simp);obtain ⟨vs,q,k1,k2,k3⟩:=h2 H enc w n _ x Kr;obtain ⟨LY,q',k1',k2',k3'⟩:=FH (n:=n) h3 (by simp only [yw] at hl;omega) (fun g hg=>hx g (by simp [hg]));refine ⟨vs++LY,q++q',⟨vs,LY,rfl,k1,k1'⟩,Au k2 k2',?_⟩;rw [h1] at k3;have:cs.drop off=(cs.drop off).take (P.cellsOf f.type)++cs.drop (off+P.cellsOf f.type):=by rw [<- List.drop_drop,List.take_append_drop]
  rw [this];exact FG k3 k3'
 | [],_::_,_,h,_,_=>h.elim
 |_::_,[],_,h,_,_=>h.elim
theorem cE.struct {t:TypeId} {fs:Array Field} {Ks:List (List SV->Prop)} (ht:P.underlying t=ajn (.struct fs)) (hF:bw P fs.toList Ks 0) (hc:P.cellsOf t=yw P fs.toList):cE P t (VX Ks):=fun H enc w Al cs x h=>by
 obtain ⟨xs,n,rfl,_,hl,hxl,rV⟩:=DataW.trod_struct ht h;have:=FH (P:=P) (enc:=enc) (w:=w) (n:=n) (cs:=cs) hF (by omega) (fun f hf=>by
  obtain ⟨i,hi,he⟩:=List.mem_iff_getElem.1 hf;have qY:i<fs.size:=by simpa using hi
  have hg:fs[i]? =ajn f:=by rw [Array.getElem?_eq_getElem qY];simpa using he
  have:=rV i f hg;rw [AC (by omega)] at this;exact ⟨_,this⟩)
 rwa [abU] at this
theorem RT.vrl {r:List PT} {a:RT r} {q:List PV} (h:qE (RT.sv r a)=ajn q):q=RT.pv r a:=by rw [RT.Ho] at h;exact (abZ h).symm
theorem fF.nth {im:Im} {loc:Loc}: ∀{p:List PV} {vs:List Value},fF im loc p vs-> ∀(k:Nat) (c:PV),p[k]? =ajn c-> ∃v,vs[k]? =ajn v/\VR im loc c v
 |_::_,_::_,.cons x v xs ws h hs,0,c,hc=>by simp at hc;subst hc;exact ⟨v,by simp,h⟩
 |_::_,_::_,.cons x v xs ws h hs,k+1,c,hc=>by obtain ⟨u,h1,h2⟩:=fF.nth hs k c (by simpa using hc);exact ⟨u,by simpa using h1,h2⟩
theorem cE.slice {t e:TypeId} {r:List PT} (ht:P.underlying t=ajn (.slice e)) (he:cE P e (ij r)) (hc:P.cellsOf e=ajm r) (hr:0<ajm r):cE P t (L5 r):=fun H enc w Al cs x h=>by
 rcases Go.Deep.open_slice ht h with ⟨rfl,_⟩|⟨a,len,cap,m,n,D,Pl,rfl,_,hl,hm,hmm,_,hx⟩
 · exact ⟨[.sl r []],[.sl (ajm r) ajq []],⟨[],rfl,by simp⟩,rfl,.cons _ _ _ _ (.sl (ajm r) ajq [] ajo 0 (ai1 _) (fun h=>by cases h) (fun h=>absurd rfl h)) .nil⟩
 have Cr:len<=m:=by rw [hmm];split<;>omega
 have each: ∀i,i<len-> ∃A:RT r,RT.wf r A/\ ∃G6,w.cells? 0 (a.add (i*ajm r)) (ajm r)=ajn G6/\fF (E0 w) gF (RT.pv r A) G6:=by intro i hi;obtain ⟨G6,h1,h2⟩:=hx i (by omega);obtain ⟨vs,q,⟨A,hA,wA⟩,k2,k3⟩:=he H enc w n G6 _ h2;subst hA;rw [RT.vrl k2] at k3;rw [hc] at h1;exact ⟨A,wA,G6,h1,k3⟩
 have ch: ∃A:Nat->RT r,∀i,i<len->RT.wf r (A i)/\ ∃G6,w.cells? 0 (a.add (i*ajm r)) (ajm r)=ajn G6/\fF (E0 w) gF (RT.pv r (A i)) G6:=by
  classical
  refine ⟨fun i=>if h:i<len then (each i h).choose else RT.zero r,fun i hi=>?_⟩;simp only [dif_pos hi];exact (each i hi).choose_spec
 obtain ⟨A,hA⟩:=ch;refine ⟨[.sl r ((aiP len).map A)],[.sl (ajm r) ajq (((aiP len).map A).map (RT.pv r))],⟨_,rfl,fun x hx=>?_⟩,rfl,.cons _ _ _ _ ?_ .nil⟩
 · obtain ⟨i,hi,rfl⟩:=aj3.1 hx
   exact (hA i (List.mem_range.1 hi)).1
 have dd:(((aiP len).map A).map (RT.pv r)).length=len:=by simp
 have:=VR.sl (im:=E0 w) (loc:=gF) (ajm r) ajq (((aiP len).map A).map (RT.pv r)) (ajn a) cap (by rw [dd];exact hl) (fun h=>by cases h) (fun dK=>by
  have U0:0<len:=by
   rcases aiN len with h|h
   · subst h;exact absurd rfl dK
   exact h
  obtain ⟨_,cs0,h0,_⟩:=hA 0 U0;obtain ⟨_,LX,GJ⟩:=aj6 h0;obtain ⟨b,off,spot⟩:=a;have ald:spot=ajo:=by have h1:=GJ 0 hr;rw [AC (by omega)] at h1;simpa [Addr.add] using World.cell?_spot h1
  subst ald;refine ⟨b,off,rfl,fun i row vt=>?_⟩;simp only [List.map_map,List.getElem?_map,abM] at vt;obtain ⟨j,hj,rfl⟩:=vt;have Mb:=cJ hj;have:j=i:=by rw [List.getElem?_range (by simpa using Mb)] at hj;exact (abZ hj).symm
  subst this;have ale:j<len:=by simpa using Mb
  obtain ⟨_,G6,h1,h2⟩:=hA j ale;obtain ⟨_,G9,AY⟩:=aj6 h1;refine ⟨RT.wD r (A j),fun k c hk=>?_⟩;obtain ⟨v,hv,oY⟩:=fF.nth h2 k c hk;have hkr:k<(ajm r):=by
   have:=cJ hk
   rwa [Function.comp,RT.wD] at this
  have cc:=AY k hkr;rw [hv] at cc;rw [Go.WideShapes.add_plain,Go.WideShapes.add_plain] at cc;have Ma:c.plain=ajp:=abT.1 (RT.plain r (A j)) c (acg hk);exact ⟨v,oY.plain Ma,P8 cc⟩)
 rw [dd] at this;exact this
theorem cE.adI {t:TypeId} {fs:Array Field} {K:List SV->Prop} (h:cE P t K) (ht:P.underlying t=ajn (.struct fs)) {H:Type} {enc:TypeId×Value->H} {w:World} {oo:Nat} {v:Value} {d:DataW H} {p:List MemPlace}
 (hv:Value.okWide P w .any oo t v) (hd:DataW.Trod enc P w 0 (fun _=>ajp) ajp t v d p): ∃vs q,K vs/\qE vs=ajn q/\VR (E0 w) gF (.agg q) v:=by
 obtain ⟨cs,rfl,_⟩:=okWide_struct ht hv;obtain ⟨Al,hf⟩:=hd;obtain ⟨vs,q,k1,k2,k3⟩:=h H enc w Al _ _ hf;exact ⟨vs,q,k1,k2,.agg q _ k3⟩
theorem cE.apU {t:TypeId} {k:IntKind} (ht:P.underlying t=ajn (.int k)) {H:Type} {enc:TypeId×Value->H} {w:World} {oo:Nat} {v:Value} {d:DataW H} {p:List MemPlace}
 (hv:Value.okWide P w .any oo t v) (hd:DataW.Trod enc P w 0 (fun _=>ajp) ajp t v d p): ∃n,(Lit.int k n).wf=ajp/\VR (E0 w) gF (.int k n) v:=by
 obtain ⟨n,rfl,_,_,hw⟩:=open_int ht hv hd;exact ⟨n,hw,.int k n⟩
theorem wf_i64 {n:Int} (h:(Lit.int .i64 n).wf=ajp): -9223372036854775808<=n/\n<9223372036854775808:=by
 simp only [Lit.wf,rc,decide_eq_true_eq] at h;have e1:IntKind.i64.min= -9223372036854775808:=by decide
 have e2:IntKind.i64.max=9223372036854775807:=by decide
 rw [e1,e2] at h;omega
end
theorem dU.apV {F:mY} {f:FuncId} {x:aG} {α:Type} {A:ax α} {fn:α->Option Bool} (h:dU F f ⟨A,Arg.bool,fn,.pure,ajq⟩) (hf:F f=ajn (.code x)) {a:α} (hb:fn a=ajn ajp) {ps:List PV} (hp:qE (A.enc a)=ajn ps) (hx:B8 [] (xT [] deep) ps=ajn ps):
 ∃n s z,run F n (.func f ps [] [])=ajn (.func (.bool ajp) s z):=by
 obtain ⟨n,r,h1,p,h2,rfl⟩:=h a ajp ps ps [] [] hb hp hx;have hp':p= .bool ajp:=(abZ h2).symm;subst hp';refine ⟨n,?_⟩;simp only [dz,hx,hf] at h1;split at h1
 · rename_i v s z hr
   simp only [M2,if_false] at h1;split at h1
   · injection h1 with h1
     injection h1 with h1;subst h1;exact ⟨s,z,hr⟩
   rename_i hn
   split at h1
   · rename_i v' hv
     injection h1 with h1;injection h1 with h1;subst h1;exfalso;cases v with
     |bool b=>exact hn rfl
     |int _ _|str _|sl _ _ _=>injection hv with hv;cases hv
     |agg cs=>simp only [yY,abM] at hv;obtain ⟨_,_,hv⟩:=hv;cases hv
     |b8 cs=>simp only [yY,abM] at hv;obtain ⟨_,_,hv⟩:=hv;cases hv
     |own t e off len cap ex=>simp only [yY] at hv;split at hv<;>first|(injection hv with hv;cases hv)|cases hv
     |_=>cases hv
   cases h1
 cases h1
end Go.Vm
