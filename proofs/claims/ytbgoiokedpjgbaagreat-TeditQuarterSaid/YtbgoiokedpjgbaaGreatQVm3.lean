/- The logical machine, part 3: SvCod, SvRel, SvOps1, SvOps2, SvOps3, SvOps4, SvNorm, SvCall, SvFp, SvRun, SvCon, SvLaw. -/
import Derived.Test.YtbgoiokedpjgbaaGreatQVm2
open Nat renaming eq_of_beq_eq_true->ut,ble->M2,beq->NE,le_of_ble_eq_true->UV,beq_refl->ae8,lt_or_ge->afI,zero_add->afX,beq_eq->agy,min_eq_left->aig,le_refl->akb,blt->akc,eq_zero_or_pos->am2,le_of_lt->am5,sub_self->amI
open Bool renaming and_eq_true->v6,false_eq_true->PP,not_eq_true'->adc,and_self->ae5,not_false->afy,and_true->afZ,not_true->am0,or_eq_true->amG,true->amN,false->amO
open List renaming getElem?_eq_some_iff->ww,getElem?_append_left->AC,getElem?_append_right->Do,getElem?_eq_getElem->F0s,getElem?_take_of_lt->If,getElem?_set->IR,length_cons->adm,append_assoc->ae1,append_nil->ae2,length_map->ae3,map_cons->ae4,replicate->af3,length_take->af4,map_take->af5,take_of_length_le->afa,all_eq_true->afb,drop_zero->afe,getElem?_cons_succ->afg,map_append->afj,mem_of_getElem?->afB,getElem?_eq_none_iff->afJ,map_drop->afK,mem_cons_self->afM,mem_singleton->afN,length_eq_zero_iff->afW,mem_append_right->afY,mem_cons_of_mem->agd,mem_append_left->agj,getElem_of_mem->agl,length_append->agz,getElem?_cons_zero->agE,cons_append->agK,nodup_cons->aka,take_succ_cons->alt,all_cons->alX,cons_beq_cons->am1,range->am3,map_set->am4,ext_getElem?->am6,map_nil->amm,flatMap_cons->amo,mem_map->amq,any_eq_true->amB,length_drop->amC,mem_flatMap->amD,all_append->amE,mem_append->amF,any_cons->amH,all_map->amJ,length->amK
open Option.some renaming injEq->EQ,inj->afc
open Int renaming eq_ofNat_of_zero_le->WF,ofNat->afx,le_trans->agp
open Prod.mk renaming injEq->acl
open Option renaming map_eq_some_iff->ae9,isSome_iff_exists->agB,getD_none->agG,getD_some->amw,some->amL,none->amM
open Go.World renaming cells?_some->amv
open Decidable renaming decide->amP
/- The types of arguments and results, as cells. -/
namespace Go.Vm
theorem pf {r q:List PT} {l:List (RT r)} {m:List (RT q)} (h:sG r q l=amL m): ∃e:r=q,m=e▸l:=by
 unfold sG at h;split at h
 · rename_i hs
   injection h with h;exact ⟨vM hs,h.symm⟩
 cases h
theorem BM {r q:List PT} {l:List (RT r)} {m:List (RT q)} (h:sG r q l=amL m):r=q/\m.map (RT.pv q)=l.map (RT.pv r)/\amK m=(amK l):=by
 obtain ⟨rfl,rfl⟩:=pf h;exact ⟨rfl,rfl,rfl⟩
theorem eS {x:SV} {xs:List SV} {ps:List PV}:sJ (x::xs)=amL ps↔ ∃p qs,ps=p::qs/\sI x=amL p/\sJ xs=amL qs:=by
 simp only [sJ];constructor
 · intro h
   split at h
   · rename_i y ys h1 h2
     injection h with h;exact ⟨y,ys,h.symm,h1,h2⟩
   cases h
 rintro ⟨p,qs,rfl,h1,h2⟩
 rw [h1,h2]
theorem AP: ∀{xs ys:List SV} {p q:List PV},sJ xs=amL p->sJ ys=amL q->sJ (xs++ys)=amL (p++q)
 | [],ys,p,q,h,k=>by simp only [sJ,EQ] at h;subst h;exact k
 |x::xs,ys,p,q,h,k=>by
  obtain ⟨a,as,rfl,h1,h2⟩:=eS.1 h;exact eS.2 ⟨a,as++q,rfl,h1,AP h2 k⟩
theorem PT.pQ: ∀{p:PT} {v:SV} {a:p.T},p.of v=amL a->v=p.sv a
 | .i k,.int l n,a,h=>by
  simp only [PT.of] at h;cases hk:fE l k with
  |false=>rw [hk] at h;cases h
  |true=>
   rw [hk] at h;injection h with h;subst h;rw [fu.1 hk];rfl
 | .b,.bool x,a,h=>by injection h with h;subst h;rfl
 | .i k,.bool _,a,h=>by cases h
 | .b,.int _ _,a,h=>by cases h
 | .i _,.iU,a,h| .i _,.undef,a,h| .i _,.jA,a,h| .i _,.dU,a,h| .i _,.str _,a,h| .i _,.agg _,a,h| .i _,.cw _,a,h| .i _,.sl _ _,a,h| .i _,.nil _ _,a,h| .i _,.own _ _,a,h| .i _,.pre _ _ _ _,a,h| .i _,.part _ _ _ _ _,a,h| .i _,.pa _ _ _ _ _,a,h| .i _,.pb _ _ _,a,h| .i _,.bp _ _ _,a,h| .i _,.bJ _ _,a,h| .i _,.eV _ _ _,a,h| .i _,.mp _,a,h=>by cases h
 | .b,.iU,a,h| .b,.undef,a,h| .b,.jA,a,h| .b,.dU,a,h| .b,.str _,a,h| .b,.agg _,a,h| .b,.cw _,a,h| .b,.sl _ _,a,h| .b,.nil _ _,a,h| .b,.own _ _,a,h| .b,.pre _ _ _ _,a,h| .b,.part _ _ _ _ _,a,h| .b,.pa _ _ _ _ _,a,h| .b,.pb _ _ _,a,h| .b,.bp _ _ _,a,h| .b,.bJ _ _,a,h| .b,.eV _ _ _,a,h| .b,.mp _,a,h=>by cases h
theorem RT.pQ: ∀{r:List PT} {vs:List SV} {a:RT r},RT.of r vs=amL a->vs=RT.sv r a
 | [],[],a,_=>rfl
 | [p],[v],a,h=>by
  have:=PT.pQ (p:=p) h
  rw [this];rfl
 |p::q::r,v::vs,a,h=>by
  simp only [RT.of] at h;split at h
  · rename_i x y h1 h2
    injection h with h;subst h;rw [PT.pQ h1,RT.pQ h2];rfl
  cases h
 | [],_::_,a,h=>by simp [RT.of] at h
 | [p],[],a,h=>by simp [RT.of] at h
 | [p],_::_::_,a,h=>by simp [RT.of] at h
 |_::_::_,[],a,h=>by simp [RT.of] at h
theorem PT.Ik (p:PT) (a:p.T):sI (p.sv a)=amL (p.pv a):=by cases p<;>rfl
theorem RT.Ik: ∀(r:List PT) (a:RT r),sJ (RT.sv r a)=amL (RT.pv r a)
 | [],_=>rfl
 | [p],a=>eS.2 ⟨_,_,rfl,PT.Ik p a,rfl⟩
 |p::q::r,a=>eS.2 ⟨_,_,rfl,PT.Ik p a.1,RT.Ik (q::r) a.2⟩
theorem RT.wH: ∀(r:List PT) (a:RT r),(RT.pv r a).length=amK r
 | [],_=>rfl
 | [p],a=>rfl
 |p::q::r,a=>by simp [RT.pv,RT.wH (q::r) a.2]
theorem RT.JM: ∀(r:List PT) (a:RT r),(RT.sv r a).length=amK r
 | [],_=>rfl
 | [p],a=>rfl
 |p::q::r,a=>by simp [RT.sv,RT.JM (q::r) a.2]
theorem Il: ∀(n:Nat) {vs:List SV} {ps:List PV},sJ vs=amL ps-> ∃p q,ps=p++q/\sJ (vs.take n)=amL p/\sJ (vs.drop n)=amL q
 |0,vs,ps,h=>⟨[],ps,rfl,by simp [sJ],by simpa using h⟩
 |n+1,[],ps,h=>⟨[],ps,rfl,by simp [sJ],by simpa using h⟩
 |n+1,v::vs,ps,h=>by
  obtain ⟨p,qs,rfl,h1,h2⟩:=eS.1 h;obtain ⟨a,b,rfl,h3,h4⟩:=Il n h2;exact ⟨p::a,b,rfl,by rw [alt];exact eS.2 ⟨p,a,rfl,h1,h3⟩,by simpa using h4⟩
def cI.int (k:IntKind):cI Int where
 enc n:=[.int k n]
 dec vs:=match vs with
  | .int l n::r=>bif fE l k then amL (n,r) else amM
  |_=>amM
 law:=fun {vs a rest ps} h hp=>by
  split at h
  · rename_i l n r
    cases hk:fE l k with
    |false=>rw [hk] at h;cases h
    |true=>
     rw [hk] at h;simp only [lw,EQ,acl] at h;obtain ⟨rfl,rfl⟩:=h;obtain ⟨p,qs,rfl,h1,h2⟩:=eS.1 hp;rw [fu.1 hk] at h1;exact ⟨[p],qs,rfl,eS.2 ⟨p,[],rfl,h1,rfl⟩,h2⟩
  cases h
def cI.bool:cI Bool where
 enc n:=[.bool n]
 dec vs:=match vs with
  | .bool n::r=>amL (n,r)
  |_=>amM
 law:=fun {vs a rest ps} h hp=>by
  split at h
  · simp only [EQ,acl] at h
    obtain ⟨rfl,rfl⟩:=h;obtain ⟨p,qs,rfl,h1,h2⟩:=eS.1 hp;exact ⟨[p],qs,rfl,eS.2 ⟨p,[],rfl,h1,rfl⟩,h2⟩
  cases h
def Qt (r:List PT):SV->Option (List (RT r))
 | .sl q l=>sG q r l
 | .nil e c=>bif NE e (amK r)&&!c then amL [] else amM
 |_=>amM
theorem Io {r:List PT} {v:SV} {l:List (RT r)} {p:PV} (h:Qt r v=amL l) (hp:sI v=amL p):sI (.sl r l)=amL p:=by
 cases v with
 |sl q m=>
  obtain ⟨rfl,h2,_⟩:=BM h;rw [<- hp];simp only [sI,h2]
 |nil e c=>
  simp only [Qt] at h;cases hc:(NE e (amK r)&&!c) with
  |false=>rw [hc] at h;cases h
  |true=>
   rw [hc] at h;injection h with h;subst h;simp only [v6,agy,adc] at hc;obtain ⟨rfl,rfl⟩:=hc;rw [<- hp];rfl
 |_=>cases h
def cI.sl (r:List PT):cI (List (RT r)) where
 enc l:=[.sl r l]
 dec vs:=match vs with
  |v::rest=>match Qt r v with
   |some l=>amL (l,rest)
   |none=>amM
  | []=>amM
 law:=fun {vs a rest ps} h hp=>by
  split at h
  · split at h
    · rename_i v r' x l hl
      simp only [EQ,acl] at h;obtain ⟨rfl,rfl⟩:=h;obtain ⟨p,qs,rfl,h1,h2⟩:=eS.1 hp;exact ⟨[p],qs,rfl,eS.2 ⟨p,[],rfl,Io hl h1,rfl⟩,h2⟩
    cases h
  cases h
def cI.row (r:List PT):cI (RT r) where
 enc:=RT.sv r
 dec vs:=match RT.of r (vs.take (amK r)) with
  |some a=>amL (a,vs.drop (amK r))
  |none=>amM
 law:=fun {vs a rest ps} h hp=>by
  split at h
  · rename_i x hx
    simp only [EQ,acl] at h;obtain ⟨rfl,rfl⟩:=h;obtain ⟨p,q,rfl,h1,h2⟩:=Il (amK r) hp;rw [RT.pQ hx] at h1;exact ⟨p,q,rfl,h1,h2⟩
  cases h
def cI.prod {α β:Type} (A:cI α) (B:cI β):cI (α×β) where
 enc p:=A.enc p.1++B.enc p.2
 dec vs:=match A.dec vs with
  |some p=>match B.dec p.2 with
   |some q=>amL ((p.1,q.1),q.2)
   |none=>amM
  |none=>amM
 law:=fun {vs a rest ps} h hp=>by
  split at h
  · rename_i p hA
    split at h
    · rename_i q hB
      simp only [EQ,acl] at h;obtain ⟨rfl,rfl⟩:=h;obtain ⟨p1,p2,rfl,h1,h2⟩:=A.law (a:=p.1) (rest:=p.2) hA hp;obtain ⟨q1,q2,rfl,h3,h4⟩:=B.law (a:=q.1) (rest:=q.2) hB h2;exact ⟨p1++q1,q2,by simp,AP h1 h3,h4⟩
    cases h
  cases h
def cI.iso {α β:Type} (A:cI α) (f:α->β) (g:β->α) (h: ∀a,g (f a)=a):cI β where
 enc b:=A.enc (g b)
 dec vs:=match A.dec vs with
  |some p=>amL (f p.1,p.2)
  |none=>amM
 law:=fun {vs a rest ps} hd hp=>by
  split at hd
  · rename_i p hA
    simp only [EQ,acl] at hd;obtain ⟨rfl,rfl⟩:=hd;rw [h];exact A.law hA hp
  cases hd
def Arg.int (k:IntKind):Arg Int where
 enc n:= .int k n
 dec v:=match v with
  | .int l n=>bif fE l k then amL n else amM
  |_=>amM
 law:=fun {v a p} h hp=>by
  split at h
  · rename_i l n
    cases hk:fE l k with
    |false=>rw [hk] at h;cases h
    |true=>rw [hk] at h;injection h with h;subst h;rw [fu.1 hk] at hp;exact hp
  cases h
def Arg.bool:Arg Bool where
 enc n:= .bool n
 dec v:=match v with
  | .bool n=>amL n
  |_=>amM
 law:=fun {v a p} h hp=>by
  split at h
  · injection h with h;subst h;exact hp
  cases h
def Arg.sl (r:List PT):Arg (List (RT r)) where
 enc l:= .sl r l
 dec:=Qt r
 law:=Io
def Arg.agg {α:Type} (A:cI α):Arg α where
 enc a:= .agg (A.enc a)
 dec v:=match v with
  | .agg cs=>match A.dec cs with
   |some p=>match p.2 with
    | []=>amL p.1
    |_=>amM
   |none=>amM
  |_=>amM
 law:=fun {v a p} h hp=>by
  split at h
  · rename_i cs
    split at h
    · rename_i q hA
      obtain ⟨x,rest⟩:=q;dsimp only at h;cases rest with
      |cons _ _=>cases h
      |nil=>
       injection h with h;subst h;simp only [sI] at hp;cases hc:sJ cs with
       |none=>rw [hc] at hp;cases hp
       |some l=>
        rw [hc] at hp;injection hp with hp;subst hp;obtain ⟨p1,p2,rfl,h1,h2⟩:=A.law hA hc;simp only [sJ,EQ] at h2;subst h2;simp only [sI,h1,ae2]
    cases h
  cases h
def Arg.ref {α:Type} (A:cI α):Arg α where
 enc a:= .bJ (A.enc a) 0
 dec v:=match v with
  | .bJ cs 0=>match A.dec cs with
   |some p=>match p.2 with
    | []=>amL p.1
    |_=>amM
   |none=>amM
  |_=>amM
 law:=fun {v a p} h hp=>by
  split at h
  · rename_i cs
    split at h
    · rename_i q hA
      obtain ⟨x,rest⟩:=q;dsimp only at h;cases rest with
      |cons _ _=>cases h
      |nil=>
       injection h with h;subst h;simp only [sI] at hp;cases hc:sJ cs with
       |none=>rw [hc] at hp;cases hp
       |some l=>
        rw [hc] at hp;injection hp with hp;subst hp;obtain ⟨p1,p2,rfl,h1,h2⟩:=A.law hA hc;simp only [sJ,EQ] at h2;subst h2;simp only [sI,h1,ae2]
    cases h
  cases h
def au.nil:au Unit where
 enc _:=[]
 dec vs:=match vs with
  | []=>amL ()
  |_=>amM
 law:=fun {vs a ps} h hp=>by
  split at h
  · exact hp
  cases h
def au.one {α:Type} (A:Arg α):au α where
 enc a:=[A.enc a]
 dec vs:=match vs with
  | [v]=>A.dec v
  |_=>amM
 law:=fun {vs a ps} h hp=>by
  split at h
  · obtain ⟨p,qs,rfl,h1,h2⟩:=eS.1 hp
    exact eS.2 ⟨p,qs,rfl,A.law h h1,h2⟩
  cases h
def au.cons {α β:Type} (A:Arg α) (B:au β):au (α×β) where
 enc a:=A.enc a.1::B.enc a.2
 dec vs:=match vs with
  |v::r=>match A.dec v with
   |some x=>match B.dec r with
    |some y=>amL (x,y)
    |none=>amM
   |none=>amM
  | []=>amM
 law:=fun {vs a ps} h hp=>by
  split at h
  · split at h
    · rename_i x hx
      split at h
      · rename_i y hy
        injection h with h;subst h;obtain ⟨p,qs,rfl,h1,h2⟩:=eS.1 hp;exact eS.2 ⟨p,qs,rfl,A.law hx h1,B.law hy h2⟩
      cases h
    cases h
  cases h
def Arg.cw {α:Type} (A:au α):Arg α where
 enc a:= .cw (A.enc a)
 dec v:=match v with
  | .cw vs=>A.dec vs
  |_=>amM
 law:=fun {v a p} h hp=>by
  split at h
  · rename_i vs
    simp only [sI] at hp;cases hc:sJ vs with
    |none=>rw [hc] at hp;cases hp
    |some l=>
     rw [hc] at hp;injection hp with hp;subst hp;simp only [sI,A.law h hc]
  cases h
def Arg.eV {α:Type} (f:FuncId) (A:au α):Arg α where
 enc a:= .eV f [] (A.enc a)
 dec v:=match v with
  | .eV g [] b=>bif NE g f then A.dec b else amM
  |_=>amM
 law:=fun {v a p} h hp=>by
  split at h
  · rename_i g b
    cases hg:NE g f with
    |false=>rw [hg] at h;cases h
    |true=>
     rw [hg] at h
     have:=ut hg
     subst this;simp only [sI,sJ] at hp ⊢;cases hc:sJ b with
     |none=>rw [hc] at hp;cases hp
     |some l=>
      rw [hc] at hp;rw [A.law h hc];exact hp
  cases h
def bD.clone (r:List PT):bD:=⟨.one (.sl r),.sl r,bP,.own,amO⟩
def pg (a b c:Int):Option (Int×Int):=bif amP (0<=a)&&amP (0<=b)&&amP (0<=c)&&amP (c<=1) then amL ((a+b+c)%18446744073709551616,(a+b+c) / 18446744073709551616) else amM
def bD.LX:bD:=⟨.cons (.int .u64) (.cons (.int .u64) (.one (.int .u64))),.cw (.cons (.int .u64) (.one (.int .u64))),fun a=>pg a.1 a.2.1 a.2.2,.pure,amO⟩
def LY:List (Nat×bD)->FuncId->List bD
 | [],_=>[]
 |(g,c)::r,f=>bif NE g f then c::LY r f else LY r f
def LZ:List (Nat×dS)->FuncId->List dS
 | [],_=>[]
 |(g,c)::r,f=>bif NE g f then c::LZ r f else LZ r f
def JN:List (Nat×Cd)->FuncId->Option Cd
 | [],_=>amM
 |(g,c)::r,f=>bif NE g f then amL c else JN r f
def iV (lp:Option Nat) (c:List (Nat×bD)) (p:List (Nat×dS)) (x:List (Nat×Cd)) (rk:List (Nat×List PT)):Ctx:=⟨lp,LY c,LZ p,JN x,rk⟩
end Go.Vm
/- What a typed value says of a value of the logical machine. -/
namespace Go.Vm
def OwnAt (s:List SB) (t e n:Nat):Prop:=(∃r l,s[t]? =amL (.arr r l)/\e=amK r/\n=amK l)\/s[t]? =amL .dead
def Aa (s:List SB) (t e:Nat):Prop:=(∃r l,s[t]? =amL (.arr r l)/\e=amK r)\/s[t]? =amL .dead\/(∃cs,s[t]? =amL (.box cs)/\e=1)
def UD (s:List SB) (t:Nat) (r:List PT) (i:Int) (a:RT r):Prop:=(∃l,s[t]? =amL (.arr r l)/\aJ l i=amL a)\/s[t]? =amL .dead
def agL (s:List SB) (t:Nat) (i:Int):Prop:=(∃r l,s[t]? =amL (.arr r l)/\(aJ l i).isSome=amN)\/s[t]? =amL .dead
mutual
def R (s:List SB):SV->PV->Prop
 | .iU,_=>True
 | .undef,v=>v= .undef
 | .jA,v=>v= .jA
 | .dU,v=>v= .dU
 | .int k n,v=>v= .int k n
 | .bool b,v=>v= .bool b
 | .str x,v=>v= .str x
 | .agg cs,v=> ∃ps,v= .agg ps/\RL s cs ps
 | .cw cs,v=> ∃ps,v= .cw ps/\RL s cs ps
 | .sl r l,v=>v= .sl (amK r) amO (l.map (RT.pv r))
 | .nil e c,v=>v= .sl e c []
 | .own t ex,v=> ∃e n,v= .own t e 0 n n ex/\OwnAt s t e n
 | .pre t len cap ex,v=> ∃e,v= .own t e 0 len cap ex/\Aa s t e
 | .part t off len cap ex,v=> ∃e,v= .own t e off len cap ex/\Aa s t e
 | .pa t r i a off,v=>v= .ptr t (amK r) i.toNat off/\UD s t r i a
 | .pb t i off,v=> ∃e,v= .ptr t e i.toNat off/\agL s t i
 | .bp t n off,v=>v= .ptr t n 0 off
 | .bJ cs off,v=> ∃ps,v= .bJ ps off/\RL s cs ps
 | .eV f a b,v=> ∃pa pb,v= .eV f pa pb/\RL s a pa/\RL s b pb
 | .mp t,v=>v= .mp t
def RL (s:List SB):List SV->List PV->Prop
 | [],ps=>ps=[]
 |x::xs,ps=> ∃p q,ps=p::q/\R s x p/\RL s xs q
end
def tF:List Int->PV
 | [a]=> .int .i64 a
 |l=> .agg (l.map (.int .i64))
def BN (k:List Int):PV×PV:=(tF k,.bool amN)
def Ee (p:PT) (a:RT [.i .i64,p]):PV×PV:=(.int .i64 a.1,p.pv a.2)
def RB (s:List SB):SB->jW->Prop
 | .arr r l,b=>b= .arr (amK r) (l.map (RT.pv r))
 | .box cs,b=> ∃ps,b= .box ps/\RL s cs ps
 | .set l,b=>b= .map (l.map BN)
 | .aP p l,b=>b= .map (l.map (Ee p))
 | .dead,b=>b= .dead
structure cN (s:List SB) (p:cL):Prop where
 len:(amK p)=amK s
 at_: ∀(t:Nat) (b:SB),s[t]? =amL b-> ∃q,p[t]? =amL q/\RB s b q
def dZ (s:List SB):SE->Env->Prop
 | [],e=>e=[]
 |(t,v)::r,e=> ∃p q,e=(t,p)::q/\R s v p/\dZ s r q
structure Ab (st:qB) (p:St):Prop where
 env:dZ st.aD st.env p.env
 aD:cN st.aD p.aD
 fz:p.fz=st.fz
 kn:p.kn=st.kn
theorem mB: ∀(s l:List SB),apS s l=s++l
 | [],_=>rfl
 |b::r,l=>by simp [apS,mB r l]
theorem BO: ∀(s:List SB) (t:Nat) (b:SB),Uy s t b=s.set t b
 | [],_,_=>by simp [Uy]
 |_::_,0,_=>rfl
 |x::r,n+1,b=>by simp [Uy,BO r n b]
theorem RL.nil {s:List SB}:RL s [] []:=rfl
theorem RL.cons {s:List SB} {x:SV} {xs:List SV} {p:PV} {q:List PV} (h:R s x p) (k:RL s xs q):RL s (x::xs) (p::q):=⟨p,q,rfl,h,k⟩
theorem RL.cons_inv {s:List SB} {x:SV} {xs:List SV} {ps:List PV} (h:RL s (x::xs) ps): ∃p q,ps=p::q/\R s x p/\RL s xs q:=h
theorem RL.m9 {s:List SB}: ∀{xs:List SV} {ps:List PV},RL s xs ps->amK ps=amK xs
 | [],ps,h=>by rw [show ps=[] from h];rfl
 |x::xs,ps,h=>by
  obtain ⟨p,q,rfl,_,h2⟩:=h.cons_inv;simp [h2.m9]
theorem RL.append {s:List SB}: ∀{xs:List SV} {ps:List PV},RL s xs ps-> ∀{ys:List SV} {qs:List PV},RL s ys qs->RL s (xs++ys) (ps++qs)
 | [],ps,h,_,_,k=>by rw [show ps=[] from h];exact k
 |x::xs,ps,h,_,_,k=>by
  obtain ⟨p,q,rfl,h1,h2⟩:=h.cons_inv;exact RL.cons h1 (h2.append k)
theorem RL.take {s:List SB}: ∀{xs:List SV} {ps:List PV},RL s xs ps-> ∀n,RL s (xs.take n) (ps.take n)
 | [],ps,h,n=>by rw [show ps=[] from h];simp;exact RL.nil
 |x::xs,ps,h,0=>by simp;exact RL.nil
 |x::xs,ps,h,n+1=>by
  obtain ⟨p,q,rfl,h1,h2⟩:=h.cons_inv;exact RL.cons h1 (h2.take n)
theorem RL.drop {s:List SB}: ∀{xs:List SV} {ps:List PV},RL s xs ps-> ∀n,RL s (xs.drop n) (ps.drop n)
 | [],ps,h,n=>by rw [show ps=[] from h];simp;exact RL.nil
 |x::xs,ps,h,0=>h
 |x::xs,ps,h,n+1=>by
  obtain ⟨p,q,rfl,h1,h2⟩:=h.cons_inv;exact h2.drop n
theorem RL.nth {s:List SB}: ∀{xs:List SV} {ps:List PV},RL s xs ps-> ∀{n:Nat} {v:SV},Vm.nth xs n=amL v-> ∃p,ps[n]? =amL p/\R s v p
 | [],_,_,_,_,e=>by cases e
 |x::xs,ps,h,0,v,e=>by
  obtain ⟨p,q,rfl,h1,_⟩:=h.cons_inv;injection e with e;subst e;exact ⟨p,rfl,h1⟩
 |x::xs,ps,h,n+1,v,e=>by
  obtain ⟨p,q,rfl,_,h2⟩:=h.cons_inv;obtain ⟨p',h3,h4⟩:=h2.nth (n:=n) e;exact ⟨p',by simpa using h3,h4⟩
mutual
theorem OL (s:List SB): ∀v:PV,R s (XC v) v
 | .undef=>rfl
 | .jA=>rfl
 | .dU=>rfl
 | .int _ _=>rfl
 | .bool _=>rfl
 | .str _=>rfl
 | .agg cs=>⟨cs,rfl,wI s cs⟩
 | .cw cs=>⟨cs,rfl,wI s cs⟩
 | .sl e c rows=>by
  cases rows with
  |nil=>exact rfl
  |cons _ _=>trivial
 | .eV f a b=>⟨a,b,rfl,wI s a,wI s b⟩
 | .own .. =>trivial
 | .ptr .. =>trivial
 | .bJ .. =>trivial
 | .mp _=>trivial
theorem wI (s:List SB): ∀l:List PV,RL s (BF l) l
 | []=>rfl
 |x::xs=>RL.cons (OL s x) (wI s xs)
end
theorem dZ.lk {s:List SB}: ∀{e:SE} {p:Env},dZ s e p-> ∀t,R s (Hm t e) (Vm.lk t p)
 | [],p,h,t=>by rw [show p=[] from h];rfl
 |(u,v)::r,p,h,t=>by
  obtain ⟨q,qs,rfl,h1,h2⟩:=h;simp only [Hm,Vm.lk];cases hb:NE u t with
  |true=>exact h1
  |false=>exact dZ.lk h2 t
theorem dZ.AL {s:List SB}: ∀{e:SE} {p:Env},dZ s e p-> ∀{t:Nat} {v:SV},R s v (Vm.lk t p)->dZ s (Vm.AL t v e) p
 | [],p,h,t,v,_=>h
 |(u,x)::r,p,h,t,v,hv=>by
  obtain ⟨q,qs,rfl,h1,h2⟩:=h;simp only [Vm.AL];simp only [Vm.lk] at hv;cases hb:NE u t with
  |true=>rw [hb] at hv;exact ⟨q,qs,rfl,hv,h2⟩
  |false=>rw [hb] at hv;exact ⟨q,qs,rfl,h1,dZ.AL h2 hv⟩
theorem dN {s:List SB} {e:SE} {p:Env} (h:dZ s e p): ∀x:fH,R s (bW e x) (x.ev p)
 | .t n=>h.lk n
 | .c v=>OL s v
theorem zj {s:List SB} {e:SE} {p:Env} (h:dZ s e p): ∀l:List fH,RL s (jF e l) (EO p l)
 | []=>rfl
 |x::xs=>RL.cons (dN h x) (zj h xs)
def Fr (bad:List Nat) (s s':List SB):Prop:= ∀(t:Nat) (b:SB),s[t]? =amL b->match b with
 | .arr r l=>(∃l',s'[t]? =amL (.arr r l')/\amK l'=amK l/\(has bad t=amO->l'=l))\/s'[t]? =amL .dead
 | .dead=>s'[t]? =amL .dead
 | .box _=>(∃cs,s'[t]? =amL (.box cs))\/s'[t]? =amL .dead
 |_=>True
theorem Fr.refl (bad:List Nat) (s:List SB):Fr bad s s:=fun t b h=>by
 cases b with
 |arr r l=>exact .inl ⟨l,h,rfl,fun _=>rfl⟩
 |dead=>exact h
 |box cs=>exact .inl ⟨cs,h⟩
 |_=>trivial
theorem Fr.app (bad:List Nat) (s l:List SB):Fr bad s (s++l):=fun t b h=>by
 have h':(s++l)[t]? =amL b:=by
  have:=(ww.1 h).1
  rw [AC this];exact h
 cases b with
 |arr r l=>exact .inl ⟨l,h',rfl,fun _=>rfl⟩
 |dead=>exact h'
 |box cs=>exact .inl ⟨cs,h'⟩
 |_=>trivial
theorem Fr.trans {bad:List Nat} {a b c:List SB} (h:Fr bad a b) (k:Fr bad b c):Fr bad a c:=fun t x hx=>by
 have h1:=h t x hx;cases x with
 |arr r l=>
  rcases h1 with ⟨l',h2,h3,h4⟩|h2
  · have k1:=k t _ h2
    rcases k1 with ⟨l2,k2,k3,k4⟩|k2
    · exact .inl ⟨l2,k2,k3.trans h3,fun hb=>(k4 hb).trans (h4 hb)⟩
    exact .inr k2
  exact .inr (k t _ h2)
 |dead=>exact k t _ h1
 |box cs=>
  rcases h1 with ⟨c2,h2⟩|h2
  · exact k t _ h2
  exact .inr (k t _ h2)
 |_=>trivial
theorem DS {α:Type} {l m:List α} {i:Int} (h:(aJ l i).isSome=amN) (hl:(amK m)=amK l):(aJ m i).isSome=amN:=by
 cases i with
 |ofNat n=>
  simp only [aJ] at h ⊢;rw [agB] at h;obtain ⟨a,ha⟩:=h
  have:=(ww.1 ha).1
  rw [F0s (by omega)];rfl
 |negSucc n=>simp [aJ] at h
mutual
theorem R.fr {bad:List Nat} {s s':List SB} (hf:Fr bad s s'): ∀{v:SV} {p:PV},R s v p->R s' (WX bad v) p
 | .iU,_,_=>trivial
 | .undef,_,h=>h
 | .jA,_,h=>h
 | .dU,_,h=>h
 | .int _ _,_,h=>h
 | .bool _,_,h=>h
 | .str _,_,h=>h
 | .agg cs,_,h=>by obtain ⟨ps,rfl,h⟩:=h;exact ⟨ps,rfl,RL.fr hf h⟩
 | .cw cs,_,h=>by obtain ⟨ps,rfl,h⟩:=h;exact ⟨ps,rfl,RL.fr hf h⟩
 | .sl _ _,_,h=>h
 | .nil _ _,_,h=>h
 | .own t ex,_,h=>by
  obtain ⟨e,n,rfl,h⟩:=h;refine ⟨e,n,rfl,?_⟩;rcases h with ⟨r,l,h1,h2,h3⟩|h1
  · rcases hf t _ h1 with ⟨l',k1,k2,_⟩|k1
    · exact .inl ⟨r,l',k1,h2,by rw [h3,k2]⟩
    exact .inr k1
  exact .inr (hf t _ h1)
 | .pre t len cap ex,_,h=>by
  obtain ⟨e,rfl,h⟩:=h;refine ⟨e,rfl,?_⟩;rcases h with ⟨r,l,h1,h2⟩|h1|⟨cs,h1,h2⟩
  · rcases hf t _ h1 with ⟨l',k1,_,_⟩|k1
    · exact .inl ⟨r,l',k1,h2⟩
    exact .inr (.inl k1)
  · exact .inr (.inl (hf t _ h1))
  rcases hf t _ h1 with ⟨c2,k1⟩|k1
  · exact .inr (.inr ⟨c2,k1,h2⟩)
  exact .inr (.inl k1)
 | .part t off len cap ex,_,h=>by
  obtain ⟨e,rfl,h⟩:=h;refine ⟨e,rfl,?_⟩;rcases h with ⟨r,l,h1,h2⟩|h1|⟨cs,h1,h2⟩
  · rcases hf t _ h1 with ⟨l',k1,_,_⟩|k1
    · exact .inl ⟨r,l',k1,h2⟩
    exact .inr (.inl k1)
  · exact .inr (.inl (hf t _ h1))
  rcases hf t _ h1 with ⟨c2,k1⟩|k1
  · exact .inr (.inr ⟨c2,k1,h2⟩)
  exact .inr (.inl k1)
 | .pa t r i a off,_,h=>by
  obtain ⟨rfl,h⟩:=h;simp only [WX];cases hb:has bad t with
  |true=>
   refine ⟨_,rfl,?_⟩;rcases h with ⟨l,h1,h2⟩|h1
   · rcases hf t _ h1 with ⟨l',k1,k2,_⟩|k1
     · exact .inl ⟨r,l',k1,DS (by rw [h2];rfl) k2⟩
     exact .inr k1
   exact .inr (hf t _ h1)
  |false=>
   refine ⟨rfl,?_⟩;rcases h with ⟨l,h1,h2⟩|h1
   · rcases hf t _ h1 with ⟨l',k1,_,k3⟩|k1
     · exact .inl ⟨l',k1,by rw [k3 hb];exact h2⟩
     exact .inr k1
   exact .inr (hf t _ h1)
 | .pb t i off,_,h=>by
  obtain ⟨e,rfl,h⟩:=h;refine ⟨e,rfl,?_⟩;rcases h with ⟨r,l,h1,h2⟩|h1
  · rcases hf t _ h1 with ⟨l',k1,k2,_⟩|k1
    · exact .inl ⟨r,l',k1,DS h2 k2⟩
    exact .inr k1
  exact .inr (hf t _ h1)
 | .bp _ _ _,_,h=>h
 | .bJ cs off,_,h=>by obtain ⟨ps,rfl,h⟩:=h;exact ⟨ps,rfl,RL.fr hf h⟩
 | .eV f a b,_,h=>by obtain ⟨pa,pb,rfl,h1,h2⟩:=h;exact ⟨pa,pb,rfl,RL.fr hf h1,RL.fr hf h2⟩
 | .mp _,_,h=>h
theorem RL.fr {bad:List Nat} {s s':List SB} (hf:Fr bad s s'): ∀{v:List SV} {p:List PV},RL s v p->RL s' (Ux bad v) p
 | [],_,h=>h
 |x::xs,_,h=>by
  obtain ⟨p,q,rfl,h1,h2⟩:=h.cons_inv;exact RL.cons (R.fr hf h1) (RL.fr hf h2)
end
mutual
theorem Qu: ∀v:SV,WX [] v=v
 | .iU| .undef| .jA| .dU| .int _ _| .bool _| .str _| .sl _ _| .nil _ _| .own _ _| .pre _ _ _ _| .part _ _ _ _ _| .pb _ _ _| .bp _ _ _| .mp _=>rfl
 | .agg cs=>by simp only [WX,tU cs]
 | .cw cs=>by simp only [WX,tU cs]
 | .bJ cs _=>by simp only [WX,tU cs]
 | .eV _ a b=>by simp only [WX,tU a,tU b]
 | .pa t r i a off=>by simp [WX,has]
theorem tU: ∀v:List SV,Ux [] v=v
 | []=>rfl
 |x::xs=>by simp only [Ux,Qu x,tU xs]
end
theorem R.ext {s s':List SB} (hf:Fr [] s s') {v:SV} {p:PV} (h:R s v p):R s' v p:=by
 have:=R.fr hf h
 rwa [Qu] at this
theorem RL.ext {s s':List SB} (hf:Fr [] s s') {v:List SV} {p:List PV} (h:RL s v p):RL s' v p:=by
 have:=RL.fr hf h
 rwa [tU] at this
theorem RB.fr {bad:List Nat} {s s':List SB} (hf:Fr bad s s') {b:SB} {p:jW} (h:RB s b p):RB s' (XH bad b) p:=by
 cases b with
 |box cs=>obtain ⟨ps,rfl,h⟩:=h;exact ⟨ps,rfl,RL.fr hf h⟩
 |_=>exact h
theorem RB.ext {s s':List SB} (hf:Fr [] s s') {b:SB} {p:jW} (h:RB s b p):RB s' b p:=by
 cases b with
 |box cs=>obtain ⟨ps,rfl,h⟩:=h;exact ⟨ps,rfl,RL.ext hf h⟩
 |_=>exact h
theorem dZ.fr {bad:List Nat} {s s':List SB} (hf:Fr bad s s'): ∀{e:SE} {p:Env},dZ s e p->dZ s' (dgE bad e) p
 | [],_,h=>h
 |(t,v)::r,_,h=>by
  obtain ⟨p,q,rfl,h1,h2⟩:=h;exact ⟨p,q,rfl,R.fr hf h1,dZ.fr hf h2⟩
theorem dZ.ext {s s':List SB} (hf:Fr [] s s'): ∀{e:SE} {p:Env},dZ s e p->dZ s' e p
 | [],_,h=>h
 |(t,v)::r,_,h=>by
  obtain ⟨p,q,rfl,h1,h2⟩:=h;exact ⟨p,q,rfl,R.ext hf h1,dZ.ext hf h2⟩
theorem cN.app {s:List SB} {p:cL} (h:cN s p) {l:List SB} {q:cL} (hl:(amK q)=amK l) (hb: ∀(j:Nat) (b:SB),l[j]? =amL b-> ∃x,q[j]? =amL x/\RB (s++l) b x):cN (s++l) (p++q) where
 len:=by simp [h.len,hl]
 at_:=fun t b ht=>by
  rcases afI t (amK s) with dM|WQ
  · rw [AC dM] at ht
    obtain ⟨x,h1,h2⟩:=h.at_ t b ht;exact ⟨x,by rw [AC (by rw [h.len];exact dM)];exact h1,h2.ext (Fr.app [] s l)⟩
  rw [Do WQ] at ht
  obtain ⟨x,h1,h2⟩:=hb _ b ht;exact ⟨x,by rw [Do (by rw [h.len];exact WQ),h.len];exact h1,h2⟩
theorem rQ (ts:List Nat): ∀(s:List SB) (t:Nat),(Cz ts s)[t]? =(s[t]?).map (XH ts)
 | [],t=>by simp [Cz]
 |b::r,0=>by simp [Cz]
 |b::r,t+1=>by simp [Cz,rQ ts r t]
theorem wJ (ts:List Nat): ∀(s:List SB),(Cz ts s).length=amK s
 | []=>rfl
 |b::r=>by simp [Cz,wJ ts r]
theorem Fr.dg {bad ts:List Nat} {s s':List SB} (h:Fr bad s s'):Fr bad s (Cz ts s'):=fun t b hb=>by
 have h1:=h t b hb;cases b with
 |arr r l=>
  rcases h1 with ⟨l',h2,h3,h4⟩|h2
  · exact .inl ⟨l',by rw [rQ,h2];rfl,h3,h4⟩
  exact .inr (by rw [rQ,h2];rfl)
 |dead=>show (Cz ts s')[t]? =_;rw [rQ,h1];rfl
 |box cs=>
  rcases h1 with ⟨c2,h2⟩|h2
  · exact .inl ⟨Ux ts c2,by rw [rQ,h2];rfl⟩
  exact .inr (by rw [rQ,h2];rfl)
 |_=>trivial
theorem Ip {s:List SB}: ∀(r:List PT) (a:RT r),RL s (RT.sv r a) (RT.pv r a)
 | [],_=>rfl
 | [p],a=>by refine RL.cons ?_ RL.nil;cases p<;>rfl
 |p::q::r,a=>by refine RL.cons ?_ (Ip (q::r) a.2);cases p<;>rfl
theorem zk {s:List SB}: ∀(r:List PT) (a:RT r) {ps:List PV},RL s (RT.sv r a) ps->ps=RT.pv r a
 | [],_,ps,h=>h
 | [p],a,ps,h=>by
  obtain ⟨x,q,rfl,h1,h2⟩:=h.cons_inv;have Sh:q=[]:=h2;subst Sh;cases p<;>(have NR:=h1;simp only [PT.sv,R] at NR;rw [NR];rfl)
 |p::q::r,a,ps,h=>by
  obtain ⟨x,qs,rfl,h1,h2⟩:=h.cons_inv;rw [zk (q::r) a.2 h2];cases p<;>(have NR:=h1;simp only [PT.sv,R] at NR;rw [NR];rfl)
theorem RT.plain: ∀(r:List PT) (a:RT r),(RT.pv r a).all PV.plain=amN
 | [],_=>rfl
 | [p],a=>by cases p<;>rfl
 |p::q::r,a=>by
  have:=RT.plain (q::r) a.2
  cases p<;>(simp only [RT.pv,alX,this,afZ];rfl)
theorem R.cells {s:List SB} {v:SV} {p:PV} (h:R s v p) (hj:v≠ .iU):RL s v.cells p.cells:=by
 cases v with
 |iU=>exact absurd rfl hj
 |agg cs=>obtain ⟨ps,rfl,h⟩:=h;exact h
 |undef=>rw [show p= .undef from h];exact RL.cons rfl RL.nil
 |jA=>rw [show p= .jA from h];exact RL.cons rfl RL.nil
 |dU=>rw [show p= .dU from h];exact RL.cons rfl RL.nil
 |int k n=>rw [show p= .int k n from h];exact RL.cons rfl RL.nil
 |bool b=>rw [show p= .bool b from h];exact RL.cons rfl RL.nil
 |str x=>rw [show p= .str x from h];exact RL.cons rfl RL.nil
 |sl r l=>rw [show p=_ from h];exact RL.cons rfl RL.nil
 |nil e c=>rw [show p=_ from h];exact RL.cons rfl RL.nil
 |bp t n o=>rw [show p=_ from h];exact RL.cons rfl RL.nil
 |mp t=>rw [show p=_ from h];exact RL.cons rfl RL.nil
 |cw cs=>obtain ⟨ps,rfl,h⟩:=h;exact RL.cons ⟨ps,rfl,h⟩ RL.nil
 |own t ex=>obtain ⟨e,n,rfl,h⟩:=h;exact RL.cons ⟨e,n,rfl,h⟩ RL.nil
 |pre t a b c=>obtain ⟨e,rfl,h⟩:=h;exact RL.cons ⟨e,rfl,h⟩ RL.nil
 |part t o a b c=>obtain ⟨e,rfl,h⟩:=h;exact RL.cons ⟨e,rfl,h⟩ RL.nil
 |pa t r i a o=>obtain ⟨rfl,h⟩:=h;exact RL.cons ⟨rfl,h⟩ RL.nil
 |pb t i o=>obtain ⟨e,rfl,h⟩:=h;exact RL.cons ⟨e,rfl,h⟩ RL.nil
 |bJ cs o=>obtain ⟨ps,rfl,h⟩:=h;exact RL.cons ⟨ps,rfl,h⟩ RL.nil
 |eV f a b=>obtain ⟨pa,pb,rfl,h⟩:=h;exact RL.cons ⟨pa,pb,rfl,h⟩ RL.nil
theorem R.qj {s:List SB} {v:SV} {p:PV} (h:R s v p) (ho:v.qj=amN):p.qj=amN:=by
 cases v with
 |iU|undef|jA|agg _|cw _=>cases ho
 |dU|int _ _|bool _|str _|sl _ _|nil _ _|bp _ _ _|mp _=>rw [show p=_ from h];rfl
 |own t ex=>obtain ⟨e,n,rfl,h⟩:=h;rfl
 |pre t a b c=>obtain ⟨e,rfl,h⟩:=h;rfl
 |part t o a b c=>obtain ⟨e,rfl,h⟩:=h;rfl
 |pa t r i a o=>obtain ⟨rfl,h⟩:=h;rfl
 |pb t i o=>obtain ⟨e,rfl,h⟩:=h;rfl
 |bJ cs o=>obtain ⟨ps,rfl,h⟩:=h;rfl
 |eV f a b=>obtain ⟨pa,pb,rfl,h⟩:=h;rfl
theorem RL.yl {s:List SB}: ∀{cs:List SV} {ps:List PV},RL s cs ps->Vm.yl cs=amN->ps.all PV.qj=amN
 | [],ps,h,_=>by rw [show ps=[] from h];rfl
 |x::xs,ps,h,ho=>by
  obtain ⟨p,q,rfl,h1,h2⟩:=h.cons_inv;simp only [Vm.yl,v6] at ho;simp only [alX,v6];exact ⟨h1.qj ho.1,h2.yl ho.2⟩
theorem R.stored {s:List SB} {v:SV} {p:PV} {w:List SV} (h:R s v p) (hs:v.stored=amL w): ∃q,p.stored=amL q/\RL s w q:=by
 unfold SV.stored at hs;cases ha:Vm.yl v.cells with
 |false=>rw [ha] at hs;cases hs
 |true=>
  rw [ha] at hs;injection hs with hs;subst hs;have hj:v≠ .iU:=by intro e;subst e;cases ha
  have hc:=h.cells hj;exact ⟨p.cells,by unfold PV.stored;rw [pp (hc.yl ha)],hc⟩
theorem R.ofRow {s:List SB} {v:SV} {p:PV} {r:List PT} {a:RT r} (h:R s v p) (hr:RT.of r v.cells=amL a):p.cM=amL (RT.pv r a)/\amK v.cells=(amK r):=by
 have hc:=RT.pQ hr;have hl:(amK v.cells)=(amK r):=by rw [hc,RT.JM]
 refine ⟨?_,hl⟩;have hj:v≠ .iU:=by
  intro e;subst e;cases r with
  |nil=>simp [SV.cells,RT.of] at hr
  |cons p q=>cases q with
   |nil=>cases p<;>simp [SV.cells,RT.of,PT.of] at hr
   |cons _ _=>simp only [SV.cells,RT.of] at hr;split at hr<;>cases hr<;>(rename_i x y h1 h2;simp at h2)
 have h1:=h.cells hj;rw [hc] at h1;have h2:=zk r a h1;unfold PV.cM;rw [h2,pp (RT.plain r a)]
theorem tV {s:List SB} {agg:Option Nat} {off:Nat} {cs:List SV} {ps:List PV} {v:SV} (h:RL s cs ps) (hp:zZ agg off cs=amL v): ∃p,part agg off ps=amL p/\R s v p:=by
 cases agg with
 |none=>
  obtain ⟨p,h1,h2⟩:=h.nth hp;exact ⟨p,h1,h2⟩
 |some n=>
  simp only [zZ] at hp;cases hb:M2 (off+n) (amK cs) with
  |false=>rw [hb] at hp;cases hp
  |true=>
   rw [hb] at hp;injection hp with hp;subst hp
   have:off+n<=(amK ps):=by rw [h.m9];exact UV hb
   exact ⟨.agg ((ps.drop off).take n),by simp only [part,pp this],_,rfl,(h.drop off).take n⟩
theorem zl {s:List SB} {off:Nat} {new old:List SV} {pn po:List PV} (h:RL s new pn) (k:RL s old po):RL s (pO off new old) (nX off pn po):=by
 unfold pO nX;rw [h.m9];exact ((k.take off).append h).append (k.drop _)
theorem Qv {s:List SB} {ps:cL} {v:SV} {p:PV} {r:List PT} {l:List (RT r)} (hs:cN s ps) (h:R s v p) (hc:z6 s v=amL ⟨r,l⟩):
 rowsOf ps (amK r) p=amL (l.map (RT.pv r))/\iQ p=wF v:=by
 cases v with
 |sl q m=>
  have CL:(⟨q,m⟩:Rows)=⟨r,l⟩:=by injection hc
  cases CL;rw [show p=_ from h];refine ⟨?_,rfl⟩;cases l with
  |nil=>rfl
  |cons a l=>simp [rowsOf]
 |own t ex=>
  simp only [z6,cB] at hc;split at hc
  · rename_i q m cq
    have CL:(⟨q,m⟩:Rows)=⟨r,l⟩:=by injection hc
    cases CL;obtain ⟨e,n,rfl,de⟩:=h;rcases de with ⟨q',m',h1,rfl,rfl⟩|h1
    · rw [cq] at h1
      injection h1 with h1;cases h1;obtain ⟨b,h2,h3⟩:=hs.at_ t _ cq;rw [show b=_ from h3] at h2;refine ⟨?_,rfl⟩;simp only [rowsOf,ae8,if_true,h2,afe];rw [afa (by simp)]
    rw [cq] at h1;cases h1
  cases hc
 |pre t len cap ex=>
  simp only [z6,cB] at hc;split at hc
  · rename_i q m cq
    have CL:(⟨q,m.take len⟩:Rows)=⟨r,l⟩:=by injection hc
    cases CL;obtain ⟨e,rfl,de⟩:=h;rcases de with ⟨q',m',h1,rfl⟩|h1|⟨_,h1,_⟩
    · rw [cq] at h1
      injection h1 with h1;cases h1;obtain ⟨b,h2,h3⟩:=hs.at_ t _ cq;rw [show b=_ from h3] at h2;refine ⟨?_,rfl⟩;simp only [rowsOf,ae8,if_true,h2];simp
    · rw [cq] at h1;cases h1
    rw [cq] at h1;cases h1
  cases hc
 |part t off len cap ex=>
  simp only [z6,cB] at hc;split at hc
  · rename_i q m cq
    have CL:(⟨q,(m.drop off).take len⟩:Rows)=⟨r,l⟩:=by injection hc
    cases CL;obtain ⟨e,rfl,de⟩:=h;rcases de with ⟨q',m',h1,rfl⟩|h1|⟨_,h1,_⟩
    · rw [cq] at h1
      injection h1 with h1;cases h1;obtain ⟨b,h2,h3⟩:=hs.at_ t _ cq;rw [show b=_ from h3] at h2;refine ⟨?_,rfl⟩;simp only [rowsOf,ae8,if_true,h2];simp
    · rw [cq] at h1;cases h1
    rw [cq] at h1;cases h1
  cases hc
 |_=>cases hc
end Go.Vm
/- Operation by operation: what the typed machine does, the logical machine does; the easy ones. -/
namespace Go.Vm
structure Good (s:List SB) (ps:cL) (sr:fX) (pr:nY):Prop where
 rd:pr.rd=sr.rd
 fr:pr.fr=sr.fr
 wr:pr.wr.map (·.1)=yp sr.wr
 nw:wg pr.wr=amN
 nl:(amK pr.news)=amK sr.news
 aD:cN (sr.nF s) (K4 (gg pr.wr ps) pr.news)
 v:R (sr.nF s) sr.v pr.v
 fra:Fr (yp sr.wr) s (sr.nF s)
section
variable {s : List SB} {ps : cL}
theorem Good.val (hS:cN s ps) {v:SV} {p:PV} {rd fr:List Nat} (hv:R s v p):Good s ps {v,rd,fr} {v:=p,rd,fr} where
 rd:=rfl
 fr:=rfl
 wr:=rfl
 nw:=rfl
 nl:=rfl
 aD:=by simp only [fX.nF,mB,ae2,gg,K4];exact hS
 v:=by simp only [fX.nF,mB,ae2];exact hv
 fra:=by simp only [fX.nF,mB,ae2];exact Fr.refl _ _
theorem Good.news (hS:cN s ps) {v:SV} {p:PV} {l:List SB} {q:cL} {rd:List Nat} (hl:(amK q)=amK l) (hb: ∀(j:Nat) (b:SB),l[j]? =amL b-> ∃x,q[j]? =amL x/\RB (s++l) b x) (hv:R (s++l) v p):
 Good s ps {v,news:=l,rd} {v:=p,news:=q,rd} where
 rd:=rfl
 fr:=rfl
 wr:=rfl
 nw:=rfl
 nl:=hl
 aD:=by simp only [fX.nF,mB,gg,rF];exact hS.app hl hb
 v:=by simp only [fX.nF,mB];exact hv
 fra:=by simp only [fX.nF,mB];exact Fr.app _ _ _
theorem Good.new (hS:cN s ps) {v:SV} {p:PV} {b:SB} {q:jW} {rd:List Nat} (hb:RB (s++[b]) b q) (hv:R (s++[b]) v p):Good s ps {v,news:=[b],rd} {v:=p,news:=[q],rd}:=
 Good.news hS rfl (fun j x h=>by
  cases j with
  |zero=>simp at h;subst h;exact ⟨q,rfl,hb⟩
  |succ j=>simp at h) hv
def Qw (b0 b:SB):Prop:=
 match b0 with
 | .arr r l=>(∃l',b= .arr r l'/\amK l'=amK l)\/b= .dead
 | .dead=>b= .dead
 | .box _=>(∃cs,b= .box cs)\/b= .dead
 |_=>True
theorem Fr.set {t:Nat} {b0 b:SB} (h0:s[t]? =amL b0) (hk:Qw b0 b):Fr [t] s (s.set t b):=fun u x hu=>by
 by_cases NS:t=u
 · subst NS
   rw [h0] at hu;injection hu with hu;subst hu;have dM:=(ww.1 h0).1;have hb:(s.set t b)[t]? =amL b:=by simp [dM]
   cases b0 with
   |arr r l=>
    rcases hk with ⟨l',rfl,hl⟩|rfl
    · exact .inl ⟨l',hb,hl,fun h=>by simp [has] at h⟩
    exact .inr hb
   |dead=>rw [show b= .dead from hk] at hb ⊢;exact hb
   |box cs=>
    rcases hk with ⟨c2,rfl⟩|rfl
    · exact .inl ⟨c2,hb⟩
    exact .inr hb
   |_=>trivial
 have hb:(s.set t b)[u]? =amL x:=by rw [IR];simp [NS,hu]
 cases x with
 |arr r l=>exact .inl ⟨l,hb,rfl,fun _=>rfl⟩
 |dead=>exact hb
 |box cs=>exact .inl ⟨cs,hb⟩
 |_=>trivial
theorem cN.put (hS:cN s ps) {t:Nat} {b0 b:SB} {q:jW} (h0:s[t]? =amL b0) (hk:Qw b0 b) (hq:RB (Cz [t] (s.set t b)) (XH [t] b) q):cN (Cz [t] (s.set t b)) (ps.set t q) where
 len:=by simp [wJ,hS.len]
 at_:=fun u x hu=>by
  have dM:=(ww.1 h0).1;rw [rQ] at hu
  by_cases NS:t=u
  · subst NS
    have hb:(s.set t b)[t]? =amL b:=by simp [dM]
    rw [hb] at hu;simp at hu;subst hu;exact ⟨q,by rw [IR];simp [hS.len,dM],hq⟩
  rw [IR] at hu
  simp only [NS,if_false,ae9] at hu;obtain ⟨y,hy,rfl⟩:=hu;obtain ⟨q',h1,h2⟩:=hS.at_ u y hy;exact ⟨q',by rw [IR];simp [NS,h1],h2.fr (Fr.dg (Fr.set h0 hk))⟩
theorem Good.put (hS:cN s ps) {v:SV} {p:PV} {t:Nat} {b0 b:SB} {q:jW} {l:List SB} {ql:cL} {rd:List Nat} (h0:s[t]? =amL b0) (hk:Qw b0 b) (hq:RB (Cz [t] (s.set t b)) (XH [t] b) q)
 (hl:(amK ql)=amK l) (hb: ∀(j:Nat) (x:SB),l[j]? =amL x-> ∃y,ql[j]? =amL y/\RB (Cz [t] (s.set t b)++l) x y) (hv:R (Cz [t] (s.set t b)++l) v p):
 Good s ps {v,wr:=[(t,b)],news:=l,rd} {v:=p,wr:=[(t,q)],news:=ql,rd} where
 rd:=rfl
 fr:=rfl
 wr:=rfl
 nw:=rfl
 nl:=hl
 aD:=by
  simp only [fX.nF,mB,gg,rF,yp,rh,BO];exact (hS.put h0 hk hq).app hl hb
 v:=by simp only [fX.nF,mB,yp,rh,BO];exact hv
 fra:=by
  simp only [fX.nF,mB,yp,rh,BO];exact (Fr.dg (Fr.set h0 hk)).trans (Fr.app _ _ _)
theorem Good.UE (hS:cN s ps) {t:Nat} {b0 b:SB} {q:jW} {rd:List Nat} (h0:s[t]? =amL b0) (hk:Qw b0 b) (hq:RB (Cz [t] (s.set t b)) (XH [t] b) q):
 Good s ps {v:= .undef,wr:=[(t,b)],rd} {v:= .undef,wr:=[(t,q)],rd}:=
 Good.put hS h0 hk hq rfl (fun j x h=>by simp at h) rfl
end
section
variable {R' ρ : Type} {w : R' -> ρ} {y : ρ}
theorem bL {α:Type} {x:Option α} {k:α->gq R'} (h:lE x k ρ w=amL y): ∃a,x=amL a/\k a ρ w=amL y:=by
 cases x with
 |none=>cases h
 |some a=>exact ⟨a,rfl,h⟩
theorem cR {α:Type} {x:Option α} {k:α->gq R'} (h:lh x k ρ w=amL y): ∃a,x=amL a/\k a ρ w=amL y:=Ou h
theorem fv {c:Bool} {a b:gq R'} (h:gB c a b ρ w=amL y):(c=amN/\a ρ w=amL y)\/(c=amO/\b ρ w=amL y):=Ov h
theorem cZ {c:Bool} {a:gq R'} (h:(bif c then a else aO) ρ w=amL y):c=amN/\a ρ w=amL y:=by
 cases c
 · cases h
 exact ⟨rfl,h⟩
theorem sf {c:Bool} {a:gq R'} (h:(bif c then aO else a) ρ w=amL y):c=amO/\a ρ w=amL y:=by
 cases c
 · exact ⟨rfl,h⟩
 cases h
theorem ir {c:Bool} {a:gq R'} (h:gB c a aO ρ w=amL y):c=amN/\a ρ w=amL y:=by
 rcases fv h with ⟨h1,h2⟩|⟨_,h2⟩
 · exact ⟨h1,h2⟩
 cases h2
theorem wK {c:Bool} {a:gq R'} (h:gB c aO a ρ w=amL y):c=amO/\a ρ w=amL y:=by
 rcases fv h with ⟨_,h2⟩|⟨h1,h2⟩
 · cases h2
 exact ⟨h1,h2⟩
end
def gO {R':Type} (s:List SB) (ps:cL) (po:Option nY) (k:fX->gq R') (ρ:Type) (w:R'->ρ) (y:ρ):Prop:=
 ∃sr pr,po=amL pr/\Good s ps sr pr/\k sr ρ w=amL y
section
variable {R' ρ : Type} {w : R' -> ρ} {y : ρ} {s : List SB} {ps : cL} {e : SE} {pe : Env} {z : List Nat} {k : fX -> gq R'}
theorem gO.val (hS:cN s ps) {po:Option nY} {v:SV} {p:PV} (h:k {v} ρ w=amL y) (hp:po=amL {v:=p}) (hv:R s v p):gO s ps po k ρ w y:=
 ⟨_,_,hp,Good.val hS hv,h⟩
theorem gO.rd (hS:cN s ps) {po:Option nY} {v:SV} {p:PV} {rd:List Nat} (h:k {v,rd} ρ w=amL y) (hp:po=amL {v:=p,rd}) (hv:R s v p):gO s ps po k ρ w y:=
 ⟨_,_,hp,Good.val hS hv,h⟩
theorem ng (hE:dZ s e pe) {x:fH} {a:IntKind} {n:Int} (h:bW e x= .int a n):x.ev pe= .int a n:=by
 have:=dN hE x;rw [h] at this;exact this
theorem BP (hE:dZ s e pe) {x:fH} {b:Bool} (h:bW e x= .bool b):x.ev pe= .bool b:=by
 have:=dN hE x;rw [h] at this;exact this
theorem Si (hE:dZ s e pe) {x:fH} {v:SV} (h:bW e x=v):R s v (x.ev pe):=by
 have:=dN hE x;rwa [h] at this
theorem L0 (k:IntKind):fE k k=amN:=by cases k<;>rfl
theorem OM (hS:cN s ps) {op:BinOp} {a:IntKind} {m n:Int} (h:Oy op a m n (ofV k) ρ w=amL y): ∃p,arith op a m n=amL p/\gO s ps (amL {v:=p}) k ρ w y:=by
 cases op with
 |quo=>
  obtain ⟨h1,h2⟩:=wK h;have hn:n≠0:=by intro e;subst e;cases h1
  exact ⟨_,by simp only [arith,rc hn],gO.val hS h2 rfl rfl⟩
 |rem=>
  obtain ⟨h1,h2⟩:=wK h;have hn:n≠0:=by intro e;subst e;cases h1
  exact ⟨_,by simp only [arith,rc hn],gO.val hS h2 rfl rfl⟩
 |shl=>cases h
 |shr=>cases h
 |_=>exact ⟨_,rfl,gO.val hS h rfl rfl⟩
theorem XM (hE:dZ s e pe) (hS:cN s ps) {op:BinOp} {a b:fH} (h:mA e s z (.bin op a b) k ρ w=amL y):gO s ps (bG pe ps z (.bin op a b)) k ρ w y:=by
 simp only [mA] at h;generalize ha:bW e a=va at h;cases va with
 |int ka m=>
  generalize hb:bW e b=vb at h;cases vb with
  |int kb n=>
   have h1:=ng hE ha;have h2:=ng hE hb;have key:(op≠ .shl)->(op≠ .shr)->(bif fE ka kb then Oy op ka m n (ofV k) else aO) ρ w=amL y->gO s ps (bG pe ps z (.bin op a b)) k ρ w y:=by
    intro n1 n2 h;obtain ⟨hk,h⟩:=cZ h;obtain ⟨p,hp,hs⟩:=OM hS h
    have:bG pe ps z (.bin op a b)=amL {v:=p}:=by
     simp only [bG,h1,h2];cases op<;>first|exact absurd rfl n1|exact absurd rfl n2|(simp only [RC,hk,if_true,hp];rfl)
    rw [this];exact hs
   cases op with
   |shl=>
    obtain ⟨hc,h⟩:=wK h;have CL: ¬n<0:=by simpa using hc
    exact gO.val hS h (by simp only [bG,h1,h2,RC,CB,rc CL];rfl) rfl
   |shr=>
    obtain ⟨hc,h⟩:=wK h;have CL: ¬n<0:=by simpa using hc
    exact gO.val hS h (by simp only [bG,h1,h2,RC,CB,rc CL];rfl) rfl
   |_=>exact key (by intro e;cases e) (by intro e;cases e) h
  |_=>cases h
 |_=>cases h
theorem UF (hE:dZ s e pe) (hS:cN s ps) {neg:Bool} {a b:fH} (h:mA e s z (.KX neg a b) k ρ w=amL y):gO s ps (bG pe ps z (.KX neg a b)) k ρ w y:=by
 simp only [mA] at h;generalize ha:bW e a=va at h;cases va with
 |bool x=>
  generalize hb:bW e b=vb at h;cases vb with
  |bool x'=>
   refine gO.val hS h ?_ rfl;simp only [bG,BP hE ha,BP hE hb];cases neg<;>rfl
  |_=>cases h
 |_=>cases h
theorem UG: ∀{xs ys:List SV} {ps qs:List PV} {r:Bool},RL s xs ps->RL s ys qs->eqS xs ys=amL r->dD ps qs=amL r
 | [],[],ps,qs,r,h1,h2,h=>by rw [show ps=[] from h1,show qs=[] from h2];exact h
 |x::xs,b::ys,ps,qs,r,h1,h2,h=>by
  obtain ⟨p,ps,rfl,a1,a2⟩:=h1.cons_inv;obtain ⟨q,qs,rfl,b1,b2⟩:=h2.cons_inv;simp only [eqS] at h;split at h
  · rename_i ka m kb n
    have a1':p= .int ka m:=a1;have b1':q= .int kb n:=b1;subst a1' b1';cases hk:fE ka kb with
    |false=>rw [hk] at h;cases h
    |true=>
     rw [hk] at h;have hc:qV (.int ka m) (.int kb n)=amL (m==n):=by simp only [qV,hk,if_true]
     simp only [dD,hc];cases xs with
     |nil=>
      cases ys with
      |nil=>
       simp only [lw,EQ] at h;subst h;rw [show ps=[] from a2,show qs=[] from b2];cases m==n<;>rfl
      |cons _ _=>cases h
     |cons x2 xs2=>
      simp only [lw] at h;split at h
      · rename_i r' hr
        injection h with h;subst h;rw [UG a2 b2 hr];cases m==n<;>rfl
      cases h
  cases h
 | [],_::_,ps,qs,r,h1,h2,h=>by cases h
 |_::_,[],ps,qs,r,h1,h2,h=>by cases h
theorem XN (hE:dZ s e pe) (hS:cN s ps) {n:Nat} {neg:Bool} {a b:fH} (h:mA e s z (.eqc n neg a b) k ρ w=amL y):gO s ps (bG pe ps z (.eqc n neg a b)) k ρ w y:=by
 simp only [mA] at h;generalize ha:bW e a=va at h;cases va with
 |agg xs=>
  generalize hb:bW e b=vb at h;cases vb with
  |agg ys=>
   obtain ⟨hl,h⟩:=cZ h;obtain ⟨r,hr,h⟩:=bL h;obtain ⟨p,hp,h1⟩:=Si hE ha;obtain ⟨q,hq,h2⟩:=Si hE hb;refine gO.val hS h ?_ rfl;simp only [bG,hp,hq,h1.m9,h2.m9];rw [pp hl,UG h1 h2 hr];cases neg<;>rfl
  |_=>cases h
 |_=>cases h
theorem agM (hE:dZ s e pe) (hS:cN s ps) {op:UnOp} {a:fH} (h:mA e s z (.un op a) k ρ w=amL y):gO s ps (bG pe ps z (.un op a)) k ρ w y:=by
 simp only [mA] at h;cases op with
 |neg=>
  dsimp only at h;generalize ha:bW e a=va at h;cases va with
  |int ka n=>exact gO.val hS h (by simp only [bG,ng hE ha];rfl) rfl
  |_=>cases h
 |not=>
  dsimp only at h;generalize ha:bW e a=va at h;cases va with
  |bool b=>exact gO.val hS h (by simp only [bG,BP hE ha];rfl) rfl
  |_=>cases h
 |_=>cases h
theorem UH (hE:dZ s e pe) (hS:cN s ps) {a:IntKind} {x:fH} (h:mA e s z (.conv a x) k ρ w=amL y):gO s ps (bG pe ps z (.conv a x)) k ρ w y:=by
 simp only [mA] at h;generalize ha:bW e x=va at h;cases va with
 |int ka n=>exact gO.val hS h (by simp only [bG,ng hE ha]) rfl
 |_=>cases h
theorem XO (hE:dZ s e pe) (hS:cN s ps) {x:fH} (h:mA e s z (.len x) k ρ w=amL y):gO s ps (bG pe ps z (.len x)) k ρ w y:=by
 simp only [mA] at h;have hx:=dN hE x;generalize bW e x=v at h hx;cases v with
 |nil e' c=>exact gO.val hS h (by simp only [bG,show x.ev pe= .sl e' c [] from hx];rfl) rfl
 |pre t len cap ex=>
  obtain ⟨e',hx,_⟩:=hx;exact gO.val hS h (by simp only [bG,hx]) rfl
 |part t off len cap ex=>
  obtain ⟨e',hx,_⟩:=hx;exact gO.val hS h (by simp only [bG,hx]) rfl
 |sl q m=>
  exact gO.val hS h (by simp only [bG,show x.ev pe=_ from hx,ae3]) rfl
 |own t ex=>
  obtain ⟨c,hc,h⟩:=bL h;simp only [z6,cB] at hc;split at hc
  · rename_i q m cq
    injection hc with hc;subst hc;obtain ⟨e',n,hx,de⟩:=hx;rcases de with ⟨q',m',h1,rfl,rfl⟩|h1
    · rw [cq] at h1;injection h1 with h1;cases h1
      exact gO.val hS h (by simp only [bG,hx]) rfl
    rw [cq] at h1;cases h1
  cases hc
 |_=>obtain ⟨c,hc,h⟩:=bL h;cases hc
theorem BQ: ∀{l:List (Nat×Nat×SV)} {pl:List (Nat×Nat×PV)} {cs:List SV} {pc:List PV} {r:List SV},
 (amK pl=amK l/\ ∀(j:Nat) (a:Nat×Nat×SV),l[j]? =amL a-> ∃b,pl[j]? =amL (a.1,a.2.1,b)/\R s a.2.2 b)->RL s cs pc->wG l cs=amL r-> ∃q,nv pl pc=amL q/\RL s r q
 | [],pl,cs,pc,r,hl,hc,h=>by
  have:pl=[]:=afW.1 hl.1
  subst this;injection h with h;subst h;exact ⟨pc,rfl,hc⟩
 |(off,sz,v)::l,pl,cs,pc,r,hl,hc,h=>by
  cases pl with
  |nil=>simp at hl
  |cons p pl=>
   obtain ⟨b,h1,h2⟩:=hl.2 0 _ rfl;simp at h1;subst h1;simp only [wG] at h;split at h
   · rename_i w hw
     obtain ⟨q,hq,hqr⟩:=h2.stored hw;cases XP:(NE (amK w) sz&&M2 (off+sz) (amK cs)) with
     |false=>rw [XP] at h;cases h
     |true=>
      rw [XP] at h;simp only [lw] at h;obtain ⟨q2,h3,h4⟩:=BQ (pl:=pl) ⟨by simpa using hl.1,fun j a ha=>hl.2 (j+1) a (by simpa using ha)⟩ (zl hqr hc) h
      refine ⟨q2,?_,h4⟩;simp only [nv,hq,hqr.m9,hc.m9];rw [pp XP];exact h3
   cases h
theorem L1 (hE:dZ s e pe): ∀(l:List (Nat×Nat×fH)),((l.map fun p=>(p.1,p.2.1,p.2.2.ev pe)).length=(ym e l).length/\ ∀(j:Nat) (a:Nat×Nat×SV),(ym e l)[j]? =amL a-> ∃b,(l.map fun p=>(p.1,p.2.1,p.2.2.ev pe))[j]? =amL (a.1,a.2.1,b)/\R s a.2.2 b)
 | []=>⟨rfl,fun j a h=>by simp [ym] at h⟩
 |p::l=>by
  obtain ⟨h1,h2⟩:=L1 hE l;refine ⟨by simp [ym] at h1 ⊢;omega,fun j a h=>?_⟩
  cases j with
  |zero=>simp [ym] at h;subst h;exact ⟨_,rfl,dN hE _⟩
  |succ j=>simp only [ym,afg] at h;obtain ⟨b,h3,h4⟩:=h2 j a h;exact ⟨b,by simpa using h3,h4⟩
theorem Sj (hE:dZ s e pe) (hS:cN s ps) {zero:List PV} {parts:List (Nat×Nat×fH)} (h:mA e s z (.build zero parts) k ρ w=amL y):gO s ps (bG pe ps z (.build zero parts)) k ρ w y:=by
 simp only [mA] at h;obtain ⟨cs,hc,h⟩:=bL h;obtain ⟨q,hq,hr⟩:=BQ (L1 hE parts) (wI s zero) hc;exact gO.val hS h (by simp only [bG,hq];rfl) ⟨q,rfl,hr⟩
theorem XQ (hE:dZ s e pe) (hS:cN s ps) {x:fH} (h:mA e s z (.box x) k ρ w=amL y):gO s ps (bG pe ps z (.box x)) k ρ w y:=by
 simp only [mA] at h;obtain ⟨cs,hc,h⟩:=bL h;obtain ⟨q,hq,hr⟩:=(dN hE x).stored hc;refine ⟨_,_,?_,Good.new hS (b:= .box cs) (q:= .box q) (v:= .bp (amK s) (amK cs) 0) (p:= .ptr (amK s) (amK cs) 0 0) (rd:=[]) ⟨q,rfl,hr.ext (Fr.app _ _ _)⟩ rfl,h⟩;simp only [bG,hq,hS.len,hr.m9]
theorem Sk (hS:cN s ps) {cells:List PV} (h:mA e s z (.alloc cells) k ρ w=amL y):gO s ps (bG pe ps z (.alloc cells)) k ρ w y:=by
 simp only [mA] at h;refine ⟨_,_,?_,Good.new hS (b:= .box (BF cells)) (q:= .box cells) (v:= .bp (amK s) (amK cells) 0) (p:= .ptr (amK s) (amK cells) 0 0) (rd:=[]) ⟨cells,rfl,wI _ _⟩ rfl,h⟩;simp only [bG,hS.len]
theorem UI (hE:dZ s e pe) (hS:cN s ps) {x:fH} (h:mA e s z (.KY x) k ρ w=amL y):gO s ps (bG pe ps z (.KY x)) k ρ w y:=by
 simp only [mA] at h;have hx:=dN hE x;generalize bW e x=v at h hx;cases v with
 |pa t r i a o=>exact gO.val hS h (by simp only [bG,hx.1]) ⟨rfl,hx.2⟩
 |pb t i o=>
  obtain ⟨e',h1,h2⟩:=hx;exact gO.val hS h (by simp only [bG,h1]) ⟨e',rfl,h2⟩
 |bp t n o=>exact gO.val hS h (by simp only [bG,show x.ev pe=_ from hx]) rfl
 |bJ c o=>
  obtain ⟨q,h1,h2⟩:=hx;exact gO.val hS h (by simp only [bG,h1]) ⟨q,rfl,h2⟩
 |eV f a b=>
  obtain ⟨pa,pb,h1,h2⟩:=hx;exact gO.val hS h (by simp only [bG,h1]) ⟨pa,pb,rfl,h2⟩
 |_=>cases h
theorem UJ (hE:dZ s e pe) (hS:cN s ps) {off:Nat} {x:fH} (h:mA e s z (.KZ off x) k ρ w=amL y):gO s ps (bG pe ps z (.KZ off x)) k ρ w y:=by
 simp only [mA] at h;have hx:=dN hE x;generalize bW e x=v at h hx;cases v with
 |pa t r i a o=>exact gO.val hS h (by simp only [bG,hx.1]) ⟨rfl,hx.2⟩
 |pb t i o=>
  obtain ⟨e',h1,h2⟩:=hx;exact gO.val hS h (by simp only [bG,h1]) ⟨e',rfl,h2⟩
 |bp t n o=>exact gO.val hS h (by simp only [bG,show x.ev pe=_ from hx]) rfl
 |bJ c o=>
  obtain ⟨q,h1,h2⟩:=hx;exact gO.val hS h (by simp only [bG,h1]) ⟨q,rfl,h2⟩
 |_=>cases h
theorem XS (hE:dZ s e pe) (hS:cN s ps) {agg:Option Nat} {off:Nat} {x:fH} (h:mA e s z (.iK agg off x) k ρ w=amL y):gO s ps (bG pe ps z (.iK agg off x)) k ρ w y:=by
 simp only [mA] at h;generalize hv:bW e x=v at h;cases v with
 |agg cs=>
  obtain ⟨v,h1,h⟩:=bL h;obtain ⟨q,h2,h3⟩:=Si hE hv;obtain ⟨p,h4,h5⟩:=tV h3 h1;exact gO.val hS h (by simp only [bG,h2,h4];rfl) h5
 |_=>cases h
theorem XT (hE:dZ s e pe) (hS:cN s ps) {i:Nat} {x:fH} (h:mA e s z (.ext i x) k ρ w=amL y):gO s ps (bG pe ps z (.ext i x)) k ρ w y:=by
 simp only [mA] at h;generalize hv:bW e x=v at h;cases v with
 |cw cs=>
  obtain ⟨v,h1,h⟩:=bL h;obtain ⟨q,h2,h3⟩:=Si hE hv;obtain ⟨p,h4,h5⟩:=h3.nth h1;exact gO.val hS h (by simp only [bG,h2,h4];rfl) h5
 |_=>cases h
theorem XU (hE:dZ s e pe) (hS:cN s ps) {f:FuncId} {a b:List fH} (h:mA e s z (.mkf f a b) k ρ w=amL y):gO s ps (bG pe ps z (.mkf f a b)) k ρ w y:=by
 simp only [mA] at h;exact gO.val hS h rfl ⟨_,_,rfl,zj hE a,zj hE b⟩
theorem XV (hS:cN s ps) {m:Option PV} (h:mA e s z (.mkm m) k ρ w=amL y):gO s ps (bG pe ps z (.mkm m)) k ρ w y:=by
 simp only [mA] at h;cases m with
 |none=>
  refine ⟨_,_,?_,Good.new hS (b:= .set []) (q:= .map []) (v:= .mp (amK s)) (p:= .mp (amK s)) (rd:=[]) rfl rfl,h⟩;simp only [bG,hS.len]
 |some m=>
  obtain ⟨p,_,h⟩:=bL h;refine ⟨_,_,?_,Good.new hS (b:= .aP p []) (q:= .map []) (v:= .mp (amK s)) (p:= .mp (amK s)) (rd:=[]) rfl rfl,h⟩;simp only [bG,hS.len]
theorem afC: ∀{l:List SV} {q:List PV} {m:Bool} {a:IntKind} {n:Int} {v:SV},RL s l q->mmS m a n l=amL v-> ∃p,mmE m a n q=amL p/\R s v p
 | [],q,m,a,n,v,hl,h=>by
  rw [show q=[] from hl];injection h with h;subst h;exact ⟨_,rfl,rfl⟩
 |x::l,q,m,a,n,v,hl,h=>by
  obtain ⟨p,q,rfl,h1,h2⟩:=hl.cons_inv;simp only [mmS] at h;split at h
  · rename_i b c
    have NR:p= .int b c:=h1;subst NR;cases hk:fE a b with
    |true=>
     rw [hk] at h;obtain ⟨p,h3,h4⟩:=afC h2 h;refine ⟨p,?_,h4⟩;simp only [mmE,hk,if_true];rw [<- h3];cases m<;>rfl
    |false=>rw [hk] at h;cases h
  cases h
theorem agN (hE:dZ s e pe) (hS:cN s ps) {m:Bool} {x:fH} {xs:List fH} (h:mA e s z (.mm m x xs) k ρ w=amL y):gO s ps (bG pe ps z (.mm m x xs)) k ρ w y:=by
 simp only [mA] at h;generalize hv:bW e x=v at h;cases v with
 |int a n=>
  obtain ⟨v,h1,h⟩:=bL h;obtain ⟨p,h2,h3⟩:=afC (zj hE xs) h1;exact gO.val hS h (by simp only [bG,ng hE hv,h2];rfl) h3
 |_=>cases h
theorem UK (hE:dZ s e pe) (hS:cN s ps) {c a b:fH} (h:mA e s z (.pick c a b) k ρ w=amL y):gO s ps (bG pe ps z (.pick c a b)) k ρ w y:=by
 simp only [mA] at h;generalize hv:bW e c=v at h;cases v with
 |bool x=>
  rcases fv h with ⟨rfl,h⟩|⟨rfl,h⟩
  · exact gO.val hS h (by simp only [bG,BP hE hv]) (dN hE a)
  exact gO.val hS h (by simp only [bG,BP hE hv]) (dN hE b)
 |_=>cases h
end
end Go.Vm
/- Operation by operation, second part: elements, blocks, slices, sets. -/
namespace Go.Vm
section
variable {R' ρ : Type} {w : R' -> ρ} {y : ρ} {s : List SB} {ps : cL} {e : SE} {pe : Env} {z : List Nat} {k : fX -> gq R'}
theorem cN.arr (hS:cN s ps) {t:Nat} {r:List PT} {l:List (RT r)} (h:s[t]? =amL (.arr r l)):ps[t]? =amL (.arr (amK r) (l.map (RT.pv r))):=by
 obtain ⟨q,h1,h2⟩:=hS.at_ t _ h;rw [show q=_ from h2] at h1;exact h1
theorem cN.box (hS:cN s ps) {t:Nat} {cs:List SV} (h:s[t]? =amL (.box cs)): ∃q,ps[t]? =amL (.box q)/\RL s cs q:=by
 obtain ⟨q,h1,q',rfl,h2⟩:=hS.at_ t _ h;exact ⟨q',h1,h2⟩
theorem cN.aoe (hS:cN s ps) {t:Nat} {l:List (List Int)} (h:s[t]? =amL (.set l)):ps[t]? =amL (.map (l.map BN)):=by
 obtain ⟨q,h1,h2⟩:=hS.at_ t _ h;rw [show q=_ from h2] at h1;exact h1
theorem cN.XW (hS:cN s ps) {t:Nat} {p:PT} {l:List (RT [.i .i64,p])} (h:s[t]? =amL (.aP p l)):ps[t]? =amL (.map (l.map (Ee p))):=by
 obtain ⟨q,h1,h2⟩:=hS.at_ t _ h;rw [show q=_ from h2] at h1;exact h1
theorem OwnAt.inv {t e n:Nat} {r:List PT} {l:List (RT r)} (h:OwnAt s t e n) (hs:s[t]? =amL (.arr r l)):e=amK r/\n=(amK l):=by
 rcases h with ⟨q,m,h1,rfl,rfl⟩|h1
 · rw [hs] at h1;injection h1 with h1;cases h1;exact ⟨rfl,rfl⟩
 rw [hs] at h1;cases h1
theorem Aa.inv {t e:Nat} {r:List PT} {l:List (RT r)} (h:Aa s t e) (hs:s[t]? =amL (.arr r l)):e=(amK r):=by
 rcases h with ⟨q,m,h1,rfl⟩|h1|⟨cs,h1,_⟩
 · rw [hs] at h1;injection h1 with h1;cases h1;rfl
 · rw [hs] at h1;cases h1
 rw [hs] at h1;cases h1
theorem UD.inv {t:Nat} {q r:List PT} {i:Int} {a:RT q} {l:List (RT r)} (h:UD s t q i a) (hs:s[t]? =amL (.arr r l)): ∃e:q=r,aJ l i=amL (e▸a):=by
 rcases h with ⟨m,h1,h2⟩|h1
 · rw [hs] at h1;injection h1 with h1;cases h1;exact ⟨rfl,h2⟩
 rw [hs] at h1;cases h1
theorem agL.inv {t:Nat} {r:List PT} {i:Int} {l:List (RT r)} (h:agL s t i) (hs:s[t]? =amL (.arr r l)):(aJ l i).isSome=amN:=by
 rcases h with ⟨q,m,h1,h2⟩|h1
 · rw [hs] at h1;injection h1 with h1;cases h1;exact h2
 rw [hs] at h1;cases h1
theorem fQ {α:Type} {l:List α} {n:Nat} {i:Int} {a:α} (h:aJ (l.take n) i=amL a): ∃m:Nat,i=afx m/\m<n/\l[m]? =amL a:=by
 obtain ⟨m,rfl,hm⟩:=nE h;have dM:=(ww.1 hm).1;rw [af4] at dM;have hmn:m<n:=by omega
 rw [If hmn] at hm;exact ⟨m,rfl,hmn,hm⟩
theorem UL (hE:dZ s e pe) (hS:cN s ps) {esz:Nat} {x i:fH} (h:mA e s z (.K0 esz x i) k ρ w=amL y):gO s ps (bG pe ps z (.K0 esz x i)) k ρ w y:=by
 simp only [mA] at h;generalize hi:bW e i=vi at h;cases vi with
 |int ki n=>
  have hi:=ng hE hi;have hx:=dN hE x;dsimp only at h;unfold aft at h;generalize bW e x=v at h hx;cases v with
  |sl r l=>
   obtain ⟨he,h⟩:=cZ h;obtain ⟨a,ha,hk⟩:=cR h;obtain ⟨m,rfl,hm⟩:=nE ha;refine gO.val hS (p:= .bJ (RT.pv r a) 0) hk ?_ ⟨_,rfl,Ip r a⟩;have hr:(l.map (RT.pv r))[m]? =amL (RT.pv r a):=by simp [hm]
   simp only [bG,hi,jY,show x.ev pe=_ from hx,hr,he,if_true]
  |own t ex=>
   simp only [cB] at h;generalize cq:s[t]? =b at h;cases b with
   |none=>cases h
   |some b=>
    cases b with
    |arr r l=>
     obtain ⟨he,h⟩:=cZ h;obtain ⟨a,ha,hk⟩:=cR h;obtain ⟨m,rfl,hm⟩:=nE ha;obtain ⟨e',n',hx,de⟩:=hx;obtain ⟨rfl,rfl⟩:=de.inv cq;have dM:=(ww.1 hm).1;have h1:akc m (amK l)=amN:=by simpa using dM
     refine gO.val hS (p:= .ptr t (amK r) m 0) hk ?_ ⟨rfl,.inl ⟨l,cq,ha⟩⟩;simp only [bG,hi,jY,hx,h1,he,ae5,if_true,afX]
    |_=>cases h
  |pre t len cap ex=>
   simp only [cB] at h;generalize cq:s[t]? =b at h;cases b with
   |none=>cases h
   |some b=>
    cases b with
    |arr r l=>
     obtain ⟨he,h⟩:=cZ h;obtain ⟨a,ha,hk⟩:=cR h;obtain ⟨m,rfl,dM,hm⟩:=fQ ha;obtain ⟨e',hx,de⟩:=hx
     have:=de.inv cq
     subst this;have h1:akc m len=amN:=by simpa using dM
     refine gO.val hS (p:= .ptr t (amK r) m 0) hk ?_ ⟨rfl,.inl ⟨l,cq,hm⟩⟩;simp only [bG,hi,jY,hx,h1,he,ae5,if_true,afX]
    |_=>cases h
  |part t off len cap ex=>
   simp only [cB] at h;generalize cq:s[t]? =b at h;cases b with
   |none=>cases h
   |some b=>
    cases b with
    |arr r l=>
     obtain ⟨he,h⟩:=cZ h;obtain ⟨a,ha,hk⟩:=cR h;obtain ⟨m,rfl,dM,hm⟩:=fQ ha;rw [List.getElem?_drop] at hm;obtain ⟨e',hx,de⟩:=hx
     have:=de.inv cq
     subst this;have h1:akc m len=amN:=by simpa using dM
     refine gO.val hS (p:= .ptr t (amK r) (off+m) 0) hk ?_ ⟨rfl,.inl ⟨l,cq,hm⟩⟩;simp only [bG,hi,jY,hx,h1,he,ae5,if_true]
    |_=>cases h
  |_=>cases h
 |_=>cases h
theorem AQ {n:Nat} {i:Int} {j:Nat} {f:Nat->gq R'}:LQ n i j f ρ w=amL y-> ∃m,i=afx m/\j<=m/\m<j+n/\f m ρ w=amL y:=by
 induction n generalizing j with
 |zero=>intro h;cases h
 |succ n ih=>
  intro h;rcases fv h with ⟨h1,h2⟩|⟨_,h2⟩
  · exact ⟨j,by simpa using h1,akb _,by omega,h2⟩
  obtain ⟨m,h3,h4,h5,h6⟩:=ih h2
  exact ⟨m,h3,by omega,by omega,h6⟩
theorem Sl (hE:dZ s e pe) (hS:cN s ps) {n esz:Nat} {p i:fH} (h:mA e s z (.DD n esz p i) k ρ w=amL y):gO s ps (bG pe ps z (.DD n esz p i)) k ρ w y:=by
 simp only [mA] at h;generalize hi:bW e i=vi at h;cases vi with
 |int ki j=>
  have hi:=ng hE hi;have hx:=dN hE p;generalize bW e p=v at h hx;cases v with
  |bp t m o=>
   obtain ⟨j',rfl,_,h2,h⟩:=AQ h;have h1:akc j' n=amN:=by simp;omega
   exact gO.val hS h (by simp only [bG,hi,jY,h1,if_true,show p.ev pe=_ from hx]) rfl
  |bJ c o=>
   obtain ⟨j',rfl,_,h2,h⟩:=AQ h;have h1:akc j' n=amN:=by simp;omega
   obtain ⟨q,hq,hr⟩:=hx;exact gO.val hS h (by simp only [bG,hi,jY,h1,if_true,hq]) ⟨q,rfl,hr⟩
  |_=>cases h
 |_=>cases h
theorem XX (hE:dZ s e pe) (hS:cN s ps) {n esz:Nat} {agg:Option Nat} {x i:fH} (h:mA e s z (.idx n esz agg x i) k ρ w=amL y):gO s ps (bG pe ps z (.idx n esz agg x i)) k ρ w y:=by
 simp only [mA] at h;generalize hi:bW e i=vi at h;cases vi with
 |int ki j=>
  have hi:=ng hE hi;generalize hx:bW e x=v at h;cases v with
  |agg cs=>
   obtain ⟨j',rfl,_,h2,h⟩:=AQ h;have h1:akc j' n=amN:=by simp;omega
   obtain ⟨v,hv,h⟩:=bL h;obtain ⟨q,hq,hr⟩:=Si hE hx;obtain ⟨p,hp,hpr⟩:=tV hr hv;exact gO.val hS h (by simp only [bG,hi,jY,h1,if_true,hq,hp];rfl) hpr
  |_=>cases h
 |_=>cases h
theorem UM (hE:dZ s e pe) (hS:cN s ps) {x i:fH} (h:mA e s z (.K1 x i) k ρ w=amL y):gO s ps (bG pe ps z (.K1 x i)) k ρ w y:=by
 simp only [mA] at h;generalize hi:bW e i=vi at h;cases vi with
 |int ki j=>
  have hi:=ng hE hi;generalize hx:bW e x=v at h;cases v with
  |str t=>
   obtain ⟨b,hb,h⟩:=cR h;have hx:=Si hE hx;cases j with
   |negSucc _=>cases hb
   |ofNat m=>
    simp only [afs,ae9] at hb;obtain ⟨c,hc,rfl⟩:=hb;exact gO.val hS h (by simp only [bG,hi,jY,show x.ev pe=_ from hx,hc]) rfl
  |_=>cases h
 |_=>cases h
theorem UN (hE:dZ s e pe) (hS:cN s ps) {agg:Option Nat} {p:fH} (h:mA e s z (.load agg p) k ρ w=amL y):gO s ps (bG pe ps z (.load agg p)) k ρ w y:=by
 simp only [mA] at h;have hx:=dN hE p;unfold afu at h;generalize bW e p=v at h hx;cases v with
 |bp t n off=>
  simp only [cB] at h;generalize cq:s[t]? =b at h;cases b with
  |none=>cases h
  |some b=>
   cases b with
   |box cs=>
    obtain ⟨v,hv,h⟩:=bL h;obtain ⟨q,h1,h2⟩:=hS.box cq;obtain ⟨u,h3,h4⟩:=tV h2 hv;refine gO.rd hS h ?_ h4;show oY ps agg (p.ev pe)=_;rw [show p.ev pe=_ from hx];simp only [oY,h1,ae8,if_true,h3];rfl
   |_=>cases h
 |pa t r i a off=>
  simp only [cB] at h;generalize cq:s[t]? =b at h;cases b with
  |none=>cases h
  |some b=>
   cases b with
   |arr q l=>
    obtain ⟨v,hv,hk⟩:=bL h;obtain ⟨hx,de⟩:=hx;obtain ⟨rfl,hg⟩:=de.inv cq;obtain ⟨u,h3,h4⟩:=tV (Ip r a) hv;obtain ⟨m,rfl,hm⟩:=nE hg;refine gO.rd hS hk ?_ h4;show oY ps agg (p.ev pe)=_;rw [hx];have CU:(l.map (RT.pv r))[m]? =amL (RT.pv r a):=by simp [hm]
    have e1:(afx m).toNat=m:=rfl;simp only [oY,hS.arr cq,e1,CU,h3];rfl
   |_=>cases h
 |pb t i off=>
  simp only [cB] at h;generalize cq:s[t]? =b at h;cases b with
  |none=>cases h
  |some b=>
   cases b with
   |arr r l=>
    obtain ⟨a,ha,h⟩:=cR h;obtain ⟨v,hv,hk⟩:=bL h;obtain ⟨e',hx,de⟩:=hx;obtain ⟨u,h3,h4⟩:=tV (Ip r a) hv;obtain ⟨m,rfl,hm⟩:=nE ha;refine gO.rd hS hk ?_ h4;show oY ps agg (p.ev pe)=_;rw [hx];have CU:(l.map (RT.pv r))[m]? =amL (RT.pv r a):=by simp [hm]
    have e1:(afx m).toNat=m:=rfl;simp only [oY,hS.arr cq,e1,CU,h3];rfl
   |_=>cases h
 |bJ cs off=>
  obtain ⟨v,hv,h⟩:=bL h;obtain ⟨q,hq,hr⟩:=hx;obtain ⟨u,h3,h4⟩:=tV hr hv;refine gO.val hS h ?_ h4;show oY ps agg (p.ev pe)=_;rw [hq];simp only [oY,h3];rfl
 |_=>cases h
theorem JO (hS:cN s ps) {t:Nat} {r:List PT} {l:List (RT r)} (cq:s[t]? =amL (.arr r l)) {i:Int} {b:RT r} {rd:List Nat}:
 Good s ps {v:= .undef,wr:=[(t,.arr r (cj l i b))],rd} {v:= .undef,wr:=[(t,.arr (amK r) ((l.map (RT.pv r)).set i.toNat (RT.pv r b)))],rd}:=
 Good.UE hS cq (.inl ⟨_,rfl,by simp⟩) (by show _=_;simp [cj,am4])
theorem Sm (hE:dZ s e pe) (hS:cN s ps) {sz:Nat} {p x:fH} (h:mA e s z (.store sz p x) k ρ w=amL y):gO s ps (bG pe ps z (.store sz p x)) k ρ w y:=by
 simp only [mA] at h;have hx:=dN hE p;have hv:=dN hE x;unfold Uq at h;generalize bW e p=v at h hx;generalize bW e x=u at h hv;cases v with
 |bp t n off=>
  simp only [cB] at h;generalize cq:s[t]? =b at h;cases b with
  |none=>cases h
  |some b=>
   cases b with
   |box cs=>
    obtain ⟨w',hw,h⟩:=bL h;obtain ⟨hc,h⟩:=cZ h;obtain ⟨q,h1,h2⟩:=hv.stored hw;obtain ⟨b,h3,h4⟩:=hS.box cq;have sC:=Fr.dg (ts:=[t]) (Fr.set (b:= .box (pO off w' cs)) cq (.inl ⟨_,rfl⟩));refine ⟨_,_,?_,Good.UE hS (b:= .box (pO off w' cs)) (q:= .box (nX off q b)) (rd:=[]) cq (.inl ⟨_,rfl⟩) ⟨_,rfl,RL.fr sC (zl h2 h4)⟩,h⟩
    show sy ps z sz (x.ev pe) (p.ev pe)=_
    rw [show p.ev pe=_ from hx];simp only [sy,h3,h1,h2.m9,h4.m9];rw [pp (by simpa using hc)]
   |_=>cases h
 |pa t r i a off=>
  simp only [cB] at h;generalize cq:s[t]? =b at h;cases b with
  |none=>cases h
  |some b=>
   cases b with
   |arr q l=>
    obtain ⟨hc,h⟩:=cZ h;obtain ⟨a',Fv,hk⟩:=bL h;obtain ⟨hx,de⟩:=hx;obtain ⟨rfl,hg⟩:=de.inv cq;obtain ⟨m,rfl,hm⟩:=nE hg;refine ⟨_,_,?_,JO hS cq (rd:=[]),hk⟩;show sy ps z sz (x.ev pe) (p.ev pe)=_;rw [hx];have CU:(l.map (RT.pv r))[m]? =amL (RT.pv r a):=by simp [hm]
    have e1:(afx m).toNat=m:=rfl;simp only [v6,adc] at hc;obtain ⟨⟨c1,c2⟩,c3⟩:=hc;have hj:u≠ .iU:=by
     intro e;subst e
     have:=RT.pQ Fv
     have hq:=congrArg (fun l=>l[off]?) this
     have ly:=UV c2;have qT:sz=1:=by have:=ut c1;simpa [SV.cells] using this.symm
     have dM:off<(amK r):=by omega
     have HX:off<(RT.sv r a).length:=by rw [RT.JM];exact dM
     simp only [pO,SV.cells] at hq;rw [AC (by simp;omega),Do (by simp;omega)] at hq
     simp only [af4,aig (am5 HX),amI,agE] at hq
     have: ∀(r:List PT) (b:RT r) (n:Nat),(RT.sv r b)[n]?≠amL .iU:=by
      intro r
      induction r with
      |nil=>intro b n h;simp [RT.sv] at h
      |cons p rest ih=>
       intro b n;cases rest with
       |nil=>cases n<;>cases p<;>simp [RT.sv,PT.sv]
       |cons p2 aof=>cases n with
        |zero=>cases p<;>simp [RT.sv,PT.sv]
        |succ n=>simpa [RT.sv] using ih b.2 n
     exact this r a' off hq.symm
    have FJ:=hv.cells hj;have vw:=RT.pQ Fv;have h5:RL s (RT.sv r a') (nX off (x.ev pe).cells (RT.pv r a)):=by
     rw [<- vw];exact zl FJ (Ip r a)
    have h6:=zk r a' h5;have ON:(x.ev pe).cM=amL (x.ev pe).cells:=by
     unfold PV.cM;rw [pp ?_];have rI:=RT.plain r a';rw [<- h6] at rI;unfold nX at rI;simp only [amE,v6] at rI;exact rI.1.2
    simp only [sy,hS.arr cq,e1,CU,ON,FJ.m9,RT.wH];rw [pp (by simp [c1,c2,c3])]
    simp only [h6]
   |_=>cases h
 |pb t i off=>
  simp only [cB] at h;generalize cq:s[t]? =b at h;cases b with
  |none=>cases h
  |some b=>
   cases b with
   |arr r l=>
    obtain ⟨hc,h⟩:=cZ h;obtain ⟨e',hx,de⟩:=hx;have sE:=de.inv cq;rw [agB] at sE;obtain ⟨a0,hg⟩:=sE;obtain ⟨m,rfl,hm⟩:=nE hg;have CU:(l.map (RT.pv r))[m]? =amL (RT.pv r a0):=by simp [hm]
    have e1:(afx m).toNat=m:=rfl;simp only [v6,adc] at hc;obtain ⟨⟨c1,c2⟩,c3⟩:=hc;cases qT:NE sz (amK r) with
    |true=>
     rw [qT] at h;obtain ⟨a',Fv,hk⟩:=bL h;obtain ⟨hp,hl⟩:=hv.ofRow Fv;have N8:=ut qT;have CJ:off=0:=by have:=UV c2;omega
     subst CJ;refine ⟨_,_,?_,JO hS cq (rd:=[]),hk⟩;show sy ps z sz (x.ev pe) (p.ev pe)=_;rw [hx];simp only [sy,hS.arr cq,e1,CU,hp,RT.wH];rw [pp (by rw [afX,N8];simp [c3])]
     have:nX 0 (RT.pv r a') (RT.pv r a0)=RT.pv r a':=by
      unfold nX;rw [RT.wH,List.drop_of_length_le (by rw [RT.wH];omega)];simp
     rw [this]
    |false=>
     rw [qT] at h;obtain ⟨a,ha,h⟩:=cR h;obtain ⟨a',Fv,hk⟩:=bL h;rw [hg] at ha;injection ha with ha;subst ha;refine ⟨_,_,?_,JO hS cq (rd:=[]),hk⟩;show sy ps z sz (x.ev pe) (p.ev pe)=_;rw [hx];have hj:u≠ .iU:=by
      intro e;subst e
      have:=RT.pQ Fv
      have hq:=congrArg (fun l=>l[off]?) this
      have ly:=UV c2;have qT:sz=1:=by have:=ut c1;simpa [SV.cells] using this.symm
      have dM:off<(amK r):=by omega
      have HX:off<(RT.sv r a0).length:=by rw [RT.JM];exact dM
      simp only [pO,SV.cells] at hq;rw [AC (by simp;omega),Do (by simp;omega)] at hq
      simp only [af4,aig (am5 HX),amI,agE] at hq
      have: ∀(r:List PT) (b:RT r) (n:Nat),(RT.sv r b)[n]?≠amL .iU:=by
       intro r
       induction r with
       |nil=>intro b n h;simp [RT.sv] at h
       |cons p rest ih=>
        intro b n;cases rest with
        |nil=>cases n<;>cases p<;>simp [RT.sv,PT.sv]
        |cons p2 aof=>cases n with
         |zero=>cases p<;>simp [RT.sv,PT.sv]
         |succ n=>simpa [RT.sv] using ih b.2 n
      exact this r a' off hq.symm
     have FJ:=hv.cells hj;have vw:=RT.pQ Fv;have h5:RL s (RT.sv r a') (nX off (x.ev pe).cells (RT.pv r a0)):=by
      rw [<- vw];exact zl FJ (Ip r a0)
     have h6:=zk r a' h5;have ON:(x.ev pe).cM=amL (x.ev pe).cells:=by
      unfold PV.cM;rw [pp ?_];have rI:=RT.plain r a';rw [<- h6] at rI;unfold nX at rI;simp only [amE,v6] at rI;exact rI.1.2
     simp only [sy,hS.arr cq,e1,CU,ON,FJ.m9,RT.wH];rw [pp (by simp [c1,c2,c3])]
     simp only [h6]
   |_=>cases h
 |_=>cases h
end
end Go.Vm
/- Operation by operation, third part: slices, new blocks, append, sets; all of them together. -/
namespace Go.Vm
section
variable {R' ρ : Type} {w : R' -> ρ} {y : ρ} {s : List SB} {ps : cL} {e : SE} {pe : Env} {z : List Nat} {k : fX -> gq R'}
def FK (pe:Env) (o:Option fH):Option (Option Nat):=match o with|none=>amL amM|some a=>(jY (a.ev pe)).map amL
theorem vN (hE:dZ s e pe) {o:Option fH} {d a:Int} {n:Nat} (h:CZ e d o=amL a) (hd:d=afx n) (h0:0<=a): ∃b,FK pe o=amL b/\b.getD n=a.toNat:=by
 cases o with
 |none=>
  injection h with h;subst h hd;exact ⟨amM,rfl,rfl⟩
 |some x=>
  simp only [CZ] at h;split at h
  · rename_i ka m hx
    injection h with h;subst h;obtain ⟨b,rfl⟩:=WF h0;refine ⟨amL b,?_,rfl⟩;simp only [FK,ng hE hx];rfl
  cases h
theorem AR {esz:Nat} {x:fH} {lo hi mx:Option fH} {l h m:Option Nat} {v:PV} (he:vp esz (x.ev pe)=amN) (h1:FK pe lo=amL l) (h2:FK pe hi=amL h) (h3:FK pe mx=amL m) (hv:qW (x.ev pe) l h m=amL v):
 bG pe ps z (.RA esz x lo hi mx)=amL {v:=v}:=by
 have e:bG pe ps z (.RA esz x lo hi mx)=(match FK pe lo,FK pe hi,FK pe mx with|some l,amL h,amL m=>(qW (x.ev pe) l h m).map fun v=>({v}:nY)|_,_,_=>amM):=by
  simp only [bG,he,am0,PP,if_false];rfl
 rw [e,h1,h2,h3];simp only [hv];rfl
theorem FL {α:Type} {l r:List α} {lo hi:Int} (h:fW l lo hi=amL r): ∃a b:Nat,lo=afx a/\hi=afx b/\a<=b/\b<=amK l/\r=(l.drop a).take (b-a):=by
 unfold fW at h;split at h
 · rename_i hc
   obtain ⟨a,rfl⟩:=WF hc.1;obtain ⟨b,rfl⟩:=WF (agp hc.1 hc.2.1);injection h with h;exact ⟨a,b,rfl,rfl,by omega,by omega,by rw [<- h];simp⟩
 cases h
theorem JP (hE:dZ s e pe) (hS:cN s ps) {esz t off len cap:Nat} {ex:Bool} {x:fH} {lo hi mx:Option fH} (hx:x.ev pe= .own t esz off len cap ex) (de:Aa s t esz) (h:Oz e t off len cap ex lo hi mx k ρ w=amL y):
 gO s ps (bG pe ps z (.RA esz x lo hi mx)) k ρ w y:=by
 unfold Oz at h;obtain ⟨a,ha,h⟩:=bL h;obtain ⟨b,hb,h⟩:=bL h;have he:vp esz (x.ev pe)=amN:=by rw [hx];simp [vp]
 cases mx with
 |none=>
  obtain ⟨hc,h⟩:=ir h;simp only [v6,decide_eq_true_eq] at hc;obtain ⟨⟨c1,c2⟩,c3⟩:=hc;obtain ⟨l,h1,h2⟩:=vN hE (n:=0) ha rfl c1;obtain ⟨u,h3,h4⟩:=vN hE (n:=len) hb rfl (agp c1 c2);refine gO.val hS h (AR he h1 h3 (m:=amM) rfl ?_) ⟨esz,rfl,de⟩;rw [hx];have c4:(M2 a.toNat b.toNat&&M2 b.toNat cap)=amN:=by
   have c3':b<=(cap:Int):=c3
   simp;omega
  simp only [qW,h2,h4,c4,if_true]
 |some mo=>
  dsimp only at h;generalize hm:bW e mo=vm at h;cases vm with
  |int km c=>
   obtain ⟨hc,h⟩:=ir h;simp only [v6,decide_eq_true_eq] at hc;obtain ⟨⟨⟨c1,c2⟩,c3⟩,c4⟩:=hc;obtain ⟨l,h1,h2⟩:=vN hE (n:=0) ha rfl c1;obtain ⟨u,h3,h4⟩:=vN hE (n:=len) hb rfl (agp c1 c2);have Fk:0<=c:=agp (agp c1 c2) c3;obtain ⟨c,rfl⟩:=WF Fk
   refine gO.val hS h (AR he h1 h3 (m:=amL c) (by simp only [FK,ng hE hm];rfl) ?_) ⟨esz,rfl,de⟩
   rw [hx];have c5:(M2 a.toNat b.toNat&&M2 b.toNat c&&M2 c cap)=amN:=by
    have c4':(c:Int)<=(cap:Int):=c4
    simp;omega
   simp only [qW,h2,h4,c5,if_true];rfl
  |_=>cases h
theorem XY (hE:dZ s e pe) (hS:cN s ps) {esz:Nat} {x:fH} {lo hi mx:Option fH} (h:mA e s z (.RA esz x lo hi mx) k ρ w=amL y):gO s ps (bG pe ps z (.RA esz x lo hi mx)) k ρ w y:=by
 simp only [mA] at h;have hx:=dN hE x;unfold aoa at h;generalize bW e x=v at h hx;cases v with
 |sl r l=>
  cases mx with
  |some _=>cases h
  |none=>
   dsimp only at h;obtain ⟨he,h⟩:=cZ h;have he:=ut he;obtain ⟨a,ha,h⟩:=bL h;obtain ⟨b,hb,h⟩:=bL h;obtain ⟨m,hm,hk⟩:=cR h;obtain ⟨n1,n2,rfl,rfl,c1,c2,rfl⟩:=FL hm;obtain ⟨u1,h1,h2⟩:=vN hE (n:=0) ha rfl (by simp)
   obtain ⟨u2,h3,h4⟩:=vN hE (n:=amK l) hb rfl (by simp)
   have hx':x.ev pe= .sl (amK r) amO (l.map (RT.pv r)):=hx;subst he;refine gO.val hS (p:= .sl (amK r) amO ((((l.drop n1).take (n2-n1))).map (RT.pv r))) hk (AR (m:=amM) (by rw [hx'];simp [vp]) h1 h3 rfl ?_) rfl
   rw [hx'];have Sh:u1.getD 0=n1:=by rw [h2];rfl
   have h4':u2.getD (l.map (RT.pv r)).length=n2:=by rw [ae3,h4];rfl
   have c3:(M2 n1 n2&&M2 n2 (l.map (RT.pv r)).length)=amN:=by simp [c1,c2]
   simp only [qW,Sh,h4',c3,if_true,Bool.false_and,af5,afK]
 |own t ex=>
  simp only [cB] at h;generalize cq:s[t]? =b at h;cases b with
  |none=>cases h
  |some b=>
   cases b with
   |arr r l=>
    dsimp only at h;obtain ⟨he,hk⟩:=cZ h;have he:=ut he;obtain ⟨e',n',hx,de⟩:=hx;obtain ⟨rfl,rfl⟩:=de.inv cq;subst he;have Ea:Aa s t (amK r):= .inl ⟨r,l,cq,rfl⟩;have gen:Oz e t 0 (amK l) (amK l) ex lo hi mx k ρ w=amL y->gO s ps (bG pe ps z (.RA (amK r) x lo hi mx)) k ρ w y:=fun h=>JP hE hS hx Ea h
    have he:vp (amK r) (x.ev pe)=amN:=by rw [hx];simp [vp]
    cases mx with
    |some m=>cases lo<;>cases hi<;>exact gen hk
    |none=>
     cases lo with
     |some _=>cases hi<;>exact gen hk
     |none=>
      cases hi with
      |none=>
       refine gO.val hS hk (AR (l:=amM) (h:=amM) (m:=amM) he rfl rfl rfl ?_) ⟨amK r,amK l,rfl,de⟩;rw [hx];simp [qW]
      |some ho=>
       dsimp only at hk;generalize hh:bW e ho=vh at hk;cases vh with
       |int kh b=>
        obtain ⟨m,hm,hk⟩:=cR hk;obtain ⟨n1,n2,h0,rfl,c1,c2,rfl⟩:=FL hm;refine gO.val hS hk (AR (l:=amM) (h:=amL n2) (m:=amM) he rfl (by simp only [FK,ng hE hh];rfl) rfl ?_) ⟨amK r,rfl,Ea⟩
        rw [hx];have c3:(M2 0 n2&&M2 n2 (amK l))=amN:=by simp [c2]
        simp only [qW,agG,amw,c3,if_true];rfl
       |_=>cases hk
   |_=>cases h
 |pre t len cap ex=>
  simp only [cB] at h;generalize cq:s[t]? =b at h;cases b with
  |none=>cases h
  |some b=>
   cases b with
   |arr r l=>
    dsimp only at h;obtain ⟨he,hk⟩:=cZ h;have he:=ut he;obtain ⟨e',hx,de⟩:=hx
    have:=de.inv cq
    subst this;subst he;have gen:Oz e t 0 len cap ex lo hi mx k ρ w=amL y->gO s ps (bG pe ps z (.RA (amK r) x lo hi mx)) k ρ w y:=fun h=>JP hE hS hx de h
    have he:vp (amK r) (x.ev pe)=amN:=by rw [hx];simp [vp]
    cases mx with
    |some m=>cases lo<;>cases hi<;>exact gen hk
    |none=>
     cases lo with
     |some _=>cases hi<;>exact gen hk
     |none=>
      cases hi with
      |none=>
       obtain ⟨hlc,hk⟩:=ir hk;refine gO.val hS hk (AR (l:=amM) (h:=amM) (m:=amM) he rfl rfl rfl ?_) ⟨amK r,rfl,de⟩;rw [hx];have c3:(M2 0 len&&M2 len cap)=amN:=by simp [hlc]
       simp only [qW,agG,c3,if_true];simp
      |some ho=>
       dsimp only at hk;generalize hh:bW e ho=vh at hk;cases vh with
       |int kh b=>
        obtain ⟨hc,hk⟩:=ir hk;simp only [v6,decide_eq_true_eq] at hc;obtain ⟨c1,c2⟩:=hc;obtain ⟨b,rfl⟩:=WF c1;refine gO.val hS hk (AR (l:=amM) (h:=amL b) (m:=amM) he rfl (by simp only [FK,ng hE hh];rfl) rfl ?_) ⟨amK r,rfl,de⟩
        rw [hx];have c3:(M2 0 b&&M2 b cap)=amN:=by
         have c2':(b:Int)<=(cap:Int):=c2
         simp;omega
        simp only [qW,agG,amw,c3,if_true];rfl
       |_=>cases hk
   |_=>cases h
 |part t off len cap ex=>
  simp only [cB] at h;generalize cq:s[t]? =b at h;cases b with
  |none=>cases h
  |some b=>
   cases b with
   |arr r l=>
    dsimp only at h;obtain ⟨he,hk⟩:=cZ h;have he:=ut he;obtain ⟨e',hx,de⟩:=hx
    have:=de.inv cq
    subst this;subst he;exact JP hE hS hx de hk
   |_=>cases h
 |_=>cases h
theorem mG {b:SB}:(s++[b])[amK s]? =amL b:=by simp
theorem dW: ∀{v:PV} {p:PT},fR v=amL p->p.pv p.zero=v
 | .int k n,p,h=>by
  simp only [fR] at h;split at h
  · injection h with h;subst h;rfl
  cases h
 | .bool b,p,h=>by
  simp only [fR] at h;split at h
  · injection h with h;subst h;rfl
  cases h
 | .undef,_,h| .jA,_,h| .str _,_,h| .agg _,_,h| .cw _,_,h| .sl _ _ _,_,h| .own _ _ _ _ _ _,_,h| .ptr _ _ _ _,_,h| .bJ _ _,_,h| .mp _,_,h| .eV _ _ _,_,h| .dU,_,h=>by cases h
theorem BS : ∀ {l : List PV} {r : List PT}, Fy l = amL r -> RT.pv r (RT.zero r) = l
  | [], r, h => by injection h with h; subst h; rfl
  | v :: vs, r, h => by
    simp only [Fy] at h
    split at h
    · rename_i p q h1 h2
      injection h with h; subst h
      have e1 := dW h1
      have e2 := BS h2
      cases q with
      | nil =>
        have : vs = [] := by
          cases vs with
          | nil => rfl
          | cons a b => simp only [RT.pv] at e2; cases e2
        subst this
        show [p.pv p.zero] = _
        rw [e1]
      | cons p2 q2 =>
        show p.pv p.zero :: RT.pv (p2 :: q2) (RT.zero (p2 :: q2)) = _
        rw [e1, e2]
    cases h
theorem XZ (hE:dZ s e pe) (hS:cN s ps) {esz:Nat} {zero:Row} {l c:fH} (h:mA e s z (.mks esz zero l c) k ρ w=amL y):gO s ps (bG pe ps z (.mks esz zero l c)) k ρ w y:=by
 simp only [mA] at h;generalize hl:bW e l=vl at h;cases vl with
 |int kl n=>
  generalize hc:bW e c=vc at h;cases vc with
  |int kc m=>
   obtain ⟨hnm,h1⟩:=ir h;obtain ⟨r,hr,h2⟩:=bL h1;obtain ⟨he,h3⟩:=cZ h2;obtain ⟨x,hx,hk⟩:=cR h3;have hnm:n=m:=by simpa using hnm
   subst hnm;have he:=ut he;subst he;unfold sF at hx;split at hx
   · rename_i E5
     injection hx with hx;subst hx;obtain ⟨a,rfl⟩:=WF E5.1;have h1:(M2 a a&&M2 a eu)=amN:=by simp [eu];omega
     refine ⟨_,_,?_,Good.new hS (b:= .arr r (af3 (afx a).toNat (RT.zero r))) (q:= .arr (amK r) (af3 a zero)) (v:= .own (amK s) amN) (p:= .own (amK s) (amK r) 0 a a amN) (rd:=[]) ?_ ?_,hk⟩
     · have e1:jY (.int kl (a:Int))=amL a:=rfl
       have e2:jY (.int kc (a:Int))=amL a:=rfl;simp only [bG,ng hE hl,ng hE hc,e1,e2];rw [pp h1,hS.len]
     · show _=_
       simp [BS hr]
     exact ⟨amK r,a,rfl,.inl ⟨r,_,mG,rfl,by simp⟩⟩
   cases hx
  |_=>cases h
 |_=>cases h
def wL {α:Type}:List α->List (Nat×α)->List α
 |l,[]=>l
 |l,(i,a)::r=>wL (l.set i a) r
theorem FM {α : Type} : ∀ (q : List (Nat × α)) (l : List α) (i : Nat), (wL l q)[i]? = (l[i]?).map fun z => rowAt i z q
  | [], l, i => by simp [wL, rowAt]
  | (j, a) :: q, l, i => by
    simp only [wL, rowAt]
    rw [FM q (l.set j a) i, IR]
    by_cases Xm : j = i
    · subst Xm
      cases hl : l[j]? with
      | none =>
        have : ¬ j < (amK l) := by intro h; rw [F0s h] at hl; cases hl
        simp [this]
      | some z =>
        have : j < (amK l) := (ww.1 hl).1
        simp [this]
    have : NE j i = amO := by
      cases hb : NE j i with
      | false => rfl
      | true => exact absurd (ut hb) Xm
    simp [Xm, this]
theorem L2 {α:Type} (f:Nat->α): ∀(n i j:Nat),(JH f i n)[j]? =if j<n then amL (f (i+j)) else amM
 |0,i,j=>by simp [JH]
 |n+1,i,0=>by simp [JH]
 |n+1,i,j+1=>by
  simp only [JH,afg];rw [L2 f n (i+1) j,show i+1+j=i+(j+1) by omega]
  by_cases h:j<n
  · simp [h]
  simp [h]
theorem FN {α:Type} (z:α) (n:Nat) (q:List (Nat×α)):wL (af3 n z) q=JH (fun i=>rowAt i z q) 0 n:=by
 apply am6;intro i;rw [FM,L2]
 by_cases h:i<n
 · simp [h]
 simp [h]
theorem FO (hE:dZ s e pe) {r:List PT} {n:Nat}: ∀{parts:List (Nat×fH)} {q:List (Nat×RT r)} {l:List (RT r)},Qk r e n parts=amL q->amK l=n->
 qk (parts.map fun p=>(p.1,p.2.ev pe)) (l.map (RT.pv r)) (amK r)=amL ((wL l q).map (RT.pv r))
 | [],q,l,h,hl=>by injection h with h;subst h;rfl
 |p::parts,q,l,h,hl=>by
  simp only [Qk] at h;split at h
  · rename_i a q' h1 h2
    cases hb:akc p.1 n with
    |false=>rw [hb] at h;cases h
    |true=>
     rw [hb] at h;injection h with h;subst h;have hp:=((dN hE p.2).ofRow h1).1;simp only [ae4,qk,hp,RT.wH,ae3,hl,hb,ae8,ae5,if_true,wL];rw [<- am4];exact FO hE h2 (by simp [hl])
  cases h
theorem Sn (hE:dZ s e pe) (hS:cN s ps) {esz n:Nat} {zero:Row} {parts:List (Nat×fH)} (h:mA e s z (.Bj esz n zero parts) k ρ w=amL y):gO s ps (bG pe ps z (.Bj esz n zero parts)) k ρ w y:=by
 simp only [mA] at h;obtain ⟨r,hr,h1⟩:=bL h;obtain ⟨he,h2⟩:=cZ h1;obtain ⟨q,hq,hk⟩:=bL h2;have he:=ut he;subst he;have hf:=FO hE (l:=af3 n (RT.zero r)) hq (by simp)
 rw [FN] at hf;have hz:(af3 n (RT.zero r)).map (RT.pv r)=af3 n zero:=by simp [BS hr]
 rw [hz] at hf;refine ⟨_,_,?_,Good.new hS (b:= .arr r (JH (fun i=>rowAt i (RT.zero r) q) 0 n)) (q:= .arr (amK r) ((JH (fun i=>rowAt i (RT.zero r) q) 0 n).map (RT.pv r))) (v:= .own (amK s) amN) (p:= .own (amK s) (amK r) 0 n n amN) (rd:=[]) rfl ?_,hk⟩
 · simp only [bG,hf,hS.len]
   rfl
 refine ⟨amK r,n,rfl,.inl ⟨r,_,mG,rfl,?_⟩⟩
 rw [<- FN]
 have: ∀(q:List (Nat×RT r)) (l:List (RT r)),(wL l q).length=(amK l):=by
  intro q
  induction q with
  |nil=>intro l;rfl
  |cons p q ih=>intro l;simp [wL,ih]
 rw [this];simp
theorem Qx: ∀{cs:List SV} {q:List PV} {l:List Int},RL s cs q->Ql cs=amL l->q=l.map (.int .i64)
 | [],q,l,h,hi=>by injection hi with hi;subst hi;exact h
 |x::xs,q,l,h,hi=>by
  obtain ⟨p,q,rfl,h1,h2⟩:=h.cons_inv;simp only [Ql] at hi;split at hi
  · rename_i n l' hx
    injection hi with hi;subst hi;rw [show p= .int .i64 n from h1,Qx h2 hx];rfl
  cases hi
theorem UO {v:SV} {p:PV} {n:Option Nat} {l:List Int} (h:R s v p) (hk:XE n v=amL l):p=tF l/\jB n (tF l)=amN/\(tF l).cM=amL (tF l).cells/\(tF l).cells=l.map (.int .i64)/\(n=amM->amK l=1)/\(∀m,n=amL m->amK l=m/\m≠1):=by
 cases n with
 |none=>
  cases v with
  |int kk a=>
   cases kk with
   |i64=>
    injection hk with hk;subst hk;exact ⟨h,rfl,rfl,rfl,fun _=>rfl,fun m hm=>by cases hm⟩
   |_=>cases hk
  |_=>cases hk
 |some m=>
  cases v with
  |agg cs=>
   simp only [XE] at hk;cases hc:(NE (amK cs) m&&!Nat.beq m 1) with
   |false=>rw [hc] at hk;cases hk
   |true=>
    rw [hc] at hk;simp only [lw] at hk;simp only [v6,agy,adc] at hc;obtain ⟨c1,c2⟩:=hc;obtain ⟨q,rfl,hq⟩:=h;have Tk:=Qx hq hk;have cY:(amK l)=m:=by have:=hq.m9;rw [Tk] at this;simp at this;omega
    have Qy:m≠1:=by intro e;subst e;cases c2
    have To:tF l= .agg (l.map (.int .i64)):=by
     unfold tF;split
     · simp at cY;omega
     rfl
    refine ⟨by rw [To,Tk],by rw [To];simp [jB,cY],?_,by rw [To];rfl,(fun h=>(by cases h)),fun m' hm=>by injection hm with hm;subst hm;exact ⟨cY,Qy⟩⟩
    rw [To];unfold PV.cM;rw [pp];simp [PV.cells,PV.plain]
  |_=>cases hk
theorem wM: ∀(a b:List Int),amK a=amK b->dD (a.map (.int .i64)) (b.map (.int .i64))=amL (a==b)
 | [],[],_=>rfl
 |x::a,y::b,h=>by
  have ih:=wM a b (by simpa using h)
  simp only [ae4,dD,qV,L0,if_true];cases Xd:x==y with
  |true=>simp only [ih];simp [am1,Xd]
  |false=>simp [am1,Xd]
 | [],_::_,h=>by simp at h
 |_::_,[],h=>by simp at h
theorem C4 {n : Option Nat} {a : List Int} (ha : (tF a).cells = a.map (.int .i64)) (hn : (n = amM -> (amK a) = 1) /\ (∀ m, n = amL m -> (amK a) = m /\ m ≠ 1)) : ∀ (l : List (List Int)) (i : Nat), (∀ r, fD n (tF a) (l.map BN) i = amL r -> (match r with | none => Ed l a = amO | some j => i <= j /\ Ed l a = amN /\ l[j - i]? = amL a))
  | [], i, r, h => by
    simp only [amm, fD, EQ] at h
    subst h; rfl
  | b :: l, i, r, h => by
    simp only [ae4, BN, fD] at h
    split at h
    · rename_i hk
      have hb : (tF b).cells = b.map (.int .i64) /\ (amK a) = (amK b) := by
        cases n with
        | none =>
          have hl := hn.1 rfl
          unfold tF at hk ⊢
          split at hk
          · exact ⟨rfl, by simpa using hl⟩
          cases hk
        | some m =>
          obtain ⟨hl, hm⟩ := hn.2 m rfl
          unfold tF at hk ⊢
          split at hk
          · cases hk
          simp only [jB, ae3, agy] at hk
          exact ⟨rfl, by omega⟩
      rw [ha, hb.1, wM a b hb.2] at h
      cases RN : a == b with
      | true =>
        rw [RN] at h
        injection h with h; subst h
        have : a = b := by simpa using RN
        subst this
        exact ⟨akb _, by simp [Ed], by simp⟩
      | false =>
        rw [RN] at h
        have := C4 ha hn l (i + 1) r h
        cases r with
        | none => simpa [Ed, RN] using this
        | some j =>
          obtain ⟨h1, h2, h3⟩ := this
          refine ⟨by omega, by simp only [Ed] at h2; simp [Ed, h2], ?_⟩
          rw [show j - i = (j - (i + 1)) + 1 by omega]; simpa using h3
    cases h
theorem BT {n:Option Nat} {a:List Int} (ha:(tF a).cells=a.map (.int .i64)) (hn:(n=amM->amK a=1)/\(∀m,n=amL m->amK a=m/\m≠1)) {l:List (List Int)} (hl:l.all (fun b=>jB n (tF b))=amN): ∀i,∃r,fD n (tF a) (l.map BN) i=amL r:=by
 induction l with
 |nil=>intro i;exact ⟨amM,rfl⟩
 |cons b l ih=>
  intro i;simp only [alX,v6] at hl;obtain ⟨r,hr⟩:=ih hl.2 (i+1);simp only [ae4,BN,fD,hl.1,if_true];have hb:(tF b).cells=b.map (.int .i64)/\amK a=(amK b):=by
   have hk:=hl.1;cases n with
   |none=>
    have mC:=hn.1 rfl;unfold tF at hk ⊢;split at hk
    · exact ⟨rfl,by simpa using mC⟩
    cases hk
   |some m=>
    obtain ⟨mC,hm⟩:=hn.2 m rfl;unfold tF at hk ⊢;split at hk
    · cases hk
    simp only [jB,ae3,agy] at hk
    exact ⟨rfl,by omega⟩
  rw [ha,hb.1,wM a b hb.2];cases RN:a==b with
  |true=>exact ⟨amL i,rfl⟩
  |false=>exact ⟨r,hr⟩
theorem DT {n:Option Nat} {a:List Int} (hn:(n=amM->amK a=1)/\(∀m,n=amL m->amK a=m/\m≠1)) {l:List (List Int)} (hl: ∀b∈l,amK b=amK a):l.all (fun b=>jB n (tF b))=amN:=by
 rw [afb];intro b hb;have cY:=hl b hb;cases n with
 |none=>
  have h1:=hn.1 rfl;rw [h1] at cY
  match b,cY with
  | [x],_=>rfl
 |some m=>
  obtain ⟨h1,h2⟩:=hn.2 m rfl;unfold tF;split
  · rename_i x;simp at cY;omega
  simp [jB];omega
theorem BU {a:List Int} {l:List (List Int)} (h:om a l=amN): ∀b∈l,amK b=(amK a):=by
 intro b hb;exact ut (afb.1 h b hb)
theorem PT.aog {s:List SB} {p:PT} {v:SV} {q:PV} {a:p.T} (h:R s v q) (ho:p.of v=amL a):q=p.pv a:=by
 cases p with
 |i k=>
  cases v with
  |int l n=>
   simp only [PT.of] at ho;cases hk:fE l k with
   |false=>rw [hk] at ho;cases ho
   |true=>
    rw [hk] at ho;obtain rfl:=fu.1 hk;injection ho with ho;subst ho;exact h
  |_=>cases ho
 |b=>
  cases v with
  |bool x=>
   injection ho with ho;subst ho;exact h
  |_=>cases ho
theorem FP {β:Type} (g:Int×β->PV×PV) (hg: ∀x,(g x).1= .int .i64 x.1) (k:Int): ∀(l:List (Int×β)) (i:Nat),
 (∃j x,fD amM (.int .i64 k) (l.map g) i=amL (amL (i+j))/\l[j]? =amL x/\(∀z,qA z l k=x.2)/\ ∀a,o3 l k a=l.set j (k,a))\/
 (fD amM (.int .i64 k) (l.map g) i=amL amM/\(∀z,qA z l k=z)/\ ∀a,o3 l k a=l++[(k,a)])
 | [],i=> .inr ⟨rfl,fun _=>rfl,fun _=>rfl⟩
 |x::l,i=>by
  have hk:jB amM (g x).1=amN:=by rw [hg];rfl
  have he:dD (PV.int .i64 k).cells (g x).1.cells=amL (k==x.1):=by
   rw [hg];show dD [.int .i64 k] [.int .i64 x.1]=_;simp only [dD,qV,fE,if_true];cases k==x.1<;>rfl
  have hf:fD amM (.int .i64 k) ((x::l).map g) i=(match amL (k==x.1) with
   |some amN=>amL (amL i)
   |some amO=>fD amM (.int .i64 k) (l.map g) (i+1)
   |none=>amM):=by
   rw [ae4];show (if jB amM (g x).1 then _ else amM)=_
   rw [pp hk,he];cases k==x.1<;>rfl
  cases hb:k==x.1 with
  |true=>
   rw [hb] at hf;exact .inl ⟨0,x,hf,rfl,fun z=>by simp only [qA,hb,lw],fun a=>by simp only [o3,hb,lw,List.set_cons_zero]⟩
  |false=>
   rw [hb] at hf;rcases FP g hg k l (i+1) with ⟨j,y,h1,h2,h3,h4⟩|⟨h1,h2,h3⟩
   · refine .inl ⟨j+1,y,?_,by simpa using h2,fun z=>?_,fun a=>?_⟩
     · rw [hf];show fD amM (.int .i64 k) (l.map g) (i+1)=_
       rw [h1,show i+1+j=i+(j+1) by omega]
     · simp only [qA,hb,ol,h3]
     simp only [o3,hb,ol,h4,List.set_cons_succ]
   exact .inr ⟨hf.trans h1,fun z=>by simp only [qA,hb,ol,h2],fun a=>by simp only [o3,hb,ol,h3,agK]⟩
theorem FQ (p:PT) (k:Int) (l:List (RT [.i .i64,p])):
 (∃(j:Nat) (x:RT [.i .i64,p]),fD amM (.int .i64 k) (l.map (Ee p)) 0=amL (amL j)/\l[j]? =amL x/\(∀z,p.get z l k=x.2)/\ ∀a,p.put l k a=l.set j (k,a))\/
 (fD amM (.int .i64 k) (l.map (Ee p)) 0=amL amM/\(∀z,p.get z l k=z)/\ ∀a,p.put l k a=l++[(k,a)]):=by
 cases p with
 |i d=>
  rcases FP (β:=Int) (Ee (.i d)) (fun _=>rfl) k l 0 with ⟨j,x,h1,h2,h3,h4⟩|h
  · exact .inl ⟨j,x,by rw [h1,afX],h2,h3,h4⟩
  exact .inr h
 |b=>
  rcases FP (β:=Bool) (Ee .b) (fun _=>rfl) k l 0 with ⟨j,x,h1,h2,h3,h4⟩|h
  · exact .inl ⟨j,x,by rw [h1,afX],h2,h3,h4⟩
  exact .inr h
theorem PT.asV {s:List SB} (p:PT) (a:p.T):R s (p.sv a) (p.pv a):=by cases p<;>rfl
theorem PT.L3 (p:PT) (a:p.T):(p.pv a).cM=amL [p.pv a]:=by cases p<;>rfl
theorem OO (hE:dZ s e pe) (hS:cN s ps) {n:Option Nat} {zero:PV} {ok:Bool} {m q:fH} (h:mA e s z (.lookup n zero ok m q) k ρ w=amL y):gO s ps (bG pe ps z (.lookup n zero ok m q)) k ρ w y:=by
 simp only [mA] at h;have hx:=dN hE m;generalize bW e m=v at h hx;cases v with
 |mp t=>
  simp only [cB] at h;generalize cq:s[t]? =b at h;cases b with
  |none=>cases h
  |some b=>
   cases b with
   |set l=>
    dsimp only at h;unfold Qn at h;cases zero with
    |bool b=>
     cases b with
     |true=>cases h
     |false=>
      cases ok with
      |true=>cases h
      |false=>
       obtain ⟨a,ha,h1⟩:=bL h;obtain ⟨b,hb,hk⟩:=cR h1;obtain ⟨k1,k2,k3,k4,k5⟩:=UO (dN hE q) ha;unfold LN at hb;cases vL:om a l with
       |false=>rw [vL] at hb;cases hb
       |true=>
        rw [vL] at hb;injection hb with hb;subst hb;obtain ⟨r,hr⟩:=BT k4 k5 (DT k5 (BU vL)) 0;have hf:=C4 k4 k5 l 0 r hr;refine gO.rd hS hk ?_ rfl;show tI ps n (.bool amO) amO (m.ev pe) (q.ev pe)=_;rw [show m.ev pe=_ from hx,k1];simp only [tI,hS.aoe cq,k2,if_true,hr];cases r with
        |none=>simp only at hf;simp [hf]
        |some j=>
         obtain ⟨_,h2,h3⟩:=hf
         have:(l.map BN)[j]? =amL (BN a):=by simp at h3;simp [h3]
         simp [this,h2,BN]
    |_=>cases h
   |aP p l=>
    dsimp only at h;unfold Qo at h;cases n with
    |some _=>cases h
    |none=>
     cases ok with
     |true=>cases h
     |false=>
      have hq:=dN hE q;generalize bW e q=u at h hq;cases u with
      |int d a=>
       cases d with
       |i64=>
        obtain ⟨zv,hz,hk⟩:=bL h;have aoh:=PT.aog (OL s zero) hz;refine gO.rd hS hk ?_ (PT.asV p _);show tI ps amM zero amO (m.ev pe) (q.ev pe)=_;rw [show m.ev pe=_ from hx,show q.ev pe=_ from hq];rcases FQ p a l with ⟨j,x,h1,h2,h3,_⟩|⟨h1,h2,_⟩
        · have h5:(l.map (Ee p))[j]? =amL (Ee p x):=by simp [h2]
          simp only [tI,hS.XW cq,jB,if_true,h1,h5,h3,Ee,PP,if_false]
        simp only [tI,hS.XW cq,jB,if_true,h1,h2,aoh,PP,if_false]
       |_=>cases h
      |_=>cases h
   |_=>cases h
 |_=>cases h
theorem UP (hE:dZ s e pe) (hS:cN s ps) {n:Option Nat} {m q x:fH} (h:mA e s z (.I9 n m q x) k ρ w=amL y):gO s ps (bG pe ps z (.I9 n m q x)) k ρ w y:=by
 simp only [mA] at h;have hx:=dN hE m;generalize bW e m=v at h hx;cases v with
 |mp t=>
  simp only [cB] at h;generalize cq:s[t]? =b at h;cases b with
  |none=>cases h
  |some b=>
   cases b with
   |set l=>
    obtain ⟨hz,h0⟩:=sf h;unfold Us at h0;have hv:=dN hE x;generalize bW e x=u at h0 hv;cases u with
    |bool b=>
     cases b with
     |false=>cases h0
     |true=>
      obtain ⟨a,ha,h1⟩:=bL h0;obtain ⟨b,hb,hk⟩:=cR h1;obtain ⟨k1,k2,k3,k4,k5⟩:=UO (dN hE q) ha;unfold LO at hb;cases vL:om a l with
      |false=>rw [vL] at hb;cases hb
      |true=>
       rw [vL] at hb;injection hb with hb;subst hb;obtain ⟨r,hr⟩:=BT k4 k5 (DT k5 (BU vL)) 0;have hf:=C4 k4 k5 l 0 r hr;refine ⟨_,_,?_,Good.UE hS (b:= .set (Ox l a)) (q:= .map ((Ox l a).map BN)) (rd:=[]) cq trivial rfl,hk⟩;show DF ps z n (m.ev pe) (q.ev pe) (x.ev pe)=_;rw [show m.ev pe=_ from hx,k1,show x.ev pe= .bool amN from hv]
       have p2:(PV.bool amN).cM=amL [.bool amN]:=rfl;simp only [DF,hS.aoe cq,k2,hz,afy,ae5,if_true,k3,p2,hr];cases r with
       |none=>simp only at hf;simp [Ox,hf,BN]
       |some j=>
        obtain ⟨_,h2,h3⟩:=hf;have h5:l[j]? =amL a:=by simpa using h3
        have:(l.map BN).set j (tF a,.bool amN)=l.map BN:=by
         apply am6;intro i;rw [IR];split
         · rename_i lq
           subst lq;have dM:=(ww.1 h5).1;have h6:l[j]=a:=(ww.1 h5).2;simp [dM,h6,BN]
         rfl
        simp [Ox,h2,this]
    |_=>cases h0
   |aP p l=>
    obtain ⟨hz,h0⟩:=sf h;unfold Ut at h0;cases n with
    |some _=>cases h0
    |none=>
     have hq:=dN hE q;generalize bW e q=u at h0 hq;cases u with
     |int d a=>
      cases d with
      |i64=>
       obtain ⟨xv,hxv,hk⟩:=bL h0;have X0:=PT.aog (dN hE x) hxv;refine ⟨_,_,?_,Good.UE hS (b:= .aP p (p.put l a xv)) (q:= .map ((p.put l a xv).map (Ee p))) (rd:=[]) cq trivial rfl,hk⟩;show DF ps z amM (m.ev pe) (q.ev pe) (x.ev pe)=_;rw [show m.ev pe=_ from hx,show q.ev pe=_ from hq,X0];have p1:(PV.int .i64 a).cM=amL [.int .i64 a]:=rfl
       rcases FQ p a l with ⟨j,x,h1,_,_,h3⟩|⟨h1,_,h3⟩
       · simp only [DF,hS.XW cq,jB,hz,afy,ae5,if_true,p1,PT.L3,h1,h3,am4,Ee]
       simp only [DF,hS.XW cq,jB,hz,afy,ae5,if_true,p1,PT.L3,h1,h3,afj,ae4,amm,Ee]
      |_=>cases h0
     |_=>cases h0
   |_=>cases h
 |_=>cases h
theorem Aa.fr' {s s':List SB} {bad:List Nat} {t e:Nat} (h:Aa s t e) (hf:Fr bad s s'):Aa s' t e:=by
 rcases h with ⟨r,l,h1,h2⟩|h1|⟨cs,h1,h2⟩
 · rcases hf t _ h1 with ⟨l',k1,_,_⟩|k1
   · exact .inl ⟨r,l',k1,h2⟩
   exact .inr (.inl k1)
 · exact .inr (.inl (hf t _ h1))
 rcases hf t _ h1 with ⟨c2,k1⟩|k1
 · exact .inr (.inr ⟨c2,k1,h2⟩)
 exact .inr (.inl k1)
theorem AS {α:Type} {l r:List α} (h:bP l=amL r):r=l/\amK l<=1048576:=by
 unfold bP at h;split at h
 · injection h with h;exact ⟨h.symm,by assumption⟩
 cases h
theorem yq {α:Type} {l m r:List α} (h:bo l m=amL r):r=l++m/\amK l+amK m<=1048576:=by
 unfold bo at h;split at h
 · injection h with h;exact ⟨h.symm,by assumption⟩
 cases h
theorem tX: ∀(m l:List Row) (n:Nat),n+amK m<=amK l->la n m l=fk l n m
 | [],l,n,h=>by simp [la,fk]
 |a::m,l,n,h=>by
  simp only [adm] at h;rw [la,tX m (l.set n a) (n+1) (by simp;omega)]
  unfold fk;rw [List.take_set,List.drop_set];have hn:n<(amK l):=by omega
  have h1: ¬(n+1+amK m<=n):=by omega
  rw [pp (by omega)]
  have:(l.take (n+1)).set n a=l.take n++[a]:=by
   rw [List.take_succ_eq_append_getElem hn,List.set_append_right _ _ (by simp;omega)]
   simp [aig (am5 hn)]
  rw [this];simp only [ae1,agK,List.nil_append,adm];rw [show n+1+amK m=n+(amK m+1) by omega]
theorem FT {α β:Type} (f:α->β) (l m:List α) (n:Nat):(fk l n m).map f=fk (l.map f) n (m.map f):=by
 simp [fk,af5,afK]
theorem BV {α:Type} (l m:List α) (n:Nat) (h:n+amK m<=amK l):(fk l n m).length=(amK l):=by
 simp [fk];omega
theorem OP (hE:dZ s e pe) (hS:cN s ps) {esz:Nat} {x yy:fH} (h:mA e s z (.append esz x yy) k ρ w=amL y):gO s ps (bG pe ps z (.append esz x yy)) k ρ w y:=by
 simp only [mA] at h;have hx:=dN hE x;have T7:=dN hE yy;unfold Qm at h;generalize bW e yy=vy at h T7;cases hc:z6 s vy with
 |none=>rw [hc] at h;cases h
 |some cc=>
  obtain ⟨q,m⟩:=cc;rw [hc] at h;dsimp only at h;obtain ⟨he,h⟩:=cZ h;have he:=ut he;obtain ⟨Bh,CP⟩:=Qv hS T7 hc;rw [he] at Bh;have wN:bG pe ps z (.append esz x yy)=iR ps z esz (x.ev pe) (yy.ev pe):=rfl;generalize bW e x=v at h hx;cases v with
  |nil e' c=>
   dsimp only at h;obtain ⟨Bg,h⟩:=cZ h;obtain ⟨m',CU,hk⟩:=cR h;obtain ⟨rfl,ly⟩:=AS CU;refine ⟨_,_,?_,Good.new hS (b:= .arr q m') (q:= .arr esz (m'.map (RT.pv q))) (v:= .own (amK s) amO) (p:= .own (amK s) esz 0 (amK m') (amK m') amO) (rd:=wF vy) (by rw [<- he];rfl) ⟨esz,amK m',rfl,.inl ⟨q,m',mG,he.symm,rfl⟩⟩,hk⟩
   rw [wN];have asW:c=amN:=Bg;subst asW;rw [show x.ev pe= .sl e' amN [] from hx];unfold iR;rw [Bh];cases m' with
   |nil=>simp [hS.len,CP]
   |cons a m'=>
    have h2:M2 ((a::m').length) eu=amN:=by simp [eu] at ly ⊢;omega
    simp only [adm] at h2;simp [hS.len,CP,h2]
  |own t ex=>
   dsimp only at h;simp only [cB] at h;generalize cq:s[t]? =b at h;cases b with
   |none=>cases h
   |some b=>
    cases b with
    |arr r l=>
     dsimp only at h;cases UQ:sG q r m with
     |none=>rw [UQ] at h;cases h
     |some m2=>
      rw [UQ] at h;dsimp only at h;obtain ⟨rfl,hmp,KU⟩:=BM UQ;obtain ⟨e',n',hx,de⟩:=hx;obtain ⟨rfl,rfl⟩:=de.inv cq;rw [<- hmp] at Bh;have Hx:=hS.arr cq;cases ex with
      |true=>
       dsimp only at h;rcases fv h with ⟨hl,h⟩|⟨hl,h⟩
       · obtain ⟨m',CU,hk⟩:=cR h
         obtain ⟨rfl,ly⟩:=AS CU;have hl:l=[]:=by simpa using hl
         subst hl;refine ⟨_,_,?_,Good.new hS (b:= .arr q m') (q:= .arr (amK q) (m'.map (RT.pv q))) (v:= .own (amK s) amO) (p:= .own (amK s) (amK q) 0 (amK m') (amK m') amO) (rd:=t::wF vy) rfl ⟨amK q,amK m',rfl,.inl ⟨q,m',mG,rfl,rfl⟩⟩,hk⟩;rw [wN,hx];unfold iR;rw [Bh];subst he;cases m' with
         |nil=>simp [hS.len,CP]
         |cons a m'=>
          have h2:M2 ((a::m').length) eu=amN:=by simp [eu] at ly ⊢;omega
          simp only [adm] at h2;simp [hS.len,CP,h2,Hx]
       have hl:l≠[]:=by intro e;subst e;cases hl
       have KT:(amK l)≠0:=by intro e;exact hl (afW.1 e)
       have hb0:NE (amK l) 0=amO:=by
        cases hb:NE (amK l) 0 with
        |false=>rfl
        |true=>exact absurd (ut hb) KT
       rcases fv h with ⟨hm,h⟩|⟨hm,h⟩
       · have hm:m2=[]:=by simpa using hm
         subst hm;refine gO.rd hS h ?_ ⟨_,_,rfl,de⟩;rw [wN,hx];unfold iR;rw [Bh];simp [hb0,CP]
       obtain ⟨l',mC,hk⟩:=cR h
       obtain ⟨rfl,ly⟩:=yq mC;refine ⟨_,_,?_,Good.new hS (b:= .arr q (l++m2)) (q:= .arr (amK q) ((l++m2).map (RT.pv q))) (v:= .own (amK s) amO) (p:= .own (amK s) (amK q) 0 (l++m2).length (l++m2).length amO) (rd:=t::wF vy) rfl ⟨amK q,(l++m2).length,rfl,.inl ⟨q,l++m2,mG,rfl,rfl⟩⟩,hk⟩;rw [wN,hx];unfold iR;rw [Bh];subst he;cases m2 with
       |nil=>cases hm
       |cons a m2=>
        have h2:M2 (amK l+(a::m2).length) eu=amN:=by simp [eu] at ly ⊢;omega
        have h3:M2 (amK l+(amK m2+1)) (amK l)=amO:=by
         cases hb:M2 (amK l+(amK m2+1)) (amK l) with
         |false=>rfl
         |true=>have:=UV hb;omega
        simp only [adm] at h2;simp [hS.len,CP,h2,h3,Hx,afa]
      |false=>
       dsimp only at h;rcases fv h with ⟨hm,h⟩|⟨hm,h⟩
       · have hm:m2=[]:=by simpa using hm
         subst hm;refine gO.rd hS h ?_ ⟨_,_,rfl,de⟩;rw [wN,hx];unfold iR;rw [Bh];simp [CP]
       obtain ⟨hz,h⟩:=sf h
       obtain ⟨l',mC,hk⟩:=cR h;obtain ⟨rfl,ly⟩:=yq mC;have cY:(Cz [t] (s.set t .dead)).length=(amK s):=by rw [wJ];simp
       refine ⟨_,_,?_,Good.put hS (b:= .dead) (q:= .dead) (l:=[.arr q (l++m2)]) (ql:=[.arr (amK q) ((l++m2).map (RT.pv q))]) (v:= .own (amK s) amO) (p:= .own (amK s) (amK q) 0 (l++m2).length (l++m2).length amO) (rd:=wF vy) cq (.inr rfl) rfl rfl
        (fun j b hj=>by
         cases j with
         |zero=>simp at hj;subst hj;exact ⟨_,rfl,rfl⟩
         |succ j=>simp at hj)
        ⟨amK q,(l++m2).length,rfl,.inl ⟨q,l++m2,by rw [<- cY];exact mG,rfl,rfl⟩⟩,hk⟩
       rw [wN,hx];unfold iR;rw [Bh];subst he;cases m2 with
       |nil=>cases hm
       |cons a m2=>
        have h2:M2 (amK l+(a::m2).length) eu=amN:=by simp [eu] at ly ⊢;omega
        have h3:M2 (amK l+(amK m2+1)) (amK l)=amO:=by
         cases hb:M2 (amK l+(amK m2+1)) (amK l) with
         |false=>rfl
         |true=>have:=UV hb;omega
        simp only [adm] at h2;simp [hS.len,CP,h2,h3,Hx,hz,afa]
    |_=>cases h
  |pre t len cap ex=>
   dsimp only at h;simp only [cB] at h;generalize cq:s[t]? =b at h;cases b with
   |none=>cases h
   |some b=>
    cases b with
    |arr r l=>
     dsimp only at h;cases UQ:sG q r m with
     |none=>rw [UQ] at h;cases h
     |some m2=>
      rw [UQ] at h;dsimp only at h;obtain ⟨rfl,hmp,KU⟩:=BM UQ;obtain ⟨e',hx,de⟩:=hx
      have:=de.inv cq
      subst this;rw [<- hmp] at Bh;have Hx:=hS.arr cq;obtain ⟨hex,h⟩:=sf h;subst hex;rcases fv h with ⟨hm,h⟩|⟨hm,h⟩
      · have hm:m2=[]:=by simpa using hm
        subst hm;refine gO.rd hS h ?_ ⟨_,rfl,de⟩;rw [wN,hx];unfold iR;rw [Bh];simp [CP]
      rcases fv h with ⟨c1,h⟩|⟨c1,h⟩
      · obtain ⟨E5,hk⟩:=ir h
        simp only [v6,adc] at E5;obtain ⟨c2,c3⟩:=E5;have c2':=UV c2
        refine ⟨_,_,?_,Good.put hS (b:= .arr q (fk l len m2)) (q:= .arr (amK q) ((fk l len m2).map (RT.pv q))) (l:=[]) (ql:=[]) (v:= .pre t (len+amK m2) cap amO) (p:= .own t (amK q) 0 (len+amK m2) cap amO) (rd:=wF vy) cq (.inl ⟨_,rfl,BV _ _ _ c2'⟩) rfl rfl
         (fun j b hj=>by simp at hj) ⟨amK q,rfl,?_⟩,hk⟩
        · rw [wN,hx]
          unfold iR;rw [Bh];subst he;have kM:la (0+len) (m2.map (RT.pv q)) (l.map (RT.pv q))=(fk l len m2).map (RT.pv q):=by
           rw [tX _ _ _ (by simp;omega),FT,afX]
          cases m2 with
          |nil=>cases hm
          |cons a m2=>
           simp only [adm] at c1;simp only [ae4] at kM ⊢;simp only [Hx,ae8,am0,PP,if_false,adm,ae3,c1,if_true,c3,kM,CP]
        have:=Aa.fr' (s:=s) (s':=Cz [t] (s.set t (.arr q (fk l len m2)))++[]) de ((Fr.dg (ts:=[t]) (Fr.set cq (.inl ⟨_,rfl,BV _ _ _ c2'⟩))).trans (Fr.app [t] _ []))
        exact this
      obtain ⟨hz0,h⟩:=sf h
      have hz:has z t=amO:=by
       cases hh:has z t with
       |false=>rfl
       |true=>rw [hh] at hz0;cases hz0
      obtain ⟨l',mC,h⟩:=cR h;obtain ⟨Az,hk⟩:=ir h;obtain ⟨asX,ly⟩:=yq mC;subst asX;have axJ:=UV Az;have Oi:(l.take len).length=len:=by rw [af4];omega
      rw [Oi] at ly;have cY:(Cz [t] (s.set t .dead)).length=(amK s):=by rw [wJ];simp
      have hal:(l.take len++m2).length=len+(amK m2):=by rw [agz,Oi]
      refine ⟨_,_,?_,Good.put hS (b:= .dead) (q:= .dead) (l:=[.arr q (l.take len++m2)]) (ql:=[.arr (amK q) ((l.take len++m2).map (RT.pv q))]) (v:= .own (amK s) amO) (p:= .own (amK s) (amK q) 0 (l.take len++m2).length (l.take len++m2).length amO) (rd:=wF vy) cq (.inr rfl) rfl rfl
       (fun j b hj=>by
        cases j with
        |zero=>simp at hj;subst hj;exact ⟨_,rfl,rfl⟩
        |succ j=>simp at hj)
       ⟨amK q,(l.take len++m2).length,rfl,.inl ⟨q,l.take len++m2,by rw [<- cY];exact mG,rfl,rfl⟩⟩,hk⟩
      rw [wN,hx];unfold iR;rw [Bh];subst he;cases m2 with
      |nil=>cases hm
      |cons a m2=>
       have h2:M2 (len+(amK m2+1)) eu=amN:=by simp [eu] at ly ⊢;omega
       simp only [adm] at c1 hal;simp only [ae4,adm,ae3,Hx,ae8,am0,PP,if_false,c1,h2,hz,hS.len,CP,hal,afe,afj,af5]
    |_=>cases h
  |_=>cases h
end
end Go.Vm
/- Operation by operation: all of them. -/
namespace Go.Vm
section
variable {R' ρ : Type} {w : R' -> ρ} {y : ρ} {s : List SB} {ps : cL} {e : SE} {pe : Env} {z : List Nat} {k : fX -> gq R'}
theorem Sp (hE:dZ s e pe) (hS:cN s ps) {esz:Nat} {zero:Row} {x:fH} (h:mA e s z (.clear esz zero x) k ρ w=amL y):gO s ps (bG pe ps z (.clear esz zero x)) k ρ w y:=by
 simp only [mA] at h;have hx:=dN hE x;unfold Ur at h;generalize bW e x=v at h hx;cases v with
 |part t off len cap ex=>
  simp only [cB] at h;generalize cq:s[t]? =b at h;cases b with
  |none=>cases h
  |some b=>
   cases b with
   |arr r l=>
    dsimp only at h;cases hq:Fy zero with
    |none=>rw [hq] at h;cases h
    |some q=>
     rw [hq] at h;dsimp only at h;obtain ⟨hc,h1⟩:=cZ h;simp only [v6] at hc;obtain ⟨hqr,he⟩:=hc;have hqr:=vM hqr;have he:=ut he;obtain ⟨e',hx,de⟩:=hx
     have:=de.inv cq
     subst this;subst hqr;subst he;rcases fv h1 with ⟨hl,hk⟩|⟨hl,hk⟩
     · have hl:=ut hl
       subst hl;exact gO.val hS hk (by simp only [bG,hx]) rfl
     obtain ⟨E5,hk⟩:=ir hk
     simp only [v6,adc] at E5;obtain ⟨c1,c2⟩:=E5;have c1':=UV c1;have cY:=BV l (af3 len (RT.zero q)) off (by simpa using c1')
     refine ⟨_,_,?_,Good.UE hS (b:= .arr q (fk l off (af3 len (RT.zero q)))) (q:= .arr (amK q) ((fk l off (af3 len (RT.zero q))).map (RT.pv q))) (rd:=[]) cq (.inl ⟨_,rfl,cY⟩) rfl,hk⟩;cases len with
     |zero=>cases hl
     |succ len=>
      have kM:la off (af3 (len+1) zero) (l.map (RT.pv q))=(fk l off (af3 (len+1) (RT.zero q))).map (RT.pv q):=by
       rw [FT,tX _ _ _ (by simpa using c1')]
       simp [BS hq]
      simp only [bG,hx,hS.arr cq,ae8,c2,afy,ae5,if_true,kM]
   |_=>cases h
 |_=>cases h
theorem AT (hS:cN s ps) {t off len cap:Nat} {ex:Bool} {r:List PT} {l:List (RT r)} {x yy:fH} {vy:SV} (cq:s[t]? =amL (.arr r l)) (hx:x.ev pe= .own t (amK r) off len cap ex) (T7:R s vy (yy.ev pe))
 (h:Fz s z t r l off len vy k ρ w=amL y):gO s ps (bG pe ps z (.copy (amK r) x yy)) k ρ w y:=by
 unfold Fz at h;cases hc:z6 s vy with
 |none=>rw [hc] at h;cases h
 |some cc=>
  obtain ⟨q,m⟩:=cc;rw [hc] at h;dsimp only at h;cases UQ:sG q r m with
  |none=>rw [UQ] at h;cases h
  |some m2=>
   rw [UQ] at h;dsimp only at h;obtain ⟨hqr,hmp,KU⟩:=BM UQ;subst hqr;obtain ⟨Bh,CP⟩:=Qv hS T7 hc;rw [<- hmp] at Bh;have FU:(m2.map (RT.pv q)).take len=(m2.take len).map (RT.pv q):=by rw [af5]
   generalize m2.take len=mm at h FU;rcases fv h with ⟨hm,hk⟩|⟨hm,hk⟩
   · have hm:mm=[]:=by simpa using hm
     subst hm;refine gO.rd hS hk ?_ rfl;simp only [bG,Bh,hx,FU,amm,CP]
   obtain ⟨E5,hk⟩:=ir hk
   simp only [v6,adc] at E5;obtain ⟨c1,c2⟩:=E5;have c1':=UV c1;have cY:=BV l mm off c1'
   refine ⟨_,_,?_,Good.put hS (b:= .arr q (fk l off mm)) (q:= .arr (amK q) ((fk l off mm).map (RT.pv q))) (l:=[]) (ql:=[]) (v:= .int .i64 (.ofNat (amK mm))) (p:= .int .i64 (.ofNat (amK mm))) (rd:=wF vy) cq (.inl ⟨_,rfl,cY⟩) rfl rfl (fun j b hj=>by simp at hj) rfl,hk⟩
   have kM:la off (mm.map (RT.pv q)) (l.map (RT.pv q))=(fk l off mm).map (RT.pv q):=by
    rw [FT,tX _ _ _ (by simpa using c1')]
   cases mm with
   |nil=>cases hm
   |cons a mm=>
    simp only [ae4] at kM FU;simp only [bG,Bh,hx,FU,hS.arr cq,ae8,c2,afy,ae5,if_true,kM,CP,ae3,adm]
theorem UR (hE:dZ s e pe) (hS:cN s ps) {esz:Nat} {x yy:fH} (h:mA e s z (.copy esz x yy) k ρ w=amL y):gO s ps (bG pe ps z (.copy esz x yy)) k ρ w y:=by
 simp only [mA] at h;have hx:=dN hE x;have T7:=dN hE yy;unfold afv at h;generalize bW e yy=vy at h T7;generalize bW e x=v at h hx;cases v with
 |own t ex=>
  simp only [cB] at h;generalize cq:s[t]? =b at h;cases b with
  |none=>cases h
  |some b=>
   cases b with
   |arr r l=>
    obtain ⟨he,hk⟩:=cZ h;have he:=ut he;subst he;obtain ⟨e',n',hx,de⟩:=hx;obtain ⟨rfl,rfl⟩:=de.inv cq;exact AT hS cq hx T7 hk
   |_=>cases h
 |pre t len cap ex=>
  simp only [cB] at h;generalize cq:s[t]? =b at h;cases b with
  |none=>cases h
  |some b=>
   cases b with
   |arr r l=>
    obtain ⟨he,hk⟩:=cZ h;have he:=ut he;subst he;obtain ⟨e',hx,de⟩:=hx
    have:=de.inv cq
    subst this;exact AT hS cq hx T7 hk
   |_=>cases h
 |part t off len cap ex=>
  simp only [cB] at h;generalize cq:s[t]? =b at h;cases b with
  |none=>cases h
  |some b=>
   cases b with
   |arr r l=>
    obtain ⟨he,hk⟩:=cZ h;have he:=ut he;subst he;obtain ⟨e',hx,de⟩:=hx
    have:=de.inv cq
    subst this;exact AT hS cq hx T7 hk
   |_=>cases h
 |_=>cases h
theorem Sq (hE:dZ s e pe) (hS:cN s ps) {x1 x2:fH} (h:mA e s z (.DC x1 x2) k ρ w=amL y):gO s ps (bG pe ps z (.DC x1 x2)) k ρ w y:=by
 simp only [mA] at h;have hx:=dN hE x1;have hy:=dN hE x2;generalize bW e x1=v at h hx;generalize bW e x2=u at h hy;cases v with
 |sl r l=>
  cases u with
  |sl q m=>
   have hx:x1.ev pe= .sl (amK r) amO (l.map (RT.pv r)):=hx;have hy:x2.ev pe= .sl (amK q) amO (m.map (RT.pv q)):=hy
   refine ⟨_,_,?_,Good.new hS (b:= .box [.sl r l,.sl q m]) (q:= .box [.sl (amK r) amO (l.map (RT.pv r)),.sl (amK q) amO (m.map (RT.pv q))]) (v:= .part (amK s) 0 2 2 amN) (p:= .own (amK s) 1 0 2 2 amN) (rd:=[]) ⟨_,rfl,_,_,rfl,rfl,_,_,rfl,rfl,rfl⟩ ⟨1,rfl,.inr (.inr ⟨_,mG,rfl⟩)⟩,h⟩;simp only [bG,hx,hy,hS.len];rfl
  |_=>cases h
 |_=>cases h
theorem X1 (hE:dZ s e pe) (hS:cN s ps) {op:k7} (h:mA e s z op k ρ w=amL y):gO s ps (bG pe ps z op) k ρ w y:=by
 cases op with
 |Tj x=>exact gO.val hS h rfl (dN hE x)
 |pick c a b=>exact UK hE hS h
 |bin op a b=>exact XM hE hS h
 |KX n a b=>exact UF hE hS h
 |eqc n g a b=>exact XN hE hS h
 |un op a=>exact agM hE hS h
 |conv a x=>exact UH hE hS h
 |len x=>exact XO hE hS h
 |NV n=>exact gO.val hS h rfl rfl
 |box x=>exact XQ hE hS h
 |alloc c=>exact Sk hS h
 |build z p=>exact Sj hE hS h
 |Bj a b c d=>exact Sn hE hS h
 |DC a b=>exact Sq hE hS h
 |load a p=>exact UN hE hS h
 |store a p x=>exact Sm hE hS h
 |KY x=>exact UI hE hS h
 |KZ o x=>exact UJ hE hS h
 |iK a o x=>exact XS hE hS h
 |K0 a x i=>exact UL hE hS h
 |DD n a x i=>exact Sl hE hS h
 |idx n a g x i=>exact XX hE hS h
 |K1 x i=>exact UM hE hS h
 |RA a x l h' m=>exact XY hE hS h
 |mks a z l c=>exact XZ hE hS h
 |mkf f a b=>exact XU hE hS h
 |mkm m=>exact XV hS h
 |lookup n z o m q=>exact OO hE hS h
 |I9 n m q x=>exact UP hE hS h
 |ext i x=>exact XT hE hS h
 |append a x b=>exact OP hE hS h
 |copy a x b=>exact UR hE hS h
 |clear a z x=>exact Sp hE hS h
 |mm m x xs=>exact agN hE hS h
 |call m f a=>cases h
 |xB x a=>cases h
 |bad=>cases h
mutual
theorem aok {bx:Nat->Option (List SV)} {US:Nat->Option (List PV)} (hS:cN s ps) (hb: ∀t l,bx t=amL l-> ∃q,US t=amL q/\sJ l=amL q): ∀{v u:SV} {p:PV},R s v p->Ih s bx v=amL u-> ∃q,CC ps US p=amL q/\sI u=amL q
 | .int k n,u,p,h,hx=>by injection hx with hx;subst hx;rw [show p=_ from h];exact ⟨_,rfl,rfl⟩
 | .bool b,u,p,h,hx=>by injection hx with hx;subst hx;rw [show p=_ from h];exact ⟨_,rfl,rfl⟩
 | .str x,u,p,h,hx=>by injection hx with hx;subst hx;rw [show p=_ from h];exact ⟨_,rfl,rfl⟩
 | .dU,u,p,h,hx=>by injection hx with hx;subst hx;rw [show p=_ from h];exact ⟨_,rfl,rfl⟩
 | .agg cs,u,p,h,hx=>by
  obtain ⟨q,rfl,h⟩:=h;simp only [Ih] at hx;split at hx
  · rename_i l hl
    injection hx with hx;subst hx;obtain ⟨q',h1,h2⟩:=uT hS hb h hl;exact ⟨.agg q',by simp only [CC,h1];rfl,by simp only [sI,h2]⟩
  cases hx
 | .cw cs,u,p,h,hx=>by
  obtain ⟨q,rfl,h⟩:=h;simp only [Ih] at hx;split at hx
  · rename_i l hl
    injection hx with hx;subst hx;obtain ⟨q',h1,h2⟩:=uT hS hb h hl;exact ⟨.cw q',by simp only [CC,h1];rfl,by simp only [sI,h2]⟩
  cases hx
 | .sl r l,u,p,h,hx=>by injection hx with hx;subst hx;rw [show p=_ from h];exact ⟨_,rfl,rfl⟩
 | .nil e c,u,p,h,hx=>by injection hx with hx;subst hx;rw [show p=_ from h];exact ⟨_,rfl,rfl⟩
 | .own t ex,u,p,h,hx=>by
  simp only [Ih,cB] at hx;split at hx
  · rename_i r l cq
    injection hx with hx;subst hx;obtain ⟨e,n,rfl,de⟩:=h;obtain ⟨rfl,rfl⟩:=de.inv cq;refine ⟨.sl (amK r) amO (l.map (RT.pv r)),?_,rfl⟩;simp only [CC,hS.arr cq,afe];rw [afa (by simp)]
  cases hx
 | .pre t len cap ex,u,p,h,hx=>by
  simp only [Ih,cB] at hx;split at hx
  · rename_i r l cq
    injection hx with hx;subst hx;obtain ⟨e,rfl,de⟩:=h
    have:=de.inv cq
    subst this;refine ⟨.sl (amK r) amO ((l.take len).map (RT.pv r)),?_,rfl⟩;simp only [CC,hS.arr cq,afe,af5]
  cases hx
 | .part t off len cap ex,u,p,h,hx=>by
  simp only [Ih,cB] at hx;split at hx
  · rename_i r l cq
    injection hx with hx;subst hx;obtain ⟨e,rfl,de⟩:=h
    have:=de.inv cq
    subst this;refine ⟨.sl (amK r) amO (((l.drop off).take len).map (RT.pv r)),?_,rfl⟩;simp only [CC,hS.arr cq,af5,afK]
  cases hx
 | .pa t r i a off,u,p,h,hx=>by
  simp only [Ih,cB] at hx;split at hx
  · rename_i q l cq
    injection hx with hx;subst hx;obtain ⟨rfl,de⟩:=h;obtain ⟨rfl,hg⟩:=de.inv cq;obtain ⟨m,rfl,hm⟩:=nE hg;refine ⟨.bJ (RT.pv r a) off,?_,by simp only [sI,RT.Ik]⟩
    have CU:(l.map (RT.pv r))[m]? =amL (RT.pv r a):=by simp [hm]
    have e1:(afx m).toNat=m:=rfl;simp only [CC,hS.arr cq,e1,CU];rfl
  cases hx
 | .bp t n off,u,p,h,hx=>by
  simp only [Ih,cB] at hx;split at hx
  · rename_i cs cq
    split at hx
    · rename_i l hl
      injection hx with hx;subst hx;rw [show p=_ from h];obtain ⟨q,h1,h2⟩:=hb t l hl;obtain ⟨c,h3,_⟩:=hS.box cq;refine ⟨.bJ q off,?_,by simp only [sI,h2]⟩
      simp only [CC,h3,ae8,if_true,h1];rfl
    cases hx
  cases hx
 | .bJ cs off,u,p,h,hx=>by
  obtain ⟨q,rfl,h⟩:=h;simp only [Ih] at hx;split at hx
  · rename_i l hl
    injection hx with hx;subst hx;obtain ⟨q',h1,h2⟩:=uT hS hb h hl;exact ⟨.bJ q' off,by simp only [CC,h1];rfl,by simp only [sI,h2]⟩
  cases hx
 | .eV f a b,u,p,h,hx=>by
  obtain ⟨pa,pb,rfl,h1,h2⟩:=h;simp only [Ih] at hx;split at hx
  · rename_i x y' h3 h4
    injection hx with hx;subst hx;obtain ⟨qa,h5,h6⟩:=uT hS hb h1 h3;obtain ⟨qb,h7,h8⟩:=uT hS hb h2 h4;exact ⟨.eV f qa qb,by simp only [CC,h5,h7],by simp only [sI,h6,h8]⟩
  cases hx
 | .iU,_,_,_,hx| .undef,_,_,_,hx| .jA,_,_,_,hx| .pb _ _ _,_,_,_,hx| .mp _,_,_,_,hx=>by cases hx
theorem uT {bx:Nat->Option (List SV)} {US:Nat->Option (List PV)} (hS:cN s ps) (hb: ∀t l,bx t=amL l-> ∃q,US t=amL q/\sJ l=amL q): ∀{v u:List SV} {p:List PV},RL s v p->sH s bx v=amL u-> ∃q,CD ps US p=amL q/\sJ u=amL q
 | [],u,p,h,hx=>by injection hx with hx;subst hx;rw [show p=_ from h];exact ⟨_,rfl,rfl⟩
 |x::xs,u,p,h,hx=>by
  obtain ⟨q,qs,rfl,h1,h2⟩:=h.cons_inv;simp only [sH] at hx;split at hx
  · rename_i y' ys h3 h4
    injection hx with hx;subst hx;obtain ⟨a,h5,h6⟩:=aok hS hb h1 h3;obtain ⟨as,h7,h8⟩:=uT hS hb h2 h4;exact ⟨a::as,by simp only [CD,h5,h7],eS.2 ⟨a,as,rfl,h6,h8⟩⟩
  cases hx
end
theorem Ex (hS:cN s ps): ∀(n t:Nat) (l:List SV),kO s n t=amL l-> ∃q,xX ps n t=amL q/\sJ l=amL q
 |0,t,l,h=>by cases h
 |n+1,t,l,h=>by
  simp only [kO,cB] at h;split at h
  · rename_i cs cq
    obtain ⟨q,h1,h2⟩:=hS.box cq;obtain ⟨u,h3,h4⟩:=uT hS (Ex hS n) h2 h;exact ⟨u,by simp only [xX,h1,h3],h4⟩
  cases h
mutual
theorem UT {bx US:Nat->List Nat} (hb: ∀t,bx t=US t): ∀{v:SV} {p:PV},R s v p->v.sure=amN->OB bx v=jc US p
 | .iU,_,_,h=>by cases h
 | .undef,p,h,_| .jA,p,h,_| .dU,p,h,_| .int _ _,p,h,_| .bool _,p,h,_| .str _,p,h,_| .sl _ _,p,h,_| .nil _ _,p,h,_=>by rw [show p=_ from h];rfl
 | .agg cs,p,h,hs=>by obtain ⟨q,rfl,h⟩:=h;exact AU hb h hs
 | .cw cs,p,h,hs=>by obtain ⟨q,rfl,h⟩:=h;exact AU hb h hs
 | .own t ex,p,h,_=>by obtain ⟨e,n,rfl,_⟩:=h;rfl
 | .pre t a b c,p,h,_=>by obtain ⟨e,rfl,_⟩:=h;rfl
 | .part t o a b c,p,h,_=>by obtain ⟨e,rfl,_⟩:=h;rfl
 | .pa t r i a o,p,h,_=>by obtain ⟨rfl,_⟩:=h;simp only [OB,jc,hb]
 | .pb t i o,p,h,_=>by obtain ⟨e,rfl,_⟩:=h;simp only [OB,jc,hb]
 | .bp t n o,p,h,_=>by rw [show p=_ from h];simp only [OB,jc,hb]
 | .bJ cs o,p,h,hs=>by obtain ⟨q,rfl,h⟩:=h;exact AU hb h hs
 | .mp t,p,h,_=>by rw [show p=_ from h];rfl
 | .eV f a b,p,h,hs=>by
  obtain ⟨pa,pb,rfl,h1,h2⟩:=h;simp only [SV.sure,v6] at hs;simp only [OB,jc,AU hb h1 hs.1,AU hb h2 hs.2]
theorem AU {bx US:Nat->List Nat} (hb: ∀t,bx t=US t): ∀{v:List SV} {p:List PV},RL s v p->my v=amN->rM bx v=dE US p
 | [],p,h,_=>by rw [show p=_ from h];rfl
 |x::xs,p,h,hs=>by
  obtain ⟨q,qs,rfl,h1,h2⟩:=h.cons_inv;simp only [my,v6] at hs;simp only [rM,dE,UT hb h1 hs.1,AU hb h2 hs.2]
end
end
end Go.Vm
/- The head of a loop: what the typed machine keeps there, the logical machine keeps there. -/
namespace Go.Vm
section
variable {s : List SB} {ps : cL}
mutual
theorem aol {n:Nat} (hS:cN s ps) (hB: ∀t l,kO s n t=amL l->xS s n t=dj ps n t): ∀{v u:SV} {p:PV},R s v p->Ih s (kO s n) v=amL u->OB (xS s n) v=jc (dj ps n) p
 | .int _ _,_,p,h,_| .bool _,_,p,h,_| .str _,_,p,h,_| .dU,_,p,h,_| .sl _ _,_,p,h,_| .nil _ _,_,p,h,_=>by rw [show p=_ from h];rfl
 | .agg cs,u,p,h,hx=>by
  obtain ⟨q,rfl,h⟩:=h;simp only [Ih] at hx;split at hx
  · rename_i l hl;exact Ac hS hB h hl
  cases hx
 | .cw cs,u,p,h,hx=>by
  obtain ⟨q,rfl,h⟩:=h;simp only [Ih] at hx;split at hx
  · rename_i l hl;exact Ac hS hB h hl
  cases hx
 | .own t ex,_,p,h,_=>by obtain ⟨e,n,rfl,_⟩:=h;rfl
 | .pre t a b c,_,p,h,_=>by obtain ⟨e,rfl,_⟩:=h;rfl
 | .part t o a b c,_,p,h,_=>by obtain ⟨e,rfl,_⟩:=h;rfl
 | .pa t r i a o,_,p,h,hx=>by
  obtain ⟨rfl,de⟩:=h;simp only [Ih,cB] at hx;split at hx
  · rename_i q l cq
    simp only [OB,jc];cases n with
    |zero=>rfl
    |succ n=>simp only [xS,dj,cB,cq,hS.arr cq]
  cases hx
 | .bp t m o,u,p,h,hx=>by
  rw [show p=_ from h];simp only [Ih,cB] at hx;split at hx
  · split at hx
    · rename_i l hl
      simp only [OB,jc,hB t l hl]
    cases hx
  cases hx
 | .bJ cs o,u,p,h,hx=>by
  obtain ⟨q,rfl,h⟩:=h;simp only [Ih] at hx;split at hx
  · rename_i l hl;exact Ac hS hB h hl
  cases hx
 | .eV f a b,u,p,h,hx=>by
  obtain ⟨pa,pb,rfl,h1,h2⟩:=h;simp only [Ih] at hx;split at hx
  · rename_i x y h3 h4
    simp only [OB,jc,Ac hS hB h1 h3,Ac hS hB h2 h4]
  cases hx
 | .iU,_,_,_,hx| .undef,_,_,_,hx| .jA,_,_,_,hx| .pb _ _ _,_,_,_,hx| .mp _,_,_,_,hx=>by cases hx
theorem Ac {n:Nat} (hS:cN s ps) (hB: ∀t l,kO s n t=amL l->xS s n t=dj ps n t): ∀{v u:List SV} {p:List PV},RL s v p->sH s (kO s n) v=amL u->rM (xS s n) v=dE (dj ps n) p
 | [],_,p,h,_=>by rw [show p=_ from h];rfl
 |x::xs,u,p,h,hx=>by
  obtain ⟨q,qs,rfl,h1,h2⟩:=h.cons_inv;simp only [sH] at hx;split at hx
  · rename_i a b h3 h4
    simp only [rM,dE,aol hS hB h1 h3,Ac hS hB h2 h4]
  cases hx
end
theorem UU {n:Nat} (hS:cN s ps) (hB: ∀t l,kO s n t=amL l->xS s n t=dj ps n t): ∀{v:List SV} {p:List PV},RL s v p->OA s (kO s n) v=amN->rM (xS s n) v=dE (dj ps n) p
 | [],p,h,_=>by rw [show p=[] from h];rfl
 |x::xs,p,h,hx=>by
  obtain ⟨a,as,rfl,h1,h2⟩:=h.cons_inv;have other: ∀u,Ih s (kO s n) x=amL u->OA s (kO s n) xs=amN->rM (xS s n) (x::xs)=dE (dj ps n) (a::as):=fun u h3 h4=>by
   simp only [rM,dE,aol hS hB h1 h3,UU hS hB h2 h4]
  unfold OA at hx;split at hx
  · rename_i t
    rw [show a= .mp t from h1];simp only [rM,dE,OB,jc,UU hS hB h2 hx]
  split at hx
  · rename_i u h3
    exact other u h3 hx
  cases hx
theorem FV (hS:cN s ps): ∀(n t:Nat) (l:List SV),kO s n t=amL l->xS s n t=dj ps n t
 |0,t,l,h=>rfl
 |n+1,t,l,h=>by
  simp only [kO,cB] at h;split at h
  · rename_i cs cq
    obtain ⟨q,h1,h2⟩:=hS.box cq;simp only [xS,dj,cB,cq,h1];exact Ac hS (FV hS n) h2 h
  cases h
theorem JQ {b:SB} {q:jW} (h:RB s b q) (hs:zh b=amN):FA b=rC q:=by
 cases b with
 |box cs=>obtain ⟨c,rfl,h⟩:=h;exact AU (fun _=>rfl) h hs
 |arr r l=>rw [show q=_ from h];rfl
 |set l=>rw [show q=_ from h];rfl
 |aP p l=>rw [show q=_ from h];rfl
 |dead=>rw [show q=_ from h];rfl
theorem FW (hS:cN s ps): ∀(n:Nat) (ts seen m:List Nat),C0 s n ts seen=amL m->reach ps n ts seen=amL m
 |n,[],seen,m,h=>by
  cases n<;>(simp only [C0] at h;exact h)
 |0,_::_,_,_,h=>by cases h
 |n+1,t::ts,seen,m,h=>by
  simp only [C0,cB] at h;simp only [reach];cases hh:has seen t with
  |true=>rw [hh] at h;simp only [lw] at h;simp only [if_true];exact FW hS n ts seen m h
  |false=>
   rw [hh] at h;simp only [ol] at h;simp only [PP,if_false];split at h
   · rename_i b cq
     obtain ⟨q,h1,h2⟩:=hS.at_ t b cq;cases hb:zh b with
     |false=>rw [hb] at h;cases h
     |true=>
      rw [hb] at h;simp only [lw] at h;rw [h1,JQ h2 hb] at*;exact FW hS n _ _ m h
   cases h
theorem FX: ∀{t u:Nat} {m:List Nat},idxOf t m=amL u->m[u]? =amL t
 |t,u,[],h=>by cases h
 |t,u,x::m,h=>by
  simp only [idxOf] at h;cases hb:NE x t with
  |true=>rw [hb] at h;simp at h;subst h;simp [ut hb]
  |false=>
   rw [hb] at h;simp only [PP,if_false,ae9] at h;obtain ⟨v,hv,rfl⟩:=h;simpa using FX hv
def FY (m:List Nat) (s s':List SB):Prop:= ∀(t u:Nat) (b:SB),idxOf t m=amL u->s[t]? =amL b->match b with
 | .arr r l=>s'[u]? =amL (.arr r l)
 | .dead=>s'[u]? =amL .dead
 | .box _=> ∃cs,s'[u]? =amL (.box cs)
 |_=>True
mutual
theorem UW {m:List Nat} {s':List SB} (hr:FY m s s'): ∀{v u:SV} {p:PV},R s v p->qC m v=amL u-> ∃q,zR m p=amL q/\R s' u q
 | .iU,_,_,_,hx=>by cases hx
 | .undef,u,p,h,hx| .jA,u,p,h,hx| .dU,u,p,h,hx| .int _ _,u,p,h,hx| .bool _,u,p,h,hx| .str _,u,p,h,hx| .sl _ _,u,p,h,hx| .nil _ _,u,p,h,hx=>by
  injection hx with hx;subst hx;rw [show p=_ from h];exact ⟨_,rfl,rfl⟩
 | .agg cs,u,p,h,hx=>by
  obtain ⟨q,rfl,h⟩:=h;simp only [qC] at hx;split at hx
  · rename_i l hl
    injection hx with hx;subst hx;obtain ⟨q',h1,h2⟩:=tY hr h hl;exact ⟨.agg q',by simp only [zR,h1];rfl,q',rfl,h2⟩
  cases hx
 | .cw cs,u,p,h,hx=>by
  obtain ⟨q,rfl,h⟩:=h;simp only [qC] at hx;split at hx
  · rename_i l hl
    injection hx with hx;subst hx;obtain ⟨q',h1,h2⟩:=tY hr h hl;exact ⟨.cw q',by simp only [zR,h1];rfl,q',rfl,h2⟩
  cases hx
 | .own t ex,u,p,h,hx=>by
  obtain ⟨e,n,rfl,de⟩:=h;simp only [qC] at hx;split at hx
  · rename_i v hv
    injection hx with hx;subst hx;refine ⟨.own v e 0 n n ex,by simp only [zR,hv];rfl,e,n,rfl,?_⟩
    rcases de with ⟨r,l,h1,h2,h3⟩|h1
    · exact .inl ⟨r,l,hr t v _ hv h1,h2,h3⟩
    exact .inr (hr t v _ hv h1)
  cases hx
 | .pre t len cap ex,u,p,h,hx=>by
  obtain ⟨e,rfl,de⟩:=h;simp only [qC] at hx;split at hx
  · rename_i v hv
    injection hx with hx;subst hx;refine ⟨.own v e 0 len cap ex,by simp only [zR,hv];rfl,e,rfl,?_⟩
    rcases de with ⟨r,l,h1,h2⟩|h1|⟨cs,h1,h2⟩
    · exact .inl ⟨r,l,hr t v _ hv h1,h2⟩
    · exact .inr (.inl (hr t v _ hv h1))
    obtain ⟨c2,h3⟩:=hr t v _ hv h1
    exact .inr (.inr ⟨c2,h3,h2⟩)
  cases hx
 | .part t off len cap ex,u,p,h,hx=>by
  obtain ⟨e,rfl,de⟩:=h;simp only [qC] at hx;split at hx
  · rename_i v hv
    injection hx with hx;subst hx;refine ⟨.own v e off len cap ex,by simp only [zR,hv];rfl,e,rfl,?_⟩
    rcases de with ⟨r,l,h1,h2⟩|h1|⟨cs,h1,h2⟩
    · exact .inl ⟨r,l,hr t v _ hv h1,h2⟩
    · exact .inr (.inl (hr t v _ hv h1))
    obtain ⟨c2,h3⟩:=hr t v _ hv h1
    exact .inr (.inr ⟨c2,h3,h2⟩)
  cases hx
 | .pa t r i a off,u,p,h,hx=>by
  obtain ⟨rfl,de⟩:=h;simp only [qC] at hx;split at hx
  · rename_i v hv
    injection hx with hx;subst hx;refine ⟨.ptr v (amK r) i.toNat off,by simp only [zR,hv];rfl,amK r,rfl,?_⟩
    rcases de with ⟨l,h1,h2⟩|h1
    · exact .inl ⟨r,l,hr t v _ hv h1,by rw [h2];rfl⟩
    exact .inr (hr t v _ hv h1)
  cases hx
 | .pb t i off,u,p,h,hx=>by
  obtain ⟨e,rfl,de⟩:=h;simp only [qC] at hx;split at hx
  · rename_i v hv
    injection hx with hx;subst hx;refine ⟨.ptr v e i.toNat off,by simp only [zR,hv];rfl,e,rfl,?_⟩
    rcases de with ⟨r,l,h1,h2⟩|h1
    · exact .inl ⟨r,l,hr t v _ hv h1,h2⟩
    exact .inr (hr t v _ hv h1)
  cases hx
 | .bp t n off,u,p,h,hx=>by
  rw [show p=_ from h];simp only [qC] at hx;split at hx
  · rename_i v hv
    injection hx with hx;subst hx;exact ⟨.ptr v n 0 off,by simp only [zR,hv];rfl,rfl⟩
  cases hx
 | .bJ cs off,u,p,h,hx=>by
  obtain ⟨q,rfl,h⟩:=h;simp only [qC] at hx;split at hx
  · rename_i l hl
    injection hx with hx;subst hx;obtain ⟨q',h1,h2⟩:=tY hr h hl;exact ⟨.bJ q' off,by simp only [zR,h1];rfl,q',rfl,h2⟩
  cases hx
 | .mp t,u,p,h,hx=>by
  rw [show p=_ from h];simp only [qC] at hx;split at hx
  · rename_i v hv
    injection hx with hx;subst hx;exact ⟨.mp v,by simp only [zR,hv];rfl,rfl⟩
  cases hx
 | .eV f a b,u,p,h,hx=>by
  obtain ⟨pa,pb,rfl,h1,h2⟩:=h;simp only [qC] at hx;split at hx
  · rename_i x y h3 h4
    injection hx with hx;subst hx;obtain ⟨qa,h5,h6⟩:=tY hr h1 h3;obtain ⟨qb,h7,h8⟩:=tY hr h2 h4;exact ⟨.eV f qa qb,by simp only [zR,h5,h7],qa,qb,rfl,h6,h8⟩
  cases hx
theorem tY {m:List Nat} {s':List SB} (hr:FY m s s'): ∀{v u:List SV} {p:List PV},RL s v p->tT m v=amL u-> ∃q,zL m p=amL q/\RL s' u q
 | [],u,p,h,hx=>by injection hx with hx;subst hx;rw [show p=_ from h];exact ⟨_,rfl,rfl⟩
 |x::xs,u,p,h,hx=>by
  obtain ⟨q,qs,rfl,h1,h2⟩:=h.cons_inv;simp only [tT] at hx;split at hx
  · rename_i a b h3 h4
    injection hx with hx;subst hx;obtain ⟨a',h5,h6⟩:=UW hr h1 h3;obtain ⟨b',h7,h8⟩:=tY hr h2 h4;exact ⟨a'::b',by simp only [zL,h5,h7],RL.cons h6 h8⟩
  cases hx
end
theorem agO {m:List Nat} {s':List SB} (hr:FY m s s') {b c:SB} {q:jW} (h:RB s b q) (hx:OD m b=amL c): ∃q',nZ m q=amL q'/\RB s' c q':=by
 cases b with
 |box cs=>
  obtain ⟨p,rfl,h⟩:=h;simp only [OD] at hx;split at hx
  · rename_i l hl
    injection hx with hx;subst hx;obtain ⟨q',h1,h2⟩:=tY hr h hl;exact ⟨.box q',by simp only [nZ,h1];rfl,q',rfl,h2⟩
  cases hx
 |arr r l=>injection hx with hx;subst hx;rw [show q=_ from h];exact ⟨_,rfl,rfl⟩
 |set l=>injection hx with hx;subst hx;rw [show q=_ from h];exact ⟨_,rfl,rfl⟩
 |aP p l=>injection hx with hx;subst hx;rw [show q=_ from h];exact ⟨_,rfl,rfl⟩
 |dead=>injection hx with hx;subst hx;rw [show q=_ from h];exact ⟨_,rfl,rfl⟩
theorem yr {m:List Nat}: ∀{ts:List Nat} {s1:List SB},HC s m ts=amL s1->amK s1=amK ts/\ ∀(j t:Nat),ts[j]? =amL t-> ∃b c,s[t]? =amL b/\OD m b=amL c/\s1[j]? =amL c
 | [],s1,h=>by injection h with h;subst h;exact ⟨rfl,fun j t h=>by simp at h⟩
 |t::ts,s1,h=>by
  simp only [HC,cB] at h;split at h
  · rename_i b hb
    split at h
    · rename_i c r hc hr
      injection h with h;subst h;obtain ⟨h1,h2⟩:=yr hr;refine ⟨by simp [h1],fun j u hj=>?_⟩
      cases j with
      |zero=>simp at hj;subst hj;exact ⟨b,c,hb,hc,rfl⟩
      |succ j=>simpa using h2 j u (by simpa using hj)
    cases h
  cases h
theorem C5 (hS:cN s ps) {m:List Nat} {s':List SB} (hr:FY m s s'): ∀{ts:List Nat} {s1:List SB},HC s m ts=amL s1-> ∃p1,xY ps m ts=amL p1/\amK p1=amK s1/\ ∀(j:Nat) (b:SB),s1[j]? =amL b-> ∃q,p1[j]? =amL q/\RB s' b q
 | [],s1,h=>by injection h with h;subst h;exact ⟨[],rfl,rfl,fun j b h=>by simp at h⟩
 |t::ts,s1,h=>by
  simp only [HC,cB] at h;split at h
  · rename_i b hb
    split at h
    · rename_i c r hc WY
      injection h with h;subst h;obtain ⟨q,h1,h2⟩:=hS.at_ t b hb;obtain ⟨q',h3,h4⟩:=agO hr h2 hc;obtain ⟨p1,h5,h6,h7⟩:=C5 hS hr WY;refine ⟨q'::p1,by simp only [xY,h1,h3,h5],by simp [h6],fun j x hj=>?_⟩
      cases j with
      |zero=>simp at hj;subst hj;exact ⟨q',rfl,h4⟩
      |succ j=>simpa using h7 j x (by simpa using hj)
    cases h
  cases h
theorem FY.of {m:List Nat} {s1 l:List SB} (h:HC s m m=amL s1):FY m s (s1++l):=fun t u b hu hb=>by
 have hm:=FX hu;obtain ⟨h1,h2⟩:=yr h;obtain ⟨b',c,h3,h4,h5⟩:=h2 u t hm;rw [hb] at h3;injection h3 with h3;subst h3;have dM:=(ww.1 h5).1;cases b with
 |arr r l'=>injection h4 with h4;subst h4;rw [AC dM];exact h5
 |dead=>injection h4 with h4;subst h4;rw [AC dM];exact h5
 |box cs=>
  simp only [OD] at h4;split at h4
  · injection h4 with h4;subst h4;exact ⟨_,by rw [AC dM];exact h5⟩
  cases h4
 |_=>trivial
theorem vO: ∀(rk:List (Nat×List PT)) (n:Nat),(rowOf rk n).length=n
 | [],n=>by simp [rowOf]
 |(m,r)::q,n=>by
  simp only [rowOf];cases hc:(NE m n&&NE (amK r) n) with
  |true=>simp only [v6] at hc;exact ut hc.2
  |false=>exact vO q n
theorem C6 {rk:List (Nat×List PT)} {e:SE} {m:List Nat}: ∀{live:List (Nat×Option Nat)} {nx:Nat} {e1:SE} {s2:List SB},xI rk e m nx live=amL (e1,s2)-> ∀(j:Nat) (b:SB),s2[j]? =amL b-> ∃r,b= .arr r []
 | [],nx,e1,s2,h,j,b,hj=>by
  simp only [xI,EQ,acl] at h;rw [<- h.2] at hj;simp at hj
 |(t,k)::live,nx,e1,s2,h,j,b,hj=>by
  simp only [xI] at h;split at h
  · split at h
    · rename_i p hp
      simp only [EQ,acl] at h;obtain ⟨rfl,rfl⟩:=h;cases j with
      |zero=>simp at hj;exact ⟨_,hj.symm⟩
      |succ j=>exact C6 (e1:=p.1) (s2:=p.2) hp j b (by simpa using hj)
    cases h
  split at h
  · rename_i v' p hv hp
    simp only [EQ,acl] at h;obtain ⟨rfl,rfl⟩:=h;exact C6 (e1:=p.1) (s2:=p.2) hp j b hj
  cases h
mutual
theorem C7 {m:List Nat}: ∀{v u:SV},qC m v=amL u->u.sure=amN
 | .iU,_,h=>by cases h
 | .undef,u,h| .jA,u,h| .dU,u,h| .int _ _,u,h| .bool _,u,h| .str _,u,h| .sl _ _,u,h| .nil _ _,u,h=>by injection h with h;subst h;rfl
 | .agg cs,u,h=>by
  simp only [qC] at h;split at h
  · rename_i l hl;injection h with h;subst h;exact ni hl
  cases h
 | .cw cs,u,h=>by
  simp only [qC] at h;split at h
  · rename_i l hl;injection h with h;subst h;exact ni hl
  cases h
 | .bJ cs _,u,h=>by
  simp only [qC] at h;split at h
  · rename_i l hl;injection h with h;subst h;exact ni hl
  cases h
 | .own _ _,u,h=>by simp only [qC] at h;split at h<;>first|(injection h with h;subst h;rfl)|cases h
 | .pre _ _ _ _,u,h=>by simp only [qC] at h;split at h<;>first|(injection h with h;subst h;rfl)|cases h
 | .part _ _ _ _ _,u,h=>by simp only [qC] at h;split at h<;>first|(injection h with h;subst h;rfl)|cases h
 | .pa _ _ _ _ _,u,h=>by simp only [qC] at h;split at h<;>first|(injection h with h;subst h;rfl)|cases h
 | .pb _ _ _,u,h=>by simp only [qC] at h;split at h<;>first|(injection h with h;subst h;rfl)|cases h
 | .bp _ _ _,u,h=>by simp only [qC] at h;split at h<;>first|(injection h with h;subst h;rfl)|cases h
 | .mp _,u,h=>by simp only [qC] at h;split at h<;>first|(injection h with h;subst h;rfl)|cases h
 | .eV f a b,u,h=>by
  simp only [qC] at h;split at h
  · rename_i x y h1 h2
    injection h with h;subst h;simp only [SV.sure,ni h1,ni h2,ae5]
  cases h
theorem ni {m:List Nat}: ∀{v u:List SV},tT m v=amL u->my u=amN
 | [],u,h=>by injection h with h;subst h;rfl
 |x::xs,u,h=>by
  simp only [tT] at h;split at h
  · rename_i a b h1 h2
    injection h with h;subst h;simp only [my,C7 h1,ni h2,ae5]
  cases h
end
theorem X2 {s:List SB} {v:SV} {p:PV} (h:R s v p): ∀k:Option Nat,v.sure=amN->R s (JI k v) (HT k p)
 |none,_=>h
 |some _,hs=>by
  cases v with
  |own t ex=>obtain ⟨e,n,rfl,h⟩:=h;exact ⟨e,n,rfl,h⟩
  |pre t l c ex=>obtain ⟨e,rfl,h⟩:=h;exact ⟨e,rfl,h⟩
  |part t o l c ex=>obtain ⟨e,rfl,h⟩:=h;exact ⟨e,rfl,h⟩
  |iU=>cases hs
  |undef|jA|dU|int _ _|bool _|str _|bp _ _ _|mp _|sl _ _|nil _ _=>rw [show p=_ from h];rfl
  |agg _|cw _|bJ _ _=>obtain ⟨q,rfl,h⟩:=h;exact ⟨q,rfl,h⟩
  |eV _ _ _=>obtain ⟨q,q2,rfl,h⟩:=h;exact ⟨q,q2,rfl,h⟩
  |pa _ _ _ _ _=>obtain ⟨rfl,h⟩:=h;exact ⟨rfl,h⟩
  |pb _ _ _=>obtain ⟨q,rfl,h⟩:=h;exact ⟨q,rfl,h⟩
theorem OQ {v:SV} (h:v.sure=amN) (k:Option Nat):(JI k v).sure=amN:=by
 unfold JI;split<;>first|rfl|exact h
theorem JR {rk:List (Nat×List PT)} {e:SE} {pe:Env} (hE:dZ s e pe) {m:List Nat} {s':List SB} (hr:FY m s s'): ∀{live:List (Nat×Option Nat)} {nx:Nat} {e1:SE} {s2:List SB},xI rk e m nx live=amL (e1,s2)->(∀(j:Nat) (b:SB),s2[j]? =amL b->s'[nx+j]? =amL b)->
 ∃p1 q2,rD pe m nx live=amL (p1,q2)/\dZ s' e1 p1/\amK q2=amK s2/\ ∀(j:Nat) (b:SB),s2[j]? =amL b-> ∃q,q2[j]? =amL q/\RB s' b q
 | [],nx,e1,s2,h,_=>by
  simp only [xI,EQ,acl] at h;obtain ⟨rfl,rfl⟩:=h;exact ⟨[],[],rfl,rfl,rfl,fun j b h=>by simp at h⟩
 |(t,k)::live,nx,e1,s2,h,hs=>by
  have vL:=hE.lk t;simp only [xI] at h;split at h
  · rename_i kk esz en hv
    split at h
    · rename_i p hp
      simp only [EQ,acl] at h;obtain ⟨rfl,rfl⟩:=h;rw [hv] at vL;obtain ⟨p1,q2,h1,h2,h3,h4⟩:=JR (live:=live) (nx:=nx+1) (e1:=p.1) (s2:=p.2) hE hr hp (fun j b hj=>by
       have:=hs (j+1) b (by simpa using hj)
       rw [show nx+1+j=nx+(j+1) by omega];exact this)
      refine ⟨(t,.own nx esz 0 0 0 amO)::p1,.arr esz []::q2,?_,⟨_,_,rfl,⟨esz,0,rfl,.inl ⟨rowOf rk esz,[],by simpa using hs 0 _ rfl,(vO rk esz).symm,rfl⟩⟩,h2⟩,by simp [h3],fun j b hj=>?_⟩
      · have agP:lk t pe= .sl en amN []:=vL
        simp only [rD,agP,h1];rfl
      cases j with
      |zero=>simp at hj;subst hj;exact ⟨_,rfl,by show _=_;rw [vO];rfl⟩
      |succ j=>simpa using h4 j b (by simpa using hj)
    cases h
  rename_i ec
  split at h
  · rename_i v' p hv hp
    simp only [EQ,acl] at h;obtain ⟨rfl,rfl⟩:=h;obtain ⟨q',h5,h6⟩:=UW hr vL hv;obtain ⟨p1,q2,h1,h2,h3,h4⟩:=JR (live:=live) (e1:=p.1) (s2:=p.2) hE hr hp hs;refine ⟨(t,HT _ q')::p1,q2,?_,⟨_,_,rfl,X2 h6 _ (C7 hv),h2⟩,h3,h4⟩;simp only [rD];split
    · rename_i esz x hx
      exfalso;rw [hx] at vL;generalize Hm t e=v0 at vL hv ec;cases v0 with
      |iU=>cases hv
      |nil e' c=>
       have agP:PV.sl x amN []= .sl e' c []:=vL;injection agP with h1 h2;subst h2;exact ec _ _ rfl rfl
      |undef|jA|dU|int _ _|bool _|str _|bp _ _ _|mp _=>cases (show PV.sl x amN []=_ from vL)
      |sl r l=>cases (show PV.sl x amN []=_ from vL)
      |agg _|cw _|bJ _ _=>obtain ⟨q,hq,_⟩:=vL;cases hq
      |eV _ _ _=>obtain ⟨q,q2,hq,_⟩:=vL;cases hq
      |own _ _=>obtain ⟨q,q2,hq,_⟩:=vL;cases hq
      |pre _ _ _ _=>obtain ⟨q,hq,_⟩:=vL;cases hq
      |part _ _ _ _ _=>obtain ⟨q,hq,_⟩:=vL;cases hq
      |pa _ _ _ _ _=>obtain ⟨hq,_⟩:=vL;cases hq
      |pb _ _ _=>obtain ⟨q,hq,_⟩:=vL;cases hq
    simp only [h5,h1]
  cases h
def afD (s:List SB):Prop:= ∀(t:Nat) (cs:List SV),s[t]? =amL (.box cs)->my cs=amN
def Iq:SE->Prop
 | []=>True
 |(_,v)::r=>v.sure=amN/\Iq r
theorem Iq.lk: ∀{e:SE},Iq e-> ∀t,(Hm t e).sure=amN
 | [],_,t=>rfl
 |(u,v)::r,h,t=>by
  simp only [Hm];cases hb:NE u t with
  |true=>exact h.1
  |false=>exact Iq.lk h.2 t
theorem AV {rk:List (Nat×List PT)} {e:SE} {m:List Nat}: ∀{live:List (Nat×Option Nat)} {nx:Nat} {e1:SE} {s2:List SB},xI rk e m nx live=amL (e1,s2)->Iq e1
 | [],nx,e1,s2,h=>by
  simp only [xI,EQ,acl] at h;rw [<- h.1];trivial
 |(t,k)::live,nx,e1,s2,h=>by
  simp only [xI] at h;split at h
  · split at h
    · rename_i p hp
      simp only [EQ,acl] at h;obtain ⟨rfl,rfl⟩:=h;exact ⟨rfl,AV (e1:=p.1) (s2:=p.2) hp⟩
    cases h
  split at h
  · rename_i v' p hv hp
    simp only [EQ,acl] at h;obtain ⟨rfl,rfl⟩:=h;exact ⟨OQ (C7 hv) _,AV (e1:=p.1) (s2:=p.2) hp⟩
  cases h
theorem Ir: ∀{l:List SV},my l=amN-> ∀{n:Nat} {v:SV},nth l n=amL v->v.sure=amN
 | [],_,_,_,h=>by cases h
 |x::xs,hs,0,v,h=>by injection h with h;subst h;simp only [my,v6] at hs;exact hs.1
 |x::xs,hs,n+1,v,h=>by simp only [my,v6] at hs;exact Ir hs.2 (n:=n) h
theorem Is: ∀{l:List SV},my l=amN-> ∀(n:Nat) {v:SV},v.sure=amN->my (l.set n v)=amN
 | [],_,n,v,_=>rfl
 |x::xs,hs,0,v,h=>by simp only [my,v6] at hs;simp [my,h,hs.2]
 |x::xs,hs,n+1,v,h=>by simp only [my,v6] at hs;simp [my,hs.1,Is hs.2 n h]
theorem RL.set {s:List SB}: ∀{xs:List SV} {ps:List PV},RL s xs ps-> ∀(n:Nat) {v:SV} {p:PV},R s v p->RL s (xs.set n v) (ps.set n p)
 | [],ps,h,n,v,p,_=>by rw [show ps=[] from h];exact RL.nil
 |x::xs,ps,h,0,v,p,hv=>by
  obtain ⟨a,q,rfl,h1,h2⟩:=h.cons_inv;exact RL.cons hv h2
 |x::xs,ps,h,n+1,v,p,hv=>by
  obtain ⟨a,q,rfl,h1,h2⟩:=h.cons_inv;exact RL.cons h1 (RL.set h2 n hv)
structure X3 (st:qB) (p:St):Prop where
 r:Ab st p
 s:afD st.aD
 e:Iq st.env
theorem OR {rk:List (Nat×List PT)} {st:qB} {p:St} (h:X3 st p) (t c esz:Nat):X3 (FB rk st t c esz) (rE p t c esz):=by
 unfold FB rE;rw [cB];cases cq:st.aD[t]? with
 |none=>
  have:p.aD[t]? =amM:=by
   rw [afJ] at cq ⊢;rw [h.r.aD.len];exact cq
  rw [this];exact h
 |some b=>
  obtain ⟨q,h1,h2⟩:=h.r.aD.at_ t b cq;rw [h1];cases b with
  |arr r l=>rw [show q=_ from h2];exact h
  |set l=>rw [show q=_ from h2];exact h
  |aP p l=>rw [show q=_ from h2];exact h
  |dead=>rw [show q=_ from h2];exact h
  |box cs=>
   obtain ⟨pc,rfl,h3⟩:=h2;dsimp only;cases hc:nth cs c with
   |none=>
    have:pc[c]? =amM:=by
     rw [cB,afJ] at hc;rw [afJ,h3.m9];exact hc
    rw [this];exact h
   |some v=>
    obtain ⟨pv,h4,h5⟩:=h3.nth hc;rw [h4];have aom:=Ir (h.s t cs cq) hc;have mE:=h.s t cs cq;have other:(∀e,pv≠ .sl e amN [])->(∀e,v≠ .nil e amN)->X3 (match amL v with
     |some (.nil _ amN)=>{st with aD:=st.aD.set t (.box (cs.set c (.own (amK st.aD) amO)))++[.arr (rowOf rk esz) []]}
     |_=>st) (match amL pv with
     |some (.sl _ amN [])=>{p with aD:=p.aD.set t (.box (pc.set c (.own (amK p.aD) esz 0 0 0 amO)))++[.arr esz []]}
     |_=>p):=by
     intro n1 n2;split
     · rename_i e he;injection he with he;exact absurd he (n2 e)
     split
     · rename_i e he;injection he with he;exact absurd he (n1 e)
     exact h
    cases v with
    |iU=>cases aom
    |nil e' cl=>
     have h5':pv= .sl e' cl []:=h5;subst h5';cases cl with
     |false=>exact other (fun e he=>by cases he) (fun e he=>by cases he)
     |true=>
      dsimp only;have dM:=(ww.1 cq).1;have sC:Fr [] st.aD (st.aD.set t (.box (cs.set c (.own (amK st.aD) amO)))++[.arr (rowOf rk esz) []]):=fun u x hu=>by
       by_cases NS:t=u
       · subst NS;rw [cq] at hu;injection hu with hu;subst hu;exact .inl ⟨_,by rw [AC (by simpa using dM),IR];simp [dM];rfl⟩
       have Qz:=(ww.1 hu).1
       have:(st.aD.set t (.box (cs.set c (.own (amK st.aD) amO)))++[.arr (rowOf rk esz) []])[u]? =amL x:=by
        rw [AC (by simpa using Qz),IR];simp [NS,hu]
       cases x with
       |arr r l=>exact .inl ⟨l,this,rfl,fun _=>rfl⟩
       |dead=>exact this
       |box c2=>exact .inl ⟨c2,this⟩
       |_=>trivial
      have cY:(st.aD.set t (.box (cs.set c (.own (amK st.aD) amO)))).length=(amK st.aD):=by simp
      have asY:R (st.aD.set t (.box (cs.set c (.own (amK st.aD) amO)))++[.arr (rowOf rk esz) []]) (.own (amK st.aD) amO) (.own (amK p.aD) esz 0 0 0 amO):=by
       refine ⟨esz,0,by rw [h.r.aD.len],.inl ⟨rowOf rk esz,[],?_,(vO rk esz).symm,rfl⟩⟩
       rw [Do (by simp)];simp
      refine ⟨⟨dZ.ext sC h.r.env,⟨by simp [h.r.aD.len],fun u x hu=>?_⟩,h.r.fz,h.r.kn⟩,fun u x hu=>?_,h.e⟩
      · rcases afI u (amK st.aD) with Qz|Qz
        · rw [AC (by simpa using Qz),IR] at hu
          by_cases NS:t=u
          · subst NS
            simp [dM] at hu;subst hu;refine ⟨.box (pc.set c (.own (amK p.aD) esz 0 0 0 amO)),?_,_,rfl,RL.set (RL.ext sC h3) c asY⟩;rw [AC (by simp [h.r.aD.len,Qz]),IR]
            simp [h.r.aD.len,Qz]
          simp [NS] at hu
          obtain ⟨q,h6,h7⟩:=h.r.aD.at_ u x hu;refine ⟨q,?_,h7.ext sC⟩;rw [AC (by simp [h.r.aD.len,Qz]),IR]
          simp [NS,h6]
        rw [Do (by simpa using Qz)] at hu
        simp only [cY] at hu;have Xk:u-(amK st.aD)=0:=by
         rcases am2 (u-(amK st.aD)) with h|h
         · exact h
         rw [List.getElem?_eq_none (by simp;omega)] at hu;cases hu
        rw [Xk] at hu;simp at hu;subst hu;refine ⟨.arr esz [],?_,by show _=_;rw [vO];rfl⟩
        rw [Do (by simp [h.r.aD.len];omega)]
        simp [h.r.aD.len,Xk]
      rcases afI u (amK st.aD) with Qz|Qz
      · rw [AC (by simpa using Qz),IR] at hu
        by_cases NS:t=u
        · subst NS
          simp [dM] at hu;subst hu;exact Is mE c rfl
        simp [NS] at hu;exact h.s u x hu
      rw [Do (by simpa using Qz)] at hu
      cases hj:u- (st.aD.set t (.box (cs.set c (.own (amK st.aD) amO)))).length with
      |zero=>rw [hj] at hu;simp at hu
      |succ j=>rw [hj] at hu;simp at hu
    |undef|jA|dU|int _ _|bool _|str _|bp _ _ _|mp _=>exact other (fun e he=>by rw [show pv=_ from h5] at he;cases he) (fun e he=>by cases he)
    |sl r l=>exact other (fun e he=>by rw [show pv=_ from h5] at he;cases he) (fun e he=>by cases he)
    |agg _|cw _|bJ _ _=>exact other (fun e he=>by obtain ⟨q,hq,_⟩:=h5;rw [hq] at he;cases he) (fun e he=>by cases he)
    |eV _ _ _=>exact other (fun e he=>by obtain ⟨q,q2,hq,_⟩:=h5;rw [hq] at he;cases he) (fun e he=>by cases he)
    |own _ _=>exact other (fun e he=>by obtain ⟨q,q2,hq,_⟩:=h5;rw [hq] at he;cases he) (fun e he=>by cases he)
    |pre _ _ _ _|part _ _ _ _ _|pb _ _ _=>exact other (fun e he=>by obtain ⟨q,hq,_⟩:=h5;rw [hq] at he;cases he) (fun e he=>by cases he)
    |pa _ _ _ _ _=>exact other (fun e he=>by obtain ⟨hq,_⟩:=h5;rw [hq] at he;cases he) (fun e he=>by cases he)
theorem JS {p:St} {t c esz:Nat} (h: ∀cs,p.aD[t]?≠amL (.box cs)):rE p t c esz=p:=by
 unfold rE;split
 · rename_i cs mE;exact absurd mE (h cs)
 rfl
theorem UX {st:qB} {p:St} (h:X3 st p) {v:SV} {q:PV} (hv:R st.aD v q) (hs:v≠ .iU):(∃t,Uv v=amL t/\EP q=amL t)\/(Uv v=amM/\ ∀t,EP q=amL t-> ∀cs,p.aD[t]?≠amL (.box cs)):=by
 cases v with
 |iU=>exact absurd rfl hs
 |bp u m off=>
  have hq:q= .ptr u m 0 off:=hv;subst hq;cases off with
  |zero=>exact .inl ⟨u,rfl,rfl⟩
  |succ off=>exact .inr ⟨rfl,fun t ht=>by cases ht⟩
 |pb u i off=>
  obtain ⟨e',hq,de⟩:=hv;subst hq;refine .inr ⟨rfl,fun t ht cs mE=>?_⟩
  have:t=u:=by
   unfold EP at ht;split at ht
   · rename_i heq;injection heq with e1;injection ht with ht;rw [<- ht,e1]
   cases ht
  subst this;rcases de with ⟨r,l,h1,_⟩|h1
  · rw [h.r.aD.arr h1] at mE;cases mE
  obtain ⟨q,h2,h3⟩:=h.r.aD.at_ t _ h1
  rw [mE] at h2;injection h2 with h2;subst h2;cases (show jW.box cs= .dead from h3)
 |pa u r i a off=>
  obtain ⟨hq,de⟩:=hv;subst hq;refine .inr ⟨rfl,fun t ht cs mE=>?_⟩
  have:t=u:=by
   unfold EP at ht;split at ht
   · rename_i heq;injection heq with e1;injection ht with ht;rw [<- ht,e1]
   cases ht
  subst this;rcases de with ⟨l,h1,_⟩|h1
  · rw [h.r.aD.arr h1] at mE;cases mE
  obtain ⟨q,h2,h3⟩:=h.r.aD.at_ t _ h1
  rw [mE] at h2;injection h2 with h2;subst h2;cases (show jW.box cs= .dead from h3)
 |undef|jA|dU|int _ _|bool _|str _|mp _|sl _ _|nil _ _=>exact .inr ⟨rfl,fun t ht=>by rw [show q=_ from hv] at ht;cases ht⟩
 |agg _|cw _|bJ _ _=>exact .inr ⟨rfl,fun t ht=>by obtain ⟨_,rfl,_⟩:=hv;cases ht⟩
 |eV _ _ _=>exact .inr ⟨rfl,fun t ht=>by obtain ⟨_,_,rfl,_⟩:=hv;cases ht⟩
 |own _ _=>exact .inr ⟨rfl,fun t ht=>by obtain ⟨_,_,rfl,_⟩:=hv;cases ht⟩
 |pre _ _ _ _|part _ _ _ _ _=>exact .inr ⟨rfl,fun t ht=>by obtain ⟨_,rfl,_⟩:=hv;cases ht⟩
theorem agQ {st:qB} {p:St} (h:X3 st p) {v:SV} {q:PV} (hv:R st.aD v q) (hs:v.sure=amN):(∃t,XF v=amL t/\K2 q=amL t)\/(XF v=amM/\ ∀t,K2 q=amL t-> ∀cs,p.aD[t]?≠amL (.box cs)):=by
 have hj:v≠ .iU:=fun e=>by subst e;cases hs
 by_cases hc: ∃f a b,v= .eV f a b
 · obtain ⟨f,a,b,rfl⟩:=hc
   obtain ⟨pa,pb,rfl,h1,h2⟩:=hv;cases b with
   |nil=>
    have:pb=[]:=h2
    subst this;exact .inr ⟨rfl,fun t ht=>by cases ht⟩
   |cons y ys=>
    obtain ⟨z,zs,rfl,g1,g2⟩:=h2;exact UX h g1 (fun e=>by subst e;simp [SV.sure,my] at hs)
 have e1:XF v=Uv v:=by
  cases v with
  |eV f a b=>exact absurd ⟨f,a,b,rfl⟩ hc
  |_=>rfl
 have e2:K2 q=EP q:=by
  cases q with
  |eV f a b=>
   exfalso;cases v with
   |iU=>exact hj rfl
   |eV f a b=>exact hc ⟨f,a,b,rfl⟩
   |bp _ _ _|undef|jA|dU|int _ _|bool _|str _|mp _|sl _ _|nil _ _=>cases (show PV.eV f a b=_ from hv)
   |agg _|cw _|bJ _ _|pre _ _ _ _|part _ _ _ _ _|pb _ _ _=>obtain ⟨_,hq,_⟩:=hv;cases hq
   |own _ _=>obtain ⟨_,_,hq,_⟩:=hv;cases hq
   |pa _ _ _ _ _=>obtain ⟨hq,_⟩:=hv;cases hq
  |_=>rfl
 rw [e1,e2];exact UX h hv hj
theorem nG {rk:List (Nat×List PT)}: ∀(live:List (Nat×Option Nat)) {st:qB} {p:St},X3 st p->X3 (me rk live st) (kK live p)
 | [],st,p,h=>h
 |(t,k)::live,st,p,h=>by
  cases k with
  |none=>simp only [me,kK];exact nG live h
  |some n=>
   simp only [me,kK];cases hn:M2 1000 n with
   |false=>simp only [ol,PP,if_false];exact nG live h
   |true=>
    simp only [lw,if_true];have vL:=h.r.env.lk t;have hsu:=h.e.lk t;rcases agQ h vL hsu with ⟨u,e1,e2⟩|⟨e1,e2⟩
    · rw [e1,e2]
      exact nG live (OR h u _ _)
    rw [e1]
    cases hb:K2 (lk t p.env) with
    |none=>exact nG live h
    |some u=>
     show X3 (me rk live st) (kK live (rE p u (n / 1000-1) (n%1000)));rw [JS (e2 u hb)];exact nG live h
theorem L4 {e:SE} {pe:Env} (hE:dZ s e pe): ∀{live:List (Nat×Option Nat)},BH e live=amN->FC e live=live.flatMap fun p=>jc tz (lk p.1 pe)
 | [],_=>rfl
 |(t,k)::live,h=>by
  simp only [BH,v6] at h;simp only [FC,amo,L4 hE h.2];rw [UT (fun _=>rfl) (hE.lk t) h.1]
theorem UY: ∀{s':List SB} {s:List SB} {ps:cL} (n:Nat),(amK ps=amK s/\ ∀(t:Nat) (b:SB),s[t]? =amL b-> ∃q,ps[t]? =amL q/\RB s' b q)->FD s n=amN->OE s n=(ps.take n).flatMap rC
 |s',[],ps,n,h,_=>by
  have:ps=[]:=afW.1 (by simpa using h.1)
  subst this;cases n<;>simp [OE]
 |s',b::s,ps,0,h,_=>by simp [OE]
 |s',b::s,ps,n+1,h,hk=>by
  cases ps with
  |nil=>have:=h.1;simp at this
  |cons q ps=>
   simp only [FD,v6] at hk;obtain ⟨q',h1,h2⟩:=h.2 0 b rfl;simp at h1;subst h1;simp only [OE,alt,amo,JQ h2 hk.1];rw [UY (s':=s') (ps:=ps) n ⟨by simpa using h.1,fun t x hx=>by simpa using h.2 (t+1) x (by simpa using hx)⟩ hk.2]
theorem QA {s:List SB} {v:SV} {p:PV} (h:R s v p):R s (Ii s v) p:=by
 unfold Ii;split
 · rename_i t ex
   rw [cB];split
   · rename_i r l cq
     obtain ⟨e,n,rfl,de⟩:=h;obtain ⟨rfl,rfl⟩:=de.inv cq;exact ⟨amK r,rfl,.inl ⟨r,l,cq,rfl⟩⟩
   exact h
 exact h
theorem QB {s:List SB} (c:Nat): ∀{e:SE} {p:Env},dZ s e p->dZ s (Qp s c e) p
 | [],_,h=>h
 |(t,v)::r,_,h=>by
  obtain ⟨q,qs,rfl,h1,h2⟩:=h;simp only [Qp];cases hb:NE t c with
  |true=>exact ⟨q,qs,rfl,QA h1,h2⟩
  |false=>exact ⟨q,qs,rfl,h1,QB c h2⟩
theorem C8: ∀(live:List (Nat×Option Nat)) {st:qB} {p:St},Ab st p->Ab (BG live st) p
 | [],st,p,h=>h
 |(t,k)::r,st,p,h=>by
  simp only [BG];cases hn:M2 1000000 t with
  |true=>exact C8 r ⟨QB _ h.env,h.aD,h.fz,h.kn⟩
  |false=>exact C8 r h
theorem L5 {rk:List (Nat×List PT)} {live:List (Nat×Option Nat)} {st ob:qB} {p:St} (h:Ab st p) (hn:FE rk live st=amL ob): ∃p1,ES live p=amL p1/\Ab ob p1:=by
 unfold FE at hn;cases hc:(BH st.env live&&FD st.aD st.kn) with
 |false=>rw [hc] at hn;cases hn
 |true=>
  rw [hc] at hn;simp only [lw] at hn;simp only [v6] at hc;split at hn
  · cases hn
  rename_i m hm
  split at hn
  · rename_i s1 e1 s2 h1 h2
    injection hn with hn;subst hn;have ht:OE st.aD st.kn++FC st.env live=(p.aD.take p.kn).flatMap rC++live.flatMap fun q=>jc tz (lk q.1 p.env):=by
     rw [L4 h.env hc.1,UY (s':=st.aD) st.kn ⟨h.aD.len,h.aD.at_⟩ hc.2,h.kn]
    rw [ht] at hm;have CU:=FW h.aD _ _ _ _ hm;have hr:FY m st.aD (s1++s2):=FY.of h1;obtain ⟨p1,a1,a2,a3⟩:=C5 h.aD hr h1;have cY:(amK s1)=(amK m):=(yr h1).1;obtain ⟨pe1,q2,b1,b2,b3,b4⟩:=JR h.env hr h2 (fun j b hj=>by rw [<- cY,Do (by omega)];simpa using hj)
    have qu:cN (s1++s2) (p1++q2):=⟨by simp [a2,b3],fun t b ht=>by
     rcases afI t (amK s1) with hl|hl
     · rw [AC hl] at ht
       obtain ⟨q,c1,c2⟩:=a3 t b ht;exact ⟨q,by rw [AC (by omega)];exact c1,c2⟩
     rw [Do hl] at ht
     obtain ⟨q,c1,c2⟩:=b4 _ b ht;exact ⟨q,by rw [Do (by omega),a2];exact c1,c2⟩⟩
    have hs:afD (s1++s2):=fun t cs ht=>by
     rcases afI t (amK s1) with hl|hl
     · rw [AC hl] at ht
       obtain ⟨b,c,d1,d2,d3⟩:=(yr h1).2 t (m[t]'(by omega)) (F0s (by omega))
       rw [ht] at d3;injection d3 with d3;subst d3;cases b with
       |box x=>
        simp only [OD] at d2;split at d2
        · rename_i l mC;injection d2 with d2;injection d2 with d2;subst d2;exact ni mC
        cases d2
       |arr _ _=>injection d2 with d2;cases d2
       |set _=>injection d2 with d2;cases d2
       |aP _ _=>injection d2 with d2;cases d2
       |dead=>injection d2 with d2;cases d2
     rw [Do hl] at ht
     obtain ⟨r,WY⟩:=C6 h2 _ _ ht;cases WY
    have hR:X3 {env:=e1,aD:=s1++s2,fz:=xZ st.fz 0 m,kn:=st.kn} {env:=pe1,aD:=p1++q2,fz:=xZ p.fz 0 m,kn:=p.kn}:=
     ⟨⟨b2,qu,by rw [h.fz],h.kn⟩,hs,AV h2⟩
    refine ⟨_,?_,C8 live (nG live hR).r⟩;unfold ES;rw [h.kn] at CU;rw [h.kn];rw [CU];dsimp only;rw [a1,b1]
  cases hn
theorem QC {rk:List (Nat×List PT)} {live:List (Nat×Option Nat)} {st ob:qB} {p:St} (h:Ab st p) (hn:FF rk live st=amL ob): ∃p1,norm live p=amL p1/\Ab ob p1:=by
 unfold FF at hn;cases h1:FE rk live st with
 |none=>rw [h1] at hn;cases hn
 |some s=>
  rw [h1] at hn;dsimp only at hn;obtain ⟨p1,h2,h3⟩:=L5 h h1;unfold norm;rw [h2];dsimp only;cases ha:(live.any fun p=>p.2.isSome) with
  |true=>
   rw [ha] at hn;simp only [lw] at hn;rw [pp rfl];exact L5 h3 hn
  |false=>
   rw [ha] at hn;injection hn with hn;subst hn;exact ⟨p1,by rw [rc (by simp)],h3⟩
mutual
theorem Ey: ∀{a b:SV} (q:List xV),xK a b=amN->tD a (C1 b++q)=(b,q)
 | .undef,.undef,q,_=>rfl
 | .jA,.jA,q,_=>rfl
 | .dU,.dU,q,_=>rfl
 | .int k _,.int l n,q,h=>by rw [fu.1 h];rfl
 | .bool _,.bool _,q,_=>rfl
 | .agg a,.agg b,q,h=>by simp only [tD,C1,oo q h]
 | .cw a,.cw b,q,h=>by simp only [tD,C1,oo q h]
 | .sl r _,.sl r' l,q,h=>rfl
 | .nil e c,.nil f d,q,h=>by
  simp only [xK,v6,beq_iff_eq] at h;rw [ut h.1,h.2];rfl
 | .own t x,.own u y,q,h=>by
  simp only [xK,v6,beq_iff_eq] at h;rw [ut h.1,h.2];rfl
 | .pre t _ _ x,.pre u _ _ y,q,h=>by
  simp only [xK,v6,beq_iff_eq] at h;rw [ut h.1,h.2];rfl
 | .part t _ _ _ x,.part u _ _ _ y,q,h=>by
  simp only [xK,v6,beq_iff_eq] at h;rw [ut h.1,h.2];rfl
 | .pb t _ o,.pb u _ p,q,h=>by
  simp only [xK,v6] at h;rw [ut h.1,ut h.2];rfl
 | .bp t n o,.bp u m p,q,h=>by
  simp only [xK,v6] at h;rw [ut h.1.1,ut h.1.2,ut h.2];rfl
 | .bJ a o,.bJ b p,q,h=>by
  simp only [xK,v6] at h;simp only [tD,C1,oo q h.1,ut h.2]
 | .eV f a b,.eV g c d,q,h=>by
  simp only [xK,v6] at h;simp only [tD,C1,ae1,oo _ h.1.2,oo q h.2,ut h.1.1]
 | .mp t,.mp u,q,h=>by rw [ut h];rfl
theorem oo: ∀{a b:List SV} (q:List xV),yo a b=amN->rO a (C2 b++q)=(b,q)
 | [],[],q,_=>rfl
 |x::xs,y::ys,q,h=>by
  simp only [yo,v6] at h;simp only [rO,C2,ae1,Ey _ h.1,oo q h.2]
 | [],_::_,_,h=>by cases h
 |_::_,[],_,h=>by cases h
end
theorem UZ: ∀{a b:SB} (q:List xV),afw a b=amN->OF a (Uw b++q)=(b,q)
 | .arr r _,.arr r' l,q,h=>rfl
 | .box a,.box b,q,h=>by simp only [OF,Uw,oo q h]
 | .set _,.set _,q,_=>rfl
 | .aP p _,.aP p' l,q,h=>by obtain rfl:p=p':=PT.Qj h;rfl
 | .dead,.dead,q,_=>rfl
 | .arr _ _,.box _,_,h| .arr _ _,.set _,_,h| .arr _ _,.dead,_,h| .box _,.arr _ _,_,h| .box _,.set _,_,h| .box _,.dead,_,h| .set _,.arr _ _,_,h| .set _,.box _,_,h| .set _,.dead,_,h| .dead,.arr _ _,_,h| .dead,.box _,_,h| .dead,.set _,_,h
 | .aP _ _,.arr _ _,_,h| .aP _ _,.box _,_,h| .aP _ _,.set _,_,h| .aP _ _,.dead,_,h| .arr _ _,.aP _ _,_,h| .box _,.aP _ _,_,h| .set _,.aP _ _,_,h| .dead,.aP _ _,_,h=>by cases h
theorem BW: ∀{a b:List SB} (q:List xV),FG a b=amN->AN a (JJ b++q)=(b,q)
 | [],[],q,_=>rfl
 |x::xs,y::ys,q,h=>by
  simp only [FG,v6] at h;simp only [AN,JJ,ae1,UZ _ h.1,BW q h.2]
 | [],_::_,_,h=>by cases h
 |_::_,[],_,h=>by cases h
theorem L6: ∀{a b:SE} (q:List xV),Qq a b=amN->LS a (Sg b++q)=(b,q)
 | [],[],q,_=>rfl
 |(t,x)::xs,(u,y)::ys,q,h=>by
  simp only [Qq,v6] at h;simp only [LS,Sg,ae1,Ey _ h.1.2,L6 q h.2,ut h.1.1]
 | [],_::_,_,h=>by cases h
 |_::_,[],_,h=>by cases h
theorem L7: ∀{a b:List Nat},Qr a b=amN->a=b
 | [],[],_=>rfl
 |x::xs,y::ys,h=>by
  simp only [Qr,v6] at h;rw [ut h.1,L7 h.2]
 | [],_::_,h=>by cases h
 |_::_,[],h=>by cases h
theorem Sr {a b:qB} (h:FH a b=amN):z7 a (xJ b)=b:=by
 obtain ⟨e1,s1,z1,k1⟩:=a;obtain ⟨e2,s2,z2,k2⟩:=b;simp only [FH,v6] at h;obtain ⟨⟨⟨h1,h2⟩,h3⟩,h4⟩:=h;have hs:=BW [] h2;rw [ae2] at hs;simp only [z7,xJ,L6 _ h1,hs,L7 h3,ut h4]
theorem AK.afE: ∀{a:AK} {x:xV} {y:a.T},a.of x=amL y->a.at y=x
 | .i,.i _,y,h=>by injection h with h;subst h;rfl
 | .b,.b _,y,h=>by injection h with h;subst h;rfl
 | .n,.n _,y,h=>by injection h with h;subst h;rfl
 | .l r,.l q x,y,h=>by obtain ⟨rfl,rfl⟩:=pf h;rfl
 | .s,.s _,y,h=>by injection h with h;subst h;rfl
 | .i,.b _,_,h| .i,.n _,_,h| .i,.l _ _,_,h| .i,.s _,_,h| .b,.i _,_,h| .b,.n _,_,h| .b,.l _ _,_,h| .b,.s _,_,h| .n,.i _,_,h| .n,.b _,_,h| .n,.l _ _,_,h| .n,.s _,_,h
 | .l _,.i _,_,h| .l _,.b _,_,h| .l _,.n _,_,h| .l _,.s _,_,h| .s,.i _,_,h| .s,.b _,_,h| .s,.n _,_,h| .s,.l _ _,_,h=>by cases h
theorem sK: ∀{ks:List AK} {l:List xV} {y:j0 ks},q9 ks l=amL y->mF ks y=l
 | [],[],y,_=>rfl
 | [a],[x],y,h=>by
  have:=AK.afE (a:=a) h
  simp only [mF,this]
 |a::q::r,x::xs,y,h=>by
  simp only [q9] at h;split at h
  · rename_i u v h1 h2
    injection h with h;subst h;simp only [mF,AK.afE h1,sK h2]
  cases h
 | [],_::_,_,h=>by cases h
 | [_],[],_,h=>by cases h
 | [_],_::_::_,_,h=>by cases h
 |_::_::_,[],_,h=>by cases h
end
end Go.Vm
/- What is known of functions, and what a call of one comes to. -/
namespace Go.Vm
mutual
def FZ:Nat->PV->Option (PV×cL)
 |_,.int k n=>amL (.int k n,[])
 |_,.bool b=>amL (.bool b,[])
 |nx,.agg cs=>match F0 nx cs with|some r=>amL (.agg r.1,r.2)|none=>amM
 |nx,.cw cs=>match F0 nx cs with|some r=>amL (.cw r.1,r.2)|none=>amM
 |nx,.sl e amO rows=>amL (.own nx e 0 (amK rows) (amK rows) amO,[.arr e rows])
 |_,_=>amM
def F0:Nat->List PV->Option (List PV×cL)
 |_,[]=>amL ([],[])
 |nx,x::xs=>match FZ nx x with
  |some a=>match F0 (nx+amK a.2) xs with
   |some b=>amL (a.1::b.1,a.2++b.2)
   |none=>amM
  |none=>amM
end
def wO (s:List SB) (n:Nat) (l:List SB):Prop:= ∀(j:Nat) (b:SB),l[j]? =amL b->s[n+j]? =amL b
theorem wO.left {s:List SB} {n:Nat} {l m:List SB} (h:wO s n (l++m)):wO s n l:=fun j b hj=>h j b (by
 rw [AC (ww.1 hj).1];exact hj)
theorem wO.right {s:List SB} {n:Nat} {l m:List SB} (h:wO s n (l++m)):wO s (n+amK l) m:=fun j b hj=>by
 have:=h (amK l+j) b (by rw [Do (by omega)];simpa using hj)
 rwa [Nat.add_assoc]
def OS (s:List SB) (l:List SB) (q:cL):Prop:=amK q=amK l/\ ∀(j:Nat) (b:SB),l[j]? =amL b-> ∃x,q[j]? =amL x/\RB s b x
theorem OS.append {s l m:List SB} {q r:cL} (h:OS s l q) (k:OS s m r):OS s (l++m) (q++r):=by
 refine ⟨by simp [h.1,k.1],fun j b hj=>?_⟩
 rcases afI j (amK l) with hl|hl
 · rw [AC hl] at hj
   obtain ⟨x,h1,h2⟩:=h.2 j b hj;exact ⟨x,by rw [AC (by rw [h.1];exact hl)];exact h1,h2⟩
 rw [Do hl] at hj
 obtain ⟨x,h1,h2⟩:=k.2 _ b hj;exact ⟨x,by rw [Do (by rw [h.1];exact hl),h.1];exact h1,h2⟩
theorem OS.nil {s:List SB}:OS s [] []:=⟨rfl,fun j b h=>by simp at h⟩
theorem OS.one {s:List SB} {b:SB} {x:jW} (h:RB s b x):OS s [b] [x]:=⟨rfl,fun j c hc=>by
 cases j with
 |zero=>simp at hc;subst hc;exact ⟨x,rfl,h⟩
 |succ j=>simp at hc⟩
mutual
theorem QD: ∀{v:SV} {nx:Nat} {p0 p:PV} {q:cL},sI v=amL p0->FZ nx p0=amL (p,q)-> ∀{s:List SB},wO s nx (yn nx v).2->R s (yn nx v).1 p/\OS s (yn nx v).2 q
 | .int k n,nx,p0,p,q,h0,h,s,_=>by injection h0 with h0;subst h0;injection h with h;injection h with h1 h2;subst h1 h2;exact ⟨rfl,OS.nil⟩
 | .bool b,nx,p0,p,q,h0,h,s,_=>by injection h0 with h0;subst h0;injection h with h;injection h with h1 h2;subst h1 h2;exact ⟨rfl,OS.nil⟩
 | .agg cs,nx,p0,p,q,h0,h,s,hb=>by
  simp only [sI] at h0;split at h0
  · rename_i l hl
    injection h0 with h0;subst h0;simp only [FZ] at h;split at h
    · rename_i r hr
      injection h with h;injection h with h1 h2;subst h1 h2;obtain ⟨h3,h4⟩:=F1 (p:=r.1) (q:=r.2) hl hr hb;exact ⟨⟨r.1,rfl,h3⟩,h4⟩
    cases h
  cases h0
 | .cw cs,nx,p0,p,q,h0,h,s,hb=>by
  simp only [sI] at h0;split at h0
  · rename_i l hl
    injection h0 with h0;subst h0;simp only [FZ] at h;split at h
    · rename_i r hr
      injection h with h;injection h with h1 h2;subst h1 h2;obtain ⟨h3,h4⟩:=F1 (p:=r.1) (q:=r.2) hl hr hb;exact ⟨⟨r.1,rfl,h3⟩,h4⟩
    cases h
  cases h0
 | .sl r l,nx,p0,p,q,h0,h,s,hb=>by
  injection h0 with h0;subst h0;injection h with h;injection h with h1 h2;subst h1 h2;refine ⟨⟨amK r,amK l,by simp,.inl ⟨r,l,hb 0 _ rfl,rfl,rfl⟩⟩,OS.one rfl⟩
 | .nil e c,nx,p0,p,q,h0,h,s,hb=>by
  injection h0 with h0;subst h0;cases c with
  |true=>simp [FZ] at h
  |false=>
   injection h with h;injection h with h1 h2;subst h1 h2;exact ⟨⟨e,0,rfl,.inl ⟨_,[],hb 0 _ rfl,by simp,rfl⟩⟩,OS.one (by show _=_;simp)⟩
 | .str _,nx,p0,p,q,h0,h,s,_=>by injection h0 with h0;subst h0;cases h
 | .dU,nx,p0,p,q,h0,h,s,_=>by injection h0 with h0;subst h0;cases h
 | .bJ cs o,nx,p0,p,q,h0,h,s,_=>by
  simp only [sI] at h0;split at h0
  · injection h0 with h0;subst h0;cases h
  cases h0
 | .eV f a b,nx,p0,p,q,h0,h,s,_=>by
  simp only [sI] at h0;split at h0
  · injection h0 with h0;subst h0;cases h
  cases h0
 | .iU,_,_,_,_,h0,_,_,_| .undef,_,_,_,_,h0,_,_,_| .jA,_,_,_,_,h0,_,_,_| .own _ _,_,_,_,_,h0,_,_,_| .pre _ _ _ _,_,_,_,_,h0,_,_,_| .part _ _ _ _ _,_,_,_,_,h0,_,_,_
 | .pa _ _ _ _ _,_,_,_,_,h0,_,_,_| .pb _ _ _,_,_,_,_,h0,_,_,_| .bp _ _ _,_,_,_,_,h0,_,_,_| .mp _,_,_,_,_,h0,_,_,_=>by cases h0
theorem F1: ∀{v:List SV} {nx:Nat} {p0 p:List PV} {q:cL},sJ v=amL p0->F0 nx p0=amL (p,q)-> ∀{s:List SB},wO s nx (uR nx v).2->RL s (uR nx v).1 p/\OS s (uR nx v).2 q
 | [],nx,p0,p,q,h0,h,s,_=>by injection h0 with h0;subst h0;injection h with h;injection h with h1 h2;subst h1 h2;exact ⟨rfl,OS.nil⟩
 |x::xs,nx,p0,p,q,h0,h,s,hb=>by
  obtain ⟨a,as,rfl,h1,h2⟩:=eS.1 h0;simp only [F0] at h;split at h
  · rename_i ra hra
    split at h
    · rename_i rb hrb
      injection h with h;injection h with e1 e2;subst e1 e2;simp only [uR] at hb ⊢;obtain ⟨k1,k2⟩:=QD (p:=ra.1) (q:=ra.2) h1 hra hb.left;rw [k2.1] at hrb;obtain ⟨k3,k4⟩:=F1 (p:=rb.1) (q:=rb.2) h2 hrb hb.right;exact ⟨RL.cons k1 k3,k2.append k4⟩
    cases h
  cases h
end
mutual
theorem U0 {s:List SB} {ps:cL} {z:List Nat} (hS:cN s ps): ∀{v v':SV} {p:PV} {seen seen':List Nat} (nx:Nat),R s v p->Sf s z seen v=amL (v',seen')-> ∃p0 p' q,sI v'=amL p0/\FZ nx p0=amL (p',q)/\zQ ps z nx seen p=amL (p',q,seen')
 | .int k n,v',p,seen,seen',nx,h,hx=>by injection hx with hx;injection hx with h1 h2;subst h1 h2;rw [show p=_ from h];exact ⟨_,_,_,rfl,rfl,rfl⟩
 | .bool k,v',p,seen,seen',nx,h,hx=>by injection hx with hx;injection hx with h1 h2;subst h1 h2;rw [show p=_ from h];exact ⟨_,_,_,rfl,rfl,rfl⟩
 | .agg cs,v',p,seen,seen',nx,h,hx=>by
  obtain ⟨q,rfl,h⟩:=h;simp only [Sf] at hx;split at hx
  · rename_i r hr
    injection hx with hx;injection hx with h1 h2;subst h1 h2;obtain ⟨p0,p',q',h3,h4,h5⟩:=JT hS (v':=r.1) (seen':=r.2) nx h hr;exact ⟨.agg p0,.agg p',q',by simp only [sI,h3],by simp only [FZ,h4],by simp only [zQ,h5];rfl⟩
  cases hx
 | .cw cs,v',p,seen,seen',nx,h,hx=>by
  obtain ⟨q,rfl,h⟩:=h;simp only [Sf] at hx;split at hx
  · rename_i r hr
    injection hx with hx;injection hx with h1 h2;subst h1 h2;obtain ⟨p0,p',q',h3,h4,h5⟩:=JT hS (v':=r.1) (seen':=r.2) nx h hr;exact ⟨.cw p0,.cw p',q',by simp only [sI,h3],by simp only [FZ,h4],by simp only [zQ,h5];rfl⟩
  cases hx
 | .nil e c,v',p,seen,seen',nx,h,hx=>by
  cases c with
  |false=>cases hx
  |true=>injection hx with hx;injection hx with h1 h2;subst h1 h2;rw [show p=_ from h];exact ⟨_,_,_,rfl,rfl,rfl⟩
 | .own t ex,v',p,seen,seen',nx,h,hx=>by
  obtain ⟨e,n,rfl,de⟩:=h;simp only [Sf,cB] at hx;split at hx
  · rename_i r l cq
    obtain ⟨rfl,rfl⟩:=de.inv cq;cases hc:(has seen t||has z t) with
    |true=>rw [hc] at hx;cases hx
    |false=>
     rw [hc] at hx;injection hx with hx;injection hx with h1 h2;subst h1 h2;refine ⟨_,_,_,rfl,rfl,?_⟩;simp only [zQ,hS.arr cq,hc];simp
  cases hx
 | .iU,_,_,_,_,_,_,hx| .undef,_,_,_,_,_,_,hx| .jA,_,_,_,_,_,_,hx| .dU,_,_,_,_,_,_,hx| .str _,_,_,_,_,_,_,hx| .sl _ _,_,_,_,_,_,_,hx| .pre _ _ _ _,_,_,_,_,_,_,hx| .part _ _ _ _ _,_,_,_,_,_,_,hx
 | .pa _ _ _ _ _,_,_,_,_,_,_,hx| .pb _ _ _,_,_,_,_,_,_,hx| .bp _ _ _,_,_,_,_,_,_,hx| .bJ _ _,_,_,_,_,_,_,hx| .eV _ _ _,_,_,_,_,_,_,hx| .mp _,_,_,_,_,_,_,hx=>by cases hx
theorem JT {s:List SB} {ps:cL} {z:List Nat} (hS:cN s ps): ∀{v v':List SV} {p:List PV} {seen seen':List Nat} (nx:Nat),RL s v p->LR s z seen v=amL (v',seen')-> ∃p0 p' q,sJ v'=amL p0/\F0 nx p0=amL (p',q)/\Ja ps z nx seen p=amL (p',q,seen')
 | [],v',p,seen,seen',nx,h,hx=>by injection hx with hx;injection hx with h1 h2;subst h1 h2;rw [show p=_ from h];exact ⟨_,_,_,rfl,rfl,rfl⟩
 |x::xs,v',p,seen,seen',nx,h,hx=>by
  obtain ⟨a,as,rfl,h1,h2⟩:=h.cons_inv;simp only [LR] at hx;split at hx
  · rename_i r hr
    split at hx
    · rename_i r2 NQ
      injection hx with hx;injection hx with e1 e2;subst e1 e2;obtain ⟨p0,p',q,k1,k2,k3⟩:=U0 hS (v':=r.1) (seen':=r.2) nx h1 hr;obtain ⟨p02,p'2,q2,k4,k5,k6⟩:=JT hS (v':=r2.1) (seen':=r2.2) (nx+amK q) h2 NQ;exact ⟨p0::p02,p'::p'2,q++q2,eS.2 ⟨_,_,rfl,k1,k4⟩,by simp only [F0,k2,k5],by simp only [Ja,k3,k6]⟩
    cases hx
  cases hx
end
mutual
theorem L8 {s:List SB}: ∀{v:SV} {p:PV},R s v p->AM v=amN->p.kJ=amN
 | .int _ _,p,h,_| .bool _,p,h,_| .str _,p,h,_=>by rw [show p=_ from h];rfl
 | .agg cs,p,h,hn=>by obtain ⟨q,rfl,h⟩:=h;exact C9 h hn
 | .cw cs,p,h,hn=>by obtain ⟨q,rfl,h⟩:=h;exact C9 h hn
 | .iU,_,_,h| .undef,_,_,h| .jA,_,_,h| .dU,_,_,h| .sl _ _,_,_,h| .nil _ _,_,_,h| .own _ _,_,_,h| .pre _ _ _ _,_,_,h| .part _ _ _ _ _,_,_,h| .pa _ _ _ _ _,_,_,h| .pb _ _ _,_,_,h| .bp _ _ _,_,_,h| .bJ _ _,_,_,h| .eV _ _ _,_,_,h| .mp _,_,_,h=>by cases h
theorem C9 {s:List SB}: ∀{v:List SV} {p:List PV},RL s v p->rN v=amN->wc p=amN
 | [],p,h,_=>by rw [show p=_ from h];rfl
 |x::xs,p,h,hn=>by
  obtain ⟨a,as,rfl,h1,h2⟩:=h.cons_inv;simp only [rN,v6] at hn;simp only [wc,L8 h1 hn.1,C9 h2 hn.2,ae5]
end
mutual
theorem It {s:List SB} {u:SV}: ∀{v:SV} {p:PV},R s v p->AM v=amO->Uu s v=amL u->p.kJ=amO
 | .int _ _,p,h,hn,_| .bool _,p,h,hn,_| .str _,p,h,hn,_=>by cases hn
 | .agg cs,p,h,hn,hi=>by
  obtain ⟨q,rfl,h⟩:=h;simp only [Uu] at hi;split at hi
  · rename_i l hl;exact AW h hn hl
  cases hi
 | .cw cs,p,h,hn,hi=>by
  obtain ⟨q,rfl,h⟩:=h;simp only [Uu] at hi;split at hi
  · rename_i l hl;exact AW h hn hl
  cases hi
 | .sl _ _,p,h,_,_=>by rw [show p=_ from h];rfl
 | .nil _ _,p,h,_,_=>by rw [show p=_ from h];rfl
 | .own _ _,p,h,_,_=>by obtain ⟨e,n,rfl,_⟩:=h;rfl
 | .pre _ _ _ _,p,h,_,_=>by obtain ⟨e,rfl,_⟩:=h;rfl
 | .part _ _ _ _ _,p,h,_,_=>by obtain ⟨e,rfl,_⟩:=h;rfl
 | .iU,_,_,_,h| .undef,_,_,_,h| .jA,_,_,_,h| .dU,_,_,_,h| .pa _ _ _ _ _,_,_,_,h| .pb _ _ _,_,_,_,h| .bp _ _ _,_,_,_,h| .bJ _ _,_,_,_,h| .eV _ _ _,_,_,_,h| .mp _,_,_,_,h=>by cases h
theorem AW {s:List SB}: ∀{v u:List SV} {p:List PV},RL s v p->rN v=amO->OC s v=amL u->wc p=amO
 | [],u,p,h,hn,_=>by cases hn
 |x::xs,u,p,h,hn,hi=>by
  obtain ⟨a,as,rfl,h1,h2⟩:=h.cons_inv;simp only [OC] at hi;split at hi
  · rename_i y ys h3 h4
    simp only [rN] at hn;simp only [wc];cases hx:AM x with
    |false=>rw [It h1 hx h3];rfl
    |true=>rw [hx] at hn;rw [AW h2 (by simpa using hn) h4];simp
  cases hi
end
mutual
theorem afF {s:List SB} {ps:cL} (hS:cN s ps): ∀{v u:SV} {p:PV},R s v p->Uu s v=amL u-> ∃q,y4 ps p=amL q/\sI u=amL q
 | .int k n,u,p,h,hx=>by injection hx with hx;subst hx;rw [show p=_ from h];exact ⟨_,rfl,rfl⟩
 | .bool b,u,p,h,hx=>by injection hx with hx;subst hx;rw [show p=_ from h];exact ⟨_,rfl,rfl⟩
 | .str x,u,p,h,hx=>by injection hx with hx;subst hx;rw [show p=_ from h];exact ⟨_,rfl,rfl⟩
 | .agg cs,u,p,h,hx=>by
  obtain ⟨q,rfl,h⟩:=h;simp only [Uu] at hx;split at hx
  · rename_i l hl
    injection hx with hx;subst hx;obtain ⟨q',h1,h2⟩:=OT hS h hl;exact ⟨.agg q',by simp only [y4,h1];rfl,by simp only [sI,h2]⟩
  cases hx
 | .cw cs,u,p,h,hx=>by
  obtain ⟨q,rfl,h⟩:=h;simp only [Uu] at hx;split at hx
  · rename_i l hl
    injection hx with hx;subst hx;obtain ⟨q',h1,h2⟩:=OT hS h hl;exact ⟨.cw q',by simp only [y4,h1];rfl,by simp only [sI,h2]⟩
  cases hx
 | .sl r l,u,p,h,hx=>by injection hx with hx;subst hx;rw [show p=_ from h];exact ⟨_,rfl,rfl⟩
 | .nil e c,u,p,h,hx=>by injection hx with hx;subst hx;rw [show p=_ from h];exact ⟨_,rfl,rfl⟩
 | .own t ex,u,p,h,hx=>by
  simp only [Uu,cB] at hx;split at hx
  · rename_i r l cq
    injection hx with hx;subst hx;obtain ⟨e,n,rfl,de⟩:=h;obtain ⟨rfl,rfl⟩:=de.inv cq;refine ⟨.sl (amK r) amO (l.map (RT.pv r)),?_,rfl⟩;simp only [y4,hS.arr cq,afe];rw [afa (by simp)]
  cases hx
 | .pre t len cap ex,u,p,h,hx=>by
  simp only [Uu,cB] at hx;split at hx
  · rename_i r l cq
    injection hx with hx;subst hx;obtain ⟨e,rfl,de⟩:=h
    have:=de.inv cq
    subst this;refine ⟨.sl (amK r) amO ((l.take len).map (RT.pv r)),?_,rfl⟩;simp only [y4,hS.arr cq,afe,af5]
  cases hx
 | .part t off len cap ex,u,p,h,hx=>by
  simp only [Uu,cB] at hx;split at hx
  · rename_i r l cq
    injection hx with hx;subst hx;obtain ⟨e,rfl,de⟩:=h
    have:=de.inv cq
    subst this;refine ⟨.sl (amK r) amO (((l.drop off).take len).map (RT.pv r)),?_,rfl⟩;simp only [y4,hS.arr cq,af5,afK]
  cases hx
 | .iU,_,_,_,hx| .undef,_,_,_,hx| .jA,_,_,_,hx| .dU,_,_,_,hx| .pa _ _ _ _ _,_,_,_,hx| .pb _ _ _,_,_,_,hx| .bp _ _ _,_,_,_,hx| .bJ _ _,_,_,_,hx| .eV _ _ _,_,_,_,hx| .mp _,_,_,_,hx=>by cases hx
theorem OT {s:List SB} {ps:cL} (hS:cN s ps): ∀{v u:List SV} {p:List PV},RL s v p->OC s v=amL u-> ∃q,I' ps p=amL q/\sJ u=amL q
 | [],u,p,h,hx=>by injection hx with hx;subst hx;rw [show p=_ from h];exact ⟨_,rfl,rfl⟩
 |x::xs,u,p,h,hx=>by
  obtain ⟨a,as,rfl,h1,h2⟩:=h.cons_inv;simp only [OC] at hx;split at hx
  · rename_i y ys h3 h4
    injection hx with hx;subst hx;obtain ⟨q,h5,h6⟩:=afF hS h1 h3;obtain ⟨qs,h7,h8⟩:=OT hS h2 h4;exact ⟨q::qs,by simp only [I',h5,h7],eS.2 ⟨_,_,rfl,h6,h8⟩⟩
  cases hx
end
mutual
theorem U1 {s:List SB}: ∀{v:SV} {p:PV},sI v=amL p->R s v p
 | .int _ _,p,h| .bool _,p,h| .str _,p,h| .dU,p,h| .sl _ _,p,h| .nil _ _,p,h=>by injection h with h;exact h.symm
 | .agg cs,p,h=>by
  simp only [sI] at h;split at h
  · rename_i l hl;injection h with h;exact ⟨l,h.symm,F2 hl⟩
  cases h
 | .cw cs,p,h=>by
  simp only [sI] at h;split at h
  · rename_i l hl;injection h with h;exact ⟨l,h.symm,F2 hl⟩
  cases h
 | .bJ cs o,p,h=>by
  simp only [sI] at h;split at h
  · rename_i l hl;injection h with h;exact ⟨l,h.symm,F2 hl⟩
  cases h
 | .eV f a b,p,h=>by
  simp only [sI] at h;split at h
  · rename_i x y h1 h2;injection h with h;exact ⟨x,y,h.symm,F2 h1,F2 h2⟩
  cases h
 | .iU,_,h| .undef,_,h| .jA,_,h| .own _ _,_,h| .pre _ _ _ _,_,h| .part _ _ _ _ _,_,h| .pa _ _ _ _ _,_,h| .pb _ _ _,_,h| .bp _ _ _,_,h| .mp _,_,h=>by cases h
theorem F2 {s:List SB}: ∀{v:List SV} {p:List PV},sJ v=amL p->RL s v p
 | [],p,h=>by injection h with h;exact h.symm
 |x::xs,p,h=>by
  obtain ⟨a,as,rfl,h1,h2⟩:=eS.1 h;exact RL.cons (U1 h1) (F2 h2)
end
def afG (kd:Kd) (n:Nat) (tk:List Nat) (v:SV) (r:nY):Prop:=
 match kd with
 | .pure=> ∃p,sI v=amL p/\r={v:=p,rd:=tk}
 | .mz=> ∃p,sI v=amL p/\r={v:=p,rd:=tk,fr:=tk}
 | .own=> ∃p0 p q,sI v=amL p0/\FZ n p0=amL (p,q)/\r={v:=p,news:=q,rd:=tk}
def aF (F : m8) (f : FuncId) (c : bD) : Prop :=
  ∀ (a : c.α) (b : c.β) (as args : List PV) (aD : cL) (fz : List Nat), c.fn a = amL b -> sJ (c.args.enc a) = amL args -> CD aD (xX aD deep) as = amL args ->
    ∃ n r, dy F (run F n) c.ow f as aD fz = amL r /\ afG c.kd (amK aD) (dE (dj aD deep) as) (c.res.enc b) r
def dS.va (c:dS) (a:j0 c.ka):List SV:=(rO c.ta (mF c.ka a)).1
def dS.sa (c:dS) (a:j0 c.ka):List SB:=(AN c.tb (rO c.ta (mF c.ka a)).2).1
def dS.vb (c:dS) (b:j0 c.ko):SV:=(tD c.tv (mF c.ko b)).1
def dS.sb (c:dS) (b:j0 c.ko):List SB:=(AN c.to (tD c.tv (mF c.ko b)).2).1
def U2:SB->SB->Prop
 | .arr r l,.arr q m=>r=q/\amK m=amK l
 | .box _,.box _=>True
 | .set _,.set _=>True
 | .aP _ _,.aP _ _=>True
 | .dead,.dead=>True
 |_,_=>False
def jr (F : m8) (f : FuncId) (c : dS) : Prop :=
  ∀ (a : j0 c.ka) (b : j0 c.ko) (pa : List PV) (ps : cL), c.fn a = amL b -> RL (c.sa a) (c.va a) pa -> cN (c.sa a) ps ->
    ∃ n v s, run F n (.func f pa ps []) = amL (.func v s []) /\ ig (c.sa a).length v s = amN /\ R (c.sb b) (c.vb b) v /\ cN (c.sb b) (s.take (c.sa a).length) /\ (c.sb b).length = (c.sa a).length /\
      ∀ (t : Nat) (x y : SB), (c.sa a)[t]? = amL x -> (c.sb b)[t]? = amL y -> U2 x y
def AX (F:m8):List (Nat×bD)->Prop
 | []=>True
 |(f,c)::r=>aF F f c/\AX F r
def Iu (F:m8):List (Nat×dS)->Prop
 | []=>True
 |(f,c)::r=>jr F f c/\Iu F r
def BX (F:m8):List (Nat×Cd)->Prop
 | []=>True
 |(f,x)::r=>F f=amL x.ent/\BX F r
structure gJ (F:m8) (cx:Ctx):Prop where
 con: ∀f c,c∈cx.con f->aF F f c
 fpc: ∀f c,c∈cx.fpc f->jr F f c
 code: ∀f x,cx.code f=amL x->F f=amL x.ent
theorem AX.mem {F:m8}: ∀{l:List (Nat×bD)},AX F l-> ∀f c,c∈LY l f->aF F f c
 | [],_,f,c,h=>by cases h
 |(g,d)::r,hl,f,c,h=>by
  simp only [LY] at h;cases hb:NE g f with
  |true=>
   rw [hb] at h
   have:=ut hb
   subst this;simp only [lw] at h;rcases h with _|⟨_,h⟩
   · exact hl.1
   exact AX.mem hl.2 _ c h
  |false=>rw [hb] at h;exact AX.mem hl.2 f c h
theorem Iu.mem {F:m8}: ∀{l:List (Nat×dS)},Iu F l-> ∀f c,c∈LZ l f->jr F f c
 | [],_,f,c,h=>by cases h
 |(g,d)::r,hl,f,c,h=>by
  simp only [LZ] at h;cases hb:NE g f with
  |true=>
   rw [hb] at h
   have:=ut hb
   subst this;simp only [lw] at h;rcases h with _|⟨_,h⟩
   · exact hl.1
   exact Iu.mem hl.2 _ c h
  |false=>rw [hb] at h;exact Iu.mem hl.2 f c h
theorem BX.mem {F:m8}: ∀{l:List (Nat×Cd)},BX F l-> ∀f x,JN l f=amL x->F f=amL x.ent
 | [],_,f,c,h=>by cases h
 |(g,d)::r,hl,f,c,h=>by
  simp only [JN] at h;cases hb:NE g f with
  |true=>
   rw [hb] at h
   have:=ut hb
   subst this;injection h with h;subst h;exact hl.1
  |false=>rw [hb] at h;exact BX.mem hl.2 f c h
theorem gJ.make {F:m8} {lp:Option Nat} {c:List (Nat×bD)} {p:List (Nat×dS)} {x:List (Nat×Cd)} {rk:List (Nat×List PT)} (h1:AX F c) (h2:Iu F p) (h3:BX F x):gJ F (iV lp c p x rk):=
 ⟨h1.mem,h2.mem,h3.mem⟩
section
variable {F : m8} {R' ρ : Type} {w : R' -> ρ} {y : ρ} {s : List SB} {ps : cL} {z : List Nat}
theorem yt {f:FuncId} {m:Bool} {tk:List Nat} {vs:List SV} {k:XRS->gq R'} (hS:cN s ps) {as args:List PV} (hx:CD ps (xX ps deep) as=amL args) (hv:sJ vs=amL args) (CP:tk=dE (dj ps deep) as):
 ∀{l:List bD},(∀c∈l,aF F f c)->OH f m s tk vs k l ρ w=amL y-> ∃sr pr,(∃n,dy F (run F n) m f as ps z=amL pr)/\Good s ps sr pr/\k (.loc sr) ρ w=amL y
 | [],_,h=>by cases h
 |c::l,hl,h=>by
  simp only [OH] at h;cases hd:c.args.dec vs with
  |none=>rw [hd] at h;exact yt hS hx hv CP (fun c hc=>hl c (agd _ hc)) h
  |some a=>
   rw [hd] at h;cases hmo:(m==c.ow) with
   |false=>
    rw [hmo] at h;exact yt hS hx hv CP (fun c hc=>hl c (agd _ hc)) h
   |true=>
   rw [hmo] at h;obtain ⟨b,hb,h2⟩:=cR h;have hm:m=c.ow:=by simpa using hmo
   subst hm;have asZ:=c.args.law hd hv;obtain ⟨n,r,hr,BC⟩:=hl c (afM ..) a b as args ps z hb asZ hx;cases hkd:c.kd with
   |pure=>
    rw [hkd] at h2 BC;obtain ⟨p,h3,rfl⟩:=BC;exact ⟨_,_,⟨n,hr⟩,by rw [<- CP];exact Good.val hS (U1 h3),h2⟩
   |mz=>
    rw [hkd] at h2 BC;obtain ⟨p,h3,rfl⟩:=BC;exact ⟨_,_,⟨n,hr⟩,by rw [<- CP];exact Good.val hS (U1 h3),h2⟩
   |own=>
    rw [hkd] at h2 BC;obtain ⟨p0,p,q,h3,h4,rfl⟩:=BC;rw [hS.len] at h4;have hbh:wO (s++(yn (amK s) (c.res.enc b)).2) (amK s) (yn (amK s) (c.res.enc b)).2:=fun j x hj=>by
     rw [Do (by omega)];simpa using hj
    obtain ⟨k1,k2⟩:=QD h3 h4 hbh;exact ⟨_,_,⟨n,hr⟩,by rw [<- CP];exact Good.news hS k2.1 k2.2 k1,h2⟩
end
end Go.Vm
/- A call of a function that works on the blocks that are lent to it. -/
namespace Go.Vm
def ri {α:Type}:List (Nat×α)->List α->List α
 | [],s=>s
 |(t,b)::r,s=>ri r (s.set t b)
theorem wP: ∀(l:List (Nat×SB)) (s:List SB),rh l s=ri l s
 | [],s=>rfl
 |(t,b)::r,s=>by simp only [rh,ri,BO,wP r]
theorem DU: ∀(l:List (Nat×jW)) (s:cL),gg l s=ri l s
 | [],s=>rfl
 |(t,b)::r,s=>by simp only [gg,ri,DU r]
theorem AY {α:Type}: ∀(l:List (Nat×α)) (s:List α),(ri l s).length=amK s
 | [],s=>rfl
 |(t,b)::r,s=>by simp [ri,AY r]
theorem wQ {α:Type}: ∀(l:List (Nat×α)) (s:List α) (t:Nat),t∉l.map (·.1)->(ri l s)[t]? =s[t]?
 | [],s,t,_=>rfl
 |(u,b)::r,s,t,h=>by
  simp only [ae4,List.mem_cons,not_or] at h;simp only [ri];rw [wQ r _ t h.2,IR];simp [Ne.symm h.1]
theorem C' {α:Type}: ∀(l:List (Nat×α)) (s:List α) (j t:Nat) (b:α),(l.map (·.1)).Nodup->l[j]? =amL (t,b)->t<amK s->(ri l s)[t]? =amL b
 | [],s,j,t,b,_,h,_=>by simp at h
 |(u,c)::r,s,0,t,b,hn,h,ht=>by
  simp at h;obtain ⟨rfl,rfl⟩:=h;simp only [ae4,aka] at hn;simp only [ri];rw [wQ r _ u hn.1,IR];simp [ht]
 |(u,c)::r,s,j+1,t,b,hn,h,ht=>by
  simp only [ae4,aka] at hn;simp only [ri];exact C' r _ j t b hn.2 (by simpa using h) (by simpa using ht)
theorem BY: ∀(l:List (Nat×SB)),yp l=l.map (·.1)
 | []=>rfl
 |(t,b)::r=>by simp [yp,BY r]
theorem Iv (g:Nat->Nat): ∀(tk:List Nat) (s:List SB),amK s=amK tk->(z8 g tk s).map (·.1)=tk/\ ∀(j t:Nat) (b:SB),tk[j]? =amL t->s[j]? =amL b->(z8 g tk s)[j]? =amL (t,UA g b)
 | [],s,h=>⟨by simp [z8],fun j t b hj=>by simp at hj⟩
 |t::tk,[],h=>by simp at h
 |t::tk,b::s,h=>by
  obtain ⟨h1,h2⟩:=Iv g tk s (by simpa using h)
  refine ⟨by simp [z8,h1],fun j u c hj hc=>?_⟩
  cases j with
  |zero=>simp at hj hc;subst hj hc;rfl
  |succ j=>simp only [z8,afg];exact h2 j u c (by simpa using hj) (by simpa using hc)
theorem F3 (g:Nat->Nat): ∀(tk:List Nat) (s:cL),amK tk<=amK s->(o5 g tk s).map (·.1)=tk/\ ∀(j t:Nat) (b:jW),tk[j]? =amL t->s[j]? =amL b->(o5 g tk s)[j]? =amL (t,zS g b)
 | [],s,h=>⟨by simp [o5],fun j t b hj=>by simp at hj⟩
 |t::tk,[],h=>by simp at h
 |t::tk,b::s,h=>by
  obtain ⟨h1,h2⟩:=F3 g tk s (by simpa using h)
  refine ⟨by simp [o5,h1],fun j u c hj hc=>?_⟩
  cases j with
  |zero=>simp at hj hc;subst hj hc;rfl
  |succ j=>simp only [o5,afg];exact h2 j u c (by simpa using hj) (by simpa using hc)
theorem Iw: ∀{l:List (Nat×jW)},(l.map (·.1)).Nodup->wg l=amN
 | [],_=>rfl
 |p::r,h=>by
  simp only [ae4,aka] at h;simp only [wg,v6,afb,adc];refine ⟨fun q hq=>?_,Iw h.2⟩
  cases hb:NE q.1 p.1 with
  |false=>rfl
  |true=>exact absurd (amq.2 ⟨q,hq,ut hb⟩) h.1
theorem JU: ∀(s:List SB),Cz [] s=s
 | []=>rfl
 |b::r=>by
  simp only [Cz,JU r];cases b<;>simp [XH,tU]
theorem L9 (s:List SB) (r:fX):r.nF s=Cz (yp r.wr) (rh r.wr s)++r.news:=by
 unfold fX.nF;split
 · rename_i h;rw [h];simp only [yp,rh,JU,mB]
 simp only [mB]
def agR (g:Nat->Nat) (s s2:List SB):Prop:= ∀(u:Nat) (x:SB),s[u]? =amL x->match x with
 | .arr r l=>s2[g u]? =amL (.arr r l)
 | .dead=>s2[g u]? =amL .dead
 | .box _=> ∃cs,s2[g u]? =amL (.box cs)
 |_=>True
mutual
theorem QE {g:Nat->Nat} {s s2:List SB} (hb:agR g s s2): ∀{v:SV} {p:PV},R s v p->R s2 (LU g v) (CE g p)
 | .iU,_,_=>trivial
 | .undef,p,h| .jA,p,h| .dU,p,h| .int _ _,p,h| .bool _,p,h| .str _,p,h| .sl _ _,p,h| .nil _ _,p,h| .bp _ _ _,p,h| .mp _,p,h=>by rw [show p=_ from h];rfl
 | .agg cs,p,h=>by obtain ⟨q,rfl,h⟩:=h;exact ⟨_,rfl,wR hb h⟩
 | .cw cs,p,h=>by obtain ⟨q,rfl,h⟩:=h;exact ⟨_,rfl,wR hb h⟩
 | .bJ cs o,p,h=>by obtain ⟨q,rfl,h⟩:=h;exact ⟨_,rfl,wR hb h⟩
 | .eV f a b,p,h=>by obtain ⟨pa,pb,rfl,h1,h2⟩:=h;exact ⟨_,_,rfl,wR hb h1,wR hb h2⟩
 | .own t ex,p,h=>by
  obtain ⟨e,n,rfl,de⟩:=h;refine ⟨e,n,rfl,?_⟩;rcases de with ⟨r,l,h1,h2,h3⟩|h1
  · exact .inl ⟨r,l,hb t _ h1,h2,h3⟩
  exact .inr (hb t _ h1)
 | .pre t a b c,p,h=>by
  obtain ⟨e,rfl,de⟩:=h;refine ⟨e,rfl,?_⟩;rcases de with ⟨r,l,h1,h2⟩|h1|⟨cs,h1,h2⟩
  · exact .inl ⟨r,l,hb t _ h1,h2⟩
  · exact .inr (.inl (hb t _ h1))
  obtain ⟨c2,h3⟩:=hb t _ h1
  exact .inr (.inr ⟨c2,h3,h2⟩)
 | .part t o a b c,p,h=>by
  obtain ⟨e,rfl,de⟩:=h;refine ⟨e,rfl,?_⟩;rcases de with ⟨r,l,h1,h2⟩|h1|⟨cs,h1,h2⟩
  · exact .inl ⟨r,l,hb t _ h1,h2⟩
  · exact .inr (.inl (hb t _ h1))
  obtain ⟨c2,h3⟩:=hb t _ h1
  exact .inr (.inr ⟨c2,h3,h2⟩)
 | .pa t r i a o,p,h=>by
  obtain ⟨rfl,de⟩:=h;refine ⟨_,rfl,?_⟩;rcases de with ⟨l,h1,h2⟩|h1
  · exact .inl ⟨r,l,hb t _ h1,by rw [h2];rfl⟩
  exact .inr (hb t _ h1)
 | .pb t i o,p,h=>by
  obtain ⟨e,rfl,de⟩:=h;refine ⟨e,rfl,?_⟩;rcases de with ⟨r,l,h1,h2⟩|h1
  · exact .inl ⟨r,l,hb t _ h1,h2⟩
  exact .inr (hb t _ h1)
theorem wR {g:Nat->Nat} {s s2:List SB} (hb:agR g s s2): ∀{v:List SV} {p:List PV},RL s v p->RL s2 (DQ g v) (xC g p)
 | [],p,h=>by rw [show p=_ from h];rfl
 |x::xs,p,h=>by
  obtain ⟨a,as,rfl,h1,h2⟩:=h.cons_inv;exact RL.cons (QE hb h1) (wR hb h2)
end
theorem F4: ∀{a b:cL},(∀(t:Nat) (x:jW),a[t]? =amL x-> ∃y,b[t]? =amL y/\x.bM=y.bM)->we a b=amN
 | [],b,_=>by cases b<;>rfl
 |x::a,[],h=>by obtain ⟨y,hy,_⟩:=h 0 x rfl;simp at hy
 |x::a,y::b,h=>by
  obtain ⟨y',h1,h2⟩:=h 0 x rfl;simp at h1;subst h1
  have:=F4 (a:=a) (b:=b) (fun t x hx=>by simpa using h (t+1) x (by simpa using hx))
  simp only [we,this,afZ,h2];cases y.bM<;>rfl
section
variable {F : m8} {R' ρ : Type} {w : R' -> ρ} {y : ρ} {s : List SB} {ps : cL} {z : List Nat}
theorem QF {f:FuncId} {tk:List Nat} {OU vs:List SV} {s0:List SB} {k:XRS->gq R'} (hS:cN s ps) {WZ:List PV} (hv:RL s OU WZ) (CP:tk=oZ (dE (dj ps deep) WZ)) (hz:(tk.all fun t=>!has z t)=amN)
 (h1:tT tk OU=amL vs) (h2:HC s tk tk=amL s0):
 ∀{l:List dS},(∀c∈l,jr F f c)->fpS f (amK s) tk vs s0 k l ρ w=amL y-> ∃sr pr,(∃n,uI (run F n) f WZ ps z=amL pr)/\Good s ps sr pr/\k (.loc sr) ρ w=amL y
 | [],_,h=>by cases h
 |c::l,hl,h=>by
  have next:fpS f (amK s) tk vs s0 k l ρ w=amL y-> ∃sr pr,(∃n,uI (run F n) f WZ ps z=amL pr)/\Good s ps sr pr/\k (.loc sr) ρ w=amL y:=
   fun h=>QF hS hv CP hz h1 h2 (fun c hc=>hl c (agd _ hc)) h
  simp only [fpS] at h;cases vL:(yo c.ta vs&&FG c.tb s0) with
  |false=>rw [vL] at h;exact next h
  |true=>
   rw [vL] at h;simp only [lw] at h;cases hpo:q9 c.ka (C2 vs++JJ s0) with
   |none=>rw [hpo] at h;exact next h
   |some a=>
    rw [hpo] at h;obtain ⟨b,hb,h3⟩:=cR h;simp only [v6] at vL;have Fb:=sK hpo;have hva:c.va a=vs:=by unfold dS.va;rw [Fb,oo _ vL.1]
    have hsa:c.sa a=s0:=by
     unfold dS.sa;rw [Fb,oo _ vL.1]
     have:=BW [] vL.2
     rw [ae2] at this;rw [this]
    have Fg:FY tk s s0:=by have:=FY.of (l:=[]) h2;rwa [ae2] at this
    obtain ⟨pa',a1,a2⟩:=tY Fg hv h1;obtain ⟨p0,b1,b2,b3⟩:=C5 hS Fg h2;have Jy:cN s0 p0:=⟨b2,b3⟩;obtain ⟨X4,aon⟩:=yr h2;obtain ⟨n,v,sr,r1,r2,r3,r4,r5,r6⟩:=hl c (afM ..) a b pa' p0 hb (by rw [hva,hsa];exact a2) (by rw [hsa];exact Jy)
    rw [hsa] at r2 r4 r5 r6;have Hl:tk.Nodup:=by rw [CP];exact tP
    have Oi: ∀t∈tk,t<(amK s):=fun t ht=>by
     obtain ⟨j,hj,he⟩:=agl ht;obtain ⟨x,c',d1,_,_⟩:=aon j t (by rw [F0s hj,he])
     exact (ww.1 d1).1
    have aoo:(c.sb b).length=(amK tk):=by rw [r5,X4]
    have as2:(amK tk)<=(amK sr):=by
     have:=r4.len
     rw [af4,aoo] at this;rw [X4] at this;omega
    have FU: ∀j,j<amK tk->(sr.take (amK s0))[j]? =sr[j]?:=fun j hj=>If (by rw [X4];exact hj)
    have TV:we p0 sr=amN:=F4 (fun t x hx=>by
     have as3:t<(amK s0):=by have:=(ww.1 hx).1;rw [b2] at this;exact this
     obtain ⟨x0,JC⟩: ∃x0,s0[t]? =amL x0:=⟨s0[t],F0s as3⟩;obtain ⟨q,q1,q2⟩:=b3 t x0 JC;rw [hx] at q1;injection q1 with q1;subst q1;obtain ⟨y0,Ss⟩: ∃y0,(c.sb b)[t]? =amL y0:=⟨(c.sb b)[t]'(by omega),F0s (by omega)⟩
     obtain ⟨q',q3,q4⟩:=r4.at_ t y0 Ss;rw [FU t (by omega)] at q3
     refine ⟨q',q3,?_⟩;have Hv:=r6 t x0 y0 JC Ss;cases x0 with
     |arr r l=>cases y0 with
      |arr r' l'=>
       obtain ⟨rfl,Az⟩:=Hv;rw [show x=_ from q2,show q'=_ from q4];cases l<;>cases l'<;>simp_all [jW.bM]
      |_=>exact Hv.elim
     |box cs=>cases y0 with
      |box HU=>obtain ⟨_,rfl,_⟩:=q2;obtain ⟨_,rfl,_⟩:=q4;rfl
      |_=>exact Hv.elim
     |set l=>cases y0 with
      |set l'=>rw [show x=_ from q2,show q'=_ from q4];rfl
      |_=>exact Hv.elim
     |aP p l=>cases y0 with
      |aP p' l'=>rw [show x=_ from q2,show q'=_ from q4];rfl
      |_=>exact Hv.elim
     |dead=>cases y0 with
      |dead=>rw [show x=_ from q2,show q'=_ from q4]
      |_=>exact Hv.elim)
    let g:=kq tk (amK s)
    have hg: ∀j t,tk[j]? =amL t->g j=t:=fun j t hj=>by show kq tk (amK s) j=t;unfold kq;rw [hj]
    obtain ⟨w1,w2⟩:=Iv g tk (c.sb b) aoo;obtain ⟨u1,u2⟩:=F3 g tk sr as2
    let s2:=Cz tk (rh (z8 g tk (c.sb b)) s)
    have sE: ∀(j t:Nat) (x:SB),tk[j]? =amL t->(c.sb b)[j]? =amL x->s2[t]? =amL (XH tk (UA g x)):=fun j t x hj hx=>by
     show (Cz tk _)[t]? =_;rw [rQ,wP,C' _ s j t _ (by rw [w1];exact Hl) (w2 j t x hj hx) (Oi t (afB hj))]
     rfl
    have aop: ∀(t:Nat),t∉tk->s2[t]? =(s[t]?).map (XH tk):=fun t ht=>by
     show (Cz tk _)[t]? =_;rw [rQ,wP,wQ _ s t (by rw [w1];exact ht)]
    have zM: ∀t∈tk,∃j,tk[j]? =amL t:=fun t ht=>by
     obtain ⟨j,hj,he⟩:=agl ht;exact ⟨j,by rw [F0s hj,he]⟩
    have sC:Fr tk s s2:=fun t x hx=>by
     by_cases ht:t∈tk
     · obtain ⟨j,hj⟩:=zM t ht
       have N0:j<(amK tk):=(ww.1 hj).1;obtain ⟨x',c',d1,d2,d3⟩:=aon j t hj;rw [hx] at d1;injection d1 with d1;subst d1;obtain ⟨y0,Ss⟩: ∃y0,(c.sb b)[j]? =amL y0:=⟨(c.sb b)[j]'(by omega),F0s (by omega)⟩
       have Hv:=r6 j c' y0 d3 Ss;have X5:=sE j t y0 hj Ss;cases x with
       |arr r l=>
        injection d2 with d2;subst d2;cases y0 with
        |arr r' l'=>
         obtain ⟨rfl,Az⟩:=Hv;refine .inl ⟨l',X5,Az,fun hb=>?_⟩
         exfalso
         have:has tk t=amN:=by unfold has;rw [amB];exact ⟨t,ht,by simp⟩
         rw [this] at hb;cases hb
        |_=>exact Hv.elim
       |dead=>
        injection d2 with d2;subst d2;cases y0 with
        |dead=>exact X5
        |_=>exact Hv.elim
       |box cs=>
        simp only [OD] at d2;split at d2
        · injection d2 with d2;subst d2
          cases y0 with
          |box c2=>exact .inl ⟨_,X5⟩
          |_=>exact Hv.elim
        cases d2
       |_=>trivial
     have:=aop t ht
     rw [hx] at this;cases x with
     |arr r l=>exact .inl ⟨l,this,rfl,fun _=>rfl⟩
     |dead=>exact this
     |box c2=>exact .inl ⟨_,this⟩
     |_=>trivial
    have afH:agR g (c.sb b) s2:=fun u x hx=>by
     have Qz:u<(amK tk):=by have:=(ww.1 hx).1;omega
     have hj:tk[u]? =amL tk[u]:=F0s Qz
     have:=sE u _ x hj hx
     rw [hg u _ hj];cases x with
     |arr r l=>exact this
     |dead=>exact this
     |box cs=>exact ⟨_,this⟩
     |_=>trivial
    have as4:(∃n,uI (run F n) f WZ ps z=amL {v:=CE g v,wr:=o5 g tk sr}):=by
     refine ⟨n,?_⟩;unfold uI W4;rw [<- CP,pp hz,a1,b1];dsimp only;rw [r1];dsimp only;unfold EU;rw [pp TV,hS.len]
     have:ig (amK tk) v sr=amN:=by rw [<- X4];exact r2
     rw [pp this]
    refine ⟨{v:=LU g (c.vb b),wr:=z8 g tk (c.sb b)},_,as4,?_,h3⟩;have cq:fX.nF s {v:=LU g (c.vb b),wr:=z8 g tk (c.sb b)}=s2:=by
     rw [L9,ae2,BY,w1]
    exact {
     rd:=rfl
     fr:=rfl
     wr:=by rw [BY,w1];exact u1
     nw:=Iw (by rw [u1];exact Hl)
     nl:=rfl
     aD:=by
      rw [cq];show cN s2 (gg (o5 g tk sr) ps);rw [DU];refine ⟨by rw [AY,wJ,wP,AY,hS.len],fun t x hx=>?_⟩
      by_cases ht:t∈tk
      · obtain ⟨j,hj⟩:=zM t ht
        have N0:j<(amK tk):=(ww.1 hj).1;obtain ⟨y0,Ss⟩: ∃y0,(c.sb b)[j]? =amL y0:=⟨(c.sb b)[j]'(by omega),F0s (by omega)⟩
        have X5:=sE j t y0 hj Ss;rw [hx] at X5;injection X5 with X5;subst X5;obtain ⟨q',q3,q4⟩:=r4.at_ j y0 Ss;rw [FU j N0] at q3;refine ⟨zS g q',C' _ ps j t _ (by rw [u1];exact Hl) (u2 j t q' hj q3) (by rw [hS.len];exact Oi t ht),?_⟩
        cases y0 with
        |box cs=>
         obtain ⟨pc,rfl,hpc⟩:=q4;exact ⟨_,rfl,RL.fr (Fr.refl tk s2) (wR afH hpc)⟩
        |arr r l=>rw [show q'=_ from q4];rfl
        |set l=>rw [show q'=_ from q4];rfl
        |aP p l=>rw [show q'=_ from q4];rfl
        |dead=>rw [show q'=_ from q4];rfl
      rw [aop t ht,ae9] at hx
      obtain ⟨x0,JC,rfl⟩:=hx;obtain ⟨q,q1,q2⟩:=hS.at_ t x0 JC;exact ⟨q,by rw [wQ _ ps t (by rw [u1];exact ht)];exact q1,q2.fr sC⟩
     v:=by rw [cq];exact QE afH r3
     fra:=by rw [cq,BY,w1];exact sC}
end
end Go.Vm
/- What the typed machine makes of a function is what the logical machine runs. -/
namespace Go.Vm
section
variable {F : m8}
theorem WO.agS {o:bU} {r:List bU} {st:St} {tr:List Tr} {Q:St->List Tr->Prop} {f:FuncId} {args:List PV}
 (hw:wanted o.guard st.env=amL amN) (fF: ∀n,xD F (run F n) st.env st.aD st.fz o.op=fV (run F n) f args st.aD st.fz)
 (h:Av F f args st.aD st.fz fun v s z=>(M2 (amK st.aD) (amK s)&&st.fz.all (has z))=amN/\WO F r {st with env:=iL o.dst v st.env,aD:=s,fz:=z} (Uz::tr) Q):
 WO F (o::r) st tr Q:=by
 obtain ⟨n,v,s,z,hr,hc,hk⟩:=h;refine WO.call (.shr v s z) hw ⟨n,?_⟩ rfl hk;rw [fF];simp only [fV,hr];rw [pp hc]
theorem WP.again {live:List (Nat×Option Nat)} {b:jX} {st s1:St} {Q:hJ->St->Prop} (h0:norm live st=amL s1) (h:WP F b s1 (andThen (fun s=>WP F (.loop live b) s Q) Q)):WP F (.loop live b) st Q:=by
 obtain ⟨m,e,s,he,hq⟩:=h;cases e with
 |normal=>
  obtain ⟨k,e',s',Cw,Tk⟩:=hq;refine ⟨max m k+1,e',s',?_,Tk⟩;simp only [tB] at Cw ⊢;rw [lA];simp only [step,h0];rw [qn (qo F (Nat.le_max_left m k)) _ _ _ he];dsimp only;split at Cw
  · rename_i e1 s1 Qd
    rw [qo F (Nat.le_max_right m k) _ _ Qd];exact Cw
  cases Cw
 |exit i=>exact ⟨m+1,.exit i,s,by simp only [tB];rw [lA];simp only [step,h0,he],hq⟩
 |ret=>exact ⟨m+1,.ret,s,by simp only [tB];rw [lA];simp only [step,h0,he],hq⟩
def L' (F : m8) (inl : XI) : Prop :=
  ∀ (f : FuncId) (args : List SV) (s : List SB) (z : List Nat) (R' : Type) (k : SV -> List SB -> List Nat -> gq R') (ρ : Type) (w : R' -> ρ) (y : ρ) (pa : List PV) (ps : cL) (Q : R' -> PV -> cL -> List Nat -> Prop),
    RL s args pa -> cN s ps -> inl f args s z R' k ρ w = amL y ->
    (∀ v s' z' p xW BK (w' : R' -> BK) y', R s' v p -> cN s' xW -> k v s' z' BK w' = amL y' -> ∃ r, y' = w' r /\ Q r p xW z') ->
    ∃ r, y = w r /\ Av F f pa ps z (fun p xW z' => Q r p xW z')
def QG:SB->SB->Prop
 | .arr r l,b=>(∃l',b= .arr r l'/\amK l'=amK l)\/b= .dead
 | .dead,b=>b= .dead
 | .box _,b=>(∃cs,b= .box cs)\/b= .dead
 |_,_=>True
theorem BZ {R' ρ:Type} {w:R'->ρ} {y:ρ}: ∀{s s':List SB} {k:gq R'},pP s s' k ρ w=amL y->k ρ w=amL y/\amK s<=amK s'/\
 ∀(t:Nat) (b:SB),s[t]? =amL b-> ∃b',s'[t]? =amL b'/\QG b b'
 | [],s',k,h=>⟨by cases s'<;>exact h,Nat.zero_le _,fun t b ht=>by simp at ht⟩
 |x::xs,[],k,h=>by cases h
 |x::xs,y'::ys,k,h=>by
  have step: ∀(_:pP xs ys k ρ w=amL y) (_:QG x y'),k ρ w=amL y/\(x::xs).length<=(y'::ys).length/\ ∀(t:Nat) (b:SB),(x::xs)[t]? =amL b-> ∃b',(y'::ys)[t]? =amL b'/\QG b b':=by
   intro h hx;obtain ⟨h1,h2,h3⟩:=BZ h;refine ⟨h1,by simpa using h2,fun t b ht=>?_⟩
   cases t with
   |zero=>simp at ht;subst ht;exact ⟨y',rfl,hx⟩
   |succ t=>simpa using h3 t b (by simpa using ht)
  cases x with
  |arr r l=>
   cases y' with
   |arr q m=>
    obtain ⟨hr,h2⟩:=cZ (a:=gB (amK m==amK l) (pP xs ys k) aO) h;obtain ⟨hl,h3⟩:=ir h2
    have:=vM hr
    subst this;exact step h3 (.inl ⟨m,rfl,by simpa using hl⟩)
   |dead=>exact step h (.inr rfl)
   |_=>cases h
  |dead=>
   cases y' with
   |dead=>exact step h rfl
   |_=>cases h
  |box cs=>
   cases y' with
   |box c2=>exact step h (.inl ⟨c2,rfl⟩)
   |dead=>exact step h (.inr rfl)
   |_=>cases h
  |set l=>exact step h trivial
  |aP p l=>exact step h trivial
theorem U3 {n t:Nat} (h:t<n):has (vq n) t=amN:=by
 induction n with
 |zero=>omega
 |succ n ih=>
  unfold has at ih ⊢;rw [amB] at*;simp only [vq,amF,afN];rcases afI t n with h1|h1
  · obtain ⟨x,h2,h3⟩:=ih h1
    exact ⟨x,.inl h2,h3⟩
  have:t=n:=by omega
  subst this;exact ⟨t,.inr rfl,by simp⟩
theorem OV {s s':List SB} (h: ∀(t:Nat) (b:SB),s[t]? =amL b-> ∃b',s'[t]? =amL b'/\QG b b'):Fr (vq (amK s)) s s':=fun t b hb=>by
 obtain ⟨b',h1,h2⟩:=h t b hb;have dM:=(ww.1 hb).1;cases b with
 |arr r l=>
  rcases h2 with ⟨l',rfl,h3⟩|rfl
  · exact .inl ⟨l',h1,h3,fun hx=>by rw [U3 dM] at hx;cases hx⟩
  exact .inr h1
 |dead=>rw [show b'= .dead from h2] at h1;exact h1
 |box cs=>
  rcases h2 with ⟨c2,rfl⟩|rfl
  · exact .inl ⟨c2,h1⟩
  exact .inr h1
 |_=>trivial
theorem aoq {s:List SB} {ps:cL} {sr:fX} {pr:nY} (G:Good s ps sr pr) (hS:cN s ps):(XR.loc pr).tr (amK ps)=sr.tr (amK s):=by
 simp only [XR.tr,fX.tr,G.rd,G.fr,hS.len,<- G.wr,G.nl,amJ]
 have:pr.news.isEmpty=sr.news.isEmpty:=by
  have:=G.nl
  cases h1:pr.news<;>cases h2:sr.news<;>simp_all
 rw [this];rfl
theorem agT {st:qB} {p:St} (h:Ab st p) {sr:fX} {pr:nY} (G:Good st.aD p.aD sr pr) (d:Option Nat):Ab (sr.next d st) ((XR.loc pr).next d p):=by
 have X6: ∀{s:List SB} {e:SE} {pe:Env} {v:SV} {q:PV},dZ s e pe->R s v q->dZ s (JL d v e) (iL d q pe):=by
  intro s e pe v q he hv;cases d with
  |none=>exact he
  |some t=>exact ⟨q,pe,rfl,hv,he⟩
 have hs:=L9 st.aD sr;unfold fX.next
 split
 · rename_i hw
   rw [hw] at hs;simp only [yp,rh,JU] at hs;have qu:=G.aD;have hv:=G.v;have sC:=G.fra;rw [hs] at qu hv sC;rw [hw] at sC;exact ⟨by simp only [mB];exact X6 (dZ.ext sC h.env) hv,by simp only [mB];exact qu,by simp only [XR.next,G.fr,h.fz],h.kn⟩
 have qu:=G.aD
 have hv:=G.v;have sC:=G.fra;rw [hs] at qu hv sC;exact ⟨by simp only [mB];exact X6 (dZ.fr sC h.env) hv,by simp only [mB];exact qu,by simp only [XR.next,G.fr,h.fz],h.kn⟩
theorem ok_eq {s:List SB} {ps:cL} {sr:fX} {pr:nY} (G:Good s ps sr pr) {z:List Nat} (h:sr.ok z=amN):(XR.loc pr).ok z=amN:=by
 simp only [XR.ok,G.nw,afZ];unfold fX.ok at h;rw [<- G.wr,amJ] at h;exact h
section
variable {cx : Ctx} {inl : XI} {R' : Type}
def as6 (_F:m8) (k:qB->List Tr->gq R') (Q:R'->St->List Tr->Prop):Prop:=
 ∀st p tr ρ (w:R'->ρ) y,Ab st p->k st tr ρ w=amL y-> ∃r,y=w r/\Q r p tr
theorem wS {o:bU} {l:List bU} {st:qB} {p:St} {tr:List Tr} {k:qB->List Tr->gq R'} {ρ:Type} {w:R'->ρ} {y:ρ} {Q:R'->St->List Tr->Prop}
 (hl: ∀st p tr ρ (w:R'->ρ) y,Ab st p->k st tr ρ w=amL y-> ∃r,y=w r/\WO F l p tr (Q r)) (h:Ab st p) {sr:fX} {pr:nY} (hw:wanted o.guard p.env=amL amN)
 (hx: ∃n,xD F (run F n) p.env p.aD p.fz o.op=amL (.loc pr)) (G:Good st.aD p.aD sr pr) (hg:Qs o.dst st tr k (.loc sr) ρ w=amL y): ∃r,y=w r/\WO F (o::l) p tr (Q r):=by
 unfold Qs at hg;dsimp only at hg;obtain ⟨Au,hg⟩:=cZ hg;rw [JG] at hg;have hR:=agT h G o.dst;obtain ⟨r,hr,X7⟩:=hl _ _ _ _ _ _ hR hg;refine ⟨r,hr,WO.call (.loc pr) hw hx (by rw [h.fz];exact ok_eq G Au) ?_⟩
 rw [aoq G h.aD];exact X7
theorem Ma (Ef:gJ F cx) (JV:L' F inl) {o:bU} {l:List bU} {st:qB} {p:St} {tr:List Tr} {k:qB->List Tr->gq R'} {ρ:Type} {w:R'->ρ} {y:ρ} {Q:R'->St->List Tr->Prop}
 (hl: ∀st p tr ρ (w:R'->ρ) y,Ab st p->k st tr ρ w=amL y-> ∃r,y=w r/\WO F l p tr (Q r)) (h:Ab st p) (hw:wanted o.guard p.env=amL amN)
 (hg:Ij cx inl st.env st.aD st.fz o.op (Qs o.dst st tr k) ρ w=amL y): ∃r,y=w r/\WO F (o::l) p tr (Q r):=by
 have hS:=h.aD;have hE:=h.env;have shr: ∀(f:FuncId) (OU:List SV) (WZ:List PV),RL st.aD OU WZ->(∀n,xD F (run F n) p.env p.aD p.fz o.op=fV (run F n) f WZ p.aD p.fz)->
  inl f OU st.aD st.fz R' (fun v s' z'=>Qs o.dst st tr k (.shr v s' z')) ρ w=amL y-> ∃r,y=w r/\WO F (o::l) p tr (Q r):=by
  intro f OU WZ hv fF hi;obtain ⟨r,hr,hd⟩:=JV f OU st.aD st.fz R' _ ρ w y WZ p.aD (fun r v s z=>(M2 (amK p.aD) (amK s)&&p.fz.all (has z))=amN/\WO F l {p with env:=iL o.dst v p.env,aD:=s,fz:=z} (Uz::tr) (Q r)) hv hS hi
   (fun v s' z' pv xW BK w' y' hR hS' hk=>by
    unfold Qs at hk;dsimp only at hk;rw [JG] at hk;obtain ⟨hk,cY,TI⟩:=BZ hk;obtain ⟨hz,hk⟩:=cZ hk;have sC:=OV TI;have X6:dZ s' (JL o.dst v (dgE (vq (amK st.aD)) st.env)) (iL o.dst pv p.env):=by
     cases o.dst with
     |none=>exact dZ.fr sC hE
     |some t=>exact ⟨pv,p.env,rfl,hR,dZ.fr sC hE⟩
    have hR':Ab {env:=JL o.dst v (dgE (vq (amK st.aD)) st.env),aD:=s',fz:=z',kn:=st.kn} {p with env:=iL o.dst pv p.env,aD:=xW,fz:=z'}:=⟨X6,hS',rfl,h.kn⟩;obtain ⟨r,hr,X7⟩:=hl _ _ _ _ _ _ hR' hk;refine ⟨r,hr,?_,X7⟩;rw [h.fz,hz,afZ,hS.len,hS'.len];simpa using cY)
  refine ⟨r,hr,WO.agS hw fF ?_⟩;rw [h.fz];rw [h.fz] at hd;exact hd
 have loc: ∀{k':fX->gq R'},mA st.env st.aD st.fz o.op k' ρ w=amL y->CY o.op=amO->(∀sr,k' sr=Qs o.dst st tr k (.loc sr))-> ∃r,y=w r/\WO F (o::l) p tr (Q r):=by
  intro k' hv hc hk;obtain ⟨sr,pr,h1,G,h2⟩:=X1 hE hS (pe:=p.env) hv;rw [hk] at h2;exact wS hl h hw ⟨0,by rw [JE hc,h.fz,h1];rfl⟩ G h2
 generalize fF:o.op=op at hg;cases op with
 |call m f args=>
  have lf:=zj hE args;simp only [Ij] at hg;cases m with
  |WM=>
   dsimp only at hg;cases hx:sH st.aD (kO st.aD deep) (jF st.env args) with
   |none=>rw [hx] at hg;cases hg
   |some vs=>
    rw [hx] at hg;obtain ⟨q,h1,h2⟩:=uT hS (Ex hS deep) lf hx;obtain ⟨sr,pr,⟨n,h3⟩,G,h4⟩:=yt (f:=f) (z:=st.fz) hS h1 h2 (Ac hS (FV hS deep) lf hx) (fun c hc=>Ef.con f c hc) hg
    exact wS hl h hw ⟨n,by rw [fF,h.fz];simp only [xD,h3];rfl⟩ G h4
  |own=>
   dsimp only at hg;cases hx:sH st.aD (kO st.aD deep) (jF st.env args) with
   |none=>rw [hx] at hg;cases hg
   |some vs=>
    rw [hx] at hg;obtain ⟨q,h1,h2⟩:=uT hS (Ex hS deep) lf hx;obtain ⟨sr,pr,⟨n,h3⟩,G,h4⟩:=yt (f:=f) (z:=st.fz) hS h1 h2 (Ac hS (FV hS deep) lf hx) (fun c hc=>Ef.con f c hc) hg
    exact wS hl h hw ⟨n,by rw [fF,h.fz];simp only [xD,h3];rfl⟩ G h4
  |shr=>exact shr f _ _ lf (fun n=>by rw [fF];rfl) hg
  |fp=>
   dsimp only at hg;cases hx:OA st.aD (kO st.aD deep) (jF st.env args) with
   |false=>rw [hx] at hg;cases hg
   |true=>
    rw [hx] at hg;dsimp only at hg;obtain ⟨hz,hg⟩:=cZ hg;cases h1:tT (oZ (rM (xS st.aD deep) (jF st.env args))) (jF st.env args) with
    |none=>rw [h1] at hg;cases hg
    |some vs=>
     cases h2:HC st.aD (oZ (rM (xS st.aD deep) (jF st.env args))) (oZ (rM (xS st.aD deep) (jF st.env args))) with
     |none=>rw [h1,h2] at hg;cases hg
     |some s0=>
      rw [h1,h2] at hg;obtain ⟨sr,pr,⟨n,h3⟩,G,h4⟩:=QF (f:=f) (z:=st.fz) hS lf (by rw [UU hS (FV hS deep) lf hx]) hz h1 h2 (fun c hc=>Ef.fpc f c hc) hg
      exact wS hl h hw ⟨n,by rw [fF,h.fz];simp only [xD,h3];rfl⟩ G h4
 |xB x args=>
  have lf:=zj hE args;simp only [Ij] at hg;have hx:=dN hE x;generalize bW st.env x=v at hg hx;cases v with
  |eV f a b=>
   dsimp only at hg;obtain ⟨pa,pb,hx,ha,hb⟩:=hx;have as7: ∀{vs:List SV} {q:List PV},RL st.aD vs q->(AO vs=amN->q.any ET=amN):=by
    intro vs
    induction vs with
    |nil=>intro q _ h;cases h
    |cons v vs ih=>
     intro q hq hp;obtain ⟨a,as,rfl,h1,h2⟩:=hq.cons_inv;simp only [AO,amG] at hp;simp only [amH,amG];rcases hp with hp|hp
     · left
       cases v with
       |own _ _=>obtain ⟨_,_,rfl,_⟩:=h1;rfl
       |pre _ _ _ _=>obtain ⟨_,rfl,_⟩:=h1;rfl
       |part _ _ _ _ _=>obtain ⟨_,rfl,_⟩:=h1;rfl
       |pa _ _ _ _ _=>obtain ⟨rfl,_⟩:=h1;rfl
       |pb _ _ _=>obtain ⟨_,rfl,_⟩:=h1;rfl
       |bp _ _ _=>rw [show a=_ from h1];rfl
       |mp _=>rw [show a=_ from h1];rfl
       |_=>cases hp
     right;exact ih h2 hp
   cases hp:AO (jF st.env args++b) with
   |true=>
    rw [hp] at hg
    have:=as7 (lf.append hb) hp
    exact shr f _ _ ((ha.append lf).append hb) (fun n=>by rw [fF];simp only [xD,hx,this,if_true]) hg
   |false=>
    rw [hp] at hg;simp only [ol] at hg;cases hxx:sH st.aD (kO st.aD deep) (a++jF st.env args++b) with
    |none=>rw [hxx] at hg;cases hg
    |some vs=>
     rw [hxx] at hg;have hno: ∀{vs u:List SV} {q:List PV},RL st.aD vs q->AO vs=amO->sH st.aD (kO st.aD deep) vs=amL u->q.any ET=amO:=by
      intro vs
      induction vs with
      |nil=>intro u q hq _ _;rw [show q=[] from hq];rfl
      |cons v vs ih=>
       intro u q hq hp hu;obtain ⟨a,as,rfl,h1,h2⟩:=hq.cons_inv;simp only [AO,Bool.or_eq_false_iff] at hp;simp only [sH] at hu;split at hu
       · rename_i y1 y2 e1 e2
         simp only [amH,ih h2 hp.2 e2,Bool.or_false];cases v with
         |agg _|cw _|bJ _ _=>obtain ⟨_,rfl,_⟩:=h1;rfl
         |eV _ _ _=>obtain ⟨_,_,rfl,_⟩:=h1;rfl
         |int _ _|bool _|str _|dU|sl _ _|nil _ _|undef|jA=>rw [show a=_ from h1];rfl
         |iU=>cases e1
         |own _ _|pre _ _ _ _|part _ _ _ _ _|pa _ _ _ _ _|pb _ _ _|bp _ _ _|mp _=>cases hp.1
       cases hu
     have agU: ∃u2,sH st.aD (kO st.aD deep) (jF st.env args++b)=amL u2:=by
      have: ∀(l:List SV) {m u:List SV},sH st.aD (kO st.aD deep) (l++m)=amL u-> ∃u2,sH st.aD (kO st.aD deep) m=amL u2:=by
       intro l
       induction l with
       |nil=>intro m u h;exact ⟨u,h⟩
       |cons x l ih=>
        intro m u h;simp only [agK,sH] at h;split at h
        · rename_i e1 e2;exact ih e2
        cases h
      rw [ae1] at hxx;exact this a hxx
     obtain ⟨u2,hu2⟩:=agU;have as8:=hno (lf.append hb) hp hu2;have rI:=(ha.append lf).append hb;obtain ⟨q,h1,h2⟩:=uT hS (Ex hS deep) rI hxx;obtain ⟨sr,pr,⟨n,h3⟩,G,h4⟩:=yt (f:=f) (z:=st.fz) hS h1 h2 (Ac hS (FV hS deep) rI hxx) (fun c hc=>Ef.con f c hc) hg
     exact wS hl h hw ⟨n,by rw [fF,h.fz];simp only [xD,hx,as8,PP,if_false,h3];rfl⟩ G h4
  |_=>cases hg
 |_=>exact loc (k':=fun r=>Qs o.dst st tr k (.loc r)) (by rw [fF];exact hg) (by rw [fF];rfl) (fun _=>rfl)
theorem wT (Ef:gJ F cx) (JV:L' F inl): ∀(ops:List bU) {st:qB} {p:St} {tr:List Tr} {k:qB->List Tr->gq R'} {ρ:Type} {w:R'->ρ} {y:ρ} {Q:R'->St->List Tr->Prop},
 as6 F k Q->Ab st p->o9 cx inl ops st tr k ρ w=amL y-> ∃r,y=w r/\WO F ops p tr (Q r)
 | [],st,p,tr,k,ρ,w,y,Q,hk,h,he=>by
  obtain ⟨r,hr,hq⟩:=hk st p tr ρ w y h he;exact ⟨r,hr,WO.nil hq⟩
 |o::l,st,p,tr,k,ρ,w,y,Q,hk,h,he=>by
  have hl: ∀st p tr ρ (w:R'->ρ) y,Ab st p->o9 cx inl l st tr k ρ w=amL y-> ∃r,y=w r/\WO F l p tr (Q r):=fun st p tr ρ w y h he=>wT Ef JV l hk h he
  have Su: ∀{st:qB} {c:Nat} {v:SV},Ab st p->R st.aD v (lk c p.env)->Ab {st with env:=AL c v st.env} p:=fun h hv=>⟨h.env.AL hv,h.aD,h.fz,h.kn⟩
  have agV: ∀{st:qB},Ab st p->wanted o.guard p.env=amL amN->(match o.op with
   | .pick (.t c) a b=>match Hm c st.env with
    | .bool x=>gB x (Qs o.dst {st with env:=AL c (.bool amN) st.env} tr (o9 cx inl l · · k) (.loc {v:=bW st.env a}))
     (Qs o.dst {st with env:=AL c (.bool amO) st.env} tr (o9 cx inl l · · k) (.loc {v:=bW st.env b}))
    |_=>aO
   |op=>Ij cx inl st.env st.aD st.fz op (Qs o.dst st tr (o9 cx inl l · · k))) ρ w=amL y-> ∃r,y=w r/\WO F (o::l) p tr (Q r):=by
   intro st h hw he;have plain:Ij cx inl st.env st.aD st.fz o.op (Qs o.dst st tr (o9 cx inl l · · k)) ρ w=amL y-> ∃r,y=w r/\WO F (o::l) p tr (Q r):=fun he=>Ma Ef JV hl h hw he
   generalize fF:o.op=op at he;cases op with
   |pick c a b=>
    cases c with
    |c v=>exact plain (by rw [fF];exact he)
    |t c=>
     dsimp only at he;generalize hv:Hm c st.env=v at he;cases v with
     |bool x=>
      have hx:lk c p.env= .bool x:=by have:=h.env.lk c;rw [hv] at this;exact this
      rcases fv he with ⟨rfl,he⟩|⟨rfl,he⟩
      · have hR:=Su h (c:=c) (v:= .bool amN) hx
        exact wS (o:=o) hl hR hw ⟨0,by rw [fF];simp only [xD,bG,fH.ev,hx];rfl⟩ (Good.val hR.aD (dN h.env a)) he
      have hR:=Su h (c:=c) (v:= .bool amO) hx
      exact wS (o:=o) hl hR hw ⟨0,by rw [fF];simp only [xD,bG,fH.ev,hx];rfl⟩ (Good.val hR.aD (dN h.env b)) he
     |_=>cases he
   |_=>exact plain (by rw [fF];exact he)
  have U4: ∀{st:qB},Ab st p->wanted o.guard p.env=amL amO->o9 cx inl l {st with env:=JL o.dst .jA st.env} (Tr.idle::tr) k ρ w=amL y-> ∃r,y=w r/\WO F (o::l) p tr (Q r):=by
   intro st h hw he;have hR:Ab {st with env:=JL o.dst .jA st.env} {p with env:=iL o.dst .jA p.env}:=by
    refine ⟨?_,h.aD,h.fz,h.kn⟩;cases o.dst with
    |none=>exact h.env
    |some t=>exact ⟨.jA,p.env,rfl,rfl,h.env⟩
   obtain ⟨r,hr,X7⟩:=hl _ _ _ _ _ _ hR he;exact ⟨r,hr,WO.skip hw X7⟩
  simp only [o9] at he;cases NT:o.guard with
  |none=>
   rw [NT] at he;exact agV h (by rw [NT];rfl) he
  |some g=>
   obtain ⟨c,want⟩:=g;rw [NT] at he;dsimp only at he;generalize hv:Hm c st.env=v at he;cases v with
   |bool x=>
    have hx:lk c p.env= .bool x:=by have:=h.env.lk c;rw [hv] at this;exact this
    have hwx: ∀b,x=b->wanted o.guard p.env=amL (b==want):=fun b hb=>by rw [NT];simp only [wanted,hx,hb]
    cases want with
    |true=>
     simp only [lw] at he;rcases fv he with ⟨rfl,he⟩|⟨rfl,he⟩
     · exact agV (Su h (v:= .bool amN) hx) (hwx amN rfl) he
     exact U4 (Su h (v:= .bool amO) hx) (hwx amO rfl) he
    |false=>
     simp only [ol] at he;rcases fv he with ⟨rfl,he⟩|⟨rfl,he⟩
     · exact U4 (Su h (v:= .bool amN) hx) (hwx amN rfl) he
     exact agV (Su h (v:= .bool amO) hx) (hwx amO rfl) he
   |jA=>
    have hx:lk c p.env= .jA:=by have:=h.env.lk c;rw [hv] at this;exact this
    exact U4 h (by rw [NT];simp only [wanted,hx]) he
   |_=>cases he
theorem F5 {e:SE}: ∀{fU:List Nat} {k:SE->gq R'} {ρ:Type} {w:R'->ρ} {y:ρ},LV e fU k ρ w=amL y->k (fU.map fun s=>(s,Hm s e)) ρ w=amL y
 | [],k,ρ,w,y,h=>h
 |s::r,k,ρ,w,y,h=>by
  simp only [LV] at h;rw [JG] at h
  have:=F5 h
  exact this
theorem U5 {s:List SB} {e:SE} {pe:Env} (h:dZ s e pe): ∀(fU:List Nat),dZ s (fU.map fun t=>(t,Hm t e)) (fU.map fun t=>(t,lk t pe))
 | []=>rfl
 |t::r=>⟨_,_,rfl,h.lk t,U5 h r⟩
end
mutual
theorem Ix: ∀(v:SV) (q:List xV),tD v (C1 v++q)=(v,q)
 | .iU,q| .undef,q| .jA,q| .dU,q| .int _ _,q| .bool _,q| .str _,q| .sl _ _,q| .nil _ _,q| .own _ _,q| .pre _ _ _ _,q| .part _ _ _ _ _,q| .pa _ _ _ _ _,q| .pb _ _ _,q| .bp _ _ _,q| .mp _,q=>rfl
 | .agg cs,q=>by simp only [tD,C1,sg]
 | .cw cs,q=>by simp only [tD,C1,sg]
 | .bJ cs o,q=>by simp only [tD,C1,sg]
 | .eV f a b,q=>by simp only [tD,C1,ae1,sg]
theorem sg: ∀(v:List SV) (q:List xV),rO v (C2 v++q)=(v,q)
 | [],q=>rfl
 |x::xs,q=>by simp only [rO,C2,ae1,Ix,sg]
end
theorem Iy: ∀(v:List SB) (q:List xV),AN v (JJ v++q)=(v,q)
 | [],q=>rfl
 |x::xs,q=>by
  have: ∀q,OF x (Uw x++q)=(x,q):=by
   intro q;cases x<;>first|rfl|simp only [OF,Uw,sg]
  simp only [AN,JJ,ae1,this,Iy]
theorem Iz: ∀(v:SE) (q:List xV),LS v (Sg v++q)=(v,q)
 | [],q=>rfl
 |(t,x)::xs,q=>by simp only [LS,Sg,ae1,Ix,Iz]
theorem OW (st:qB):z7 st (xJ st)=st:=by
 have hs:=Iy st.aD [];rw [ae2] at hs;simp only [z7,xJ,Iz,hs]
theorem Sv {cx:Ctx} {inl:XI} (Ef:gJ F cx) (JV:L' F inl): ∀(c:jX) (R':Type) {st:qB} {p:St} {k:hJ->qB->gq R'} {ρ:Type} {w:R'->ρ} {y:ρ} {Q:R'->hJ->St->Prop},
 (∀e st p ρ (w:R'->ρ) y,Ab st p->k e st ρ w=amL y-> ∃r,y=w r/\Q r e p)->Ab st p->BJ cx inl c R' st k ρ w=amL y-> ∃r,y=w r/\WP F c p (Q r):=by
 intro c
 induction c with
 |skip=>
  intro R' st p k ρ w y Q hk h he;obtain ⟨r,hr,hq⟩:=hk _ _ _ _ _ _ h he;exact ⟨r,hr,WP.skip hq⟩
 |ret=>
  intro R' st p k ρ w y Q hk h he;obtain ⟨r,hr,hq⟩:=hk _ _ _ _ _ _ h he;exact ⟨r,hr,WP.ret hq⟩
 |exit id=>
  intro R' st p k ρ w y Q hk h he;obtain ⟨r,hr,hq⟩:=hk _ _ _ _ _ _ h he;exact ⟨r,hr,WP.exit hq⟩
 |region d ops fU=>
  intro R' st p k ρ w y Q hk h he;simp only [BJ] at he;have fin: ∀st p ρ (w:R'->ρ) y,Ab st p->LV st.env fU (fun e=>k .normal {st with env:=e}) ρ w=amL y-> ∃r,y=w r/\Q r .normal (qp fU p):=by
   intro st p ρ w y h he
   have:=F5 he
   have hR:Ab {st with env:=fU.map fun t=>(t,Hm t st.env)} (qp fU p):=⟨U5 h.env fU,h.aD,h.fz,h.kn⟩
   exact hk _ _ _ _ _ _ hR this
  cases d with
  |none=>
   obtain ⟨r,hr,X7⟩:=wT Ef JV ops (Q:=fun r s _=>Q r .normal (qp fU s)) (fun st p tr ρ w y h he=>fin st p ρ w y h he) h he
   exact ⟨r,hr,WP.region X7⟩
  |some bf=>
   obtain ⟨r,hr,X7⟩:=wT Ef JV ops (Q:=fun r s t=>rG 0 (t.reverse.zip bf)=amN/\Q r .normal (qp fU s)) (fun st p tr ρ w y h he=>by
    dsimp only at he;cases ho:rG 0 (tr.reverse.zip bf) with
    |false=>rw [ho] at he;cases he
    |true=>
     rw [ho] at he;obtain ⟨r,hr,hq⟩:=fin st p ρ w y h he;exact ⟨r,hr,ho,hq⟩) h he
   exact ⟨r,hr,WP.W5 X7⟩
 |seq a b iha ihb=>
  intro R' st p k ρ w y Q hk h he;simp only [BJ] at he;obtain ⟨r,hr,OX⟩:=iha R' (Q:=fun r=>andThen (fun s=>WP F b s (Q r)) (Q r)) (fun e st p ρ w y h he=>by
   cases e with
   |normal=>exact ihb R' hk h he
   |exit i=>exact hk _ _ _ _ _ _ h he
   |ret=>exact hk _ _ _ _ _ _ h he) h he
  exact ⟨r,hr,WP.seq OX⟩
 |cond c a b iha ihb=>
  intro R' st p k ρ w y Q hk h he;simp only [BJ] at he;have hx:=dN h.env c;generalize bW st.env c=v at he hx;cases v with
  |bool x=>
   rcases fv he with ⟨rfl,he⟩|⟨rfl,he⟩
   · obtain ⟨r,hr,OX⟩:=iha R' hk h he
     exact ⟨r,hr,WP.ae6 hx OX⟩
   obtain ⟨r,hr,OX⟩:=ihb R' hk h he
   exact ⟨r,hr,WP.ae7 hx OX⟩
  |_=>cases he
 |block id b ih=>
  intro R' st p k ρ w y Q hk h he;simp only [BJ] at he;obtain ⟨r,hr,OX⟩:=ih R' (Q:=fun r=>inBlock id (Q r)) (fun e st p ρ w y h he=>by
   cases e with
   |normal=>exact hk _ _ _ _ _ _ h he
   |ret=>exact hk _ _ _ _ _ _ h he
   |exit j=>
    dsimp only at he;cases hj:NE j id with
    |true=>
     rw [hj] at he;obtain ⟨r,hr,hq⟩:=hk _ _ _ _ _ _ h he;have Xm:=ut hj;exact ⟨r,hr,by simpa [inBlock,Xm] using hq⟩
    |false=>
     rw [hj] at he;obtain ⟨r,hr,hq⟩:=hk _ _ _ _ _ _ h he
     have:j≠id:=by intro e;subst e;simp at hj
     exact ⟨r,hr,by simpa [inBlock,this] using hq⟩) h he
  exact ⟨r,hr,WP.block OX⟩
 |loop live b ih=>
  intro R' st p k ρ w y Q hk h he;simp only [BJ] at he;cases hn:FF cx.rk live st with
  |none=>rw [hn] at he;cases he
  |some ob=>
   rw [hn] at he;dsimp only at he;have agW: ∀{β:Type 1} (l:List AK) (c:List AK->β),ksK l c=c l:=by
    intro β l;have aos: ∀{β:Type 1} (l:List PT) (c:List PT->β),rK l c=c l:=by
     intro β l
     induction l with
     |nil=>intro c;rfl
     |cons p r ih=>intro c;cases p<;>simp only [rK,ptK,ih]
    induction l with
    |nil=>intro c;rfl
    |cons a r ih=>intro c;cases a<;>simp only [ksK,aos,ih]
   rw [agW] at he;generalize agD (xJ ob)=ks at he;cases hp:q9 ks (xJ ob) with
   |none=>rw [hp] at he;cases he
   |some y0=>
    rw [hp] at he;dsimp only at he;obtain ⟨p1,hp1,hR1⟩:=QC h hn;have aot: ∀(OI:qB) (y':j0 ks),FH ob OI=amN->q9 ks (xJ OI)=amL y'->z7 ob (mF ks y')=OI:=fun OI y' h1 h2=>by
     rw [sK h2,Sr h1]
    obtain ⟨n,hit⟩:=Uo he;have h0:Ab (z7 ob (mF ks y0)) p1:=by rw [sK hp,OW];exact hR1
    clear he hp hn h hR1
    induction n generalizing y0 p p1 with
    |zero=>cases hit
    |succ n ihn=>
     have body: ∀zr,BJ cx inl b (Step (j0 ks) ρ) (z7 ob (mF ks y0)) (fun e D'=>match e with
      | .normal=>match FF cx.rk live D' with
       |some OI=>bif FH ob OI then (match q9 ks (xJ OI) with
        |some y'=>Ig (.next y')
        |none=>aO) else aO
       |none=>aO
      |e=>fun BK w'=>k e D' BK fun r=>w' (.done (w r))) (Step (j0 ks) ρ) (fun z=>z)=amL zr->
      WP F b p1 (fun e s=>match zr with
       | .next y'=>e= .normal/\ ∃p3,norm live s=amL p3/\Ab (z7 ob (mF ks y')) p3
       | .done x=>e≠ .normal/\ ∃r,x=w r/\Q r e s):=by
      intro zr qy;obtain ⟨zr',P1,OX⟩:=ih (Step (j0 ks) ρ) (Q:=fun zr e s=>match zr with
       | .next y'=>e= .normal/\ ∃p3,norm live s=amL p3/\Ab (z7 ob (mF ks y')) p3
       | .done x=>e≠ .normal/\ ∃r,x=w r/\Q r e s) (fun e D' p2 BK w' y2 h2 DI=>by
       cases e with
       |normal=>
        dsimp only at DI;cases hn3:FF cx.rk live D' with
        |none=>rw [hn3] at DI;cases DI
        |some OI=>
         rw [hn3] at DI;obtain ⟨vL,DI⟩:=cZ DI;cases hp3:q9 ks (xJ OI) with
         |none=>rw [hp3] at DI;cases DI
         |some y3=>
          rw [hp3] at DI;injection DI with DI;obtain ⟨p3,as',hR3⟩:=QC h2 hn3;exact ⟨.next y3,DI.symm,rfl,p3,as',by rw [aot OI y3 vL hp3];exact hR3⟩
       |exit i=>
        obtain ⟨r,hr,hq⟩:=hk _ _ _ _ _ _ h2 DI;exact ⟨.done (w r),hr,(by intro e;cases e),r,rfl,hq⟩
       |ret=>
        obtain ⟨r,hr,hq⟩:=hk _ _ _ _ _ _ h2 DI;exact ⟨.done (w r),hr,(by intro e;cases e),r,rfl,hq⟩) h0 qy
      subst P1;exact OX
     simp only [qz] at hit;split at hit
     · rename_i y' qy
       obtain ⟨m,e,s,cy,rfl,p3,hp3,hR3⟩:=body _ qy;obtain ⟨r,hr,OX⟩:=ihn y' p3 hp3 hit hR3;exact ⟨r,hr,WP.again hp1 ⟨m,.normal,s,cy,OX⟩⟩
     · rename_i x qy
       injection hit with hit;obtain ⟨m,e,s,cy,ec,r,hr,hq⟩:=body _ qy;refine ⟨r,by rw [<- hit];exact hr,WP.again hp1 ⟨m,e,s,cy,?_⟩⟩
       cases e with
       |normal=>exact absurd rfl ec
       |exit i=>exact hq
       |ret=>exact hq
     cases hit
end
end Go.Vm
/- Contracts from the typed machine. -/
namespace Go.Vm
section
variable {F : m8} {cx : Ctx} {inl : XI}
theorem Mb {s:List SB}: ∀{l:List SV} {q:List PV} (i:Nat),RL s l q->dZ s (OK i l) (vu i q)
 | [],q,i,h=>by rw [show q=[] from h];rfl
 |x::xs,q,i,h=>by
  obtain ⟨a,as,rfl,h1,h2⟩:=h.cons_inv;exact ⟨a,vu (i+1) as,rfl,h1,Mb (i+1) h2⟩
theorem U6 {st:qB} {p:St} (h:Ab st p) {r:RV} {v:SV} (hr:OJ st r=amL v): ∃q,EV p r=amL q/\R st.aD v q:=by
 cases r with
 |tmp t=>injection hr with hr;subst hr;exact ⟨_,rfl,h.env.lk t⟩
 |cell t agg=>
  simp only [OJ] at hr;have vL:=h.env.lk t;split at hr
  · rename_i u n off hv
    rw [hv] at vL;rw [cB] at hr;split at hr
    · rename_i cs cq
      obtain ⟨q,h1,h2⟩:=h.aD.box cq;obtain ⟨x,h3,h4⟩:=tV h2 hr;refine ⟨x,?_,h4⟩;simp only [EV,show lk t p.env=_ from vL,oY,h1,ae8,if_true,h3];rfl
    cases hr
  · rename_i cs off hv
    rw [hv] at vL;obtain ⟨q,h1,h2⟩:=vL;obtain ⟨x,h3,h4⟩:=tV h2 hr;refine ⟨x,?_,h4⟩;simp only [EV,h1,oY,h3];rfl
  cases hr
theorem IA {st:qB} {p:St} (h:Ab st p): ∀{l:List RV} {vs:List SV},zi st l=amL vs-> ∃q,oa p l=amL q/\RL st.aD vs q
 | [],vs,hr=>by injection hr with hr;subst hr;exact ⟨[],rfl,rfl⟩
 |r::l,vs,hr=>by
  simp only [zi] at hr;split at hr
  · rename_i v NN h1 h2
    injection hr with hr;subst hr;obtain ⟨q,h3,h4⟩:=U6 h h1;obtain ⟨qs,h5,h6⟩:=IA h h2;exact ⟨q::qs,by simp only [oa,h3,h5],RL.cons h4 h6⟩
  cases hr
theorem Mc {s:List SB} {vs:List SV} {q:List PV} (h:RL s vs q):R s (C3 vs) (results1 q):=by
 match vs,q,h with
 | [],q,h=>rw [show q=[] from h];exact ⟨[],rfl,rfl⟩
 | [v],q,h=>
  obtain ⟨a,as,rfl,h1,h2⟩:=h.cons_inv;rw [show as=[] from h2];exact h1
 |v::u::r,q,h=>
  have rI:=h;obtain ⟨a,as,rfl,h1,h2⟩:=h.cons_inv;obtain ⟨b,bs,rfl,h3,h4⟩:=h2.cons_inv;exact ⟨_,rfl,rI⟩
theorem yu (Ef:gJ F cx) (JV:L' F inl) {f:FuncId} {x:aK} (hf:F f=amL (.code x)) {R':Type} {args:List SV} {s:List SB} {z:List Nat} {k:SV->List SB->List Nat->gq R'} {ρ:Type} {w:R'->ρ} {y:ρ} {pa:List PV} {ps:cL}
 {Q:R'->PV->cL->List Nat->Prop} (ha:RL s args pa) (hS:cN s ps) (he:LW cx inl x R' args s z k ρ w=amL y)
 (hk: ∀v s' z' p xW BK (w':R'->BK) y',R s' v p->cN s' xW->k v s' z' BK w'=amL y'-> ∃r,y'=w' r/\Q r p xW z'): ∃r,y=w r/\Av F f pa ps z (fun p xW z'=>Q r p xW z'):=by
 unfold LW at he;obtain ⟨hn,he⟩:=cZ he;have fin: ∀st p BK (w':R'->BK) y',Ab st p->(match zi st x.res with
  |some vs=>k (C3 vs) st.aD st.fz
  |none=>aO) BK w'=amL y'-> ∃r,y'=w' r/\ ∃vs,oa p x.res=amL vs/\Q r (results1 vs) p.aD p.fz:=by
  intro st p BK w' y' h he;cases hr:zi st x.res with
  |none=>rw [hr] at he;cases he
  |some vs=>
   rw [hr] at he;obtain ⟨q,h1,h2⟩:=IA h hr;obtain ⟨r,h3,h4⟩:=hk _ _ _ _ _ _ _ _ (Mc h2) h.aD he;exact ⟨r,h3,q,h1,by rw [h.fz];exact h4⟩
 obtain ⟨r,hr,OX⟩:=Sv Ef JV x.code R' (Q:=fun r=>Je x fun p xW z'=>Q r p xW z') (p:={env:=vu 0 pa,aD:=ps,fz:=z,kn:=amK ps}) (fun e st p BK w' y' h he=>by
  cases e with
  |normal=>exact fin st p BK w' y' h he
  |ret=>exact fin st p BK w' y' h he
  |exit i=>cases he) ⟨Mb 0 ha,hS,rfl,hS.len⟩ he
 exact ⟨r,hr,Av.of hf (by rw [ha.m9];exact hn) OX⟩
theorem JW {α:Type} {l m r:List α} {i:Int} (h:tR l i m=amL r):0<=i/\i.toNat<=amK l/\amK m=1/\amK l+1<=1048576/\r=l.take i.toNat++m++l.drop i.toNat:=by
 unfold tR at h;split at h
 · rename_i hc
   injection h with h;exact ⟨hc.1,hc.2.1,hc.2.2.1,hc.2.2.2,h.symm⟩
 cases h
theorem Sw {e:Nat} {args:List SV} {s:List SB} {z:List Nat} {a:aoc} (h:XJ e args s z=amL a):
 ∃x u x2 m,args=[.own a.t x,.int .i64 a.i,.own u x2]/\nth s a.t=amL (.arr a.r a.l)/\nth s u=amL (.arr a.r m)/\a.m=m/\amK a.r=e/\NE a.t u=amO/\has z a.t=amO:=by
 unfold XJ at h;split at h
 case h_2=>cases h
 split at h
 case h_2=>cases h
 split at h
 case h_2=>cases h
 split at h
 case h_2=>cases h
 rename_i m' hm;cases hc:(NE _ e&&_&&_) with
 |false=>rw [hc] at h;cases h
 |true=>
  rw [hc] at h;injection h with h;subst h;simp only [v6,agy,adc] at hc;obtain ⟨rfl,rfl⟩:=pf hm;exact ⟨_,_,_,_,rfl,by assumption,by assumption,rfl,hc.1.1,hc.1.2,hc.2⟩
theorem OY {e:Nat} {f:FuncId} (hf:F f=amL (.Hj (Jd e))) {R':Type} {args:List SV} {s:List SB} {z:List Nat} {k:SV->List SB->List Nat->gq R'} {ρ:Type} {w:R'->ρ} {y:ρ} {pa:List PV} {ps:cL}
 {Q:R'->PV->cL->List Nat->Prop} (ha:RL s args pa) (hS:cN s ps) (he:agH e args s z k ρ w=amL y)
 (hk: ∀v s' z' p xW BK (w':R'->BK) y',R s' v p->cN s' xW->k v s' z' BK w'=amL y'-> ∃r,y'=w' r/\Q r p xW z'): ∃r,y=w r/\Av F f pa ps z (fun p xW z'=>Q r p xW z'):=by
 unfold agH at he;cases hA:XJ e args s z with
 |none=>rw [hA] at he;cases he
 |some a=>
 rw [hA] at he;dsimp only at he;obtain ⟨l',hl,he⟩:=cR he;obtain ⟨x,u,x2,m0,rfl,ht,hu,hm,Tn,htu,hz⟩:=Sw hA;obtain ⟨t,q,l,i,m⟩:=a;dsimp only at*;subst hm Tn;obtain ⟨i0,il,m1,ly,rfl⟩:=JW hl;obtain ⟨p0,pr0,rfl,h0,ha⟩:=ha;obtain ⟨p1,pr1,rfl,h1,ha⟩:=ha;obtain ⟨p2,pr2,rfl,h2,ha⟩:=ha;obtain rfl:pr2=[]:=ha;obtain rfl:p1= .int .i64 i:=h1
 have Qf:s[t]? =amL (.arr q l):=by rw [<- cB];exact ht
 have Cy:s[u]? =amL (.arr q m):=by rw [<- cB];exact hu
 obtain ⟨e0,n0,rfl,o0⟩:=h0;obtain ⟨e2,n2,rfl,o2⟩:=h2;obtain ⟨rfl,rfl⟩:e0=amK q/\n0=(amK l):=by
  rcases o0 with ⟨r1,l1,a,b,c⟩|a
  · rw [Qf] at a;injection a with a;injection a with a1 a2;subst a1;subst a2;exact ⟨b,c⟩
  rw [Qf] at a;cases a
 obtain ⟨rfl,rfl⟩:e2=amK q/\n2=(amK m):=by
  rcases o2 with ⟨r1,l1,a,b,c⟩|a
  · rw [Cy] at a;injection a with a;injection a with a1 a2;subst a1;subst a2;exact ⟨b,c⟩
  rw [Cy] at a;cases a
 obtain ⟨b1,Ll,JX⟩:=hS.at_ t _ Qf;obtain ⟨b2,hb2,agX⟩:=hS.at_ u _ Cy;have JX:b1= .arr (amK q) (l.map (RT.pv q)):=JX;have agX:b2= .arr (amK q) (m.map (RT.pv q)):=agX;subst JX agX;have cY:(Cz [t] (s.set t .dead)).length=(amK s):=by rw [wJ];simp
 obtain ⟨L,hL⟩: ∃L,L=l.take i.toNat++m++l.drop i.toNat:=⟨_,rfl⟩;rw [<- hL] at he;have G:=Good.put hS (b:= .dead) (q:= .dead) (l:=[.arr q L]) (ql:=[.arr (amK q) (L.map (RT.pv q))]) (v:= .own (amK s) amO)
  (p:= .own (amK s) (amK q) 0 (amK L) (amK L) amO) (rd:=[]) Qf (.inr rfl) rfl rfl
  (fun j b hj=>by
   cases j with
   |zero=>simp at hj;subst hj;exact ⟨_,rfl,rfl⟩
   |succ j=>simp at hj)
  ⟨amK q,amK L,rfl,.inl ⟨q,L,by rw [<- cY];exact mG,rfl,rfl⟩⟩
 have Az:(amK L)=amK l+1:=by
  rw [hL];simp only [agz,af4,amC,m1];omega
 obtain ⟨rr,hr,hq⟩:=hk _ _ _ _ _ _ _ _ G.v G.aD he;refine ⟨rr,hr,1,_,_,_,?_,hq⟩;rw [lA];have ij:M2 (amK l+1) eu=amN:=by simp [eu];omega
 have hbl:M2 i.toNat (amK l)=amN:=by simpa using il
 have hLm:L.map (RT.pv q)=(l.map (RT.pv q)).take i.toNat++m.map (RT.pv q)++(l.map (RT.pv q)).drop i.toNat:=by
  rw [hL,afj,afj,af5,afK]
 simp [step,hf,Jd,Ll,hb2,m1,htu,hz,i0,ij,il,Az,hS.len,gg,K4,hLm]
theorem Sx {α:Type} {l m r:List α} (h:Se l m=amL r):1<=amK l+amK m/\amK l+amK m<=1048576/\r=l++m:=by
 unfold Se at h;split at h
 · rename_i hc
   injection h with h;exact ⟨hc.1,hc.2,h.symm⟩
 cases h
theorem Sy {args:List SV} {s:List SB} {z:List Nat} {a:aod} (h:XK args s z=amL a):
 ∃cap x m,args=[.part a.t 0 2 cap x]/\nth s a.t=amL (.box [.sl a.r a.l,.sl a.r m])/\a.m=m/\amK a.r=1/\has z a.t=amO:=by
 unfold XK at h;split at h
 case h_2=>cases h
 split at h
 case h_2=>cases h
 split at h
 case h_2=>cases h
 rename_i m' hm;cases hc:(NE _ 1&&NE _ 0&&NE _ 2&&_) with
 |false=>rw [hc] at h;cases h
 |true=>
  rw [hc] at h;injection h with h;subst h;simp only [v6,agy,adc] at hc;obtain ⟨rfl,rfl⟩:=pf hm;obtain ⟨⟨⟨h1,rfl⟩,rfl⟩,h2⟩:=hc;exact ⟨_,_,_,rfl,by assumption,rfl,h1,h2⟩
theorem IB {r:List PT} (h:(amK r)=1) (l:List (RT r)):wj (l.map (RT.pv r))=amN:=by
 unfold wj;rw [afb];intro x hx;obtain ⟨a,_,rfl⟩:=amq.1 hx
 match r,h with
 | [p],_=>
  show (NE [p.pv a].length 1&&[p.pv a].all PV.plain)=amN;cases p<;>rfl
theorem OZ {f:FuncId} (hf:F f=amL (.Hj Jb)) {R':Type} {args:List SV} {s:List SB} {z:List Nat} {k:SV->List SB->List Nat->gq R'} {ρ:Type} {w:R'->ρ} {y:ρ} {pa:List PV} {ps:cL}
 {Q:R'->PV->cL->List Nat->Prop} (ha:RL s args pa) (hS:cN s ps) (he:agI args s z k ρ w=amL y)
 (hk: ∀v s' z' p xW BK (w':R'->BK) y',R s' v p->cN s' xW->k v s' z' BK w'=amL y'-> ∃r,y'=w' r/\Q r p xW z'): ∃r,y=w r/\Av F f pa ps z (fun p xW z'=>Q r p xW z'):=by
 unfold agI at he;cases hA:XK args s z with
 |none=>rw [hA] at he;cases he
 |some a=>
 rw [hA] at he;dsimp only at he;obtain ⟨l',hl,he⟩:=cR he;obtain ⟨cap,x,m0,rfl,ht,hm,Tn,hz⟩:=Sy hA;obtain ⟨t,q,l,m⟩:=a;dsimp only at*;subst hm;obtain ⟨hp,ly,rfl⟩:=Sx hl;obtain ⟨p0,pr0,rfl,h0,ha⟩:=ha;obtain rfl:pr0=[]:=ha;have Qf:s[t]? =amL (.box [.sl q l,.sl q m]):=by rw [<- cB];exact ht
 obtain ⟨e0,rfl,o0⟩:=h0;obtain rfl:e0=1:=by
  rcases o0 with ⟨r1,l1,a,b⟩|a|⟨_,a,b⟩
  · rw [Qf] at a;cases a
  · rw [Qf] at a;cases a
  exact b
 obtain ⟨b1,Ll,JX⟩:=hS.at_ t _ Qf;obtain ⟨ps1,rfl,p1,q1,rfl,hp1,p2,q2,rfl,hp2,rfl⟩:=JX;have hp1:p1= .sl (amK q) amO (l.map (RT.pv q)):=hp1;have hp2:p2= .sl (amK q) amO (m.map (RT.pv q)):=hp2;subst hp1 hp2;have cY:(Cz [t] (s.set t .dead)).length=(amK s):=by rw [wJ];simp
 obtain ⟨L,hL⟩: ∃L,L=l++m:=⟨_,rfl⟩;rw [<- hL] at he;have G:=Good.put hS (b:= .dead) (q:= .dead) (l:=[.arr q L]) (ql:=[.arr (amK q) (L.map (RT.pv q))]) (v:= .own (amK s) amO)
  (p:= .own (amK s) (amK q) 0 (amK L) (amK L) amO) (rd:=[]) Qf (.inr rfl) rfl rfl
  (fun j b hj=>by
   cases j with
   |zero=>simp at hj;subst hj;exact ⟨_,rfl,rfl⟩
   |succ j=>simp at hj)
  ⟨amK q,amK L,rfl,.inl ⟨q,L,by rw [<- cY];exact mG,rfl,rfl⟩⟩
 have Az:(amK L)=amK l+(amK m):=by rw [hL];simp
 obtain ⟨rr,hr,hq⟩:=hk _ _ _ _ _ _ _ _ G.v G.aD he;refine ⟨rr,hr,1,_,_,_,?_,hq⟩;rw [lA];have ij:M2 (amK l+amK m) eu=amN:=by simp [eu];omega
 have Hs:M2 1 (amK l+amK m)=amN:=by simpa using hp
 have hLm:L.map (RT.pv q)=l.map (RT.pv q)++m.map (RT.pv q):=by rw [hL,afj]
 have hc:(NE 1 1&&NE 0 0&&NE 2 2&&!has z t&&wj (l.map (RT.pv q))&&wj (m.map (RT.pv q))&&M2 1 ((l.map (RT.pv q)).length+(m.map (RT.pv q)).length)&&M2 ((l.map (RT.pv q)).length+(m.map (RT.pv q)).length) eu&&(NE (amK q) 1||(l.map (RT.pv q)).isEmpty)&&(NE (amK q) 1||(m.map (RT.pv q)).isEmpty))=amN:=by
  rw [IB Tn,IB Tn,hz,ae3,ae3,Hs,ij,Tn];rfl
 simp only [step,hf];unfold Jb
 dsimp only;rw [Ll];dsimp only;rw [hc];simp [hS.len,gg,K4,hLm,Az,Tn]
theorem Md: ∀(p:PT) (a:p.T),BI p (p.pv a)=amL a
 | .i k,a=>by
  have:fE k k=amN:=fu.2 rfl
  simp [BI,PT.pv,this]
 | .b,a=>rfl
theorem QH: ∀(r:List PT) (a:RT r),HD r (RT.pv r a)=amL a
 | [],a=>rfl
 | [p],a=>Md p a
 |p::q::r,a=>by
  show (match BI p (p.pv a.1),HD (q::r) (RT.pv (q::r) a.2) with
   |some a,amL b=>amL (a,b)
   |_,_=>amM)=_
  rw [Md,QH (q::r)]
theorem Me (r:List PT): ∀l:List (RT r),DP r (l.map (RT.pv r))=amL l
 | []=>rfl
 |a::l=>by
  show (match HD r (RT.pv r a),DP r (l.map (RT.pv r)) with
   |some a,amL l=>amL (a::l)
   |_,_=>amM)=_
  rw [QH,Me r l]
theorem X8 {s:List SB} {g:Option FuncId} {a:List SV} {p:List PV} (h:DR g a=amN) (hr:RL s a p):XG g p=amN:=by
 unfold DR at h;split at h
 · obtain rfl:p=[]:=hr
   rfl
 · obtain ⟨p0,pr,rfl,h0,hr⟩:=hr
   obtain rfl:pr=[]:=hr;obtain ⟨x,y,rfl,hx,hy⟩:=h0;obtain rfl:x=[]:=hx;obtain rfl:y=[]:=hy;exact h
 cases h
theorem Sz {r:List PT} {g:Option FuncId} {args:List SV} {s:List SB} {z:List Nat} {t:Nat} {o:Option Nat} {l:List (RT r)} (h:XL r g args s z=amL (t,o,l)):
 ∃x a,args=x::a/\nth s t=amL (.arr r l)/\has z t=amO/\DR g a=amN/\((o=amM/\ ∃ex,x= .own t ex)\/ ∃len cap ex,o=amL len/\x= .pre t len cap ex):=by
 unfold XL at h;split at h
 · split at h
   · split at h
     · rename_i hm
       cases hc:(!has z _&&DR g _) with
       |false=>rw [hc] at h;cases h
       |true=>
        rw [hc] at h;simp only [lw,EQ,acl] at h;obtain ⟨rfl,rfl,rfl⟩:=h;simp only [v6,adc] at hc;obtain ⟨rfl,rfl⟩:=pf hm;exact ⟨_,_,rfl,by assumption,hc.1,hc.2,.inl ⟨rfl,_,rfl⟩⟩
     cases h
   cases h
 · split at h
   · split at h
     · rename_i hm
       cases hc:(!has z _&&DR g _) with
       |false=>rw [hc] at h;cases h
       |true=>
        rw [hc] at h;simp only [lw,EQ,acl] at h;obtain ⟨rfl,rfl,rfl⟩:=h;simp only [v6,adc] at hc;obtain ⟨rfl,rfl⟩:=pf hm;exact ⟨_,_,rfl,by assumption,hc.1,hc.2,.inr ⟨_,_,_,rfl,rfl⟩⟩
     cases h
   cases h
 cases h
theorem O0 {α:Type} {f:List α->Option (List α)} {l m:List α} (h:DO f l=amL m):(amK l)<=1048576/\f l=amL m/\amK m=(amK l):=by
 unfold DO at h;split at h
 · rename_i hl
   split at h
   · rename_i m' hm
     split at h
     · rename_i he
       injection h with h;subst h;exact ⟨hl,hm,he⟩
     cases h
   cases h
 cases h
theorem JY {α:Type} {f:List α->Option (List α)} {n:Nat} {l m:List α} (h:zg f n l=amL m):n<=amK l/\ ∃m',DO f (l.take n)=amL m'/\m=m'++l.drop n:=by
 unfold zg at h;split at h
 · rename_i hn
   cases hm:DO f (l.take n) with
   |none=>rw [hm] at h;cases h
   |some m'=>
    rw [hm] at h;injection h with h;exact ⟨hn,m',rfl,h.symm⟩
 cases h
theorem O1 {q:Srt} {f:FuncId} (hf:F f=amL (.Hj (JK q))) {R':Type} {args:List SV} {s:List SB} {z:List Nat} {k:SV->List SB->List Nat->gq R'} {ρ:Type} {w:R'->ρ} {y:ρ} {pa:List PV} {ps:cL}
 {Q:R'->PV->cL->List Nat->Prop} (ha:RL s args pa) (hS:cN s ps) (he:agJ q args s z k ρ w=amL y)
 (hk: ∀v s' z' p xW BK (w':R'->BK) y',R s' v p->cN s' xW->k v s' z' BK w'=amL y'-> ∃r,y'=w' r/\Q r p xW z'): ∃r,y=w r/\Av F f pa ps z (fun p xW z'=>Q r p xW z'):=by
 have key: ∀(t len:Nat) (l m':List (RT q.r)) (ex:Bool) (cap:Nat) (pr:List PV) (a:List SV),s[t]? =amL (.arr q.r l)->has z t=amO->DR q.g a=amN->RL s a pr->pa= .own t (amK q.r) 0 len cap ex::pr->len<=amK l->DO q.fn (l.take len)=amL m'->
  k (.cw []) (fX.nF s {v:= .cw [],wr:=[(t,.arr q.r (m'++l.drop len))]}) z ρ w=amL y-> ∃r,y=w r/\Av F f pa ps z (fun p xW z'=>Q r p xW z'):=by
  intro t len l m' ex cap pr a ht hz hg har TU cY Ec he;subst TU;obtain ⟨s1,s2,s3⟩:=O0 Ec;obtain ⟨b1,Ll,JX⟩:=hS.at_ t _ ht;have JX:b1= .arr (amK q.r) (l.map (RT.pv q.r)):=JX;subst JX;have Az:(l.take len).length=len:=by rw [af4];omega
  have KU:(m'++l.drop len).length=(amK l):=by rw [agz,amC,s3,Az];omega
  have G:=Good.put hS (b:= .arr q.r (m'++l.drop len)) (q:= .arr (amK q.r) ((m'++l.drop len).map (RT.pv q.r))) (l:=[]) (ql:=[]) (v:= .cw []) (p:= .cw []) (rd:=[]) ht (.inl ⟨_,rfl,KU⟩) rfl rfl
   (fun j b hj=>by simp at hj) ⟨[],rfl,rfl⟩
  obtain ⟨rr,hr,hq⟩:=hk _ _ _ _ _ _ _ _ G.v G.aD he;refine ⟨rr,hr,1,_,_,_,?_,hq⟩;rw [lA];have hg':=X8 hg har;have hrt:DP q.r ((l.map (RT.pv q.r)).take len)=amL (l.take len):=by rw [<- af5];exact Me q.r _
  have hbl:M2 len (amK l)=amN:=by simpa using cY
  have hmo:M2 len eu=amN:=by simp [eu];omega
  have hbe:NE (amK m') (l.take len).length=amN:=by rw [s3];exact ae8 _
  simp only [step,hf,JK,Ll,ae3,ae8,hbl,hmo,hz,hg',hrt,s2,hbe,afy,afZ,if_true,Option.map_some,gg,K4,afj,afK]
 unfold agJ at he;cases hA:XL q.r q.g args s z with
 |none=>rw [hA] at he;cases he
 |some u=>
  obtain ⟨t,o,l⟩:=u;rw [hA] at he;obtain ⟨x,a,rfl,ht,hz,hg,h⟩:=Sz hA;obtain ⟨p0,pr,rfl,h0,ha⟩:=ha;rw [cB] at ht;rcases h with ⟨rfl,ex,rfl⟩|⟨len,cap,ex,rfl,rfl⟩
  · obtain ⟨m,hm,he⟩:=cR he
    obtain ⟨e0,n0,rfl,o0⟩:=h0;obtain ⟨rfl,rfl⟩:e0=amK q.r/\n0=(amK l):=by
     rcases o0 with ⟨r1,l1,a,b,c⟩|a
     · rw [ht] at a;injection a with a;injection a with a1 a2;subst a1;cases a2;exact ⟨b,c⟩
     rw [ht] at a;cases a
    refine key t (amK l) l m ex (amK l) pr a ht hz hg ha rfl (akb _) (by rw [List.take_length];exact hm) ?_
    rw [List.drop_length,ae2];exact he
  obtain ⟨m,hm,he⟩:=cR he
  obtain ⟨e0,rfl,o0⟩:=h0;obtain rfl:e0=(amK q.r):=by
   rcases o0 with ⟨r1,l1,a,b⟩|a|⟨_,a,_⟩
   · rw [ht] at a;injection a with a;injection a with a1 a2;subst a1;exact b
   · rw [ht] at a;cases a
   rw [ht] at a;cases a
  obtain ⟨hn,m',Ec,rfl⟩:=JY hm;exact key t len l m' ex cap pr a ht hz hg ha rfl hn Ec he
theorem JZ (Ef:gJ F cx): ∀n,L' F (UB cx n)
 |0=>fun f args s z R' k ρ w y pa ps Q _ _ h _=>by cases h
 |n+1=>fun f args s z R' k ρ w y pa ps Q ha hS h hk=>by
  simp only [UB] at h;cases hx:cx.code f with
  |none=>rw [hx] at h;cases h
  |some x=>
   rw [hx] at h;cases x with
   |code x=>exact yu Ef (JZ Ef n) (Ef.code f _ hx) ha hS h hk
   |ins e=>exact OY (Ef.code f _ hx) ha hS h hk
   |srt q=>exact O1 (Ef.code f _ hx) ha hS h hk
   |cat=>exact OZ (Ef.code f _ hx) ha hS h hk
def X9:Kd->Bool->Bool
 | .own,b=>b
 |_,b=>!b
def U7 (kd:Kd) {β:Type} (res:Arg β) (b:β) (p:PV) (ps:cL) (z:List Nat):Prop:=
 match kd with
 | .pure=>p.kJ=amN/\sI (res.enc b)=amL p
 | .mz=>p.kJ=amO/\ ∃q,y4 ps p=amL q/\sI (res.enc b)=amL q
 | .own=> ∀nx,∃p0 p' q seen,zQ ps z nx [] p=amL (p',q,seen)/\sI (res.enc b)=amL p0/\FZ nx p0=amL (p',q)
mutual
theorem Mf {s:List SB}: ∀{v:SV} {p:PV},R s v p->AM v=amN->sI v=amL p
 | .int _ _,p,h,_| .bool _,p,h,_| .str _,p,h,_=>by rw [show p=_ from h];rfl
 | .agg cs,p,h,hn=>by obtain ⟨q,rfl,h⟩:=h;simp only [sI,F6 h hn]
 | .cw cs,p,h,hn=>by obtain ⟨q,rfl,h⟩:=h;simp only [sI,F6 h hn]
 | .iU,_,_,h| .undef,_,_,h| .jA,_,_,h| .dU,_,_,h| .sl _ _,_,_,h| .nil _ _,_,_,h| .own _ _,_,_,h| .pre _ _ _ _,_,_,h| .part _ _ _ _ _,_,_,h| .pa _ _ _ _ _,_,_,h| .pb _ _ _,_,_,h| .bp _ _ _,_,_,h| .bJ _ _,_,_,h| .eV _ _ _,_,_,h| .mp _,_,_,h=>by cases h
theorem F6 {s:List SB}: ∀{v:List SV} {p:List PV},RL s v p->rN v=amN->sJ v=amL p
 | [],p,h,_=>by rw [show p=_ from h];rfl
 |x::xs,p,h,hn=>by
  obtain ⟨a,as,rfl,h1,h2⟩:=h.cons_inv;simp only [rN,v6] at hn;exact eS.2 ⟨_,_,rfl,Mf h1 hn.1,F6 h2 hn.2⟩
end
theorem O2 {kd:Kd} {β:Type} {res:Arg β} {v:SV} {s:List SB} {z:List Nat} {p:PV} {ps:cL} {ρ:Type} {w:β->ρ} {y:ρ} (hv:R s v p) (hS:cN s ps) (h:UC kd res v s z ρ w=amL y):
 ∃b,y=w b/\U7 kd res b p ps z:=by
 unfold UC at h;cases kd with
 |pure=>
  dsimp only at h;obtain ⟨h1,h2⟩:=cZ h;obtain ⟨b,h3,h4⟩:=bL h2;injection h4 with h4;exact ⟨b,h4.symm,L8 hv h1,res.law h3 (Mf hv h1)⟩
 |mz=>
  dsimp only at h;obtain ⟨h1,h2⟩:=sf h;obtain ⟨u,h3,h4⟩:=bL h2;obtain ⟨b,h5,h6⟩:=bL h4;injection h6 with h6;obtain ⟨q,h7,h8⟩:=afF hS hv h3;exact ⟨b,h6.symm,It hv h1 h3,q,h7,res.law h5 h8⟩
 |own=>
  dsimp only at h;obtain ⟨u,h3,h4⟩:=bL h;obtain ⟨b,h5,h6⟩:=bL h4;injection h6 with h6;refine ⟨b,h6.symm,fun nx=>?_⟩
  obtain ⟨p0,p',q,h7,h8,h9⟩:=U0 hS (v':=u.1) (seen':=u.2) nx hv h3;exact ⟨p0,p',q,u.2,h9,res.law h5 h7,h8⟩
theorem cN.nil:cN [] []:=⟨rfl,fun t b h=>by simp at h⟩
theorem aF.of {f:FuncId} {x:aK} {α β:Type} {args:au α} {res:Arg β} {kd:Kd} {fn:α->Option β} {ow:Bool} (hf:F f=amL (.code x)) (ho:X9 kd ow=amN) (Ef:gJ F cx)
 (h: ∀a,afA cx x args res kd a=fn a):aF F f ⟨args,res,fn,kd,ow⟩:=by
 intro a b as pa aD fz hb TU hex;have hb:fn a=amL b:=hb;rw [<- h a] at hb;obtain ⟨r,hr,n,v,s,z,cy,hl⟩:=yu Ef (JZ Ef 8) hf (Q:=fun r p ps z=>U7 kd res r p ps z) (F2 TU) cN.nil hb (fun v s' z' p xW BK w' y' hv hS hk=>O2 hv hS hk)
 have WY:b=r:=hr;subst WY;cases kd with
 |pure=>
  obtain ⟨h1,h2⟩:=hl;have how:ow=amO:=by simpa [X9] using ho
  subst how;refine ⟨n,{v:=v,rd:=dE (dj aD deep) as},?_,v,h2,rfl⟩;simp only [dy,hex,hf,cy,PP,if_false,h1,if_true]
 |mz=>
  obtain ⟨h1,q,h2,h3⟩:=hl;have how:ow=amO:=by simpa [X9] using ho
  subst how;refine ⟨n,{v:=q,rd:=dE (dj aD deep) as,fr:=dE (dj aD deep) as},?_,q,h3,rfl⟩;simp only [dy,hex,hf,cy,PP,if_false,h1,h2]
 |own=>
  have how:ow=amN:=ho;subst how;obtain ⟨p0,p',q,seen,h1,h2,h3⟩:=hl (amK aD);refine ⟨n,{v:=p',news:=q,rd:=dE (dj aD deep) as},?_,p0,p',q,h2,h3,rfl⟩;simp only [dy,hex,hf,cy,if_true,h1]
theorem Mg: ∀(s:List SB) (q:List xV),(AN s q).1.length=amK s
 | [],q=>rfl
 |b::r,q=>by simp only [AN,adm,Mg r]
mutual
theorem R.take {s:List SB} {k:Nat}: ∀{v:SV} {p:PV},R s v p->(∀t∈OB tz v,t<k)->R (s.take k) v p
 | .iU,_,_,_=>trivial
 | .undef,_,h,_| .jA,_,h,_| .dU,_,h,_| .int _ _,_,h,_| .bool _,_,h,_| .str _,_,h,_| .sl _ _,_,h,_| .nil _ _,_,h,_| .bp _ _ _,_,h,_| .mp _,_,h,_=>h
 | .agg cs,_,h,ht=>by obtain ⟨q,rfl,h⟩:=h;exact ⟨q,rfl,RL.F7 h ht⟩
 | .cw cs,_,h,ht=>by obtain ⟨q,rfl,h⟩:=h;exact ⟨q,rfl,RL.F7 h ht⟩
 | .bJ cs o,_,h,ht=>by obtain ⟨q,rfl,h⟩:=h;exact ⟨q,rfl,RL.F7 h ht⟩
 | .eV f a b,_,h,ht=>by
  obtain ⟨pa,pb,rfl,h1,h2⟩:=h;exact ⟨pa,pb,rfl,RL.F7 h1 (fun t h=>ht t (agj _ h)),RL.F7 h2 (fun t h=>ht t (afY _ h))⟩
 | .own t ex,_,h,ht=>by
  obtain ⟨e,n,rfl,de⟩:=h;have hk:=ht t (afN.2 rfl);refine ⟨e,n,rfl,?_⟩;rcases de with ⟨r,l,h1,h2,h3⟩|h1
  · exact .inl ⟨r,l,by rw [If hk];exact h1,h2,h3⟩
  exact .inr (by rw [If hk];exact h1)
 | .pre t a b c,_,h,ht=>by
  obtain ⟨e,rfl,de⟩:=h;have hk:=ht t (afN.2 rfl);refine ⟨e,rfl,?_⟩;rcases de with ⟨r,l,h1,h2⟩|h1
  · exact .inl ⟨r,l,by rw [If hk];exact h1,h2⟩
  exact .inr (by rw [If hk];exact h1)
 | .part t o a b c,_,h,ht=>by
  obtain ⟨e,rfl,de⟩:=h;have hk:=ht t (afN.2 rfl);refine ⟨e,rfl,?_⟩;rcases de with ⟨r,l,h1,h2⟩|h1
  · exact .inl ⟨r,l,by rw [If hk];exact h1,h2⟩
  exact .inr (by rw [If hk];exact h1)
 | .pa t r i a o,_,h,ht=>by
  obtain ⟨rfl,de⟩:=h;have hk:=ht t (afM ..);refine ⟨rfl,?_⟩;rcases de with ⟨l,h1,h2⟩|h1
  · exact .inl ⟨l,by rw [If hk];exact h1,h2⟩
  exact .inr (by rw [If hk];exact h1)
 | .pb t i o,_,h,ht=>by
  obtain ⟨e,rfl,de⟩:=h;have hk:=ht t (afM ..);refine ⟨e,rfl,?_⟩;rcases de with ⟨r,l,h1,h2⟩|h1
  · exact .inl ⟨r,l,by rw [If hk];exact h1,h2⟩
  exact .inr (by rw [If hk];exact h1)
theorem RL.F7 {s:List SB} {k:Nat}: ∀{v:List SV} {p:List PV},RL s v p->(∀t∈rM tz v,t<k)->RL (s.take k) v p
 | [],_,h,_=>h
 |x::xs,_,h,ht=>by
  obtain ⟨a,as,rfl,h1,h2⟩:=h.cons_inv;exact RL.cons (R.take h1 (fun t h=>ht t (agj _ h))) (RL.F7 h2 (fun t h=>ht t (afY _ h)))
end
theorem F8 {R' ρ:Type} {w:R'->ρ} {y:ρ}: ∀{s s':List SB} {k:gq R'},BL s s' k ρ w=amL y->k ρ w=amL y/\amK s'=amK s/\ ∀(t:Nat) (x z:SB),s[t]? =amL x->s'[t]? =amL z->U2 x z
 | [],[],k,h=>⟨h,rfl,fun t x z h=>by simp at h⟩
 | [],_::_,k,h=>by cases h
 |_::_,[],k,h=>by cases h
 |x::xs,y'::ys,k,h=>by
  have step: ∀(_:BL xs ys k ρ w=amL y) (_:U2 x y'),k ρ w=amL y/\(y'::ys).length=(x::xs).length/\ ∀(t:Nat) (a b:SB),(x::xs)[t]? =amL a->(y'::ys)[t]? =amL b->U2 a b:=by
   intro h hx;obtain ⟨h1,h2,h3⟩:=F8 h;refine ⟨h1,by simpa using h2,fun t a b ha hb=>?_⟩
   cases t with
   |zero=>simp at ha hb;subst ha hb;exact hx
   |succ t=>exact h3 t a b (by simpa using ha) (by simpa using hb)
  cases x with
  |arr r l=>
   cases y' with
   |arr q m=>
    obtain ⟨hr,h2⟩:=cZ (a:=gB (amK m==amK l) (BL xs ys k) aO) h;obtain ⟨hl,h3⟩:=ir h2;exact step h3 ⟨vM hr,by simpa using hl⟩
   |_=>cases h
  |dead=>cases y' with
   |dead=>exact step h trivial
   |_=>cases h
  |box cs=>cases y' with
   |box _=>exact step h trivial
   |_=>cases h
  |set l=>cases y' with
   |set _=>exact step h trivial
   |_=>cases h
  |aP p l=>cases y' with
   |aP _ _=>exact step h trivial
   |_=>cases h
theorem F9: ∀{s:List SB},FI s=amN-> ∀(t:Nat) (b:SB),s[t]? =amL b->zh b=amN
 | [],_,t,b,h=>by simp at h
 |x::xs,hs,0,b,h=>by simp only [FI,v6] at hs;simp at h;subst h;exact hs.1
 |x::xs,hs,t+1,b,h=>by simp only [FI,v6] at hs;exact F9 hs.2 t b (by simpa using h)
theorem jr.of {f:FuncId} {x:aK} {wd:Bool} {ka ko:List AK} {ta:List SV} {tb to:List SB} {tv:SV} {fn:j0 ka->Option (j0 ko)} (hf:F f=amL (.code x)) (Ef:gJ F cx)
 (h: ∀a,asS wd cx x ka ta tb ko tv to a=fn a):jr F f ⟨ka,ta,tb,ko,tv,to,fn⟩:=by
 intro a b pa ps hb ha hS;rw [show (⟨ka,ta,tb,ko,tv,to,fn⟩:dS).fn a=fn a from rfl,<- h a] at hb;have cY:(dS.sa ⟨ka,ta,tb,ko,tv,to,fn⟩ a).length=(amK tb):=Mg _ _;obtain ⟨r,hr,n,v,s,z,cy,hz,hq⟩:=yu Ef (JZ Ef 8) hf (Q:=fun (r:j0 ko) p xW z'=>z'=[]/\ig (amK tb) p xW=amN/\
  R (dS.sb ⟨ka,ta,tb,ko,tv,to,fn⟩ r) (dS.vb ⟨ka,ta,tb,ko,tv,to,fn⟩ r) p/\cN (dS.sb ⟨ka,ta,tb,ko,tv,to,fn⟩ r) (xW.take (amK tb))/\
  (dS.sb ⟨ka,ta,tb,ko,tv,to,fn⟩ r).length=(dS.sa ⟨ka,ta,tb,ko,tv,to,fn⟩ a).length/\
  ∀(t:Nat) (x y:SB),(dS.sa ⟨ka,ta,tb,ko,tv,to,fn⟩ a)[t]? =amL x->(dS.sb ⟨ka,ta,tb,ko,tv,to,fn⟩ r)[t]? =amL y->U2 x y) ha hS hb (fun v s' z' p xW BK w' y' hv hS' hk=>by
  cases z' with
  |cons _ _=>cases hk
  |nil=>
   dsimp only at hk;obtain ⟨hc,hk⟩:=cZ hk;simp only [v6] at hc;obtain ⟨⟨⟨⟨c1,c2⟩,c3⟩,c4⟩,c5⟩:=hc;obtain ⟨hk,f1,f2⟩:=F8 hk;obtain ⟨r,hr,hk⟩:=bL hk;injection hk with hk;have hu:R s' (bif wd then Ii s' v else v) p:=by
    cases wd with
    |true=>exact QA hv
    |false=>exact hv
   generalize (bif wd then Ii s' v else v)=u at c1 c3 c4 hr hu
   have Fb:=sK hr;have U8:dS.vb ⟨ka,ta,tb,ko,tv,to,fn⟩ r=u:=by
    show (tD tv (mF ko r)).1=u;rw [Fb,Ey _ c1]
   have hsb:dS.sb ⟨ka,ta,tb,ko,tv,to,fn⟩ r=s'.take (amK tb):=by
    show (AN to (tD tv (mF ko r)).2).1=_;rw [Fb,Ey _ c1]
    have:=BW [] c2
    rw [ae2] at this;rw [this]
   have ly:(amK tb)<=(amK s'):=by
    have:=f1
    rw [af4] at this;have h2:(dS.sa ⟨ka,ta,tb,ko,tv,to,fn⟩ a).length=(amK tb):=cY;have h3:min (amK tb) (amK s')=(amK tb):=by rw [this];exact h2
    omega
   unfold afz at c3;rw [afb] at c3;have hkv: ∀t∈OB tz u,t<(amK tb):=fun t ht=>by simpa using c3 t (agj _ ht)
   have hkb: ∀b∈s'.take (amK tb),∀t∈FA b,t<(amK tb):=fun b hb t ht=>by simpa using c3 t (afY _ (amD.2 ⟨b,hb,ht⟩))
   have qu:cN (s'.take (amK tb)) (xW.take (amK tb)):=⟨by simp [hS'.len],fun t x hx=>by
    have dM:t<(amK tb):=by
     have:=(ww.1 hx).1
     rw [af4] at this;omega
    have hx':=hx;rw [If dM] at hx';obtain ⟨q,q1,q2⟩:=hS'.at_ t x hx';refine ⟨q,by rw [If dM];exact q1,?_⟩
    cases x with
    |box cs=>
     obtain ⟨pc,rfl,hpc⟩:=q2;exact ⟨pc,rfl,RL.F7 hpc (hkb _ (afB hx))⟩
    |_=>exact q2⟩
   refine ⟨r,hk.symm,rfl,?_,by rw [U8,hsb];exact R.take hu hkv,by rw [hsb];exact qu,by rw [hsb];exact f1,by rw [hsb];exact f2⟩
   unfold ig;rw [afb];intro t ht;rw [amF] at ht;rcases ht with ht|ht
   · rw [<- UT (bx:=tz) (fun _=>rfl) hu c4] at ht
     simpa using hkv t ht
   rw [amD] at ht
   obtain ⟨q,hq,ht⟩:=ht;obtain ⟨j,hj,he⟩:=agl hq;have N0:j<(s'.take (amK tb)).length:=by rw [<- qu.len];exact hj
   obtain ⟨x,hx⟩: ∃x,(s'.take (amK tb))[j]? =amL x:=⟨_,F0s N0⟩;obtain ⟨q',q1,q2⟩:=qu.at_ j x hx;rw [F0s hj,he] at q1;injection q1 with q1;subst q1;rw [<- JQ q2 (F9 c5 j x hx)] at ht;simpa using hkb x (afB hx) t ht)
 have WY:b=r:=hr;subst WY;subst hz;refine ⟨n,v,s,cy,?_⟩;rw [cY];obtain ⟨h1,h2,h3,h4,h5⟩:=hq;exact ⟨h1,h2,h3,by rw [h4,cY],h5⟩
theorem O3 {f:FuncId} {r:List PT} (hf:F f=amL (.kg amO (fI (amK r)))) (l:List (RT r)) (hl:(amK l)<=1048576) {as:List PV} {aD:cL} {fz:List Nat} (hex:CD aD (xX aD deep) as=amL [.sl (amK r) amO (l.map (RT.pv r))]):
 ∃n x,dy F (run F n) amO f as aD fz=amL x/\afG .own (amK aD) (dE (dj aD deep) as) (.sl r l) x:=by
 refine ⟨0,{v:= .own (amK aD) (amK r) 0 (amK l) (amK l) amO,news:=[.arr (amK r) (l.map (RT.pv r))],rd:=dE (dj aD deep) as},?_,.sl (amK r) amO (l.map (RT.pv r)),.own (amK aD) (amK r) 0 (amK l) (amK l) amO,[.arr (amK r) (l.map (RT.pv r))],rfl,by simp only [FZ,ae3],rfl⟩
 simp only [dy,hex,hf];cases l with
 |nil=>rfl
 |cons a l=>
  have h2:M2 ((l.map (RT.pv r)).length+1) eu=amN:=by simp [eu] at hl ⊢;omega
  simp only [ae4,fI,ae8,h2,ae5,if_true,zQ];simp [has]
theorem aF.clone {f:FuncId} {n:Nat} {r:List PT} (hf:F f=amL (.kg amO (fI n))) (hn:n=amK r):aF F f (bD.clone r):=by
 intro (a:List (RT r)) (b:List (RT r)) as pa aD fz hb TU hex;subst hn;have hb:bP a=amL b:=hb;obtain ⟨rfl,hl⟩:=AS hb;have agY:pa=[.sl (amK r) amO (b.map (RT.pv r))]:=by
  have:amL [PV.sl (amK r) amO (b.map (RT.pv r))]=amL pa:=TU
  exact (afc this).symm
 subst agY;exact O3 hf b hl hex
theorem aF.LX {f:FuncId} (hf:F f=amL (.kg amO As)):aF F f bD.LX:=by
 intro a b as pa aD fz hb TU hex;obtain ⟨x,y,c⟩:=a;have Bf:pg x y c=amL b:=hb;unfold pg at Bf;cases hc:(amP (0<=x)&&amP (0<=y)&&amP (0<=c)&&amP (c<=1)) with
 |false=>rw [hc] at Bf;cases Bf
 |true=>
  rw [hc] at Bf;injection Bf with Bf;subst Bf;simp only [v6,decide_eq_true_eq] at hc;obtain ⟨⟨⟨h1,h2⟩,h3⟩,h4⟩:=hc;obtain ⟨x,rfl⟩:=WF h1;obtain ⟨y,rfl⟩:=WF h2;obtain ⟨c,rfl⟩:=WF h3;have agY:pa=[.int .u64 (.ofNat x),.int .u64 (.ofNat y),.int .u64 (.ofNat c)]:=by
   have:amL [PV.int .u64 (x:Int),.int .u64 (y:Int),.int .u64 (c:Int)]=amL pa:=TU
   exact (afc this).symm
  subst agY;have hcb:M2 c 1=amN:=by simp;omega
  refine ⟨0,{v:= .cw [.int .u64 (.ofNat ((x+y+c)%18446744073709551616)),.int .u64 (.ofNat ((x+y+c) / 18446744073709551616))],rd:=dE (dj aD deep) as},?_,_,rfl,rfl⟩;show dy F (run F 0) amO f as aD fz=_;simp only [dy,hex,hf,As,hcb,if_true];rfl
theorem jr.zero {f:FuncId} {c:dS} (h: ∀a,c.fn a=amM):jr F f c:=fun a b pa ps hb=>by rw [h a] at hb;cases hb
theorem aF.zero {f:FuncId} {c:bD} (h: ∀a,c.fn a=amM):aF F f c:=fun a b as pa aD fz hb=>by rw [h a] at hb;cases hb
theorem aF.at0 {f:FuncId} {fn:Unit->Option Bool} (h:aF F f ⟨au.nil,Arg.bool,fn,.pure,amO⟩) (hb:fn ()=amL amN):aF F f ⟨au.nil,Arg.bool,fun _=>amL amN,.pure,amO⟩:=by
 intro a b as args aD fz hr hp hx;obtain rfl:amN=b:=afc hr;exact h () amN as args aD fz hb hp hx
end
end Go.Vm
/- What comes in to a law, as typed values; a law from a contract. -/
namespace Go.Vm
open Go.ChangeShapes Go.WideShapes Go.ChangeAt Go.RowKit
def PT.wf:(p:PT)->p.T->Prop
 | .i k,n=>(Lit.int k n).wf=amN
 | .b,_=>True
def RT.wf:(r:List PT)->RT r->Prop
 | [],_=>True
 | [p],a=>p.wf a
 |p::q::r,a=>p.wf a.1/\RT.wf (q::r) a.2
def vP (r:List PT) (vs:List SV):Prop:= ∃a:RT r,vs=RT.sv r a/\RT.wf r a
def KSl (r:List PT) (vs:List SV):Prop:= ∃l:List (RT r),vs=[.sl r l]/\ ∀a∈l,RT.wf r a
def agZ:List (List SV->Prop)->List SV->Prop
 | [],vs=>vs=[]
 |K::Ks,vs=> ∃a b,vs=a++b/\K a/\agZ Ks b
theorem vP.cons {p:PT}: ∀{r:List PT} {a b:List SV},vP [p] a->vP r b->vP (p::r) (a++b)
 | [],a,b,⟨x,hx,wx⟩,⟨y,hy,_⟩=>⟨x,by rw [hx,hy];rfl,wx⟩
 |q::r,a,b,⟨x,hx,wx⟩,⟨y,hy,wy⟩=>⟨(x,y),by rw [hx,hy];rfl,wx,wy⟩
theorem vP.split {p q:PT} {r:List PT} {vs:List SV}:vP (p::q::r) vs-> ∃a b,vs=a++b/\vP [p] a/\vP (q::r) b
 |⟨x,hx,wx⟩=>⟨[p.sv x.1],RT.sv (q::r) x.2,hx,⟨x.1,rfl,wx.1⟩,⟨x.2,rfl,wx.2⟩⟩
theorem vP.app: ∀{r s:List PT} {a b:List SV},vP r a->vP s b->vP (r++s) (a++b)
 | [],s,a,b,⟨x,hx,_⟩,h=>by
  have:a=[]:=hx
  subst this;exact h
 | [p],s,a,b,h,k=>vP.cons h k
 |p::q::r,s,a,b,h,k=>by
  obtain ⟨a1,a2,rfl,h1,h2⟩:=vP.split h
  rw [ae1];exact vP.cons h1 (vP.app h2 k)
def mH (P : Program) (t : TypeId) (K : List SV -> Prop) : Prop :=
  ∀ (H : Type) (enc : TypeId × Value -> H) (w : World) (AG : Nat) (cs : List Value) (x : DataW H × List MemPlace), DataW.trod enc P w 0 (fun _ => amN) amN AG t cs = amL x ->
    ∃ vs q, K vs /\ sJ vs = amL q /\ fh (HB w) gl q cs
section
variable {P : Program}
theorem mH.mono {t:TypeId} {K K':List SV->Prop} (h:mH P t K) (hk: ∀vs,K vs->K' vs):mH P t K':=fun H enc w AG cs x hx=>by
 obtain ⟨vs,q,h1,h2,h3⟩:=h H enc w AG cs x hx;exact ⟨vs,q,hk vs h1,h2,h3⟩
theorem mH.int {t:TypeId} {k:IntKind} (ht:P.underlying t=amL (.int k)):mH P t (vP [.i k]):=fun H enc w AG cs x h=>by
 obtain ⟨n,rfl,_,hw⟩:=DataW.trod_int ht h;exact ⟨[.int k n],[.int k n],⟨n,rfl,hw⟩,rfl,.cons _ _ _ _ (.int k n) .nil⟩
theorem mH.bool {t:TypeId} (ht:P.underlying t=amL .bool):mH P t (vP [.b]):=fun H enc w AG cs x h=>by
 obtain ⟨b,rfl,_⟩:=DataW.trod_bool ht h;exact ⟨[.bool b],[.bool b],⟨b,rfl,trivial⟩,rfl,.cons _ _ _ _ (.bool b) .nil⟩
def qD (P:Program):List Field->List (List SV->Prop)->Nat->Prop
 | [],[],_=>True
 |f::fs,K::Ks,off=>f.offset=off/\mH P f.type K/\qD P fs Ks (off+P.cellsOf f.type)
 |_,_,_=>False
theorem qD.nil {off:Nat}:qD P [] [] off:=trivial
theorem qD.cons {f:Field} {fs:List Field} {K:List SV->Prop} {Ks:List (List SV->Prop)} {off:Nat} (h1:f.offset=off) (h2:mH P f.type K) (h3:qD P fs Ks (off+P.cellsOf f.type)):qD P (f::fs) (K::Ks) off:=⟨h1,h2,h3⟩
def yv (P:Program):List Field->Nat
 | []=>0
 |f::fs=>P.cellsOf f.type+yv P fs
theorem F' {im:Im} {loc:Loc}: ∀{p:List PV} {vs:List Value} {q:List PV} {us:List Value},fh im loc p vs->fh im loc q us->fh im loc (p++q) (vs++us)
 | [],[],_,_,.nil,h=>h
 |_::_,_::_,_,_,.cons x v xs ws h hs,k=> .cons x v _ _ h (F' hs k)
theorem Ga {H:Type} {enc:TypeId×Value->H} {w:World} {n:Nat} {cs:List Value}: ∀{fs:List Field} {Ks:List (List SV->Prop)} {off:Nat},qD P fs Ks off->amK cs=off+yv P fs->
 (∀f∈fs,∃x,DataW.trod enc P w 0 (fun _=>amN) amN n f.type ((cs.drop f.offset).take (P.cellsOf f.type))=amL x)-> ∃vs q,agZ Ks vs/\sJ vs=amL q/\fh (HB w) gl q (cs.drop off)
 | [],[],off,_,hl,_=>⟨[],[],rfl,rfl,by rw [List.drop_eq_nil_of_le (by simp [yv] at hl;omega)];exact .nil⟩
 |f::fs,K::Ks,off,⟨h1,h2,h3⟩,hl,hx=>by
  obtain ⟨x,Hy⟩:=hx f (by simp)
  obtain ⟨vs,q,k1,k2,k3⟩:=h2 H enc w n _ x Hy;obtain ⟨NN,q',k1',k2',k3'⟩:=Ga (n:=n) h3 (by simp only [yv] at hl;omega) (fun g hg=>hx g (by simp [hg]))
  refine ⟨vs++NN,q++q',⟨vs,NN,rfl,k1,k1'⟩,AP k2 k2',?_⟩;rw [h1] at k3
  have:cs.drop off=(cs.drop off).take (P.cellsOf f.type)++cs.drop (off+P.cellsOf f.type):=by
   rw [<- List.drop_drop,List.take_append_drop]
  rw [this];exact F' k3 k3'
 | [],_::_,_,h,_,_=>h.elim
 |_::_,[],_,h,_,_=>h.elim
theorem mH.struct {t:TypeId} {fs:Array Field} {Ks:List (List SV->Prop)} (ht:P.underlying t=amL (.struct fs)) (hF:qD P fs.toList Ks 0) (hc:P.cellsOf t=yv P fs.toList):mH P t (agZ Ks):=fun H enc w AG cs x h=>by
 obtain ⟨xs,n,rfl,_,hl,hxl,rI⟩:=DataW.trod_struct ht h
 have:=Ga (P:=P) (enc:=enc) (w:=w) (n:=n) (cs:=cs) hF (by omega) (fun f hf=>by
  obtain ⟨i,hi,he⟩:=List.mem_iff_getElem.1 hf;have q8:i<fs.size:=by simpa using hi
  have hg:fs[i]? =amL f:=by rw [Array.getElem?_eq_getElem q8];simpa using he
  have:=rI i f hg
  rw [F0s (by omega)] at this
  exact ⟨_,this⟩)
 rwa [afe] at this
theorem RT.vrl {r:List PT} {a:RT r} {q:List PV} (h:sJ (RT.sv r a)=amL q):q=RT.pv r a:=by
 rw [RT.Ik] at h;exact (afc h).symm
theorem fh.nth {im:Im} {loc:Loc}: ∀{p:List PV} {vs:List Value},fh im loc p vs-> ∀(k:Nat) (c:PV),p[k]? =amL c-> ∃v,vs[k]? =amL v/\VR im loc c v
 |_::_,_::_,.cons x v xs ws h hs,0,c,hc=>by
  simp at hc;subst hc;exact ⟨v,by simp,h⟩
 |_::_,_::_,.cons x v xs ws h hs,k+1,c,hc=>by
  obtain ⟨u,h1,h2⟩:=fh.nth hs k c (by simpa using hc)
  exact ⟨u,by simpa using h1,h2⟩
theorem mH.slice {t e:TypeId} {r:List PT} (ht:P.underlying t=amL (.slice e)) (he:mH P e (vP r)) (hc:P.cellsOf e=amK r) (hr:0<amK r):mH P t (KSl r):=fun H enc w AG cs x h=>by
 rcases Go.Deep.open_slice ht h with ⟨rfl,_⟩|⟨a,len,cap,m,n,D,Pl,rfl,_,hl,hm,hmm,_,hx⟩
 · exact ⟨[.sl r []],[.sl (amK r) amO []],⟨[],rfl,by simp⟩,rfl,.cons _ _ _ _ (.sl (amK r) amO [] amM 0 (akb _) (fun h=>by cases h) (fun h=>absurd rfl h)) .nil⟩
 have CU:len<=m:=by rw [hmm];split<;>omega
 have each: ∀i,i<len-> ∃A:RT r,RT.wf r A/\ ∃HU,w.cells? 0 (a.add (i*amK r)) (amK r)=amL HU/\fh (HB w) gl (RT.pv r A) HU:=by
  intro i hi;obtain ⟨HU,h1,h2⟩:=hx i (by omega)
  obtain ⟨vs,q,⟨A,hA,wA⟩,k2,k3⟩:=he H enc w n HU _ h2;subst hA;rw [RT.vrl k2] at k3;rw [hc] at h1;exact ⟨A,wA,HU,h1,k3⟩
 have ch: ∃A:Nat->RT r,∀i,i<len->RT.wf r (A i)/\ ∃HU,w.cells? 0 (a.add (i*amK r)) (amK r)=amL HU/\fh (HB w) gl (RT.pv r (A i)) HU:=by
  classical
  refine ⟨fun i=>if h:i<len then (each i h).choose else RT.zero r,fun i hi=>?_⟩
  simp only [dif_pos hi];exact (each i hi).choose_spec
 obtain ⟨A,hA⟩:=ch;refine ⟨[.sl r ((am3 len).map A)],[.sl (amK r) amO (((am3 len).map A).map (RT.pv r))],⟨_,rfl,fun x hx=>?_⟩,rfl,.cons _ _ _ _ ?_ .nil⟩
 · obtain ⟨i,hi,rfl⟩:=amq.1 hx
   exact (hA i (List.mem_range.1 hi)).1
 have cY:(((am3 len).map A).map (RT.pv r)).length=len:=by simp
 have:=VR.sl (im:=HB w) (loc:=gl) (amK r) amO (((am3 len).map A).map (RT.pv r)) (amL a) cap (by rw [cY];exact hl) (fun h=>by cases h) (fun ec=>by
  have Hs:0<len:=by
   rcases am2 len with h|h
   · subst h;exact absurd rfl ec
   exact h
  obtain ⟨_,cs0,h0,_⟩:=hA 0 Hs;obtain ⟨_,KT,Fk⟩:=amv h0;obtain ⟨b,off,spot⟩:=a;have aox:spot=amM:=by
   have h1:=Fk 0 hr;rw [F0s (by omega)] at h1
   simpa [Addr.add] using World.cell?_spot h1
  subst aox;refine ⟨b,off,rfl,fun i row vw=>?_⟩
  simp only [List.map_map,List.getElem?_map,ae9] at vw;obtain ⟨j,hj,rfl⟩:=vw;have N0:=cO hj
  have:j=i:=by
   rw [List.getElem?_range (by simpa using N0)] at hj
   exact (afc hj).symm
  subst this;have aoy:j<len:=by simpa using N0
  obtain ⟨_,HU,h1,h2⟩:=hA j aoy;obtain ⟨_,HX,DJ⟩:=amv h1;refine ⟨RT.wH r (A j),fun k c hk=>?_⟩
  obtain ⟨v,hv,oV⟩:=fh.nth h2 k c hk;have hkr:k<(amK r):=by
   have:=cO hk
   rwa [Function.comp,RT.wH] at this
  have cc:=DJ k hkr;rw [hv] at cc;rw [Go.WideShapes.add_plain,Go.WideShapes.add_plain] at cc;have NZ:c.plain=amN:=afb.1 (RT.plain r (A j)) c (afB hk);exact ⟨v,oV.plain NZ,Sb cc⟩)
 rw [cY] at this;exact this
theorem mH.atd {t e:TypeId} {r:List PT} (h:mH P t (KSl r)) (ht:P.underlying t=amL (.slice e)) {H:Type} {enc:TypeId×Value->H} {w:World} {o7:Nat} {v:Value} {d:DataW H} {p:List MemPlace}
 (hv:Value.okWide P w .any o7 t v) (hd:DataW.Trod enc P w 0 (fun _=>amN) amN t v d p): ∃l:List (RT r),(∀a∈l,RT.wf r a)/\VR (HB w) gl (.sl (amK r) amO (l.map (RT.pv r))) v:=by
 obtain ⟨a,len,cap,rfl⟩:=okWide_slice ht hv;obtain ⟨AG,hf⟩:=hd;obtain ⟨vs,q,⟨l,rfl,hw⟩,k2,k3⟩:=h H enc w AG _ _ hf;have hq:q=[.sl (amK r) amO (l.map (RT.pv r))]:=by
  have:sJ [SV.sl r l]=amL [.sl (amK r) amO (l.map (RT.pv r))]:=rfl
  rw [this] at k2;exact (afc k2).symm
 subst hq;refine ⟨l,hw,?_⟩;generalize mE:(Value.slice a len cap).cells.toList=cs at k3
 have:cs=[Value.slice a len cap]:=by rw [<- mE];rfl
 subst this;cases k3 with
 |cons _ _ _ _ h1 _=>exact h1
theorem wf_i64 {n:Int} (h:(Lit.int .i64 n).wf=amN): -9223372036854775808<=n/\n<9223372036854775808:=by
 simp only [Lit.wf,v6,decide_eq_true_eq] at h;have e1:IntKind.i64.min= -9223372036854775808:=by decide
 have e2:IntKind.i64.max=9223372036854775807:=by decide
 rw [e1,e2] at h;omega
end
theorem aF.ate {F:m8} {f:FuncId} {x:aK} {α:Type} {A:au α} {fn:α->Option Bool} (h:aF F f ⟨A,Arg.bool,fn,.pure,amO⟩) (hf:F f=amL (.code x)) {a:α} (hb:fn a=amL amN) {ps:List PV} (hp:sJ (A.enc a)=amL ps) (hx:CD [] (xX [] deep) ps=amL ps):
 ∃n s z,run F n (.func f ps [] [])=amL (.func (.bool amN) s z):=by
 obtain ⟨n,r,h1,p,h2,rfl⟩:=h a amN ps ps [] [] hb hp hx;have hp':p= .bool amN:=(afc h2).symm;subst hp';refine ⟨n,?_⟩;simp only [dy,hx,hf] at h1;split at h1
 · rename_i v s z hr
   simp only [PP,if_false] at h1;split at h1
   · injection h1 with h1
     injection h1 with h1;subst h1;exact ⟨s,z,hr⟩
   rename_i hn
   split at h1
   · rename_i v' hv
     injection h1 with h1;injection h1 with h1;subst h1;exfalso;cases v with
     |bool b=>exact hn rfl
     |int _ _|str _|sl _ _ _=>injection hv with hv;cases hv
     |agg cs=>simp only [y4,ae9] at hv;obtain ⟨_,_,hv⟩:=hv;cases hv
     |cw cs=>simp only [y4,ae9] at hv;obtain ⟨_,_,hv⟩:=hv;cases hv
     |own t e off len cap ex=>simp only [y4] at hv;split at hv<;>first|(injection hv with hv;cases hv)|cases hv
     |_=>cases hv
   cases h1
 cases h1
end Go.Vm
