/- The logical machine, part 3: SvCod, SvRel, SvOps1, SvOps2, SvOps3, SvOps4, SvNorm, SvCall, SvFp, SvRun, SvCon, SvLaw. -/
import Derived.Test.YtbgoiokedpjgbaaGreatLVm2
open Nat renaming eq_of_beq_eq_true->ut,ble->M2,beq->NE,le_of_ble_eq_true->UV,beq_refl->aev,lt_or_ge->af5,zero_add->afm,beq_eq->afA,min_eq_left->agd,le_refl->aig,blt->ajB,eq_zero_or_pos->al7,le_of_lt->alu,sub_self->amu
open Bool renaming and_eq_true->v6,false_eq_true->PP,not_eq_true'->adc,and_self->aeu,not_false->af0,and_true->afo,not_true->ajE,or_eq_true->ams,true->amz,false->amA
open List renaming getElem?_eq_some_iff->ww,getElem?_append_left->AC,getElem?_append_right->Do,getElem?_eq_getElem->F0s,getElem?_take_of_lt->If,getElem?_set->IR,length_cons->ae0,append_assoc->ae3,append_nil->ae5,length_map->aem,map_cons->aet,replicate->aex,length_take->aeA,map_take->aeB,take_of_length_le->aeC,all_eq_true->aeD,drop_zero->aeE,getElem?_cons_succ->aeF,map_append->aeH,mem_of_getElem?->af3,getElem?_eq_none_iff->af9,map_drop->afa,mem_cons_self->afb,mem_singleton->afc,length_eq_zero_iff->afe,mem_append_right->afn,mem_cons_of_mem->afp,mem_append_left->aft,getElem_of_mem->afu,length_append->afI,getElem?_cons_zero->afO,cons_append->afY,nodup_cons->age,take_succ_cons->ajC,all_cons->ajD,cons_beq_cons->al2,range->al8,map_set->alt,ext_getElem?->alX,map_nil->alZ,flatMap_cons->am1,mem_map->am6,any_eq_true->amn,length_drop->amo,mem_flatMap->amp,all_append->amq,mem_append->amr,any_cons->amt,all_map->amv,length->amw
open Option.some renaming injEq->EQ,inj->aeJ
open Int renaming eq_ofNat_of_zero_le->acl,ofNat->aeZ,le_trans->afv
open Prod.mk renaming injEq->acK
open Option renaming map_eq_some_iff->aew,isSome_iff_exists->afK,getD_none->afX,getD_some->am8,some->amx,none->amy
open Go.World renaming cells?_some->am7
open Decidable renaming decide->amB
/- The types of arguments and results, as cells. -/
namespace Go.Vm
theorem oS {r q:List PT} {l:List (RT r)} {m:List (RT q)} (h:rS r q l=amx m): ∃e:r=q,m=e▸l:=by
 unfold rS at h;split at h
 · rename_i hs
   injection h with h;exact ⟨uP hs,h.symm⟩
 cases h
theorem A8 {r q:List PT} {l:List (RT r)} {m:List (RT q)} (h:rS r q l=amx m):r=q/\m.map (RT.pv q)=l.map (RT.pv r)/\amw m=(amw l):=by
 obtain ⟨rfl,rfl⟩:=oS h;exact ⟨rfl,rfl,rfl⟩
theorem eI {x:SV} {xs:List SV} {ps:List PV}:qH (x::xs)=amx ps↔ ∃p qs,ps=p::qs/\rU x=amx p/\qH xs=amx qs:=by
 simp only [qH];constructor
 · intro h
   split at h
   · rename_i y ys h1 h2
     injection h with h;exact ⟨y,ys,h.symm,h1,h2⟩
   cases h
 rintro ⟨p,qs,rfl,h1,h2⟩
 rw [h1,h2]
theorem Aa: ∀{xs ys:List SV} {p q:List PV},qH xs=amx p->qH ys=amx q->qH (xs++ys)=amx (p++q)
 | [],ys,p,q,h,k=>by simp only [qH,EQ] at h;subst h;exact k
 |x::xs,ys,p,q,h,k=>by
  obtain ⟨a,as,rfl,h1,h2⟩:=eI.1 h;exact eI.2 ⟨a,as++q,rfl,h1,Aa h2 k⟩
theorem PT.pz: ∀{p:PT} {v:SV} {a:p.T},p.of v=amx a->v=p.sv a
 | .i k,.int l n,a,h=>by
  simp only [PT.of] at h;cases hk:fu l k with
  |false=>rw [hk] at h;cases h
  |true=>
   rw [hk] at h;injection h with h;subst h;rw [fg.1 hk];rfl
 | .b,.bool x,a,h=>by injection h with h;subst h;rfl
 | .i k,.bool _,a,h=>by cases h
 | .b,.int _ _,a,h=>by cases h
 | .i _,.iS,a,h| .i _,.undef,a,h| .i _,.jy,a,h| .i _,.dU,a,h| .i _,.str _,a,h| .i _,.agg _,a,h| .i _,.cu _,a,h| .i _,.sl _ _,a,h| .i _,.nil _ _,a,h| .i _,.own _ _,a,h| .i _,.pre _ _ _ _,a,h| .i _,.part _ _ _ _ _,a,h| .i _,.pa _ _ _ _ _,a,h| .i _,.pb _ _ _,a,h| .i _,.bp _ _ _,a,h| .i _,.bI _ _,a,h| .i _,.eL _ _ _,a,h| .i _,.mp _,a,h=>by cases h
 | .b,.iS,a,h| .b,.undef,a,h| .b,.jy,a,h| .b,.dU,a,h| .b,.str _,a,h| .b,.agg _,a,h| .b,.cu _,a,h| .b,.sl _ _,a,h| .b,.nil _ _,a,h| .b,.own _ _,a,h| .b,.pre _ _ _ _,a,h| .b,.part _ _ _ _ _,a,h| .b,.pa _ _ _ _ _,a,h| .b,.pb _ _ _,a,h| .b,.bp _ _ _,a,h| .b,.bI _ _,a,h| .b,.eL _ _ _,a,h| .b,.mp _,a,h=>by cases h
theorem RT.pz: ∀{r:List PT} {vs:List SV} {a:RT r},RT.of r vs=amx a->vs=RT.sv r a
 | [],[],a,_=>rfl
 | [p],[v],a,h=>by
  have:=PT.pz (p:=p) h
  rw [this];rfl
 |p::q::r,v::vs,a,h=>by
  simp only [RT.of] at h;split at h
  · rename_i x y h1 h2
    injection h with h;subst h;rw [PT.pz h1,RT.pz h2];rfl
  cases h
 | [],_::_,a,h=>by simp [RT.of] at h
 | [p],[],a,h=>by simp [RT.of] at h
 | [p],_::_::_,a,h=>by simp [RT.of] at h
 |_::_::_,[],a,h=>by simp [RT.of] at h
theorem PT.HA (p:PT) (a:p.T):rU (p.sv a)=amx (p.pv a):=by cases p<;>rfl
theorem RT.HA: ∀(r:List PT) (a:RT r),qH (RT.sv r a)=amx (RT.pv r a)
 | [],_=>rfl
 | [p],a=>eI.2 ⟨_,_,rfl,PT.HA p a,rfl⟩
 |p::q::r,a=>eI.2 ⟨_,_,rfl,PT.HA p a.1,RT.HA (q::r) a.2⟩
theorem RT.vD: ∀(r:List PT) (a:RT r),(RT.pv r a).length=amw r
 | [],_=>rfl
 | [p],a=>rfl
 |p::q::r,a=>by simp [RT.pv,RT.vD (q::r) a.2]
theorem RT.I5: ∀(r:List PT) (a:RT r),(RT.sv r a).length=amw r
 | [],_=>rfl
 | [p],a=>rfl
 |p::q::r,a=>by simp [RT.sv,RT.I5 (q::r) a.2]
theorem HB: ∀(n:Nat) {vs:List SV} {ps:List PV},qH vs=amx ps-> ∃p q,ps=p++q/\qH (vs.take n)=amx p/\qH (vs.drop n)=amx q
 |0,vs,ps,h=>⟨[],ps,rfl,by simp [qH],by simpa using h⟩
 |n+1,[],ps,h=>⟨[],ps,rfl,by simp [qH],by simpa using h⟩
 |n+1,v::vs,ps,h=>by
  obtain ⟨p,qs,rfl,h1,h2⟩:=eI.1 h;obtain ⟨a,b,rfl,h3,h4⟩:=HB n h2;exact ⟨p::a,b,rfl,by rw [ajC];exact eI.2 ⟨p,a,rfl,h1,h3⟩,by simpa using h4⟩
def cH.int (k:IntKind):cH Int where
 enc n:=[.int k n]
 dec vs:=match vs with
  | .int l n::r=>bif fu l k then amx (n,r) else amy
  |_=>amy
 law:=fun {vs a rest ps} h hp=>by
  split at h
  · rename_i l n r
    cases hk:fu l k with
    |false=>rw [hk] at h;cases h
    |true=>
     rw [hk] at h;simp only [lw,EQ,acK] at h;obtain ⟨rfl,rfl⟩:=h;obtain ⟨p,qs,rfl,h1,h2⟩:=eI.1 hp;rw [fg.1 hk] at h1;exact ⟨[p],qs,rfl,eI.2 ⟨p,[],rfl,h1,rfl⟩,h2⟩
  cases h
def cH.bool:cH Bool where
 enc n:=[.bool n]
 dec vs:=match vs with
  | .bool n::r=>amx (n,r)
  |_=>amy
 law:=fun {vs a rest ps} h hp=>by
  split at h
  · simp only [EQ,acK] at h
    obtain ⟨rfl,rfl⟩:=h;obtain ⟨p,qs,rfl,h1,h2⟩:=eI.1 hp;exact ⟨[p],qs,rfl,eI.2 ⟨p,[],rfl,h1,rfl⟩,h2⟩
  cases h
def PO (r:List PT):SV->Option (List (RT r))
 | .sl q l=>rS q r l
 | .nil e c=>bif NE e (amw r)&&!c then amx [] else amy
 |_=>amy
theorem HC {r:List PT} {v:SV} {l:List (RT r)} {p:PV} (h:PO r v=amx l) (hp:rU v=amx p):rU (.sl r l)=amx p:=by
 cases v with
 |sl q m=>
  obtain ⟨rfl,h2,_⟩:=A8 h;rw [<- hp];simp only [rU,h2]
 |nil e c=>
  simp only [PO] at h;cases hc:(NE e (amw r)&&!c) with
  |false=>rw [hc] at h;cases h
  |true=>
   rw [hc] at h;injection h with h;subst h;simp only [v6,afA,adc] at hc;obtain ⟨rfl,rfl⟩:=hc;rw [<- hp];rfl
 |_=>cases h
def cH.sl (r:List PT):cH (List (RT r)) where
 enc l:=[.sl r l]
 dec vs:=match vs with
  |v::rest=>match PO r v with
   |some l=>amx (l,rest)
   |none=>amy
  | []=>amy
 law:=fun {vs a rest ps} h hp=>by
  split at h
  · split at h
    · rename_i v r' x l hl
      simp only [EQ,acK] at h;obtain ⟨rfl,rfl⟩:=h;obtain ⟨p,qs,rfl,h1,h2⟩:=eI.1 hp;exact ⟨[p],qs,rfl,eI.2 ⟨p,[],rfl,HC hl h1,rfl⟩,h2⟩
    cases h
  cases h
def cH.row (r:List PT):cH (RT r) where
 enc:=RT.sv r
 dec vs:=match RT.of r (vs.take (amw r)) with
  |some a=>amx (a,vs.drop (amw r))
  |none=>amy
 law:=fun {vs a rest ps} h hp=>by
  split at h
  · rename_i x hx
    simp only [EQ,acK] at h;obtain ⟨rfl,rfl⟩:=h;obtain ⟨p,q,rfl,h1,h2⟩:=HB (amw r) hp;rw [RT.pz hx] at h1;exact ⟨p,q,rfl,h1,h2⟩
  cases h
def cH.prod {α β:Type} (A:cH α) (B:cH β):cH (α×β) where
 enc p:=A.enc p.1++B.enc p.2
 dec vs:=match A.dec vs with
  |some p=>match B.dec p.2 with
   |some q=>amx ((p.1,q.1),q.2)
   |none=>amy
  |none=>amy
 law:=fun {vs a rest ps} h hp=>by
  split at h
  · rename_i p hA
    split at h
    · rename_i q hB
      simp only [EQ,acK] at h;obtain ⟨rfl,rfl⟩:=h;obtain ⟨p1,p2,rfl,h1,h2⟩:=A.law (a:=p.1) (rest:=p.2) hA hp;obtain ⟨q1,q2,rfl,h3,h4⟩:=B.law (a:=q.1) (rest:=q.2) hB h2;exact ⟨p1++q1,q2,by simp,Aa h1 h3,h4⟩
    cases h
  cases h
def cH.iso {α β:Type} (A:cH α) (f:α->β) (g:β->α) (h: ∀a,g (f a)=a):cH β where
 enc b:=A.enc (g b)
 dec vs:=match A.dec vs with
  |some p=>amx (f p.1,p.2)
  |none=>amy
 law:=fun {vs a rest ps} hd hp=>by
  split at hd
  · rename_i p hA
    simp only [EQ,acK] at hd;obtain ⟨rfl,rfl⟩:=hd;rw [h];exact A.law hA hp
  cases hd
def Arg.int (k:IntKind):Arg Int where
 enc n:= .int k n
 dec v:=match v with
  | .int l n=>bif fu l k then amx n else amy
  |_=>amy
 law:=fun {v a p} h hp=>by
  split at h
  · rename_i l n
    cases hk:fu l k with
    |false=>rw [hk] at h;cases h
    |true=>rw [hk] at h;injection h with h;subst h;rw [fg.1 hk] at hp;exact hp
  cases h
def Arg.bool:Arg Bool where
 enc n:= .bool n
 dec v:=match v with
  | .bool n=>amx n
  |_=>amy
 law:=fun {v a p} h hp=>by
  split at h
  · injection h with h;subst h;exact hp
  cases h
def Arg.sl (r:List PT):Arg (List (RT r)) where
 enc l:= .sl r l
 dec:=PO r
 law:=HC
def Arg.agg {α:Type} (A:cH α):Arg α where
 enc a:= .agg (A.enc a)
 dec v:=match v with
  | .agg cs=>match A.dec cs with
   |some p=>match p.2 with
    | []=>amx p.1
    |_=>amy
   |none=>amy
  |_=>amy
 law:=fun {v a p} h hp=>by
  split at h
  · rename_i cs
    split at h
    · rename_i q hA
      obtain ⟨x,rest⟩:=q;dsimp only at h;cases rest with
      |cons _ _=>cases h
      |nil=>
       injection h with h;subst h;simp only [rU] at hp;cases hc:qH cs with
       |none=>rw [hc] at hp;cases hp
       |some l=>
        rw [hc] at hp;injection hp with hp;subst hp;obtain ⟨p1,p2,rfl,h1,h2⟩:=A.law hA hc;simp only [qH,EQ] at h2;subst h2;simp only [rU,h1,ae5]
    cases h
  cases h
def Arg.ref {α:Type} (A:cH α):Arg α where
 enc a:= .bI (A.enc a) 0
 dec v:=match v with
  | .bI cs 0=>match A.dec cs with
   |some p=>match p.2 with
    | []=>amx p.1
    |_=>amy
   |none=>amy
  |_=>amy
 law:=fun {v a p} h hp=>by
  split at h
  · rename_i cs
    split at h
    · rename_i q hA
      obtain ⟨x,rest⟩:=q;dsimp only at h;cases rest with
      |cons _ _=>cases h
      |nil=>
       injection h with h;subst h;simp only [rU] at hp;cases hc:qH cs with
       |none=>rw [hc] at hp;cases hp
       |some l=>
        rw [hc] at hp;injection hp with hp;subst hp;obtain ⟨p1,p2,rfl,h1,h2⟩:=A.law hA hc;simp only [qH,EQ] at h2;subst h2;simp only [rU,h1,ae5]
    cases h
  cases h
def ay.nil:ay Unit where
 enc _:=[]
 dec vs:=match vs with
  | []=>amx ()
  |_=>amy
 law:=fun {vs a ps} h hp=>by
  split at h
  · exact hp
  cases h
def ay.one {α:Type} (A:Arg α):ay α where
 enc a:=[A.enc a]
 dec vs:=match vs with
  | [v]=>A.dec v
  |_=>amy
 law:=fun {vs a ps} h hp=>by
  split at h
  · obtain ⟨p,qs,rfl,h1,h2⟩:=eI.1 hp
    exact eI.2 ⟨p,qs,rfl,A.law h h1,h2⟩
  cases h
def ay.cons {α β:Type} (A:Arg α) (B:ay β):ay (α×β) where
 enc a:=A.enc a.1::B.enc a.2
 dec vs:=match vs with
  |v::r=>match A.dec v with
   |some x=>match B.dec r with
    |some y=>amx (x,y)
    |none=>amy
   |none=>amy
  | []=>amy
 law:=fun {vs a ps} h hp=>by
  split at h
  · split at h
    · rename_i x hx
      split at h
      · rename_i y hy
        injection h with h;subst h;obtain ⟨p,qs,rfl,h1,h2⟩:=eI.1 hp;exact eI.2 ⟨p,qs,rfl,A.law hx h1,B.law hy h2⟩
      cases h
    cases h
  cases h
def Arg.cu {α:Type} (A:ay α):Arg α where
 enc a:= .cu (A.enc a)
 dec v:=match v with
  | .cu vs=>A.dec vs
  |_=>amy
 law:=fun {v a p} h hp=>by
  split at h
  · rename_i vs
    simp only [rU] at hp;cases hc:qH vs with
    |none=>rw [hc] at hp;cases hp
    |some l=>
     rw [hc] at hp;injection hp with hp;subst hp;simp only [rU,A.law h hc]
  cases h
def Arg.eL {α:Type} (f:FuncId) (A:ay α):Arg α where
 enc a:= .eL f [] (A.enc a)
 dec v:=match v with
  | .eL g [] b=>bif NE g f then A.dec b else amy
  |_=>amy
 law:=fun {v a p} h hp=>by
  split at h
  · rename_i g b
    cases hg:NE g f with
    |false=>rw [hg] at h;cases h
    |true=>
     rw [hg] at h
     have:=ut hg
     subst this;simp only [rU,qH] at hp ⊢;cases hc:qH b with
     |none=>rw [hc] at hp;cases hp
     |some l=>
      rw [hc] at hp;rw [A.law h hc];exact hp
  cases h
def bA.clone (r:List PT):bA:=⟨.one (.sl r),.sl r,bP,.own,amA⟩
def oT (a b c:Int):Option (Int×Int):=bif amB (0<=a)&&amB (0<=b)&&amB (0<=c)&&amB (c<=1) then amx ((a+b+c)%18446744073709551616,(a+b+c) / 18446744073709551616) else amy
def bA.Lb:bA:=⟨.cons (.int .u64) (.cons (.int .u64) (.one (.int .u64))),.cu (.cons (.int .u64) (.one (.int .u64))),fun a=>oT a.1 a.2.1 a.2.2,.pure,amA⟩
def Lc:List (Nat×bA)->FuncId->List bA
 | [],_=>[]
 |(g,c)::r,f=>bif NE g f then c::Lc r f else Lc r f
def Ld:List (Nat×dP)->FuncId->List dP
 | [],_=>[]
 |(g,c)::r,f=>bif NE g f then c::Ld r f else Ld r f
def I6:List (Nat×Cd)->FuncId->Option Cd
 | [],_=>amy
 |(g,c)::r,f=>bif NE g f then amx c else I6 r f
def iT (lp:Option Nat) (c:List (Nat×bA)) (p:List (Nat×dP)) (x:List (Nat×Cd)) (rk:List (Nat×List PT)):Ctx:=⟨lp,Lc c,Ld p,I6 x,rk⟩
end Go.Vm
/- What a typed value says of a value of the logical machine. -/
namespace Go.Vm
def OwnAt (s:List SB) (t e n:Nat):Prop:=(∃r l,s[t]? =amx (.arr r l)/\e=amw r/\n=amw l)\/s[t]? =amx .dead
def zo (s:List SB) (t e:Nat):Prop:=(∃r l,s[t]? =amx (.arr r l)/\e=amw r)\/s[t]? =amx .dead\/(∃cs,s[t]? =amx (.box cs)/\e=1)
def T4 (s:List SB) (t:Nat) (r:List PT) (i:Int) (a:RT r):Prop:=(∃l,s[t]? =amx (.arr r l)/\aI l i=amx a)\/s[t]? =amx .dead
def af' (s:List SB) (t:Nat) (i:Int):Prop:=(∃r l,s[t]? =amx (.arr r l)/\(aI l i).isSome=amz)\/s[t]? =amx .dead
mutual
def R (s:List SB):SV->PV->Prop
 | .iS,_=>True
 | .undef,v=>v= .undef
 | .jy,v=>v= .jy
 | .dU,v=>v= .dU
 | .int k n,v=>v= .int k n
 | .bool b,v=>v= .bool b
 | .str x,v=>v= .str x
 | .agg cs,v=> ∃ps,v= .agg ps/\RL s cs ps
 | .cu cs,v=> ∃ps,v= .cu ps/\RL s cs ps
 | .sl r l,v=>v= .sl (amw r) amA (l.map (RT.pv r))
 | .nil e c,v=>v= .sl e c []
 | .own t ex,v=> ∃e n,v= .own t e 0 n n ex/\OwnAt s t e n
 | .pre t len cap ex,v=> ∃e,v= .own t e 0 len cap ex/\zo s t e
 | .part t off len cap ex,v=> ∃e,v= .own t e off len cap ex/\zo s t e
 | .pa t r i a off,v=>v= .ptr t (amw r) i.toNat off/\T4 s t r i a
 | .pb t i off,v=> ∃e,v= .ptr t e i.toNat off/\af' s t i
 | .bp t n off,v=>v= .ptr t n 0 off
 | .bI cs off,v=> ∃ps,v= .bI ps off/\RL s cs ps
 | .eL f a b,v=> ∃pa pb,v= .eL f pa pb/\RL s a pa/\RL s b pb
 | .mp t,v=>v= .mp t
def RL (s:List SB):List SV->List PV->Prop
 | [],ps=>ps=[]
 |x::xs,ps=> ∃p q,ps=p::q/\R s x p/\RL s xs q
end
def sO:List Int->PV
 | [a]=> .int .i64 a
 |l=> .agg (l.map (.int .i64))
def A9 (k:List Int):PV×PV:=(sO k,.bool amz)
def DB (p:PT) (a:RT [.i .i64,p]):PV×PV:=(.int .i64 a.1,p.pv a.2)
def RB (s:List SB):SB->jR->Prop
 | .arr r l,b=>b= .arr (amw r) (l.map (RT.pv r))
 | .box cs,b=> ∃ps,b= .box ps/\RL s cs ps
 | .set l,b=>b= .map (l.map A9)
 | .aO p l,b=>b= .map (l.map (DB p))
 | .dead,b=>b= .dead
structure cM (s:List SB) (p:cK):Prop where
 len:(amw p)=amw s
 at_: ∀(t:Nat) (b:SB),s[t]? =amx b-> ∃q,p[t]? =amx q/\RB s b q
def dW (s:List SB):SE->Env->Prop
 | [],e=>e=[]
 |(t,v)::r,e=> ∃p q,e=(t,p)::q/\R s v p/\dW s r q
structure zp (st:p9) (p:St):Prop where
 env:dW st.aE st.env p.env
 aE:cM st.aE p.aE
 fz:p.fz=st.fz
 kn:p.kn=st.kn
theorem mc: ∀(s l:List SB),apS s l=s++l
 | [],_=>rfl
 |b::r,l=>by simp [apS,mc r l]
theorem A': ∀(s:List SB) (t:Nat) (b:SB),TZ s t b=s.set t b
 | [],_,_=>by simp [TZ]
 |_::_,0,_=>rfl
 |x::r,n+1,b=>by simp [TZ,A' r n b]
theorem RL.nil {s:List SB}:RL s [] []:=rfl
theorem RL.cons {s:List SB} {x:SV} {xs:List SV} {p:PV} {q:List PV} (h:R s x p) (k:RL s xs q):RL s (x::xs) (p::q):=⟨p,q,rfl,h,k⟩
theorem RL.cons_inv {s:List SB} {x:SV} {xs:List SV} {ps:List PV} (h:RL s (x::xs) ps): ∃p q,ps=p::q/\R s x p/\RL s xs q:=h
theorem RL.mK {s:List SB}: ∀{xs:List SV} {ps:List PV},RL s xs ps->amw ps=amw xs
 | [],ps,h=>by rw [show ps=[] from h];rfl
 |x::xs,ps,h=>by
  obtain ⟨p,q,rfl,_,h2⟩:=h.cons_inv;simp [h2.mK]
theorem RL.append {s:List SB}: ∀{xs:List SV} {ps:List PV},RL s xs ps-> ∀{ys:List SV} {qs:List PV},RL s ys qs->RL s (xs++ys) (ps++qs)
 | [],ps,h,_,_,k=>by rw [show ps=[] from h];exact k
 |x::xs,ps,h,_,_,k=>by
  obtain ⟨p,q,rfl,h1,h2⟩:=h.cons_inv;exact RL.cons h1 (h2.append k)
theorem RL.take {s:List SB}: ∀{xs:List SV} {ps:List PV},RL s xs ps-> ∀n,RL s (xs.take n) (ps.take n)
 | [],ps,h,n=>by rw [show ps=[] from h];simp;exact RL.nil
 |x::xs,ps,h,0=>by simp;exact RL.nil
 |x::xs,ps,h,n+1=>by
  obtain ⟨p,q,rfl,h1,h2⟩:=h.cons_inv;exact RL.cons h1 (h2.take n)
theorem RL.drop {s:List SB}: ∀{xs:List SV} {ps:List PV},RL s xs ps-> ∀n,RL s (xs.drop n) (ps.drop n)
 | [],ps,h,n=>by rw [show ps=[] from h];simp;exact RL.nil
 |x::xs,ps,h,0=>h
 |x::xs,ps,h,n+1=>by
  obtain ⟨p,q,rfl,h1,h2⟩:=h.cons_inv;exact h2.drop n
theorem RL.nth {s:List SB}: ∀{xs:List SV} {ps:List PV},RL s xs ps-> ∀{n:Nat} {v:SV},Vm.nth xs n=amx v-> ∃p,ps[n]? =amx p/\R s v p
 | [],_,_,_,_,e=>by cases e
 |x::xs,ps,h,0,v,e=>by
  obtain ⟨p,q,rfl,h1,_⟩:=h.cons_inv;injection e with e;subst e;exact ⟨p,rfl,h1⟩
 |x::xs,ps,h,n+1,v,e=>by
  obtain ⟨p,q,rfl,_,h2⟩:=h.cons_inv;obtain ⟨p',h3,h4⟩:=h2.nth (n:=n) e;exact ⟨p',by simpa using h3,h4⟩
mutual
theorem N3 (s:List SB): ∀v:PV,R s (W4 v) v
 | .undef=>rfl
 | .jy=>rfl
 | .dU=>rfl
 | .int _ _=>rfl
 | .bool _=>rfl
 | .str _=>rfl
 | .agg cs=>⟨cs,rfl,vE s cs⟩
 | .cu cs=>⟨cs,rfl,vE s cs⟩
 | .sl e c rows=>by
  cases rows with
  |nil=>exact rfl
  |cons _ _=>trivial
 | .eL f a b=>⟨a,b,rfl,vE s a,vE s b⟩
 | .own .. =>trivial
 | .ptr .. =>trivial
 | .bI .. =>trivial
 | .mp _=>trivial
theorem vE (s:List SB): ∀l:List PV,RL s (A0 l) l
 | []=>rfl
 |x::xs=>RL.cons (N3 s x) (vE s xs)
end
theorem dW.lk {s:List SB}: ∀{e:SE} {p:Env},dW s e p-> ∀t,R s (GL t e) (Vm.lk t p)
 | [],p,h,t=>by rw [show p=[] from h];rfl
 |(u,v)::r,p,h,t=>by
  obtain ⟨q,qs,rfl,h1,h2⟩:=h;simp only [GL,Vm.lk];cases hb:NE u t with
  |true=>exact h1
  |false=>exact dW.lk h2 t
theorem dW.zZ {s:List SB}: ∀{e:SE} {p:Env},dW s e p-> ∀{t:Nat} {v:SV},R s v (Vm.lk t p)->dW s (Vm.zZ t v e) p
 | [],p,h,t,v,_=>h
 |(u,x)::r,p,h,t,v,hv=>by
  obtain ⟨q,qs,rfl,h1,h2⟩:=h;simp only [Vm.zZ];simp only [Vm.lk] at hv;cases hb:NE u t with
  |true=>rw [hb] at hv;exact ⟨q,qs,rfl,hv,h2⟩
  |false=>rw [hb] at hv;exact ⟨q,qs,rfl,h1,dW.zZ h2 hv⟩
theorem dK {s:List SB} {e:SE} {p:Env} (h:dW s e p): ∀x:fy,R s (bU e x) (x.ev p)
 | .t n=>h.lk n
 | .c v=>N3 s v
theorem yE {s:List SB} {e:SE} {p:Env} (h:dW s e p): ∀l:List fy,RL s (jD e l) (D' p l)
 | []=>rfl
 |x::xs=>RL.cons (dK h x) (yE h xs)
def Fr (bad:List Nat) (s s':List SB):Prop:= ∀(t:Nat) (b:SB),s[t]? =amx b->match b with
 | .arr r l=>(∃l',s'[t]? =amx (.arr r l')/\amw l'=amw l/\(has bad t=amA->l'=l))\/s'[t]? =amx .dead
 | .dead=>s'[t]? =amx .dead
 | .box _=>(∃cs,s'[t]? =amx (.box cs))\/s'[t]? =amx .dead
 |_=>True
theorem Fr.refl (bad:List Nat) (s:List SB):Fr bad s s:=fun t b h=>by
 cases b with
 |arr r l=>exact .inl ⟨l,h,rfl,fun _=>rfl⟩
 |dead=>exact h
 |box cs=>exact .inl ⟨cs,h⟩
 |_=>trivial
theorem Fr.app (bad:List Nat) (s l:List SB):Fr bad s (s++l):=fun t b h=>by
 have h':(s++l)[t]? =amx b:=by
  have:=(ww.1 h).1
  rw [AC this];exact h
 cases b with
 |arr r l=>exact .inl ⟨l,h',rfl,fun _=>rfl⟩
 |dead=>exact h'
 |box cs=>exact .inl ⟨cs,h'⟩
 |_=>trivial
theorem Fr.trans {bad:List Nat} {a b c:List SB} (h:Fr bad a b) (k:Fr bad b c):Fr bad a c:=fun t x hx=>by
 have h1:=h t x hx;cases x with
 |arr r l=>
  rcases h1 with ⟨l',h2,h3,h4⟩|h2
  · have k1:=k t _ h2
    rcases k1 with ⟨l2,k2,k3,k4⟩|k2
    · exact .inl ⟨l2,k2,k3.trans h3,fun hb=>(k4 hb).trans (h4 hb)⟩
    exact .inr k2
  exact .inr (k t _ h2)
 |dead=>exact k t _ h1
 |box cs=>
  rcases h1 with ⟨c2,h2⟩|h2
  · exact k t _ h2
  exact .inr (k t _ h2)
 |_=>trivial
theorem C9 {α:Type} {l m:List α} {i:Int} (h:(aI l i).isSome=amz) (hl:(amw m)=amw l):(aI m i).isSome=amz:=by
 cases i with
 |ofNat n=>
  simp only [aI] at h ⊢;rw [afK] at h;obtain ⟨a,ha⟩:=h
  have:=(ww.1 ha).1
  rw [F0s (by omega)];rfl
 |negSucc n=>simp [aI] at h
mutual
theorem R.fr {bad:List Nat} {s s':List SB} (hf:Fr bad s s'): ∀{v:SV} {p:PV},R s v p->R s' (Wn bad v) p
 | .iS,_,_=>trivial
 | .undef,_,h=>h
 | .jy,_,h=>h
 | .dU,_,h=>h
 | .int _ _,_,h=>h
 | .bool _,_,h=>h
 | .str _,_,h=>h
 | .agg cs,_,h=>by obtain ⟨ps,rfl,h⟩:=h;exact ⟨ps,rfl,RL.fr hf h⟩
 | .cu cs,_,h=>by obtain ⟨ps,rfl,h⟩:=h;exact ⟨ps,rfl,RL.fr hf h⟩
 | .sl _ _,_,h=>h
 | .nil _ _,_,h=>h
 | .own t ex,_,h=>by
  obtain ⟨e,n,rfl,h⟩:=h;refine ⟨e,n,rfl,?_⟩;rcases h with ⟨r,l,h1,h2,h3⟩|h1
  · rcases hf t _ h1 with ⟨l',k1,k2,_⟩|k1
    · exact .inl ⟨r,l',k1,h2,by rw [h3,k2]⟩
    exact .inr k1
  exact .inr (hf t _ h1)
 | .pre t len cap ex,_,h=>by
  obtain ⟨e,rfl,h⟩:=h;refine ⟨e,rfl,?_⟩;rcases h with ⟨r,l,h1,h2⟩|h1|⟨cs,h1,h2⟩
  · rcases hf t _ h1 with ⟨l',k1,_,_⟩|k1
    · exact .inl ⟨r,l',k1,h2⟩
    exact .inr (.inl k1)
  · exact .inr (.inl (hf t _ h1))
  rcases hf t _ h1 with ⟨c2,k1⟩|k1
  · exact .inr (.inr ⟨c2,k1,h2⟩)
  exact .inr (.inl k1)
 | .part t off len cap ex,_,h=>by
  obtain ⟨e,rfl,h⟩:=h;refine ⟨e,rfl,?_⟩;rcases h with ⟨r,l,h1,h2⟩|h1|⟨cs,h1,h2⟩
  · rcases hf t _ h1 with ⟨l',k1,_,_⟩|k1
    · exact .inl ⟨r,l',k1,h2⟩
    exact .inr (.inl k1)
  · exact .inr (.inl (hf t _ h1))
  rcases hf t _ h1 with ⟨c2,k1⟩|k1
  · exact .inr (.inr ⟨c2,k1,h2⟩)
  exact .inr (.inl k1)
 | .pa t r i a off,_,h=>by
  obtain ⟨rfl,h⟩:=h;simp only [Wn];cases hb:has bad t with
  |true=>
   refine ⟨_,rfl,?_⟩;rcases h with ⟨l,h1,h2⟩|h1
   · rcases hf t _ h1 with ⟨l',k1,k2,_⟩|k1
     · exact .inl ⟨r,l',k1,C9 (by rw [h2];rfl) k2⟩
     exact .inr k1
   exact .inr (hf t _ h1)
  |false=>
   refine ⟨rfl,?_⟩;rcases h with ⟨l,h1,h2⟩|h1
   · rcases hf t _ h1 with ⟨l',k1,_,k3⟩|k1
     · exact .inl ⟨l',k1,by rw [k3 hb];exact h2⟩
     exact .inr k1
   exact .inr (hf t _ h1)
 | .pb t i off,_,h=>by
  obtain ⟨e,rfl,h⟩:=h;refine ⟨e,rfl,?_⟩;rcases h with ⟨r,l,h1,h2⟩|h1
  · rcases hf t _ h1 with ⟨l',k1,k2,_⟩|k1
    · exact .inl ⟨r,l',k1,C9 h2 k2⟩
    exact .inr k1
  exact .inr (hf t _ h1)
 | .bp _ _ _,_,h=>h
 | .bI cs off,_,h=>by obtain ⟨ps,rfl,h⟩:=h;exact ⟨ps,rfl,RL.fr hf h⟩
 | .eL f a b,_,h=>by obtain ⟨pa,pb,rfl,h1,h2⟩:=h;exact ⟨pa,pb,rfl,RL.fr hf h1,RL.fr hf h2⟩
 | .mp _,_,h=>h
theorem RL.fr {bad:List Nat} {s s':List SB} (hf:Fr bad s s'): ∀{v:List SV} {p:List PV},RL s v p->RL s' (TY bad v) p
 | [],_,h=>h
 |x::xs,_,h=>by
  obtain ⟨p,q,rfl,h1,h2⟩:=h.cons_inv;exact RL.cons (R.fr hf h1) (RL.fr hf h2)
end
mutual
theorem PQ: ∀v:SV,Wn [] v=v
 | .iS| .undef| .jy| .dU| .int _ _| .bool _| .str _| .sl _ _| .nil _ _| .own _ _| .pre _ _ _ _| .part _ _ _ _ _| .pb _ _ _| .bp _ _ _| .mp _=>rfl
 | .agg cs=>by simp only [Wn,s4 cs]
 | .cu cs=>by simp only [Wn,s4 cs]
 | .bI cs _=>by simp only [Wn,s4 cs]
 | .eL _ a b=>by simp only [Wn,s4 a,s4 b]
 | .pa t r i a off=>by simp [Wn,has]
theorem s4: ∀v:List SV,TY [] v=v
 | []=>rfl
 |x::xs=>by simp only [TY,PQ x,s4 xs]
end
theorem R.ext {s s':List SB} (hf:Fr [] s s') {v:SV} {p:PV} (h:R s v p):R s' v p:=by
 have:=R.fr hf h
 rwa [PQ] at this
theorem RL.ext {s s':List SB} (hf:Fr [] s s') {v:List SV} {p:List PV} (h:RL s v p):RL s' v p:=by
 have:=RL.fr hf h
 rwa [s4] at this
theorem RB.fr {bad:List Nat} {s s':List SB} (hf:Fr bad s s') {b:SB} {p:jR} (h:RB s b p):RB s' (W9 bad b) p:=by
 cases b with
 |box cs=>obtain ⟨ps,rfl,h⟩:=h;exact ⟨ps,rfl,RL.fr hf h⟩
 |_=>exact h
theorem RB.ext {s s':List SB} (hf:Fr [] s s') {b:SB} {p:jR} (h:RB s b p):RB s' b p:=by
 cases b with
 |box cs=>obtain ⟨ps,rfl,h⟩:=h;exact ⟨ps,rfl,RL.ext hf h⟩
 |_=>exact h
theorem dW.fr {bad:List Nat} {s s':List SB} (hf:Fr bad s s'): ∀{e:SE} {p:Env},dW s e p->dW s' (dgE bad e) p
 | [],_,h=>h
 |(t,v)::r,_,h=>by
  obtain ⟨p,q,rfl,h1,h2⟩:=h;exact ⟨p,q,rfl,R.fr hf h1,dW.fr hf h2⟩
theorem dW.ext {s s':List SB} (hf:Fr [] s s'): ∀{e:SE} {p:Env},dW s e p->dW s' e p
 | [],_,h=>h
 |(t,v)::r,_,h=>by
  obtain ⟨p,q,rfl,h1,h2⟩:=h;exact ⟨p,q,rfl,R.ext hf h1,dW.ext hf h2⟩
theorem cM.app {s:List SB} {p:cK} (h:cM s p) {l:List SB} {q:cK} (hl:(amw q)=amw l) (hb: ∀(j:Nat) (b:SB),l[j]? =amx b-> ∃x,q[j]? =amx x/\RB (s++l) b x):cM (s++l) (p++q) where
 len:=by simp [h.len,hl]
 at_:=fun t b ht=>by
  rcases af5 t (amw s) with dI|Wh
  · rw [AC dI] at ht
    obtain ⟨x,h1,h2⟩:=h.at_ t b ht;exact ⟨x,by rw [AC (by rw [h.len];exact dI)];exact h1,h2.ext (Fr.app [] s l)⟩
  rw [Do Wh] at ht
  obtain ⟨x,h1,h2⟩:=hb _ b ht;exact ⟨x,by rw [Do (by rw [h.len];exact Wh),h.len];exact h1,h2⟩
theorem ri (ts:List Nat): ∀(s:List SB) (t:Nat),(BQ ts s)[t]? =(s[t]?).map (W9 ts)
 | [],t=>by simp [BQ]
 |b::r,0=>by simp [BQ]
 |b::r,t+1=>by simp [BQ,ri ts r t]
theorem vF (ts:List Nat): ∀(s:List SB),(BQ ts s).length=amw s
 | []=>rfl
 |b::r=>by simp [BQ,vF ts r]
theorem Fr.dg {bad ts:List Nat} {s s':List SB} (h:Fr bad s s'):Fr bad s (BQ ts s'):=fun t b hb=>by
 have h1:=h t b hb;cases b with
 |arr r l=>
  rcases h1 with ⟨l',h2,h3,h4⟩|h2
  · exact .inl ⟨l',by rw [ri,h2];rfl,h3,h4⟩
  exact .inr (by rw [ri,h2];rfl)
 |dead=>show (BQ ts s')[t]? =_;rw [ri,h1];rfl
 |box cs=>
  rcases h1 with ⟨c2,h2⟩|h2
  · exact .inl ⟨TY ts c2,by rw [ri,h2];rfl⟩
  exact .inr (by rw [ri,h2];rfl)
 |_=>trivial
theorem HD {s:List SB}: ∀(r:List PT) (a:RT r),RL s (RT.sv r a) (RT.pv r a)
 | [],_=>rfl
 | [p],a=>by refine RL.cons ?_ RL.nil;cases p<;>rfl
 |p::q::r,a=>by refine RL.cons ?_ (HD (q::r) a.2);cases p<;>rfl
theorem yF {s:List SB}: ∀(r:List PT) (a:RT r) {ps:List PV},RL s (RT.sv r a) ps->ps=RT.pv r a
 | [],_,ps,h=>h
 | [p],a,ps,h=>by
  obtain ⟨x,q,rfl,h1,h2⟩:=h.cons_inv;have RE:q=[]:=h2;subst RE;cases p<;>(have Nc:=h1;simp only [PT.sv,R] at Nc;rw [Nc];rfl)
 |p::q::r,a,ps,h=>by
  obtain ⟨x,qs,rfl,h1,h2⟩:=h.cons_inv;rw [yF (q::r) a.2 h2];cases p<;>(have Nc:=h1;simp only [PT.sv,R] at Nc;rw [Nc];rfl)
theorem RT.plain: ∀(r:List PT) (a:RT r),(RT.pv r a).all PV.plain=amz
 | [],_=>rfl
 | [p],a=>by cases p<;>rfl
 |p::q::r,a=>by
  have:=RT.plain (q::r) a.2
  cases p<;>(simp only [RT.pv,ajD,this,afo];rfl)
theorem R.cells {s:List SB} {v:SV} {p:PV} (h:R s v p) (hj:v≠ .iS):RL s v.cells p.cells:=by
 cases v with
 |iS=>exact absurd rfl hj
 |agg cs=>obtain ⟨ps,rfl,h⟩:=h;exact h
 |undef=>rw [show p= .undef from h];exact RL.cons rfl RL.nil
 |jy=>rw [show p= .jy from h];exact RL.cons rfl RL.nil
 |dU=>rw [show p= .dU from h];exact RL.cons rfl RL.nil
 |int k n=>rw [show p= .int k n from h];exact RL.cons rfl RL.nil
 |bool b=>rw [show p= .bool b from h];exact RL.cons rfl RL.nil
 |str x=>rw [show p= .str x from h];exact RL.cons rfl RL.nil
 |sl r l=>rw [show p=_ from h];exact RL.cons rfl RL.nil
 |nil e c=>rw [show p=_ from h];exact RL.cons rfl RL.nil
 |bp t n o=>rw [show p=_ from h];exact RL.cons rfl RL.nil
 |mp t=>rw [show p=_ from h];exact RL.cons rfl RL.nil
 |cu cs=>obtain ⟨ps,rfl,h⟩:=h;exact RL.cons ⟨ps,rfl,h⟩ RL.nil
 |own t ex=>obtain ⟨e,n,rfl,h⟩:=h;exact RL.cons ⟨e,n,rfl,h⟩ RL.nil
 |pre t a b c=>obtain ⟨e,rfl,h⟩:=h;exact RL.cons ⟨e,rfl,h⟩ RL.nil
 |part t o a b c=>obtain ⟨e,rfl,h⟩:=h;exact RL.cons ⟨e,rfl,h⟩ RL.nil
 |pa t r i a o=>obtain ⟨rfl,h⟩:=h;exact RL.cons ⟨rfl,h⟩ RL.nil
 |pb t i o=>obtain ⟨e,rfl,h⟩:=h;exact RL.cons ⟨e,rfl,h⟩ RL.nil
 |bI cs o=>obtain ⟨ps,rfl,h⟩:=h;exact RL.cons ⟨ps,rfl,h⟩ RL.nil
 |eL f a b=>obtain ⟨pa,pb,rfl,h⟩:=h;exact RL.cons ⟨pa,pb,rfl,h⟩ RL.nil
theorem R.pS {s:List SB} {v:SV} {p:PV} (h:R s v p) (ho:v.pS=amz):p.pS=amz:=by
 cases v with
 |iS|undef|jy|agg _|cu _=>cases ho
 |dU|int _ _|bool _|str _|sl _ _|nil _ _|bp _ _ _|mp _=>rw [show p=_ from h];rfl
 |own t ex=>obtain ⟨e,n,rfl,h⟩:=h;rfl
 |pre t a b c=>obtain ⟨e,rfl,h⟩:=h;rfl
 |part t o a b c=>obtain ⟨e,rfl,h⟩:=h;rfl
 |pa t r i a o=>obtain ⟨rfl,h⟩:=h;rfl
 |pb t i o=>obtain ⟨e,rfl,h⟩:=h;rfl
 |bI cs o=>obtain ⟨ps,rfl,h⟩:=h;rfl
 |eL f a b=>obtain ⟨pa,pb,rfl,h⟩:=h;rfl
theorem RL.xF {s:List SB}: ∀{cs:List SV} {ps:List PV},RL s cs ps->Vm.xF cs=amz->ps.all PV.pS=amz
 | [],ps,h,_=>by rw [show ps=[] from h];rfl
 |x::xs,ps,h,ho=>by
  obtain ⟨p,q,rfl,h1,h2⟩:=h.cons_inv;simp only [Vm.xF,v6] at ho;simp only [ajD,v6];exact ⟨h1.pS ho.1,h2.xF ho.2⟩
theorem R.stored {s:List SB} {v:SV} {p:PV} {w:List SV} (h:R s v p) (hs:v.stored=amx w): ∃q,p.stored=amx q/\RL s w q:=by
 unfold SV.stored at hs;cases ha:Vm.xF v.cells with
 |false=>rw [ha] at hs;cases hs
 |true=>
  rw [ha] at hs;injection hs with hs;subst hs;have hj:v≠ .iS:=by intro e;subst e;cases ha
  have hc:=h.cells hj;exact ⟨p.cells,by unfold PV.stored;rw [pp (hc.xF ha)],hc⟩
theorem R.ofRow {s:List SB} {v:SV} {p:PV} {r:List PT} {a:RT r} (h:R s v p) (hr:RT.of r v.cells=amx a):p.cL=amx (RT.pv r a)/\amw v.cells=(amw r):=by
 have hc:=RT.pz hr;have hl:(amw v.cells)=(amw r):=by rw [hc,RT.I5]
 refine ⟨?_,hl⟩;have hj:v≠ .iS:=by
  intro e;subst e;cases r with
  |nil=>simp [SV.cells,RT.of] at hr
  |cons p q=>cases q with
   |nil=>cases p<;>simp [SV.cells,RT.of,PT.of] at hr
   |cons _ _=>simp only [SV.cells,RT.of] at hr;split at hr<;>cases hr<;>(rename_i x y h1 h2;simp at h2)
 have h1:=h.cells hj;rw [hc] at h1;have h2:=yF r a h1;unfold PV.cL;rw [h2,pp (RT.plain r a)]
theorem s5 {s:List SB} {agg:Option Nat} {off:Nat} {cs:List SV} {ps:List PV} {v:SV} (h:RL s cs ps) (hp:zk agg off cs=amx v): ∃p,part agg off ps=amx p/\R s v p:=by
 cases agg with
 |none=>
  obtain ⟨p,h1,h2⟩:=h.nth hp;exact ⟨p,h1,h2⟩
 |some n=>
  simp only [zk] at hp;cases hb:M2 (off+n) (amw cs) with
  |false=>rw [hb] at hp;cases hp
  |true=>
   rw [hb] at hp;injection hp with hp;subst hp
   have:off+n<=(amw ps):=by rw [h.mK];exact UV hb
   exact ⟨.agg ((ps.drop off).take n),by simp only [part,pp this],_,rfl,(h.drop off).take n⟩
theorem yG {s:List SB} {off:Nat} {new old:List SV} {pn po:List PV} (h:RL s new pn) (k:RL s old po):RL s (px off new old) (nH off pn po):=by
 unfold px nH;rw [h.mK];exact ((k.take off).append h).append (k.drop _)
theorem PR {s:List SB} {ps:cK} {v:SV} {p:PV} {r:List PT} {l:List (RT r)} (hs:cM s ps) (h:R s v p) (hc:zl s v=amx ⟨r,l⟩):
 rowsOf ps (amw r) p=amx (l.map (RT.pv r))/\iO p=vB v:=by
 cases v with
 |sl q m=>
  have B2:(⟨q,m⟩:Rows)=⟨r,l⟩:=by injection hc
  cases B2;rw [show p=_ from h];refine ⟨?_,rfl⟩;cases l with
  |nil=>rfl
  |cons a l=>simp [rowsOf]
 |own t ex=>
  simp only [zl,cy] at hc;split at hc
  · rename_i q m ck
    have B2:(⟨q,m⟩:Rows)=⟨r,l⟩:=by injection hc
    cases B2;obtain ⟨e,n,rfl,db⟩:=h;rcases db with ⟨q',m',h1,rfl,rfl⟩|h1
    · rw [ck] at h1
      injection h1 with h1;cases h1;obtain ⟨b,h2,h3⟩:=hs.at_ t _ ck;rw [show b=_ from h3] at h2;refine ⟨?_,rfl⟩;simp only [rowsOf,aev,if_true,h2,aeE];rw [aeC (by simp)]
    rw [ck] at h1;cases h1
  cases hc
 |pre t len cap ex=>
  simp only [zl,cy] at hc;split at hc
  · rename_i q m ck
    have B2:(⟨q,m.take len⟩:Rows)=⟨r,l⟩:=by injection hc
    cases B2;obtain ⟨e,rfl,db⟩:=h;rcases db with ⟨q',m',h1,rfl⟩|h1|⟨_,h1,_⟩
    · rw [ck] at h1
      injection h1 with h1;cases h1;obtain ⟨b,h2,h3⟩:=hs.at_ t _ ck;rw [show b=_ from h3] at h2;refine ⟨?_,rfl⟩;simp only [rowsOf,aev,if_true,h2];simp
    · rw [ck] at h1;cases h1
    rw [ck] at h1;cases h1
  cases hc
 |part t off len cap ex=>
  simp only [zl,cy] at hc;split at hc
  · rename_i q m ck
    have B2:(⟨q,(m.drop off).take len⟩:Rows)=⟨r,l⟩:=by injection hc
    cases B2;obtain ⟨e,rfl,db⟩:=h;rcases db with ⟨q',m',h1,rfl⟩|h1|⟨_,h1,_⟩
    · rw [ck] at h1
      injection h1 with h1;cases h1;obtain ⟨b,h2,h3⟩:=hs.at_ t _ ck;rw [show b=_ from h3] at h2;refine ⟨?_,rfl⟩;simp only [rowsOf,aev,if_true,h2];simp
    · rw [ck] at h1;cases h1
    rw [ck] at h1;cases h1
  cases hc
 |_=>cases hc
end Go.Vm
/- Operation by operation: what the typed machine does, the logical machine does; the easy ones. -/
namespace Go.Vm
structure Good (s:List SB) (ps:cK) (sr:fQ) (pr:nI):Prop where
 rd:pr.rd=sr.rd
 fr:pr.fr=sr.fr
 wr:pr.wr.map (·.1)=xJ sr.wr
 nw:vj pr.wr=amz
 nl:(amw pr.news)=amw sr.news
 aE:cM (sr.nb s) (Km (fZ pr.wr ps) pr.news)
 v:R (sr.nb s) sr.v pr.v
 fra:Fr (xJ sr.wr) s (sr.nb s)
section
variable {s : List SB} {ps : cK}
theorem Good.val (hS:cM s ps) {v:SV} {p:PV} {rd fr:List Nat} (hv:R s v p):Good s ps {v,rd,fr} {v:=p,rd,fr} where
 rd:=rfl
 fr:=rfl
 wr:=rfl
 nw:=rfl
 nl:=rfl
 aE:=by simp only [fQ.nb,mc,ae5,fZ,Km];exact hS
 v:=by simp only [fQ.nb,mc,ae5];exact hv
 fra:=by simp only [fQ.nb,mc,ae5];exact Fr.refl _ _
theorem Good.news (hS:cM s ps) {v:SV} {p:PV} {l:List SB} {q:cK} {rd:List Nat} (hl:(amw q)=amw l) (hb: ∀(j:Nat) (b:SB),l[j]? =amx b-> ∃x,q[j]? =amx x/\RB (s++l) b x) (hv:R (s++l) v p):
 Good s ps {v,news:=l,rd} {v:=p,news:=q,rd} where
 rd:=rfl
 fr:=rfl
 wr:=rfl
 nw:=rfl
 nl:=hl
 aE:=by simp only [fQ.nb,mc,fZ,qV];exact hS.app hl hb
 v:=by simp only [fQ.nb,mc];exact hv
 fra:=by simp only [fQ.nb,mc];exact Fr.app _ _ _
theorem Good.new (hS:cM s ps) {v:SV} {p:PV} {b:SB} {q:jR} {rd:List Nat} (hb:RB (s++[b]) b q) (hv:R (s++[b]) v p):Good s ps {v,news:=[b],rd} {v:=p,news:=[q],rd}:=
 Good.news hS rfl (fun j x h=>by
  cases j with
  |zero=>simp at h;subst h;exact ⟨q,rfl,hb⟩
  |succ j=>simp at h) hv
def PS (b0 b:SB):Prop:=
 match b0 with
 | .arr r l=>(∃l',b= .arr r l'/\amw l'=amw l)\/b= .dead
 | .dead=>b= .dead
 | .box _=>(∃cs,b= .box cs)\/b= .dead
 |_=>True
theorem Fr.set {t:Nat} {b0 b:SB} (h0:s[t]? =amx b0) (hk:PS b0 b):Fr [t] s (s.set t b):=fun u x hu=>by
 by_cases Nf:t=u
 · subst Nf
   rw [h0] at hu;injection hu with hu;subst hu;have dI:=(ww.1 h0).1;have hb:(s.set t b)[t]? =amx b:=by simp [dI]
   cases b0 with
   |arr r l=>
    rcases hk with ⟨l',rfl,hl⟩|rfl
    · exact .inl ⟨l',hb,hl,fun h=>by simp [has] at h⟩
    exact .inr hb
   |dead=>rw [show b= .dead from hk] at hb ⊢;exact hb
   |box cs=>
    rcases hk with ⟨c2,rfl⟩|rfl
    · exact .inl ⟨c2,hb⟩
    exact .inr hb
   |_=>trivial
 have hb:(s.set t b)[u]? =amx x:=by rw [IR];simp [Nf,hu]
 cases x with
 |arr r l=>exact .inl ⟨l,hb,rfl,fun _=>rfl⟩
 |dead=>exact hb
 |box cs=>exact .inl ⟨cs,hb⟩
 |_=>trivial
theorem cM.put (hS:cM s ps) {t:Nat} {b0 b:SB} {q:jR} (h0:s[t]? =amx b0) (hk:PS b0 b) (hq:RB (BQ [t] (s.set t b)) (W9 [t] b) q):cM (BQ [t] (s.set t b)) (ps.set t q) where
 len:=by simp [vF,hS.len]
 at_:=fun u x hu=>by
  have dI:=(ww.1 h0).1;rw [ri] at hu
  by_cases Nf:t=u
  · subst Nf
    have hb:(s.set t b)[t]? =amx b:=by simp [dI]
    rw [hb] at hu;simp at hu;subst hu;exact ⟨q,by rw [IR];simp [hS.len,dI],hq⟩
  rw [IR] at hu
  simp only [Nf,if_false,aew] at hu;obtain ⟨y,hy,rfl⟩:=hu;obtain ⟨q',h1,h2⟩:=hS.at_ u y hy;exact ⟨q',by rw [IR];simp [Nf,h1],h2.fr (Fr.dg (Fr.set h0 hk))⟩
theorem Good.put (hS:cM s ps) {v:SV} {p:PV} {t:Nat} {b0 b:SB} {q:jR} {l:List SB} {ql:cK} {rd:List Nat} (h0:s[t]? =amx b0) (hk:PS b0 b) (hq:RB (BQ [t] (s.set t b)) (W9 [t] b) q)
 (hl:(amw ql)=amw l) (hb: ∀(j:Nat) (x:SB),l[j]? =amx x-> ∃y,ql[j]? =amx y/\RB (BQ [t] (s.set t b)++l) x y) (hv:R (BQ [t] (s.set t b)++l) v p):
 Good s ps {v,wr:=[(t,b)],news:=l,rd} {v:=p,wr:=[(t,q)],news:=ql,rd} where
 rd:=rfl
 fr:=rfl
 wr:=rfl
 nw:=rfl
 nl:=hl
 aE:=by
  simp only [fQ.nb,mc,fZ,qV,xJ,qI,A'];exact (hS.put h0 hk hq).app hl hb
 v:=by simp only [fQ.nb,mc,xJ,qI,A'];exact hv
 fra:=by
  simp only [fQ.nb,mc,xJ,qI,A'];exact (Fr.dg (Fr.set h0 hk)).trans (Fr.app _ _ _)
theorem Good.T5 (hS:cM s ps) {t:Nat} {b0 b:SB} {q:jR} {rd:List Nat} (h0:s[t]? =amx b0) (hk:PS b0 b) (hq:RB (BQ [t] (s.set t b)) (W9 [t] b) q):
 Good s ps {v:= .undef,wr:=[(t,b)],rd} {v:= .undef,wr:=[(t,q)],rd}:=
 Good.put hS h0 hk hq rfl (fun j x h=>by simp at h) rfl
end
section
variable {R' ρ : Type} {w : R' -> ρ} {y : ρ}
theorem bK {α:Type} {x:Option α} {k:α->gp R'} (h:lq x k ρ w=amx y): ∃a,x=amx a/\k a ρ w=amx y:=by
 cases x with
 |none=>cases h
 |some a=>exact ⟨a,rfl,h⟩
theorem cQ {α:Type} {x:Option α} {k:α->gp R'} (h:kX x k ρ w=amx y): ∃a,x=amx a/\k a ρ w=amx y:=NM h
theorem fh {c:Bool} {a b:gp R'} (h:gz c a b ρ w=amx y):(c=amz/\a ρ w=amx y)\/(c=amA/\b ρ w=amx y):=NN h
theorem cX {c:Bool} {a:gp R'} (h:(bif c then a else aN) ρ w=amx y):c=amz/\a ρ w=amx y:=by
 cases c
 · cases h
 exact ⟨rfl,h⟩
theorem rC {c:Bool} {a:gp R'} (h:(bif c then aN else a) ρ w=amx y):c=amA/\a ρ w=amx y:=by
 cases c
 · exact ⟨rfl,h⟩
 cases h
theorem iu {c:Bool} {a:gp R'} (h:gz c a aN ρ w=amx y):c=amz/\a ρ w=amx y:=by
 rcases fh h with ⟨h1,h2⟩|⟨_,h2⟩
 · exact ⟨h1,h2⟩
 cases h2
theorem vG {c:Bool} {a:gp R'} (h:gz c aN a ρ w=amx y):c=amA/\a ρ w=amx y:=by
 rcases fh h with ⟨_,h2⟩|⟨h1,h2⟩
 · cases h2
 exact ⟨h1,h2⟩
end
def gL {R':Type} (s:List SB) (ps:cK) (po:Option nI) (k:fQ->gp R') (ρ:Type) (w:R'->ρ) (y:ρ):Prop:=
 ∃sr pr,po=amx pr/\Good s ps sr pr/\k sr ρ w=amx y
section
variable {R' ρ : Type} {w : R' -> ρ} {y : ρ} {s : List SB} {ps : cK} {e : SE} {pe : Env} {z : List Nat} {k : fQ -> gp R'}
theorem gL.val (hS:cM s ps) {po:Option nI} {v:SV} {p:PV} (h:k {v} ρ w=amx y) (hp:po=amx {v:=p}) (hv:R s v p):gL s ps po k ρ w y:=
 ⟨_,_,hp,Good.val hS hv,h⟩
theorem gL.rd (hS:cM s ps) {po:Option nI} {v:SV} {p:PV} {rd:List Nat} (h:k {v,rd} ρ w=amx y) (hp:po=amx {v:=p,rd}) (hv:R s v p):gL s ps po k ρ w y:=
 ⟨_,_,hp,Good.val hS hv,h⟩
theorem mO (hE:dW s e pe) {x:fy} {a:IntKind} {n:Int} (h:bU e x= .int a n):x.ev pe= .int a n:=by
 have:=dK hE x;rw [h] at this;exact this
theorem Ba (hE:dW s e pe) {x:fy} {b:Bool} (h:bU e x= .bool b):x.ev pe= .bool b:=by
 have:=dK hE x;rw [h] at this;exact this
theorem RF (hE:dW s e pe) {x:fy} {v:SV} (h:bU e x=v):R s v (x.ev pe):=by
 have:=dK hE x;rwa [h] at this
theorem Lf (k:IntKind):fu k k=amz:=by cases k<;>rfl
theorem N4 (hS:cM s ps) {op:BinOp} {a:IntKind} {m n:Int} (h:NQ op a m n (ofV k) ρ w=amx y): ∃p,arith op a m n=amx p/\gL s ps (amx {v:=p}) k ρ w y:=by
 cases op with
 |quo=>
  obtain ⟨h1,h2⟩:=vG h;have hn:n≠0:=by intro e;subst e;cases h1
  exact ⟨_,by simp only [arith,rc hn],gL.val hS h2 rfl rfl⟩
 |rem=>
  obtain ⟨h1,h2⟩:=vG h;have hn:n≠0:=by intro e;subst e;cases h1
  exact ⟨_,by simp only [arith,rc hn],gL.val hS h2 rfl rfl⟩
 |shl=>cases h
 |shr=>cases h
 |_=>exact ⟨_,rfl,gL.val hS h rfl rfl⟩
theorem Xe (hE:dW s e pe) (hS:cM s ps) {op:BinOp} {a b:fy} (h:mb e s z (.bin op a b) k ρ w=amx y):gL s ps (bF pe ps z (.bin op a b)) k ρ w y:=by
 simp only [mb] at h;generalize ha:bU e a=va at h;cases va with
 |int ka m=>
  generalize hb:bU e b=vb at h;cases vb with
  |int kb n=>
   have h1:=mO hE ha;have h2:=mO hE hb;have key:(op≠ .shl)->(op≠ .shr)->(bif fu ka kb then NQ op ka m n (ofV k) else aN) ρ w=amx y->gL s ps (bF pe ps z (.bin op a b)) k ρ w y:=by
    intro n1 n2 h;obtain ⟨hk,h⟩:=cX h;obtain ⟨p,hp,hs⟩:=N4 hS h
    have:bF pe ps z (.bin op a b)=amx {v:=p}:=by
     simp only [bF,h1,h2];cases op<;>first|exact absurd rfl n1|exact absurd rfl n2|(simp only [Q2,hk,if_true,hp];rfl)
    rw [this];exact hs
   cases op with
   |shl=>
    obtain ⟨hc,h⟩:=vG h;have B2: ¬n<0:=by simpa using hc
    exact gL.val hS h (by simp only [bF,h1,h2,Q2,BS,rc B2];rfl) rfl
   |shr=>
    obtain ⟨hc,h⟩:=vG h;have B2: ¬n<0:=by simpa using hc
    exact gL.val hS h (by simp only [bF,h1,h2,Q2,BS,rc B2];rfl) rfl
   |_=>exact key (by intro e;cases e) (by intro e;cases e) h
  |_=>cases h
 |_=>cases h
theorem T6 (hE:dW s e pe) (hS:cM s ps) {neg:Bool} {a b:fy} (h:mb e s z (.Kf neg a b) k ρ w=amx y):gL s ps (bF pe ps z (.Kf neg a b)) k ρ w y:=by
 simp only [mb] at h;generalize ha:bU e a=va at h;cases va with
 |bool x=>
  generalize hb:bU e b=vb at h;cases vb with
  |bool x'=>
   refine gL.val hS h ?_ rfl;simp only [bF,Ba hE ha,Ba hE hb];cases neg<;>rfl
  |_=>cases h
 |_=>cases h
theorem T7: ∀{xs ys:List SV} {ps qs:List PV} {r:Bool},RL s xs ps->RL s ys qs->eqS xs ys=amx r->dB ps qs=amx r
 | [],[],ps,qs,r,h1,h2,h=>by rw [show ps=[] from h1,show qs=[] from h2];exact h
 |x::xs,b::ys,ps,qs,r,h1,h2,h=>by
  obtain ⟨p,ps,rfl,a1,a2⟩:=h1.cons_inv;obtain ⟨q,qs,rfl,b1,b2⟩:=h2.cons_inv;simp only [eqS] at h;split at h
  · rename_i ka m kb n
    have a1':p= .int ka m:=a1;have b1':q= .int kb n:=b1;subst a1' b1';cases hk:fu ka kb with
    |false=>rw [hk] at h;cases h
    |true=>
     rw [hk] at h;have hc:qB (.int ka m) (.int kb n)=amx (m==n):=by simp only [qB,hk,if_true]
     simp only [dB,hc];cases xs with
     |nil=>
      cases ys with
      |nil=>
       simp only [lw,EQ] at h;subst h;rw [show ps=[] from a2,show qs=[] from b2];cases m==n<;>rfl
      |cons _ _=>cases h
     |cons x2 xs2=>
      simp only [lw] at h;split at h
      · rename_i r' hr
        injection h with h;subst h;rw [T7 a2 b2 hr];cases m==n<;>rfl
      cases h
  cases h
 | [],_::_,ps,qs,r,h1,h2,h=>by cases h
 |_::_,[],ps,qs,r,h1,h2,h=>by cases h
theorem Xf (hE:dW s e pe) (hS:cM s ps) {n:Nat} {neg:Bool} {a b:fy} (h:mb e s z (.eqc n neg a b) k ρ w=amx y):gL s ps (bF pe ps z (.eqc n neg a b)) k ρ w y:=by
 simp only [mb] at h;generalize ha:bU e a=va at h;cases va with
 |agg xs=>
  generalize hb:bU e b=vb at h;cases vb with
  |agg ys=>
   obtain ⟨hl,h⟩:=cX h;obtain ⟨r,hr,h⟩:=bK h;obtain ⟨p,hp,h1⟩:=RF hE ha;obtain ⟨q,hq,h2⟩:=RF hE hb;refine gL.val hS h ?_ rfl;simp only [bF,hp,hq,h1.mK,h2.mK];rw [pp hl,T7 h1 h2 hr];cases neg<;>rfl
  |_=>cases h
 |_=>cases h
theorem aga (hE:dW s e pe) (hS:cM s ps) {op:UnOp} {a:fy} (h:mb e s z (.un op a) k ρ w=amx y):gL s ps (bF pe ps z (.un op a)) k ρ w y:=by
 simp only [mb] at h;cases op with
 |neg=>
  dsimp only at h;generalize ha:bU e a=va at h;cases va with
  |int ka n=>exact gL.val hS h (by simp only [bF,mO hE ha];rfl) rfl
  |_=>cases h
 |not=>
  dsimp only at h;generalize ha:bU e a=va at h;cases va with
  |bool b=>exact gL.val hS h (by simp only [bF,Ba hE ha];rfl) rfl
  |_=>cases h
 |_=>cases h
theorem T8 (hE:dW s e pe) (hS:cM s ps) {a:IntKind} {x:fy} (h:mb e s z (.conv a x) k ρ w=amx y):gL s ps (bF pe ps z (.conv a x)) k ρ w y:=by
 simp only [mb] at h;generalize ha:bU e x=va at h;cases va with
 |int ka n=>exact gL.val hS h (by simp only [bF,mO hE ha]) rfl
 |_=>cases h
theorem Xg (hE:dW s e pe) (hS:cM s ps) {x:fy} (h:mb e s z (.len x) k ρ w=amx y):gL s ps (bF pe ps z (.len x)) k ρ w y:=by
 simp only [mb] at h;have hx:=dK hE x;generalize bU e x=v at h hx;cases v with
 |nil e' c=>exact gL.val hS h (by simp only [bF,show x.ev pe= .sl e' c [] from hx];rfl) rfl
 |pre t len cap ex=>
  obtain ⟨e',hx,_⟩:=hx;exact gL.val hS h (by simp only [bF,hx]) rfl
 |part t off len cap ex=>
  obtain ⟨e',hx,_⟩:=hx;exact gL.val hS h (by simp only [bF,hx]) rfl
 |sl q m=>
  exact gL.val hS h (by simp only [bF,show x.ev pe=_ from hx,aem]) rfl
 |own t ex=>
  obtain ⟨c,hc,h⟩:=bK h;simp only [zl,cy] at hc;split at hc
  · rename_i q m ck
    injection hc with hc;subst hc;obtain ⟨e',n,hx,db⟩:=hx;rcases db with ⟨q',m',h1,rfl,rfl⟩|h1
    · rw [ck] at h1;injection h1 with h1;cases h1
      exact gL.val hS h (by simp only [bF,hx]) rfl
    rw [ck] at h1;cases h1
  cases hc
 |_=>obtain ⟨c,hc,h⟩:=bK h;cases hc
theorem Bb: ∀{l:List (Nat×Nat×SV)} {pl:List (Nat×Nat×PV)} {cs:List SV} {pc:List PV} {r:List SV},
 (amw pl=amw l/\ ∀(j:Nat) (a:Nat×Nat×SV),l[j]? =amx a-> ∃b,pl[j]? =amx (a.1,a.2.1,b)/\R s a.2.2 b)->RL s cs pc->vC l cs=amx r-> ∃q,mW pl pc=amx q/\RL s r q
 | [],pl,cs,pc,r,hl,hc,h=>by
  have:pl=[]:=afe.1 hl.1
  subst this;injection h with h;subst h;exact ⟨pc,rfl,hc⟩
 |(off,sz,v)::l,pl,cs,pc,r,hl,hc,h=>by
  cases pl with
  |nil=>simp at hl
  |cons p pl=>
   obtain ⟨b,h1,h2⟩:=hl.2 0 _ rfl;simp at h1;subst h1;simp only [vC] at h;split at h
   · rename_i w hw
     obtain ⟨q,hq,hqr⟩:=h2.stored hw;cases Xh:(NE (amw w) sz&&M2 (off+sz) (amw cs)) with
     |false=>rw [Xh] at h;cases h
     |true=>
      rw [Xh] at h;simp only [lw] at h;obtain ⟨q2,h3,h4⟩:=Bb (pl:=pl) ⟨by simpa using hl.1,fun j a ha=>hl.2 (j+1) a (by simpa using ha)⟩ (yG hqr hc) h
      refine ⟨q2,?_,h4⟩;simp only [mW,hq,hqr.mK,hc.mK];rw [pp Xh];exact h3
   cases h
theorem Lg (hE:dW s e pe): ∀(l:List (Nat×Nat×fy)),((l.map fun p=>(p.1,p.2.1,p.2.2.ev pe)).length=(xG e l).length/\ ∀(j:Nat) (a:Nat×Nat×SV),(xG e l)[j]? =amx a-> ∃b,(l.map fun p=>(p.1,p.2.1,p.2.2.ev pe))[j]? =amx (a.1,a.2.1,b)/\R s a.2.2 b)
 | []=>⟨rfl,fun j a h=>by simp [xG] at h⟩
 |p::l=>by
  obtain ⟨h1,h2⟩:=Lg hE l;refine ⟨by simp [xG] at h1 ⊢;omega,fun j a h=>?_⟩
  cases j with
  |zero=>simp [xG] at h;subst h;exact ⟨_,rfl,dK hE _⟩
  |succ j=>simp only [xG,aeF] at h;obtain ⟨b,h3,h4⟩:=h2 j a h;exact ⟨b,by simpa using h3,h4⟩
theorem RG (hE:dW s e pe) (hS:cM s ps) {zero:List PV} {parts:List (Nat×Nat×fy)} (h:mb e s z (.build zero parts) k ρ w=amx y):gL s ps (bF pe ps z (.build zero parts)) k ρ w y:=by
 simp only [mb] at h;obtain ⟨cs,hc,h⟩:=bK h;obtain ⟨q,hq,hr⟩:=Bb (Lg hE parts) (vE s zero) hc;exact gL.val hS h (by simp only [bF,hq];rfl) ⟨q,rfl,hr⟩
theorem Xi (hE:dW s e pe) (hS:cM s ps) {x:fy} (h:mb e s z (.box x) k ρ w=amx y):gL s ps (bF pe ps z (.box x)) k ρ w y:=by
 simp only [mb] at h;obtain ⟨cs,hc,h⟩:=bK h;obtain ⟨q,hq,hr⟩:=(dK hE x).stored hc;refine ⟨_,_,?_,Good.new hS (b:= .box cs) (q:= .box q) (v:= .bp (amw s) (amw cs) 0) (p:= .ptr (amw s) (amw cs) 0 0) (rd:=[]) ⟨q,rfl,hr.ext (Fr.app _ _ _)⟩ rfl,h⟩;simp only [bF,hq,hS.len,hr.mK]
theorem RH (hS:cM s ps) {cells:List PV} (h:mb e s z (.alloc cells) k ρ w=amx y):gL s ps (bF pe ps z (.alloc cells)) k ρ w y:=by
 simp only [mb] at h;refine ⟨_,_,?_,Good.new hS (b:= .box (A0 cells)) (q:= .box cells) (v:= .bp (amw s) (amw cells) 0) (p:= .ptr (amw s) (amw cells) 0 0) (rd:=[]) ⟨cells,rfl,vE _ _⟩ rfl,h⟩;simp only [bF,hS.len]
theorem T9 (hE:dW s e pe) (hS:cM s ps) {x:fy} (h:mb e s z (.Kg x) k ρ w=amx y):gL s ps (bF pe ps z (.Kg x)) k ρ w y:=by
 simp only [mb] at h;have hx:=dK hE x;generalize bU e x=v at h hx;cases v with
 |pa t r i a o=>exact gL.val hS h (by simp only [bF,hx.1]) ⟨rfl,hx.2⟩
 |pb t i o=>
  obtain ⟨e',h1,h2⟩:=hx;exact gL.val hS h (by simp only [bF,h1]) ⟨e',rfl,h2⟩
 |bp t n o=>exact gL.val hS h (by simp only [bF,show x.ev pe=_ from hx]) rfl
 |bI c o=>
  obtain ⟨q,h1,h2⟩:=hx;exact gL.val hS h (by simp only [bF,h1]) ⟨q,rfl,h2⟩
 |eL f a b=>
  obtain ⟨pa,pb,h1,h2⟩:=hx;exact gL.val hS h (by simp only [bF,h1]) ⟨pa,pb,rfl,h2⟩
 |_=>cases h
theorem T' (hE:dW s e pe) (hS:cM s ps) {off:Nat} {x:fy} (h:mb e s z (.Kh off x) k ρ w=amx y):gL s ps (bF pe ps z (.Kh off x)) k ρ w y:=by
 simp only [mb] at h;have hx:=dK hE x;generalize bU e x=v at h hx;cases v with
 |pa t r i a o=>exact gL.val hS h (by simp only [bF,hx.1]) ⟨rfl,hx.2⟩
 |pb t i o=>
  obtain ⟨e',h1,h2⟩:=hx;exact gL.val hS h (by simp only [bF,h1]) ⟨e',rfl,h2⟩
 |bp t n o=>exact gL.val hS h (by simp only [bF,show x.ev pe=_ from hx]) rfl
 |bI c o=>
  obtain ⟨q,h1,h2⟩:=hx;exact gL.val hS h (by simp only [bF,h1]) ⟨q,rfl,h2⟩
 |_=>cases h
theorem Xj (hE:dW s e pe) (hS:cM s ps) {agg:Option Nat} {off:Nat} {x:fy} (h:mb e s z (.jS agg off x) k ρ w=amx y):gL s ps (bF pe ps z (.jS agg off x)) k ρ w y:=by
 simp only [mb] at h;generalize hv:bU e x=v at h;cases v with
 |agg cs=>
  obtain ⟨v,h1,h⟩:=bK h;obtain ⟨q,h2,h3⟩:=RF hE hv;obtain ⟨p,h4,h5⟩:=s5 h3 h1;exact gL.val hS h (by simp only [bF,h2,h4];rfl) h5
 |_=>cases h
theorem Xk (hE:dW s e pe) (hS:cM s ps) {i:Nat} {x:fy} (h:mb e s z (.ext i x) k ρ w=amx y):gL s ps (bF pe ps z (.ext i x)) k ρ w y:=by
 simp only [mb] at h;generalize hv:bU e x=v at h;cases v with
 |cu cs=>
  obtain ⟨v,h1,h⟩:=bK h;obtain ⟨q,h2,h3⟩:=RF hE hv;obtain ⟨p,h4,h5⟩:=h3.nth h1;exact gL.val hS h (by simp only [bF,h2,h4];rfl) h5
 |_=>cases h
theorem Xl (hE:dW s e pe) (hS:cM s ps) {f:FuncId} {a b:List fy} (h:mb e s z (.mkf f a b) k ρ w=amx y):gL s ps (bF pe ps z (.mkf f a b)) k ρ w y:=by
 simp only [mb] at h;exact gL.val hS h rfl ⟨_,_,rfl,yE hE a,yE hE b⟩
theorem Xm (hS:cM s ps) {m:Option PV} (h:mb e s z (.mkm m) k ρ w=amx y):gL s ps (bF pe ps z (.mkm m)) k ρ w y:=by
 simp only [mb] at h;cases m with
 |none=>
  refine ⟨_,_,?_,Good.new hS (b:= .set []) (q:= .map []) (v:= .mp (amw s)) (p:= .mp (amw s)) (rd:=[]) rfl rfl,h⟩;simp only [bF,hS.len]
 |some m=>
  obtain ⟨p,_,h⟩:=bK h;refine ⟨_,_,?_,Good.new hS (b:= .aO p []) (q:= .map []) (v:= .mp (amw s)) (p:= .mp (amw s)) (rd:=[]) rfl rfl,h⟩;simp only [bF,hS.len]
theorem ae4: ∀{l:List SV} {q:List PV} {m:Bool} {a:IntKind} {n:Int} {v:SV},RL s l q->mmS m a n l=amx v-> ∃p,mmE m a n q=amx p/\R s v p
 | [],q,m,a,n,v,hl,h=>by
  rw [show q=[] from hl];injection h with h;subst h;exact ⟨_,rfl,rfl⟩
 |x::l,q,m,a,n,v,hl,h=>by
  obtain ⟨p,q,rfl,h1,h2⟩:=hl.cons_inv;simp only [mmS] at h;split at h
  · rename_i b c
    have Nc:p= .int b c:=h1;subst Nc;cases hk:fu a b with
    |true=>
     rw [hk] at h;obtain ⟨p,h3,h4⟩:=ae4 h2 h;refine ⟨p,?_,h4⟩;simp only [mmE,hk,if_true];rw [<- h3];cases m<;>rfl
    |false=>rw [hk] at h;cases h
  cases h
theorem agb (hE:dW s e pe) (hS:cM s ps) {m:Bool} {x:fy} {xs:List fy} (h:mb e s z (.mm m x xs) k ρ w=amx y):gL s ps (bF pe ps z (.mm m x xs)) k ρ w y:=by
 simp only [mb] at h;generalize hv:bU e x=v at h;cases v with
 |int a n=>
  obtain ⟨v,h1,h⟩:=bK h;obtain ⟨p,h2,h3⟩:=ae4 (yE hE xs) h1;exact gL.val hS h (by simp only [bF,mO hE hv,h2];rfl) h3
 |_=>cases h
theorem Ua (hE:dW s e pe) (hS:cM s ps) {c a b:fy} (h:mb e s z (.pick c a b) k ρ w=amx y):gL s ps (bF pe ps z (.pick c a b)) k ρ w y:=by
 simp only [mb] at h;generalize hv:bU e c=v at h;cases v with
 |bool x=>
  rcases fh h with ⟨rfl,h⟩|⟨rfl,h⟩
  · exact gL.val hS h (by simp only [bF,Ba hE hv]) (dK hE a)
  exact gL.val hS h (by simp only [bF,Ba hE hv]) (dK hE b)
 |_=>cases h
end
end Go.Vm
/- Operation by operation, second part: elements, blocks, slices, sets. -/
namespace Go.Vm
section
variable {R' ρ : Type} {w : R' -> ρ} {y : ρ} {s : List SB} {ps : cK} {e : SE} {pe : Env} {z : List Nat} {k : fQ -> gp R'}
theorem cM.arr (hS:cM s ps) {t:Nat} {r:List PT} {l:List (RT r)} (h:s[t]? =amx (.arr r l)):ps[t]? =amx (.arr (amw r) (l.map (RT.pv r))):=by
 obtain ⟨q,h1,h2⟩:=hS.at_ t _ h;rw [show q=_ from h2] at h1;exact h1
theorem cM.box (hS:cM s ps) {t:Nat} {cs:List SV} (h:s[t]? =amx (.box cs)): ∃q,ps[t]? =amx (.box q)/\RL s cs q:=by
 obtain ⟨q,h1,q',rfl,h2⟩:=hS.at_ t _ h;exact ⟨q',h1,h2⟩
theorem cM.an4 (hS:cM s ps) {t:Nat} {l:List (List Int)} (h:s[t]? =amx (.set l)):ps[t]? =amx (.map (l.map A9)):=by
 obtain ⟨q,h1,h2⟩:=hS.at_ t _ h;rw [show q=_ from h2] at h1;exact h1
theorem cM.Xn (hS:cM s ps) {t:Nat} {p:PT} {l:List (RT [.i .i64,p])} (h:s[t]? =amx (.aO p l)):ps[t]? =amx (.map (l.map (DB p))):=by
 obtain ⟨q,h1,h2⟩:=hS.at_ t _ h;rw [show q=_ from h2] at h1;exact h1
theorem OwnAt.inv {t e n:Nat} {r:List PT} {l:List (RT r)} (h:OwnAt s t e n) (hs:s[t]? =amx (.arr r l)):e=amw r/\n=(amw l):=by
 rcases h with ⟨q,m,h1,rfl,rfl⟩|h1
 · rw [hs] at h1;injection h1 with h1;cases h1;exact ⟨rfl,rfl⟩
 rw [hs] at h1;cases h1
theorem zo.inv {t e:Nat} {r:List PT} {l:List (RT r)} (h:zo s t e) (hs:s[t]? =amx (.arr r l)):e=(amw r):=by
 rcases h with ⟨q,m,h1,rfl⟩|h1|⟨cs,h1,_⟩
 · rw [hs] at h1;injection h1 with h1;cases h1;rfl
 · rw [hs] at h1;cases h1
 rw [hs] at h1;cases h1
theorem T4.inv {t:Nat} {q r:List PT} {i:Int} {a:RT q} {l:List (RT r)} (h:T4 s t q i a) (hs:s[t]? =amx (.arr r l)): ∃e:q=r,aI l i=amx (e▸a):=by
 rcases h with ⟨m,h1,h2⟩|h1
 · rw [hs] at h1;injection h1 with h1;cases h1;exact ⟨rfl,h2⟩
 rw [hs] at h1;cases h1
theorem af'.inv {t:Nat} {r:List PT} {i:Int} {l:List (RT r)} (h:af' s t i) (hs:s[t]? =amx (.arr r l)):(aI l i).isSome=amz:=by
 rcases h with ⟨q,m,h1,h2⟩|h1
 · rw [hs] at h1;injection h1 with h1;cases h1;exact h2
 rw [hs] at h1;cases h1
theorem fL {α:Type} {l:List α} {n:Nat} {i:Int} {a:α} (h:aI (l.take n) i=amx a): ∃m:Nat,i=aeZ m/\m<n/\l[m]? =amx a:=by
 obtain ⟨m,rfl,hm⟩:=m9 h;have dI:=(ww.1 hm).1;rw [aeA] at dI;have hmn:m<n:=by omega
 rw [If hmn] at hm;exact ⟨m,rfl,hmn,hm⟩
theorem Ub (hE:dW s e pe) (hS:cM s ps) {esz:Nat} {x i:fy} (h:mb e s z (.Ki esz x i) k ρ w=amx y):gL s ps (bF pe ps z (.Ki esz x i)) k ρ w y:=by
 simp only [mb] at h;generalize hi:bU e i=vi at h;cases vi with
 |int ki n=>
  have hi:=mO hE hi;have hx:=dK hE x;dsimp only at h;unfold aeV at h;generalize bU e x=v at h hx;cases v with
  |sl r l=>
   obtain ⟨he,h⟩:=cX h;obtain ⟨a,ha,hk⟩:=cQ h;obtain ⟨m,rfl,hm⟩:=m9 ha;refine gL.val hS (p:= .bI (RT.pv r a) 0) hk ?_ ⟨_,rfl,HD r a⟩;have hr:(l.map (RT.pv r))[m]? =amx (RT.pv r a):=by simp [hm]
   simp only [bF,hi,jU,show x.ev pe=_ from hx,hr,he,if_true]
  |own t ex=>
   simp only [cy] at h;generalize ck:s[t]? =b at h;cases b with
   |none=>cases h
   |some b=>
    cases b with
    |arr r l=>
     obtain ⟨he,h⟩:=cX h;obtain ⟨a,ha,hk⟩:=cQ h;obtain ⟨m,rfl,hm⟩:=m9 ha;obtain ⟨e',n',hx,db⟩:=hx;obtain ⟨rfl,rfl⟩:=db.inv ck;have dI:=(ww.1 hm).1;have h1:ajB m (amw l)=amz:=by simpa using dI
     refine gL.val hS (p:= .ptr t (amw r) m 0) hk ?_ ⟨rfl,.inl ⟨l,ck,ha⟩⟩;simp only [bF,hi,jU,hx,h1,he,aeu,if_true,afm]
    |_=>cases h
  |pre t len cap ex=>
   simp only [cy] at h;generalize ck:s[t]? =b at h;cases b with
   |none=>cases h
   |some b=>
    cases b with
    |arr r l=>
     obtain ⟨he,h⟩:=cX h;obtain ⟨a,ha,hk⟩:=cQ h;obtain ⟨m,rfl,dI,hm⟩:=fL ha;obtain ⟨e',hx,db⟩:=hx
     have:=db.inv ck
     subst this;have h1:ajB m len=amz:=by simpa using dI
     refine gL.val hS (p:= .ptr t (amw r) m 0) hk ?_ ⟨rfl,.inl ⟨l,ck,hm⟩⟩;simp only [bF,hi,jU,hx,h1,he,aeu,if_true,afm]
    |_=>cases h
  |part t off len cap ex=>
   simp only [cy] at h;generalize ck:s[t]? =b at h;cases b with
   |none=>cases h
   |some b=>
    cases b with
    |arr r l=>
     obtain ⟨he,h⟩:=cX h;obtain ⟨a,ha,hk⟩:=cQ h;obtain ⟨m,rfl,dI,hm⟩:=fL ha;rw [List.getElem?_drop] at hm;obtain ⟨e',hx,db⟩:=hx
     have:=db.inv ck
     subst this;have h1:ajB m len=amz:=by simpa using dI
     refine gL.val hS (p:= .ptr t (amw r) (off+m) 0) hk ?_ ⟨rfl,.inl ⟨l,ck,hm⟩⟩;simp only [bF,hi,jU,hx,h1,he,aeu,if_true]
    |_=>cases h
  |_=>cases h
 |_=>cases h
theorem Ab {n:Nat} {i:Int} {j:Nat} {f:Nat->gp R'}:K5 n i j f ρ w=amx y-> ∃m,i=aeZ m/\j<=m/\m<j+n/\f m ρ w=amx y:=by
 induction n generalizing j with
 |zero=>intro h;cases h
 |succ n ih=>
  intro h;rcases fh h with ⟨h1,h2⟩|⟨_,h2⟩
  · exact ⟨j,by simpa using h1,aig _,by omega,h2⟩
  obtain ⟨m,h3,h4,h5,h6⟩:=ih h2
  exact ⟨m,h3,by omega,by omega,h6⟩
theorem RI (hE:dW s e pe) (hS:cM s ps) {n esz:Nat} {p i:fy} (h:mb e s z (.CU n esz p i) k ρ w=amx y):gL s ps (bF pe ps z (.CU n esz p i)) k ρ w y:=by
 simp only [mb] at h;generalize hi:bU e i=vi at h;cases vi with
 |int ki j=>
  have hi:=mO hE hi;have hx:=dK hE p;generalize bU e p=v at h hx;cases v with
  |bp t m o=>
   obtain ⟨j',rfl,_,h2,h⟩:=Ab h;have h1:ajB j' n=amz:=by simp;omega
   exact gL.val hS h (by simp only [bF,hi,jU,h1,if_true,show p.ev pe=_ from hx]) rfl
  |bI c o=>
   obtain ⟨j',rfl,_,h2,h⟩:=Ab h;have h1:ajB j' n=amz:=by simp;omega
   obtain ⟨q,hq,hr⟩:=hx;exact gL.val hS h (by simp only [bF,hi,jU,h1,if_true,hq]) ⟨q,rfl,hr⟩
  |_=>cases h
 |_=>cases h
theorem Xo (hE:dW s e pe) (hS:cM s ps) {n esz:Nat} {agg:Option Nat} {x i:fy} (h:mb e s z (.idx n esz agg x i) k ρ w=amx y):gL s ps (bF pe ps z (.idx n esz agg x i)) k ρ w y:=by
 simp only [mb] at h;generalize hi:bU e i=vi at h;cases vi with
 |int ki j=>
  have hi:=mO hE hi;generalize hx:bU e x=v at h;cases v with
  |agg cs=>
   obtain ⟨j',rfl,_,h2,h⟩:=Ab h;have h1:ajB j' n=amz:=by simp;omega
   obtain ⟨v,hv,h⟩:=bK h;obtain ⟨q,hq,hr⟩:=RF hE hx;obtain ⟨p,hp,hpr⟩:=s5 hr hv;exact gL.val hS h (by simp only [bF,hi,jU,h1,if_true,hq,hp];rfl) hpr
  |_=>cases h
 |_=>cases h
theorem Uc (hE:dW s e pe) (hS:cM s ps) {x i:fy} (h:mb e s z (.Kj x i) k ρ w=amx y):gL s ps (bF pe ps z (.Kj x i)) k ρ w y:=by
 simp only [mb] at h;generalize hi:bU e i=vi at h;cases vi with
 |int ki j=>
  have hi:=mO hE hi;generalize hx:bU e x=v at h;cases v with
  |str t=>
   obtain ⟨b,hb,h⟩:=cQ h;have hx:=RF hE hx;cases j with
   |negSucc _=>cases hb
   |ofNat m=>
    simp only [aeU,aew] at hb;obtain ⟨c,hc,rfl⟩:=hb;exact gL.val hS h (by simp only [bF,hi,jU,show x.ev pe=_ from hx,hc]) rfl
  |_=>cases h
 |_=>cases h
theorem Ud (hE:dW s e pe) (hS:cM s ps) {agg:Option Nat} {p:fy} (h:mb e s z (.load agg p) k ρ w=amx y):gL s ps (bF pe ps z (.load agg p)) k ρ w y:=by
 simp only [mb] at h;have hx:=dK hE p;unfold aeW at h;generalize bU e p=v at h hx;cases v with
 |bp t n off=>
  simp only [cy] at h;generalize ck:s[t]? =b at h;cases b with
  |none=>cases h
  |some b=>
   cases b with
   |box cs=>
    obtain ⟨v,hv,h⟩:=bK h;obtain ⟨q,h1,h2⟩:=hS.box ck;obtain ⟨u,h3,h4⟩:=s5 h2 hv;refine gL.rd hS h ?_ h4;show oJ ps agg (p.ev pe)=_;rw [show p.ev pe=_ from hx];simp only [oJ,h1,aev,if_true,h3];rfl
   |_=>cases h
 |pa t r i a off=>
  simp only [cy] at h;generalize ck:s[t]? =b at h;cases b with
  |none=>cases h
  |some b=>
   cases b with
   |arr q l=>
    obtain ⟨v,hv,hk⟩:=bK h;obtain ⟨hx,db⟩:=hx;obtain ⟨rfl,hg⟩:=db.inv ck;obtain ⟨u,h3,h4⟩:=s5 (HD r a) hv;obtain ⟨m,rfl,hm⟩:=m9 hg;refine gL.rd hS hk ?_ h4;show oJ ps agg (p.ev pe)=_;rw [hx];have B':(l.map (RT.pv r))[m]? =amx (RT.pv r a):=by simp [hm]
    have e1:(aeZ m).toNat=m:=rfl;simp only [oJ,hS.arr ck,e1,B',h3];rfl
   |_=>cases h
 |pb t i off=>
  simp only [cy] at h;generalize ck:s[t]? =b at h;cases b with
  |none=>cases h
  |some b=>
   cases b with
   |arr r l=>
    obtain ⟨a,ha,h⟩:=cQ h;obtain ⟨v,hv,hk⟩:=bK h;obtain ⟨e',hx,db⟩:=hx;obtain ⟨u,h3,h4⟩:=s5 (HD r a) hv;obtain ⟨m,rfl,hm⟩:=m9 ha;refine gL.rd hS hk ?_ h4;show oJ ps agg (p.ev pe)=_;rw [hx];have B':(l.map (RT.pv r))[m]? =amx (RT.pv r a):=by simp [hm]
    have e1:(aeZ m).toNat=m:=rfl;simp only [oJ,hS.arr ck,e1,B',h3];rfl
   |_=>cases h
 |bI cs off=>
  obtain ⟨v,hv,h⟩:=bK h;obtain ⟨q,hq,hr⟩:=hx;obtain ⟨u,h3,h4⟩:=s5 hr hv;refine gL.val hS h ?_ h4;show oJ ps agg (p.ev pe)=_;rw [hq];simp only [oJ,h3];rfl
 |_=>cases h
theorem I7 (hS:cM s ps) {t:Nat} {r:List PT} {l:List (RT r)} (ck:s[t]? =amx (.arr r l)) {i:Int} {b:RT r} {rd:List Nat}:
 Good s ps {v:= .undef,wr:=[(t,.arr r (cj l i b))],rd} {v:= .undef,wr:=[(t,.arr (amw r) ((l.map (RT.pv r)).set i.toNat (RT.pv r b)))],rd}:=
 Good.T5 hS ck (.inl ⟨_,rfl,by simp⟩) (by show _=_;simp [cj,alt])
theorem RJ (hE:dW s e pe) (hS:cM s ps) {sz:Nat} {p x:fy} (h:mb e s z (.store sz p x) k ρ w=amx y):gL s ps (bF pe ps z (.store sz p x)) k ρ w y:=by
 simp only [mb] at h;have hx:=dK hE p;have hv:=dK hE x;unfold TQ at h;generalize bU e p=v at h hx;generalize bU e x=u at h hv;cases v with
 |bp t n off=>
  simp only [cy] at h;generalize ck:s[t]? =b at h;cases b with
  |none=>cases h
  |some b=>
   cases b with
   |box cs=>
    obtain ⟨w',hw,h⟩:=bK h;obtain ⟨hc,h⟩:=cX h;obtain ⟨q,h1,h2⟩:=hv.stored hw;obtain ⟨b,h3,h4⟩:=hS.box ck;have rQ:=Fr.dg (ts:=[t]) (Fr.set (b:= .box (px off w' cs)) ck (.inl ⟨_,rfl⟩));refine ⟨_,_,?_,Good.T5 hS (b:= .box (px off w' cs)) (q:= .box (nH off q b)) (rd:=[]) ck (.inl ⟨_,rfl⟩) ⟨_,rfl,RL.fr rQ (yG h2 h4)⟩,h⟩
    show rM ps z sz (x.ev pe) (p.ev pe)=_
    rw [show p.ev pe=_ from hx];simp only [rM,h3,h1,h2.mK,h4.mK];rw [pp (by simpa using hc)]
   |_=>cases h
 |pa t r i a off=>
  simp only [cy] at h;generalize ck:s[t]? =b at h;cases b with
  |none=>cases h
  |some b=>
   cases b with
   |arr q l=>
    obtain ⟨hc,h⟩:=cX h;obtain ⟨a',EN,hk⟩:=bK h;obtain ⟨hx,db⟩:=hx;obtain ⟨rfl,hg⟩:=db.inv ck;obtain ⟨m,rfl,hm⟩:=m9 hg;refine ⟨_,_,?_,I7 hS ck (rd:=[]),hk⟩;show rM ps z sz (x.ev pe) (p.ev pe)=_;rw [hx];have B':(l.map (RT.pv r))[m]? =amx (RT.pv r a):=by simp [hm]
    have e1:(aeZ m).toNat=m:=rfl;simp only [v6,adc] at hc;obtain ⟨⟨c1,c2⟩,c3⟩:=hc;have hj:u≠ .iS:=by
     intro e;subst e
     have:=RT.pz EN
     have hq:=congrArg (fun l=>l[off]?) this
     have k7:=UV c2;have qz:sz=1:=by have:=ut c1;simpa [SV.cells] using this.symm
     have dI:off<(amw r):=by omega
     have Hh:off<(RT.sv r a).length:=by rw [RT.I5];exact dI
     simp only [px,SV.cells] at hq;rw [AC (by simp;omega),Do (by simp;omega)] at hq
     simp only [aeA,agd (alu Hh),amu,afO] at hq
     have: ∀(r:List PT) (b:RT r) (n:Nat),(RT.sv r b)[n]?≠amx .iS:=by
      intro r
      induction r with
      |nil=>intro b n h;simp [RT.sv] at h
      |cons p rest ih=>
       intro b n;cases rest with
       |nil=>cases n<;>cases p<;>simp [RT.sv,PT.sv]
       |cons p2 an5=>cases n with
        |zero=>cases p<;>simp [RT.sv,PT.sv]
        |succ n=>simpa [RT.sv] using ih b.2 n
     exact this r a' off hq.symm
    have E5:=hv.cells hj;have uB:=RT.pz EN;have h5:RL s (RT.sv r a') (nH off (x.ev pe).cells (RT.pv r a)):=by
     rw [<- uB];exact yG E5 (HD r a)
    have h6:=yF r a' h5;have N5:(x.ev pe).cL=amx (x.ev pe).cells:=by
     unfold PV.cL;rw [pp ?_];have qY:=RT.plain r a';rw [<- h6] at qY;unfold nH at qY;simp only [amq,v6] at qY;exact qY.1.2
    simp only [rM,hS.arr ck,e1,B',N5,E5.mK,RT.vD];rw [pp (by simp [c1,c2,c3])]
    simp only [h6]
   |_=>cases h
 |pb t i off=>
  simp only [cy] at h;generalize ck:s[t]? =b at h;cases b with
  |none=>cases h
  |some b=>
   cases b with
   |arr r l=>
    obtain ⟨hc,h⟩:=cX h;obtain ⟨e',hx,db⟩:=hx;have vv:=db.inv ck;rw [afK] at vv;obtain ⟨a0,hg⟩:=vv;obtain ⟨m,rfl,hm⟩:=m9 hg;have B':(l.map (RT.pv r))[m]? =amx (RT.pv r a0):=by simp [hm]
    have e1:(aeZ m).toNat=m:=rfl;simp only [v6,adc] at hc;obtain ⟨⟨c1,c2⟩,c3⟩:=hc;cases qz:NE sz (amw r) with
    |true=>
     rw [qz] at h;obtain ⟨a',EN,hk⟩:=bK h;obtain ⟨hp,hl⟩:=hv.ofRow EN;have Nu:=ut qz;have B0:off=0:=by have:=UV c2;omega
     subst B0;refine ⟨_,_,?_,I7 hS ck (rd:=[]),hk⟩;show rM ps z sz (x.ev pe) (p.ev pe)=_;rw [hx];simp only [rM,hS.arr ck,e1,B',hp,RT.vD];rw [pp (by rw [afm,Nu];simp [c3])]
     have:nH 0 (RT.pv r a') (RT.pv r a0)=RT.pv r a':=by
      unfold nH;rw [RT.vD,List.drop_of_length_le (by rw [RT.vD];omega)];simp
     rw [this]
    |false=>
     rw [qz] at h;obtain ⟨a,ha,h⟩:=cQ h;obtain ⟨a',EN,hk⟩:=bK h;rw [hg] at ha;injection ha with ha;subst ha;refine ⟨_,_,?_,I7 hS ck (rd:=[]),hk⟩;show rM ps z sz (x.ev pe) (p.ev pe)=_;rw [hx];have hj:u≠ .iS:=by
      intro e;subst e
      have:=RT.pz EN
      have hq:=congrArg (fun l=>l[off]?) this
      have k7:=UV c2;have qz:sz=1:=by have:=ut c1;simpa [SV.cells] using this.symm
      have dI:off<(amw r):=by omega
      have Hh:off<(RT.sv r a0).length:=by rw [RT.I5];exact dI
      simp only [px,SV.cells] at hq;rw [AC (by simp;omega),Do (by simp;omega)] at hq
      simp only [aeA,agd (alu Hh),amu,afO] at hq
      have: ∀(r:List PT) (b:RT r) (n:Nat),(RT.sv r b)[n]?≠amx .iS:=by
       intro r
       induction r with
       |nil=>intro b n h;simp [RT.sv] at h
       |cons p rest ih=>
        intro b n;cases rest with
        |nil=>cases n<;>cases p<;>simp [RT.sv,PT.sv]
        |cons p2 an5=>cases n with
         |zero=>cases p<;>simp [RT.sv,PT.sv]
         |succ n=>simpa [RT.sv] using ih b.2 n
      exact this r a' off hq.symm
     have E5:=hv.cells hj;have uB:=RT.pz EN;have h5:RL s (RT.sv r a') (nH off (x.ev pe).cells (RT.pv r a0)):=by
      rw [<- uB];exact yG E5 (HD r a0)
     have h6:=yF r a' h5;have N5:(x.ev pe).cL=amx (x.ev pe).cells:=by
      unfold PV.cL;rw [pp ?_];have qY:=RT.plain r a';rw [<- h6] at qY;unfold nH at qY;simp only [amq,v6] at qY;exact qY.1.2
     simp only [rM,hS.arr ck,e1,B',N5,E5.mK,RT.vD];rw [pp (by simp [c1,c2,c3])]
     simp only [h6]
   |_=>cases h
 |_=>cases h
end
end Go.Vm
/- Operation by operation, third part: slices, new blocks, append, sets; all of them together. -/
namespace Go.Vm
section
variable {R' ρ : Type} {w : R' -> ρ} {y : ρ} {s : List SB} {ps : cK} {e : SE} {pe : Env} {z : List Nat} {k : fQ -> gp R'}
def E6 (pe:Env) (o:Option fy):Option (Option Nat):=match o with|none=>amx amy|some a=>(jU (a.ev pe)).map amx
theorem uQ (hE:dW s e pe) {o:Option fy} {d a:Int} {n:Nat} (h:Cf e d o=amx a) (hd:d=aeZ n) (h0:0<=a): ∃b,E6 pe o=amx b/\b.getD n=a.toNat:=by
 cases o with
 |none=>
  injection h with h;subst h hd;exact ⟨amy,rfl,rfl⟩
 |some x=>
  simp only [Cf] at h;split at h
  · rename_i ka m hx
    injection h with h;subst h;obtain ⟨b,rfl⟩:=acl h0;refine ⟨amx b,?_,rfl⟩;simp only [E6,mO hE hx];rfl
  cases h
theorem Ac {esz:Nat} {x:fy} {lo hi mx:Option fy} {l h m:Option Nat} {v:PV} (he:uv esz (x.ev pe)=amz) (h1:E6 pe lo=amx l) (h2:E6 pe hi=amx h) (h3:E6 pe mx=amx m) (hv:qC (x.ev pe) l h m=amx v):
 bF pe ps z (.Q1 esz x lo hi mx)=amx {v:=v}:=by
 have e:bF pe ps z (.Q1 esz x lo hi mx)=(match E6 pe lo,E6 pe hi,E6 pe mx with|some l,amx h,amx m=>(qC (x.ev pe) l h m).map fun v=>({v}:nI)|_,_,_=>amy):=by
  simp only [bF,he,ajE,PP,if_false];rfl
 rw [e,h1,h2,h3];simp only [hv];rfl
theorem E7 {α:Type} {l r:List α} {lo hi:Int} (h:fP l lo hi=amx r): ∃a b:Nat,lo=aeZ a/\hi=aeZ b/\a<=b/\b<=amw l/\r=(l.drop a).take (b-a):=by
 unfold fP at h;split at h
 · rename_i hc
   obtain ⟨a,rfl⟩:=acl hc.1;obtain ⟨b,rfl⟩:=acl (afv hc.1 hc.2.1);injection h with h;exact ⟨a,b,rfl,rfl,by omega,by omega,by rw [<- h];simp⟩
 cases h
theorem I8 (hE:dW s e pe) (hS:cM s ps) {esz t off len cap:Nat} {ex:Bool} {x:fy} {lo hi mx:Option fy} (hx:x.ev pe= .own t esz off len cap ex) (db:zo s t esz) (h:NR e t off len cap ex lo hi mx k ρ w=amx y):
 gL s ps (bF pe ps z (.Q1 esz x lo hi mx)) k ρ w y:=by
 unfold NR at h;obtain ⟨a,ha,h⟩:=bK h;obtain ⟨b,hb,h⟩:=bK h;have he:uv esz (x.ev pe)=amz:=by rw [hx];simp [uv]
 cases mx with
 |none=>
  obtain ⟨hc,h⟩:=iu h;simp only [v6,decide_eq_true_eq] at hc;obtain ⟨⟨c1,c2⟩,c3⟩:=hc;obtain ⟨l,h1,h2⟩:=uQ hE (n:=0) ha rfl c1;obtain ⟨u,h3,h4⟩:=uQ hE (n:=len) hb rfl (afv c1 c2);refine gL.val hS h (Ac he h1 h3 (m:=amy) rfl ?_) ⟨esz,rfl,db⟩;rw [hx];have c4:(M2 a.toNat b.toNat&&M2 b.toNat cap)=amz:=by
   have c3':b<=(cap:Int):=c3
   simp;omega
  simp only [qC,h2,h4,c4,if_true]
 |some mo=>
  dsimp only at h;generalize hm:bU e mo=vm at h;cases vm with
  |int km c=>
   obtain ⟨hc,h⟩:=iu h;simp only [v6,decide_eq_true_eq] at hc;obtain ⟨⟨⟨c1,c2⟩,c3⟩,c4⟩:=hc;obtain ⟨l,h1,h2⟩:=uQ hE (n:=0) ha rfl c1;obtain ⟨u,h3,h4⟩:=uQ hE (n:=len) hb rfl (afv c1 c2);have EE:0<=c:=afv (afv c1 c2) c3;obtain ⟨c,rfl⟩:=acl EE
   refine gL.val hS h (Ac he h1 h3 (m:=amx c) (by simp only [E6,mO hE hm];rfl) ?_) ⟨esz,rfl,db⟩
   rw [hx];have c5:(M2 a.toNat b.toNat&&M2 b.toNat c&&M2 c cap)=amz:=by
    have c4':(c:Int)<=(cap:Int):=c4
    simp;omega
   simp only [qC,h2,h4,c5,if_true];rfl
  |_=>cases h
theorem Xp (hE:dW s e pe) (hS:cM s ps) {esz:Nat} {x:fy} {lo hi mx:Option fy} (h:mb e s z (.Q1 esz x lo hi mx) k ρ w=amx y):gL s ps (bF pe ps z (.Q1 esz x lo hi mx)) k ρ w y:=by
 simp only [mb] at h;have hx:=dK hE x;unfold an0 at h;generalize bU e x=v at h hx;cases v with
 |sl r l=>
  cases mx with
  |some _=>cases h
  |none=>
   dsimp only at h;obtain ⟨he,h⟩:=cX h;have he:=ut he;obtain ⟨a,ha,h⟩:=bK h;obtain ⟨b,hb,h⟩:=bK h;obtain ⟨m,hm,hk⟩:=cQ h;obtain ⟨n1,n2,rfl,rfl,c1,c2,rfl⟩:=E7 hm;obtain ⟨u1,h1,h2⟩:=uQ hE (n:=0) ha rfl (by simp)
   obtain ⟨u2,h3,h4⟩:=uQ hE (n:=amw l) hb rfl (by simp)
   have hx':x.ev pe= .sl (amw r) amA (l.map (RT.pv r)):=hx;subst he;refine gL.val hS (p:= .sl (amw r) amA ((((l.drop n1).take (n2-n1))).map (RT.pv r))) hk (Ac (m:=amy) (by rw [hx'];simp [uv]) h1 h3 rfl ?_) rfl
   rw [hx'];have RE:u1.getD 0=n1:=by rw [h2];rfl
   have h4':u2.getD (l.map (RT.pv r)).length=n2:=by rw [aem,h4];rfl
   have c3:(M2 n1 n2&&M2 n2 (l.map (RT.pv r)).length)=amz:=by simp [c1,c2]
   simp only [qC,RE,h4',c3,if_true,Bool.false_and,aeB,afa]
 |own t ex=>
  simp only [cy] at h;generalize ck:s[t]? =b at h;cases b with
  |none=>cases h
  |some b=>
   cases b with
   |arr r l=>
    dsimp only at h;obtain ⟨he,hk⟩:=cX h;have he:=ut he;obtain ⟨e',n',hx,db⟩:=hx;obtain ⟨rfl,rfl⟩:=db.inv ck;subst he;have Dx:zo s t (amw r):= .inl ⟨r,l,ck,rfl⟩;have gen:NR e t 0 (amw l) (amw l) ex lo hi mx k ρ w=amx y->gL s ps (bF pe ps z (.Q1 (amw r) x lo hi mx)) k ρ w y:=fun h=>I8 hE hS hx Dx h
    have he:uv (amw r) (x.ev pe)=amz:=by rw [hx];simp [uv]
    cases mx with
    |some m=>cases lo<;>cases hi<;>exact gen hk
    |none=>
     cases lo with
     |some _=>cases hi<;>exact gen hk
     |none=>
      cases hi with
      |none=>
       refine gL.val hS hk (Ac (l:=amy) (h:=amy) (m:=amy) he rfl rfl rfl ?_) ⟨amw r,amw l,rfl,db⟩;rw [hx];simp [qC]
      |some ho=>
       dsimp only at hk;generalize hh:bU e ho=vh at hk;cases vh with
       |int kh b=>
        obtain ⟨m,hm,hk⟩:=cQ hk;obtain ⟨n1,n2,h0,rfl,c1,c2,rfl⟩:=E7 hm;refine gL.val hS hk (Ac (l:=amy) (h:=amx n2) (m:=amy) he rfl (by simp only [E6,mO hE hh];rfl) rfl ?_) ⟨amw r,rfl,Dx⟩
        rw [hx];have c3:(M2 0 n2&&M2 n2 (amw l))=amz:=by simp [c2]
        simp only [qC,afX,am8,c3,if_true];rfl
       |_=>cases hk
   |_=>cases h
 |pre t len cap ex=>
  simp only [cy] at h;generalize ck:s[t]? =b at h;cases b with
  |none=>cases h
  |some b=>
   cases b with
   |arr r l=>
    dsimp only at h;obtain ⟨he,hk⟩:=cX h;have he:=ut he;obtain ⟨e',hx,db⟩:=hx
    have:=db.inv ck
    subst this;subst he;have gen:NR e t 0 len cap ex lo hi mx k ρ w=amx y->gL s ps (bF pe ps z (.Q1 (amw r) x lo hi mx)) k ρ w y:=fun h=>I8 hE hS hx db h
    have he:uv (amw r) (x.ev pe)=amz:=by rw [hx];simp [uv]
    cases mx with
    |some m=>cases lo<;>cases hi<;>exact gen hk
    |none=>
     cases lo with
     |some _=>cases hi<;>exact gen hk
     |none=>
      cases hi with
      |none=>
       obtain ⟨hlc,hk⟩:=iu hk;refine gL.val hS hk (Ac (l:=amy) (h:=amy) (m:=amy) he rfl rfl rfl ?_) ⟨amw r,rfl,db⟩;rw [hx];have c3:(M2 0 len&&M2 len cap)=amz:=by simp [hlc]
       simp only [qC,afX,c3,if_true];simp
      |some ho=>
       dsimp only at hk;generalize hh:bU e ho=vh at hk;cases vh with
       |int kh b=>
        obtain ⟨hc,hk⟩:=iu hk;simp only [v6,decide_eq_true_eq] at hc;obtain ⟨c1,c2⟩:=hc;obtain ⟨b,rfl⟩:=acl c1;refine gL.val hS hk (Ac (l:=amy) (h:=amx b) (m:=amy) he rfl (by simp only [E6,mO hE hh];rfl) rfl ?_) ⟨amw r,rfl,db⟩
        rw [hx];have c3:(M2 0 b&&M2 b cap)=amz:=by
         have c2':(b:Int)<=(cap:Int):=c2
         simp;omega
        simp only [qC,afX,am8,c3,if_true];rfl
       |_=>cases hk
   |_=>cases h
 |part t off len cap ex=>
  simp only [cy] at h;generalize ck:s[t]? =b at h;cases b with
  |none=>cases h
  |some b=>
   cases b with
   |arr r l=>
    dsimp only at h;obtain ⟨he,hk⟩:=cX h;have he:=ut he;obtain ⟨e',hx,db⟩:=hx
    have:=db.inv ck
    subst this;subst he;exact I8 hE hS hx db hk
   |_=>cases h
 |_=>cases h
theorem mh {b:SB}:(s++[b])[amw s]? =amx b:=by simp
theorem fa: ∀{v:PV} {p:PT},gF v=amx p->p.pv p.zero=v
 | .int k n,p,h=>by
  simp only [gF] at h;split at h
  · injection h with h;subst h;rfl
  cases h
 | .bool b,p,h=>by
  simp only [gF] at h;split at h
  · injection h with h;subst h;rfl
  cases h
 | .undef,_,h| .jy,_,h| .str _,_,h| .agg _,_,h| .cu _,_,h| .sl _ _ _,_,h| .own _ _ _ _ _ _,_,h| .ptr _ _ _ _,_,h| .bI _ _,_,h| .mp _,_,h| .eL _ _ _,_,h| .dU,_,h=>by cases h
theorem Bc : ∀ {l : List PV} {r : List PT}, ET l = amx r -> RT.pv r (RT.zero r) = l
  | [], r, h => by injection h with h; subst h; rfl
  | v :: vs, r, h => by
    simp only [ET] at h
    split at h
    · rename_i p q h1 h2
      injection h with h; subst h
      have e1 := fa h1
      have e2 := Bc h2
      cases q with
      | nil =>
        have : vs = [] := by
          cases vs with
          | nil => rfl
          | cons a b => simp only [RT.pv] at e2; cases e2
        subst this
        show [p.pv p.zero] = _
        rw [e1]
      | cons p2 q2 =>
        show p.pv p.zero :: RT.pv (p2 :: q2) (RT.zero (p2 :: q2)) = _
        rw [e1, e2]
    cases h
theorem Xq (hE:dW s e pe) (hS:cM s ps) {esz:Nat} {zero:Row} {l c:fy} (h:mb e s z (.mks esz zero l c) k ρ w=amx y):gL s ps (bF pe ps z (.mks esz zero l c)) k ρ w y:=by
 simp only [mb] at h;generalize hl:bU e l=vl at h;cases vl with
 |int kl n=>
  generalize hc:bU e c=vc at h;cases vc with
  |int kc m=>
   obtain ⟨hnm,h1⟩:=iu h;obtain ⟨r,hr,h2⟩:=bK h1;obtain ⟨he,h3⟩:=cX h2;obtain ⟨x,hx,hk⟩:=cQ h3;have hnm:n=m:=by simpa using hnm
   subst hnm;have he:=ut he;subst he;unfold wU at hx;split at hx
   · rename_i En
     injection hx with hx;subst hx;obtain ⟨a,rfl⟩:=acl En.1;have h1:(M2 a a&&M2 a dH)=amz:=by simp [dH];omega
     refine ⟨_,_,?_,Good.new hS (b:= .arr r (aex (aeZ a).toNat (RT.zero r))) (q:= .arr (amw r) (aex a zero)) (v:= .own (amw s) amz) (p:= .own (amw s) (amw r) 0 a a amz) (rd:=[]) ?_ ?_,hk⟩
     · have e1:jU (.int kl (a:Int))=amx a:=rfl
       have e2:jU (.int kc (a:Int))=amx a:=rfl;simp only [bF,mO hE hl,mO hE hc,e1,e2];rw [pp h1,hS.len]
     · show _=_
       simp [Bc hr]
     exact ⟨amw r,a,rfl,.inl ⟨r,_,mh,rfl,by simp⟩⟩
   cases hx
  |_=>cases h
 |_=>cases h
def vH {α:Type}:List α->List (Nat×α)->List α
 |l,[]=>l
 |l,(i,a)::r=>vH (l.set i a) r
theorem E8 {α : Type} : ∀ (q : List (Nat × α)) (l : List α) (i : Nat), (vH l q)[i]? = (l[i]?).map fun z => rowAt i z q
  | [], l, i => by simp [vH, rowAt]
  | (j, a) :: q, l, i => by
    simp only [vH, rowAt]
    rw [E8 q (l.set j a) i, IR]
    by_cases WJ : j = i
    · subst WJ
      cases hl : l[j]? with
      | none =>
        have : ¬ j < (amw l) := by intro h; rw [F0s h] at hl; cases hl
        simp [this]
      | some z =>
        have : j < (amw l) := (ww.1 hl).1
        simp [this]
    have : NE j i = amA := by
      cases hb : NE j i with
      | false => rfl
      | true => exact absurd (ut hb) WJ
    simp [WJ, this]
theorem Lh {α:Type} (f:Nat->α): ∀(n i j:Nat),(I0 f i n)[j]? =if j<n then amx (f (i+j)) else amy
 |0,i,j=>by simp [I0]
 |n+1,i,0=>by simp [I0]
 |n+1,i,j+1=>by
  simp only [I0,aeF];rw [Lh f n (i+1) j,show i+1+j=i+(j+1) by omega]
  by_cases h:j<n
  · simp [h]
  simp [h]
theorem E9 {α:Type} (z:α) (n:Nat) (q:List (Nat×α)):vH (aex n z) q=I0 (fun i=>rowAt i z q) 0 n:=by
 apply alX;intro i;rw [E8,Lh]
 by_cases h:i<n
 · simp [h]
 simp [h]
theorem E' (hE:dW s e pe) {r:List PT} {n:Nat}: ∀{parts:List (Nat×fy)} {q:List (Nat×RT r)} {l:List (RT r)},PF r e n parts=amx q->amw l=n->
 pT (parts.map fun p=>(p.1,p.2.ev pe)) (l.map (RT.pv r)) (amw r)=amx ((vH l q).map (RT.pv r))
 | [],q,l,h,hl=>by injection h with h;subst h;rfl
 |p::parts,q,l,h,hl=>by
  simp only [PF] at h;split at h
  · rename_i a q' h1 h2
    cases hb:ajB p.1 n with
    |false=>rw [hb] at h;cases h
    |true=>
     rw [hb] at h;injection h with h;subst h;have hp:=((dK hE p.2).ofRow h1).1;simp only [aet,pT,hp,RT.vD,aem,hl,hb,aev,aeu,if_true,vH];rw [<- alt];exact E' hE h2 (by simp [hl])
  cases h
theorem RK (hE:dW s e pe) (hS:cM s ps) {esz n:Nat} {zero:Row} {parts:List (Nat×fy)} (h:mb e s z (.AD esz n zero parts) k ρ w=amx y):gL s ps (bF pe ps z (.AD esz n zero parts)) k ρ w y:=by
 simp only [mb] at h;obtain ⟨r,hr,h1⟩:=bK h;obtain ⟨he,h2⟩:=cX h1;obtain ⟨q,hq,hk⟩:=bK h2;have he:=ut he;subst he;have hf:=E' hE (l:=aex n (RT.zero r)) hq (by simp)
 rw [E9] at hf;have hz:(aex n (RT.zero r)).map (RT.pv r)=aex n zero:=by simp [Bc hr]
 rw [hz] at hf;refine ⟨_,_,?_,Good.new hS (b:= .arr r (I0 (fun i=>rowAt i (RT.zero r) q) 0 n)) (q:= .arr (amw r) ((I0 (fun i=>rowAt i (RT.zero r) q) 0 n).map (RT.pv r))) (v:= .own (amw s) amz) (p:= .own (amw s) (amw r) 0 n n amz) (rd:=[]) rfl ?_,hk⟩
 · simp only [bF,hf,hS.len]
   rfl
 refine ⟨amw r,n,rfl,.inl ⟨r,_,mh,rfl,?_⟩⟩
 rw [<- E9]
 have: ∀(q:List (Nat×RT r)) (l:List (RT r)),(vH l q).length=(amw l):=by
  intro q
  induction q with
  |nil=>intro l;rfl
  |cons p q ih=>intro l;simp [vH,ih]
 rw [this];simp
theorem PU: ∀{cs:List SV} {q:List PV} {l:List Int},RL s cs q->PG cs=amx l->q=l.map (.int .i64)
 | [],q,l,h,hi=>by injection hi with hi;subst hi;exact h
 |x::xs,q,l,h,hi=>by
  obtain ⟨p,q,rfl,h1,h2⟩:=h.cons_inv;simp only [PG] at hi;split at hi
  · rename_i n l' hx
    injection hi with hi;subst hi;rw [show p= .int .i64 n from h1,PU h2 hx];rfl
  cases hi
theorem Ue {v:SV} {p:PV} {n:Option Nat} {l:List Int} (h:R s v p) (hk:W6 n v=amx l):p=sO l/\jz n (sO l)=amz/\(sO l).cL=amx (sO l).cells/\(sO l).cells=l.map (.int .i64)/\(n=amy->amw l=1)/\(∀m,n=amx m->amw l=m/\m≠1):=by
 cases n with
 |none=>
  cases v with
  |int kk a=>
   cases kk with
   |i64=>
    injection hk with hk;subst hk;exact ⟨h,rfl,rfl,rfl,fun _=>rfl,fun m hm=>by cases hm⟩
   |_=>cases hk
  |_=>cases hk
 |some m=>
  cases v with
  |agg cs=>
   simp only [W6] at hk;cases hc:(NE (amw cs) m&&!Nat.beq m 1) with
   |false=>rw [hc] at hk;cases hk
   |true=>
    rw [hc] at hk;simp only [lw] at hk;simp only [v6,afA,adc] at hc;obtain ⟨c1,c2⟩:=hc;obtain ⟨q,rfl,hq⟩:=h;have SH:=PU hq hk;have cW:(amw l)=m:=by have:=hq.mK;rw [SH] at this;simp at this;omega
    have hm1:m≠1:=by intro e;subst e;cases c2
    have SL:sO l= .agg (l.map (.int .i64)):=by
     unfold sO;split
     · simp at cW;omega
     rfl
    refine ⟨by rw [SL,SH],by rw [SL];simp [jz,cW],?_,by rw [SL];rfl,(fun h=>(by cases h)),fun m' hm=>by injection hm with hm;subst hm;exact ⟨cW,hm1⟩⟩
    rw [SL];unfold PV.cL;rw [pp];simp [PV.cells,PV.plain]
  |_=>cases hk
theorem vI: ∀(a b:List Int),amw a=amw b->dB (a.map (.int .i64)) (b.map (.int .i64))=amx (a==b)
 | [],[],_=>rfl
 |x::a,y::b,h=>by
  have ih:=vI a b (by simpa using h)
  simp only [aet,dB,qB,Lf,if_true];cases Wz:x==y with
  |true=>simp only [ih];simp [al2,Wz]
  |false=>simp [al2,Wz]
 | [],_::_,h=>by simp at h
 |_::_,[],h=>by simp at h
theorem Ck {n : Option Nat} {a : List Int} (ha : (sO a).cells = a.map (.int .i64)) (hn : (n = amy -> (amw a) = 1) /\ (∀ m, n = amx m -> (amw a) = m /\ m ≠ 1)) : ∀ (l : List (List Int)) (i : Nat), (∀ r, ft n (sO a) (l.map A9) i = amx r -> (match r with | none => DA l a = amA | some j => i <= j /\ DA l a = amz /\ l[j - i]? = amx a))
  | [], i, r, h => by
    simp only [alZ, ft, EQ] at h
    subst h; rfl
  | b :: l, i, r, h => by
    simp only [aet, A9, ft] at h
    split at h
    · rename_i hk
      have hb : (sO b).cells = b.map (.int .i64) /\ (amw a) = (amw b) := by
        cases n with
        | none =>
          have hl := hn.1 rfl
          unfold sO at hk ⊢
          split at hk
          · exact ⟨rfl, by simpa using hl⟩
          cases hk
        | some m =>
          obtain ⟨hl, hm⟩ := hn.2 m rfl
          unfold sO at hk ⊢
          split at hk
          · cases hk
          simp only [jz, aem, afA] at hk
          exact ⟨rfl, by omega⟩
      rw [ha, hb.1, vI a b hb.2] at h
      cases Rb : a == b with
      | true =>
        rw [Rb] at h
        injection h with h; subst h
        have : a = b := by simpa using Rb
        subst this
        exact ⟨aig _, by simp [DA], by simp⟩
      | false =>
        rw [Rb] at h
        have := Ck ha hn l (i + 1) r h
        cases r with
        | none => simpa [DA, Rb] using this
        | some j =>
          obtain ⟨h1, h2, h3⟩ := this
          refine ⟨by omega, by simp only [DA] at h2; simp [DA, h2], ?_⟩
          rw [show j - i = (j - (i + 1)) + 1 by omega]; simpa using h3
    cases h
theorem Bd {n:Option Nat} {a:List Int} (ha:(sO a).cells=a.map (.int .i64)) (hn:(n=amy->amw a=1)/\(∀m,n=amx m->amw a=m/\m≠1)) {l:List (List Int)} (hl:l.all (fun b=>jz n (sO b))=amz): ∀i,∃r,ft n (sO a) (l.map A9) i=amx r:=by
 induction l with
 |nil=>intro i;exact ⟨amy,rfl⟩
 |cons b l ih=>
  intro i;simp only [ajD,v6] at hl;obtain ⟨r,hr⟩:=ih hl.2 (i+1);simp only [aet,A9,ft,hl.1,if_true];have hb:(sO b).cells=b.map (.int .i64)/\amw a=(amw b):=by
   have hk:=hl.1;cases n with
   |none=>
    have me:=hn.1 rfl;unfold sO at hk ⊢;split at hk
    · exact ⟨rfl,by simpa using me⟩
    cases hk
   |some m=>
    obtain ⟨me,hm⟩:=hn.2 m rfl;unfold sO at hk ⊢;split at hk
    · cases hk
    simp only [jz,aem,afA] at hk
    exact ⟨rfl,by omega⟩
  rw [ha,hb.1,vI a b hb.2];cases Rb:a==b with
  |true=>exact ⟨amx i,rfl⟩
  |false=>exact ⟨r,hr⟩
theorem C' {n:Option Nat} {a:List Int} (hn:(n=amy->amw a=1)/\(∀m,n=amx m->amw a=m/\m≠1)) {l:List (List Int)} (hl: ∀b∈l,amw b=amw a):l.all (fun b=>jz n (sO b))=amz:=by
 rw [aeD];intro b hb;have cW:=hl b hb;cases n with
 |none=>
  have h1:=hn.1 rfl;rw [h1] at cW
  match b,cW with
  | [x],_=>rfl
 |some m=>
  obtain ⟨h1,h2⟩:=hn.2 m rfl;unfold sO;split
  · rename_i x;simp at cW;omega
  simp [jz];omega
theorem Be {a:List Int} {l:List (List Int)} (h:nU a l=amz): ∀b∈l,amw b=(amw a):=by
 intro b hb;exact ut (aeD.1 h b hb)
theorem PT.an6 {s:List SB} {p:PT} {v:SV} {q:PV} {a:p.T} (h:R s v q) (ho:p.of v=amx a):q=p.pv a:=by
 cases p with
 |i k=>
  cases v with
  |int l n=>
   simp only [PT.of] at ho;cases hk:fu l k with
   |false=>rw [hk] at ho;cases ho
   |true=>
    rw [hk] at ho;obtain rfl:=fg.1 hk;injection ho with ho;subst ho;exact h
  |_=>cases ho
 |b=>
  cases v with
  |bool x=>
   injection ho with ho;subst ho;exact h
  |_=>cases ho
theorem Fa {β:Type} (g:Int×β->PV×PV) (hg: ∀x,(g x).1= .int .i64 x.1) (k:Int): ∀(l:List (Int×β)) (i:Nat),
 (∃j x,ft amy (.int .i64 k) (l.map g) i=amx (amx (i+j))/\l[j]? =amx x/\(∀z,p8 z l k=x.2)/\ ∀a,oL l k a=l.set j (k,a))\/
 (ft amy (.int .i64 k) (l.map g) i=amx amy/\(∀z,p8 z l k=z)/\ ∀a,oL l k a=l++[(k,a)])
 | [],i=> .inr ⟨rfl,fun _=>rfl,fun _=>rfl⟩
 |x::l,i=>by
  have hk:jz amy (g x).1=amz:=by rw [hg];rfl
  have he:dB (PV.int .i64 k).cells (g x).1.cells=amx (k==x.1):=by
   rw [hg];show dB [.int .i64 k] [.int .i64 x.1]=_;simp only [dB,qB,fu,if_true];cases k==x.1<;>rfl
  have hf:ft amy (.int .i64 k) ((x::l).map g) i=(match amx (k==x.1) with
   |some amz=>amx (amx i)
   |some amA=>ft amy (.int .i64 k) (l.map g) (i+1)
   |none=>amy):=by
   rw [aet];show (if jz amy (g x).1 then _ else amy)=_
   rw [pp hk,he];cases k==x.1<;>rfl
  cases hb:k==x.1 with
  |true=>
   rw [hb] at hf;exact .inl ⟨0,x,hf,rfl,fun z=>by simp only [p8,hb,lw],fun a=>by simp only [oL,hb,lw,List.set_cons_zero]⟩
  |false=>
   rw [hb] at hf;rcases Fa g hg k l (i+1) with ⟨j,y,h1,h2,h3,h4⟩|⟨h1,h2,h3⟩
   · refine .inl ⟨j+1,y,?_,by simpa using h2,fun z=>?_,fun a=>?_⟩
     · rw [hf];show ft amy (.int .i64 k) (l.map g) (i+1)=_
       rw [h1,show i+1+j=i+(j+1) by omega]
     · simp only [p8,hb,ol,h3]
     simp only [oL,hb,ol,h4,List.set_cons_succ]
   exact .inr ⟨hf.trans h1,fun z=>by simp only [p8,hb,ol,h2],fun a=>by simp only [oL,hb,ol,h3,afY]⟩
theorem Fb (p:PT) (k:Int) (l:List (RT [.i .i64,p])):
 (∃(j:Nat) (x:RT [.i .i64,p]),ft amy (.int .i64 k) (l.map (DB p)) 0=amx (amx j)/\l[j]? =amx x/\(∀z,p.get z l k=x.2)/\ ∀a,p.put l k a=l.set j (k,a))\/
 (ft amy (.int .i64 k) (l.map (DB p)) 0=amx amy/\(∀z,p.get z l k=z)/\ ∀a,p.put l k a=l++[(k,a)]):=by
 cases p with
 |i d=>
  rcases Fa (β:=Int) (DB (.i d)) (fun _=>rfl) k l 0 with ⟨j,x,h1,h2,h3,h4⟩|h
  · exact .inl ⟨j,x,by rw [h1,afm],h2,h3,h4⟩
  exact .inr h
 |b=>
  rcases Fa (β:=Bool) (DB .b) (fun _=>rfl) k l 0 with ⟨j,x,h1,h2,h3,h4⟩|h
  · exact .inl ⟨j,x,by rw [h1,afm],h2,h3,h4⟩
  exact .inr h
theorem PT.asL {s:List SB} (p:PT) (a:p.T):R s (p.sv a) (p.pv a):=by cases p<;>rfl
theorem PT.Li (p:PT) (a:p.T):(p.pv a).cL=amx [p.pv a]:=by cases p<;>rfl
theorem N6 (hE:dW s e pe) (hS:cM s ps) {n:Option Nat} {zero:PV} {ok:Bool} {m q:fy} (h:mb e s z (.lookup n zero ok m q) k ρ w=amx y):gL s ps (bF pe ps z (.lookup n zero ok m q)) k ρ w y:=by
 simp only [mb] at h;have hx:=dK hE m;generalize bU e m=v at h hx;cases v with
 |mp t=>
  simp only [cy] at h;generalize ck:s[t]? =b at h;cases b with
  |none=>cases h
  |some b=>
   cases b with
   |set l=>
    dsimp only at h;unfold PI at h;cases zero with
    |bool b=>
     cases b with
     |true=>cases h
     |false=>
      cases ok with
      |true=>cases h
      |false=>
       obtain ⟨a,ha,h1⟩:=bK h;obtain ⟨b,hb,hk⟩:=cQ h1;obtain ⟨k1,k2,k3,k4,k5⟩:=Ue (dK hE q) ha;unfold K3 at hb;cases uO:nU a l with
       |false=>rw [uO] at hb;cases hb
       |true=>
        rw [uO] at hb;injection hb with hb;subst hb;obtain ⟨r,hr⟩:=Bd k4 k5 (C' k5 (Be uO)) 0;have hf:=Ck k4 k5 l 0 r hr;refine gL.rd hS hk ?_ rfl;show sP ps n (.bool amA) amA (m.ev pe) (q.ev pe)=_;rw [show m.ev pe=_ from hx,k1];simp only [sP,hS.an4 ck,k2,if_true,hr];cases r with
        |none=>simp only at hf;simp [hf]
        |some j=>
         obtain ⟨_,h2,h3⟩:=hf
         have:(l.map A9)[j]? =amx (A9 a):=by simp at h3;simp [h3]
         simp [this,h2,A9]
    |_=>cases h
   |aO p l=>
    dsimp only at h;unfold PJ at h;cases n with
    |some _=>cases h
    |none=>
     cases ok with
     |true=>cases h
     |false=>
      have hq:=dK hE q;generalize bU e q=u at h hq;cases u with
      |int d a=>
       cases d with
       |i64=>
        obtain ⟨zv,hz,hk⟩:=bK h;have an7:=PT.an6 (N3 s zero) hz;refine gL.rd hS hk ?_ (PT.asL p _);show sP ps amy zero amA (m.ev pe) (q.ev pe)=_;rw [show m.ev pe=_ from hx,show q.ev pe=_ from hq];rcases Fb p a l with ⟨j,x,h1,h2,h3,_⟩|⟨h1,h2,_⟩
        · have h5:(l.map (DB p))[j]? =amx (DB p x):=by simp [h2]
          simp only [sP,hS.Xn ck,jz,if_true,h1,h5,h3,DB,PP,if_false]
        simp only [sP,hS.Xn ck,jz,if_true,h1,h2,an7,PP,if_false]
       |_=>cases h
      |_=>cases h
   |_=>cases h
 |_=>cases h
theorem Uf (hE:dW s e pe) (hS:cM s ps) {n:Option Nat} {m q x:fy} (h:mb e s z (.Ip n m q x) k ρ w=amx y):gL s ps (bF pe ps z (.Ip n m q x)) k ρ w y:=by
 simp only [mb] at h;have hx:=dK hE m;generalize bU e m=v at h hx;cases v with
 |mp t=>
  simp only [cy] at h;generalize ck:s[t]? =b at h;cases b with
  |none=>cases h
  |some b=>
   cases b with
   |set l=>
    obtain ⟨hz,h0⟩:=rC h;unfold TS at h0;have hv:=dK hE x;generalize bU e x=u at h0 hv;cases u with
    |bool b=>
     cases b with
     |false=>cases h0
     |true=>
      obtain ⟨a,ha,h1⟩:=bK h0;obtain ⟨b,hb,hk⟩:=cQ h1;obtain ⟨k1,k2,k3,k4,k5⟩:=Ue (dK hE q) ha;unfold K4 at hb;cases uO:nU a l with
      |false=>rw [uO] at hb;cases hb
      |true=>
       rw [uO] at hb;injection hb with hb;subst hb;obtain ⟨r,hr⟩:=Bd k4 k5 (C' k5 (Be uO)) 0;have hf:=Ck k4 k5 l 0 r hr;refine ⟨_,_,?_,Good.T5 hS (b:= .set (NP l a)) (q:= .map ((NP l a).map A9)) (rd:=[]) ck trivial rfl,hk⟩;show CW ps z n (m.ev pe) (q.ev pe) (x.ev pe)=_;rw [show m.ev pe=_ from hx,k1,show x.ev pe= .bool amz from hv]
       have p2:(PV.bool amz).cL=amx [.bool amz]:=rfl;simp only [CW,hS.an4 ck,k2,hz,af0,aeu,if_true,k3,p2,hr];cases r with
       |none=>simp only at hf;simp [NP,hf,A9]
       |some j=>
        obtain ⟨_,h2,h3⟩:=hf;have h5:l[j]? =amx a:=by simpa using h3
        have:(l.map A9).set j (sO a,.bool amz)=l.map A9:=by
         apply alX;intro i;rw [IR];split
         · rename_i k8
           subst k8;have dI:=(ww.1 h5).1;have h6:l[j]=a:=(ww.1 h5).2;simp [dI,h6,A9]
         rfl
        simp [NP,h2,this]
    |_=>cases h0
   |aO p l=>
    obtain ⟨hz,h0⟩:=rC h;unfold TU at h0;cases n with
    |some _=>cases h0
    |none=>
     have hq:=dK hE q;generalize bU e q=u at h0 hq;cases u with
     |int d a=>
      cases d with
      |i64=>
       obtain ⟨xv,hxv,hk⟩:=bK h0;have RM:=PT.an6 (dK hE x) hxv;refine ⟨_,_,?_,Good.T5 hS (b:= .aO p (p.put l a xv)) (q:= .map ((p.put l a xv).map (DB p))) (rd:=[]) ck trivial rfl,hk⟩;show CW ps z amy (m.ev pe) (q.ev pe) (x.ev pe)=_;rw [show m.ev pe=_ from hx,show q.ev pe=_ from hq,RM];have p1:(PV.int .i64 a).cL=amx [.int .i64 a]:=rfl
       rcases Fb p a l with ⟨j,x,h1,_,_,h3⟩|⟨h1,_,h3⟩
       · simp only [CW,hS.Xn ck,jz,hz,af0,aeu,if_true,p1,PT.Li,h1,h3,alt,DB]
       simp only [CW,hS.Xn ck,jz,hz,af0,aeu,if_true,p1,PT.Li,h1,h3,aeH,aet,alZ,DB]
      |_=>cases h0
     |_=>cases h0
   |_=>cases h
 |_=>cases h
theorem zo.fr' {s s':List SB} {bad:List Nat} {t e:Nat} (h:zo s t e) (hf:Fr bad s s'):zo s' t e:=by
 rcases h with ⟨r,l,h1,h2⟩|h1|⟨cs,h1,h2⟩
 · rcases hf t _ h1 with ⟨l',k1,_,_⟩|k1
   · exact .inl ⟨r,l',k1,h2⟩
   exact .inr (.inl k1)
 · exact .inr (.inl (hf t _ h1))
 rcases hf t _ h1 with ⟨c2,k1⟩|k1
 · exact .inr (.inr ⟨c2,k1,h2⟩)
 exact .inr (.inl k1)
theorem Ad {α:Type} {l r:List α} (h:bP l=amx r):r=l/\amw l<=1048576:=by
 unfold bP at h;split at h
 · injection h with h;exact ⟨h.symm,by assumption⟩
 cases h
theorem xK {α:Type} {l m r:List α} (h:bq l m=amx r):r=l++m/\amw l+amw m<=1048576:=by
 unfold bq at h;split at h
 · injection h with h;exact ⟨h.symm,by assumption⟩
 cases h
theorem s6: ∀(m l:List Row) (n:Nat),n+amw m<=amw l->kV n m l=eZ l n m
 | [],l,n,h=>by simp [kV,eZ]
 |a::m,l,n,h=>by
  simp only [ae0] at h;rw [kV,s6 m (l.set n a) (n+1) (by simp;omega)]
  unfold eZ;rw [List.take_set,List.drop_set];have hn:n<(amw l):=by omega
  have h1: ¬(n+1+amw m<=n):=by omega
  rw [pp (by omega)]
  have:(l.take (n+1)).set n a=l.take n++[a]:=by
   rw [List.take_succ_eq_append_getElem hn,List.set_append_right _ _ (by simp;omega)]
   simp [agd (alu hn)]
  rw [this];simp only [ae3,afY,List.nil_append,ae0];rw [show n+1+amw m=n+(amw m+1) by omega]
theorem Fc {α β:Type} (f:α->β) (l m:List α) (n:Nat):(eZ l n m).map f=eZ (l.map f) n (m.map f):=by
 simp [eZ,aeB,afa]
theorem Bf {α:Type} (l m:List α) (n:Nat) (h:n+amw m<=amw l):(eZ l n m).length=(amw l):=by
 simp [eZ];omega
theorem N7 (hE:dW s e pe) (hS:cM s ps) {esz:Nat} {x yy:fy} (h:mb e s z (.append esz x yy) k ρ w=amx y):gL s ps (bF pe ps z (.append esz x yy)) k ρ w y:=by
 simp only [mb] at h;have hx:=dK hE x;have Tx:=dK hE yy;unfold PH at h;generalize bU e yy=vy at h Tx;cases hc:zl s vy with
 |none=>rw [hc] at h;cases h
 |some cc=>
  obtain ⟨q,m⟩:=cc;rw [hc] at h;dsimp only at h;obtain ⟨he,h⟩:=cX h;have he:=ut he;obtain ⟨AB,B5⟩:=PR hS Tx hc;rw [he] at AB;have vJ:bF pe ps z (.append esz x yy)=iP ps z esz (x.ev pe) (yy.ev pe):=rfl;generalize bU e x=v at h hx;cases v with
  |nil e' c=>
   dsimp only at h;obtain ⟨AA,h⟩:=cX h;obtain ⟨m',B',hk⟩:=cQ h;obtain ⟨rfl,k7⟩:=Ad B';refine ⟨_,_,?_,Good.new hS (b:= .arr q m') (q:= .arr esz (m'.map (RT.pv q))) (v:= .own (amw s) amA) (p:= .own (amw s) esz 0 (amw m') (amw m') amA) (rd:=vB vy) (by rw [<- he];rfl) ⟨esz,amw m',rfl,.inl ⟨q,m',mh,he.symm,rfl⟩⟩,hk⟩
   rw [vJ];have asM:c=amz:=AA;subst asM;rw [show x.ev pe= .sl e' amz [] from hx];unfold iP;rw [AB];cases m' with
   |nil=>simp [hS.len,B5]
   |cons a m'=>
    have h2:M2 ((a::m').length) dH=amz:=by simp [dH] at k7 ⊢;omega
    simp only [ae0] at h2;simp [hS.len,B5,h2]
  |own t ex=>
   dsimp only at h;simp only [cy] at h;generalize ck:s[t]? =b at h;cases b with
   |none=>cases h
   |some b=>
    cases b with
    |arr r l=>
     dsimp only at h;cases Ug:rS q r m with
     |none=>rw [Ug] at h;cases h
     |some m2=>
      rw [Ug] at h;dsimp only at h;obtain ⟨rfl,hmp,Kb⟩:=A8 Ug;obtain ⟨e',n',hx,db⟩:=hx;obtain ⟨rfl,rfl⟩:=db.inv ck;rw [<- hmp] at AB;have GW:=hS.arr ck;cases ex with
      |true=>
       dsimp only at h;rcases fh h with ⟨hl,h⟩|⟨hl,h⟩
       · obtain ⟨m',B',hk⟩:=cQ h
         obtain ⟨rfl,k7⟩:=Ad B';have hl:l=[]:=by simpa using hl
         subst hl;refine ⟨_,_,?_,Good.new hS (b:= .arr q m') (q:= .arr (amw q) (m'.map (RT.pv q))) (v:= .own (amw s) amA) (p:= .own (amw s) (amw q) 0 (amw m') (amw m') amA) (rd:=t::vB vy) rfl ⟨amw q,amw m',rfl,.inl ⟨q,m',mh,rfl,rfl⟩⟩,hk⟩;rw [vJ,hx];unfold iP;rw [AB];subst he;cases m' with
         |nil=>simp [hS.len,B5]
         |cons a m'=>
          have h2:M2 ((a::m').length) dH=amz:=by simp [dH] at k7 ⊢;omega
          simp only [ae0] at h2;simp [hS.len,B5,h2,GW]
       have hl:l≠[]:=by intro e;subst e;cases hl
       have Ka:(amw l)≠0:=by intro e;exact hl (afe.1 e)
       have hb0:NE (amw l) 0=amA:=by
        cases hb:NE (amw l) 0 with
        |false=>rfl
        |true=>exact absurd (ut hb) Ka
       rcases fh h with ⟨hm,h⟩|⟨hm,h⟩
       · have hm:m2=[]:=by simpa using hm
         subst hm;refine gL.rd hS h ?_ ⟨_,_,rfl,db⟩;rw [vJ,hx];unfold iP;rw [AB];simp [hb0,B5]
       obtain ⟨l',me,hk⟩:=cQ h
       obtain ⟨rfl,k7⟩:=xK me;refine ⟨_,_,?_,Good.new hS (b:= .arr q (l++m2)) (q:= .arr (amw q) ((l++m2).map (RT.pv q))) (v:= .own (amw s) amA) (p:= .own (amw s) (amw q) 0 (l++m2).length (l++m2).length amA) (rd:=t::vB vy) rfl ⟨amw q,(l++m2).length,rfl,.inl ⟨q,l++m2,mh,rfl,rfl⟩⟩,hk⟩;rw [vJ,hx];unfold iP;rw [AB];subst he;cases m2 with
       |nil=>cases hm
       |cons a m2=>
        have h2:M2 (amw l+(a::m2).length) dH=amz:=by simp [dH] at k7 ⊢;omega
        have h3:M2 (amw l+(amw m2+1)) (amw l)=amA:=by
         cases hb:M2 (amw l+(amw m2+1)) (amw l) with
         |false=>rfl
         |true=>have:=UV hb;omega
        simp only [ae0] at h2;simp [hS.len,B5,h2,h3,GW,aeC]
      |false=>
       dsimp only at h;rcases fh h with ⟨hm,h⟩|⟨hm,h⟩
       · have hm:m2=[]:=by simpa using hm
         subst hm;refine gL.rd hS h ?_ ⟨_,_,rfl,db⟩;rw [vJ,hx];unfold iP;rw [AB];simp [B5]
       obtain ⟨hz,h⟩:=rC h
       obtain ⟨l',me,hk⟩:=cQ h;obtain ⟨rfl,k7⟩:=xK me;have cW:(BQ [t] (s.set t .dead)).length=(amw s):=by rw [vF];simp
       refine ⟨_,_,?_,Good.put hS (b:= .dead) (q:= .dead) (l:=[.arr q (l++m2)]) (ql:=[.arr (amw q) ((l++m2).map (RT.pv q))]) (v:= .own (amw s) amA) (p:= .own (amw s) (amw q) 0 (l++m2).length (l++m2).length amA) (rd:=vB vy) ck (.inr rfl) rfl rfl
        (fun j b hj=>by
         cases j with
         |zero=>simp at hj;subst hj;exact ⟨_,rfl,rfl⟩
         |succ j=>simp at hj)
        ⟨amw q,(l++m2).length,rfl,.inl ⟨q,l++m2,by rw [<- cW];exact mh,rfl,rfl⟩⟩,hk⟩
       rw [vJ,hx];unfold iP;rw [AB];subst he;cases m2 with
       |nil=>cases hm
       |cons a m2=>
        have h2:M2 (amw l+(a::m2).length) dH=amz:=by simp [dH] at k7 ⊢;omega
        have h3:M2 (amw l+(amw m2+1)) (amw l)=amA:=by
         cases hb:M2 (amw l+(amw m2+1)) (amw l) with
         |false=>rfl
         |true=>have:=UV hb;omega
        simp only [ae0] at h2;simp [hS.len,B5,h2,h3,GW,hz,aeC]
    |_=>cases h
  |pre t len cap ex=>
   dsimp only at h;simp only [cy] at h;generalize ck:s[t]? =b at h;cases b with
   |none=>cases h
   |some b=>
    cases b with
    |arr r l=>
     dsimp only at h;cases Ug:rS q r m with
     |none=>rw [Ug] at h;cases h
     |some m2=>
      rw [Ug] at h;dsimp only at h;obtain ⟨rfl,hmp,Kb⟩:=A8 Ug;obtain ⟨e',hx,db⟩:=hx
      have:=db.inv ck
      subst this;rw [<- hmp] at AB;have GW:=hS.arr ck;obtain ⟨hex,h⟩:=rC h;subst hex;rcases fh h with ⟨hm,h⟩|⟨hm,h⟩
      · have hm:m2=[]:=by simpa using hm
        subst hm;refine gL.rd hS h ?_ ⟨_,rfl,db⟩;rw [vJ,hx];unfold iP;rw [AB];simp [B5]
      rcases fh h with ⟨c1,h⟩|⟨c1,h⟩
      · obtain ⟨En,hk⟩:=iu h
        simp only [v6,adc] at En;obtain ⟨c2,c3⟩:=En;have c2':=UV c2
        refine ⟨_,_,?_,Good.put hS (b:= .arr q (eZ l len m2)) (q:= .arr (amw q) ((eZ l len m2).map (RT.pv q))) (l:=[]) (ql:=[]) (v:= .pre t (len+amw m2) cap amA) (p:= .own t (amw q) 0 (len+amw m2) cap amA) (rd:=vB vy) ck (.inl ⟨_,rfl,Bf _ _ _ c2'⟩) rfl rfl
         (fun j b hj=>by simp at hj) ⟨amw q,rfl,?_⟩,hk⟩
        · rw [vJ,hx]
          unfold iP;rw [AB];subst he;have kB:kV (0+len) (m2.map (RT.pv q)) (l.map (RT.pv q))=(eZ l len m2).map (RT.pv q):=by
           rw [s6 _ _ _ (by simp;omega),Fc,afm]
          cases m2 with
          |nil=>cases hm
          |cons a m2=>
           simp only [ae0] at c1;simp only [aet] at kB ⊢;simp only [GW,aev,ajE,PP,if_false,ae0,aem,c1,if_true,c3,kB,B5]
        have:=zo.fr' (s:=s) (s':=BQ [t] (s.set t (.arr q (eZ l len m2)))++[]) db ((Fr.dg (ts:=[t]) (Fr.set ck (.inl ⟨_,rfl,Bf _ _ _ c2'⟩))).trans (Fr.app [t] _ []))
        exact this
      obtain ⟨hz0,h⟩:=rC h
      have hz:has z t=amA:=by
       cases hh:has z t with
       |false=>rfl
       |true=>rw [hh] at hz0;cases hz0
      obtain ⟨l',me,h⟩:=cQ h;obtain ⟨zP,hk⟩:=iu h;obtain ⟨asN,k7⟩:=xK me;subst asN;have axw:=UV zP;have ND:(l.take len).length=len:=by rw [aeA];omega
      rw [ND] at k7;have cW:(BQ [t] (s.set t .dead)).length=(amw s):=by rw [vF];simp
      have hal:(l.take len++m2).length=len+(amw m2):=by rw [afI,ND]
      refine ⟨_,_,?_,Good.put hS (b:= .dead) (q:= .dead) (l:=[.arr q (l.take len++m2)]) (ql:=[.arr (amw q) ((l.take len++m2).map (RT.pv q))]) (v:= .own (amw s) amA) (p:= .own (amw s) (amw q) 0 (l.take len++m2).length (l.take len++m2).length amA) (rd:=vB vy) ck (.inr rfl) rfl rfl
       (fun j b hj=>by
        cases j with
        |zero=>simp at hj;subst hj;exact ⟨_,rfl,rfl⟩
        |succ j=>simp at hj)
       ⟨amw q,(l.take len++m2).length,rfl,.inl ⟨q,l.take len++m2,by rw [<- cW];exact mh,rfl,rfl⟩⟩,hk⟩
      rw [vJ,hx];unfold iP;rw [AB];subst he;cases m2 with
      |nil=>cases hm
      |cons a m2=>
       have h2:M2 (len+(amw m2+1)) dH=amz:=by simp [dH] at k7 ⊢;omega
       simp only [ae0] at c1 hal;simp only [aet,ae0,aem,GW,aev,ajE,PP,if_false,c1,h2,hz,hS.len,B5,hal,aeE,aeH,aeB]
    |_=>cases h
  |_=>cases h
end
end Go.Vm
/- Operation by operation: all of them. -/
namespace Go.Vm
section
variable {R' ρ : Type} {w : R' -> ρ} {y : ρ} {s : List SB} {ps : cK} {e : SE} {pe : Env} {z : List Nat} {k : fQ -> gp R'}
theorem RN (hE:dW s e pe) (hS:cM s ps) {esz:Nat} {zero:Row} {x:fy} (h:mb e s z (.clear esz zero x) k ρ w=amx y):gL s ps (bF pe ps z (.clear esz zero x)) k ρ w y:=by
 simp only [mb] at h;have hx:=dK hE x;unfold TR at h;generalize bU e x=v at h hx;cases v with
 |part t off len cap ex=>
  simp only [cy] at h;generalize ck:s[t]? =b at h;cases b with
  |none=>cases h
  |some b=>
   cases b with
   |arr r l=>
    dsimp only at h;cases hq:ET zero with
    |none=>rw [hq] at h;cases h
    |some q=>
     rw [hq] at h;dsimp only at h;obtain ⟨hc,h1⟩:=cX h;simp only [v6] at hc;obtain ⟨hqr,he⟩:=hc;have hqr:=uP hqr;have he:=ut he;obtain ⟨e',hx,db⟩:=hx
     have:=db.inv ck
     subst this;subst hqr;subst he;rcases fh h1 with ⟨hl,hk⟩|⟨hl,hk⟩
     · have hl:=ut hl
       subst hl;exact gL.val hS hk (by simp only [bF,hx]) rfl
     obtain ⟨En,hk⟩:=iu hk
     simp only [v6,adc] at En;obtain ⟨c1,c2⟩:=En;have c1':=UV c1;have cW:=Bf l (aex len (RT.zero q)) off (by simpa using c1')
     refine ⟨_,_,?_,Good.T5 hS (b:= .arr q (eZ l off (aex len (RT.zero q)))) (q:= .arr (amw q) ((eZ l off (aex len (RT.zero q))).map (RT.pv q))) (rd:=[]) ck (.inl ⟨_,rfl,cW⟩) rfl,hk⟩;cases len with
     |zero=>cases hl
     |succ len=>
      have kB:kV off (aex (len+1) zero) (l.map (RT.pv q))=(eZ l off (aex (len+1) (RT.zero q))).map (RT.pv q):=by
       rw [Fc,s6 _ _ _ (by simpa using c1')]
       simp [Bc hq]
      simp only [bF,hx,hS.arr ck,aev,c2,af0,aeu,if_true,kB]
   |_=>cases h
 |_=>cases h
theorem Ae (hS:cM s ps) {t off len cap:Nat} {ex:Bool} {r:List PT} {l:List (RT r)} {x yy:fy} {vy:SV} (ck:s[t]? =amx (.arr r l)) (hx:x.ev pe= .own t (amw r) off len cap ex) (Tx:R s vy (yy.ev pe))
 (h:EU s z t r l off len vy k ρ w=amx y):gL s ps (bF pe ps z (.copy (amw r) x yy)) k ρ w y:=by
 unfold EU at h;cases hc:zl s vy with
 |none=>rw [hc] at h;cases h
 |some cc=>
  obtain ⟨q,m⟩:=cc;rw [hc] at h;dsimp only at h;cases Ug:rS q r m with
  |none=>rw [Ug] at h;cases h
  |some m2=>
   rw [Ug] at h;dsimp only at h;obtain ⟨hqr,hmp,Kb⟩:=A8 Ug;subst hqr;obtain ⟨AB,B5⟩:=PR hS Tx hc;rw [<- hmp] at AB;have Fe:(m2.map (RT.pv q)).take len=(m2.take len).map (RT.pv q):=by rw [aeB]
   generalize m2.take len=mm at h Fe;rcases fh h with ⟨hm,hk⟩|⟨hm,hk⟩
   · have hm:mm=[]:=by simpa using hm
     subst hm;refine gL.rd hS hk ?_ rfl;simp only [bF,AB,hx,Fe,alZ,B5]
   obtain ⟨En,hk⟩:=iu hk
   simp only [v6,adc] at En;obtain ⟨c1,c2⟩:=En;have c1':=UV c1;have cW:=Bf l mm off c1'
   refine ⟨_,_,?_,Good.put hS (b:= .arr q (eZ l off mm)) (q:= .arr (amw q) ((eZ l off mm).map (RT.pv q))) (l:=[]) (ql:=[]) (v:= .int .i64 (.ofNat (amw mm))) (p:= .int .i64 (.ofNat (amw mm))) (rd:=vB vy) ck (.inl ⟨_,rfl,cW⟩) rfl rfl (fun j b hj=>by simp at hj) rfl,hk⟩
   have kB:kV off (mm.map (RT.pv q)) (l.map (RT.pv q))=(eZ l off mm).map (RT.pv q):=by
    rw [Fc,s6 _ _ _ (by simpa using c1')]
   cases mm with
   |nil=>cases hm
   |cons a mm=>
    simp only [aet] at kB Fe;simp only [bF,AB,hx,Fe,hS.arr ck,aev,c2,af0,aeu,if_true,kB,B5,aem,ae0]
theorem Uh (hE:dW s e pe) (hS:cM s ps) {esz:Nat} {x yy:fy} (h:mb e s z (.copy esz x yy) k ρ w=amx y):gL s ps (bF pe ps z (.copy esz x yy)) k ρ w y:=by
 simp only [mb] at h;have hx:=dK hE x;have Tx:=dK hE yy;unfold aeX at h;generalize bU e yy=vy at h Tx;generalize bU e x=v at h hx;cases v with
 |own t ex=>
  simp only [cy] at h;generalize ck:s[t]? =b at h;cases b with
  |none=>cases h
  |some b=>
   cases b with
   |arr r l=>
    obtain ⟨he,hk⟩:=cX h;have he:=ut he;subst he;obtain ⟨e',n',hx,db⟩:=hx;obtain ⟨rfl,rfl⟩:=db.inv ck;exact Ae hS ck hx Tx hk
   |_=>cases h
 |pre t len cap ex=>
  simp only [cy] at h;generalize ck:s[t]? =b at h;cases b with
  |none=>cases h
  |some b=>
   cases b with
   |arr r l=>
    obtain ⟨he,hk⟩:=cX h;have he:=ut he;subst he;obtain ⟨e',hx,db⟩:=hx
    have:=db.inv ck
    subst this;exact Ae hS ck hx Tx hk
   |_=>cases h
 |part t off len cap ex=>
  simp only [cy] at h;generalize ck:s[t]? =b at h;cases b with
  |none=>cases h
  |some b=>
   cases b with
   |arr r l=>
    obtain ⟨he,hk⟩:=cX h;have he:=ut he;subst he;obtain ⟨e',hx,db⟩:=hx
    have:=db.inv ck
    subst this;exact Ae hS ck hx Tx hk
   |_=>cases h
 |_=>cases h
theorem RO (hE:dW s e pe) (hS:cM s ps) {x1 x2:fy} (h:mb e s z (.CT x1 x2) k ρ w=amx y):gL s ps (bF pe ps z (.CT x1 x2)) k ρ w y:=by
 simp only [mb] at h;have hx:=dK hE x1;have hy:=dK hE x2;generalize bU e x1=v at h hx;generalize bU e x2=u at h hy;cases v with
 |sl r l=>
  cases u with
  |sl q m=>
   have hx:x1.ev pe= .sl (amw r) amA (l.map (RT.pv r)):=hx;have hy:x2.ev pe= .sl (amw q) amA (m.map (RT.pv q)):=hy
   refine ⟨_,_,?_,Good.new hS (b:= .box [.sl r l,.sl q m]) (q:= .box [.sl (amw r) amA (l.map (RT.pv r)),.sl (amw q) amA (m.map (RT.pv q))]) (v:= .part (amw s) 0 2 2 amz) (p:= .own (amw s) 1 0 2 2 amz) (rd:=[]) ⟨_,rfl,_,_,rfl,rfl,_,_,rfl,rfl,rfl⟩ ⟨1,rfl,.inr (.inr ⟨_,mh,rfl⟩)⟩,h⟩;simp only [bF,hx,hy,hS.len];rfl
  |_=>cases h
 |_=>cases h
theorem Xr (hE:dW s e pe) (hS:cM s ps) {op:kS} (h:mb e s z op k ρ w=amx y):gL s ps (bF pe ps z op) k ρ w y:=by
 cases op with
 |SG x=>exact gL.val hS h rfl (dK hE x)
 |pick c a b=>exact Ua hE hS h
 |bin op a b=>exact Xe hE hS h
 |Kf n a b=>exact T6 hE hS h
 |eqc n g a b=>exact Xf hE hS h
 |un op a=>exact aga hE hS h
 |conv a x=>exact T8 hE hS h
 |len x=>exact Xg hE hS h
 |Nh n=>exact gL.val hS h rfl rfl
 |box x=>exact Xi hE hS h
 |alloc c=>exact RH hS h
 |build z p=>exact RG hE hS h
 |AD a b c d=>exact RK hE hS h
 |CT a b=>exact RO hE hS h
 |load a p=>exact Ud hE hS h
 |store a p x=>exact RJ hE hS h
 |Kg x=>exact T9 hE hS h
 |Kh o x=>exact T' hE hS h
 |jS a o x=>exact Xj hE hS h
 |Ki a x i=>exact Ub hE hS h
 |CU n a x i=>exact RI hE hS h
 |idx n a g x i=>exact Xo hE hS h
 |Kj x i=>exact Uc hE hS h
 |Q1 a x l h' m=>exact Xp hE hS h
 |mks a z l c=>exact Xq hE hS h
 |mkf f a b=>exact Xl hE hS h
 |mkm m=>exact Xm hS h
 |lookup n z o m q=>exact N6 hE hS h
 |Ip n m q x=>exact Uf hE hS h
 |ext i x=>exact Xk hE hS h
 |append a x b=>exact N7 hE hS h
 |copy a x b=>exact Uh hE hS h
 |clear a z x=>exact RN hE hS h
 |mm m x xs=>exact agb hE hS h
 |call m f a=>cases h
 |wN x a=>cases h
 |bad=>cases h
mutual
theorem an' {bx:Nat->Option (List SV)} {Ui:Nat->Option (List PV)} (hS:cM s ps) (hb: ∀t l,bx t=amx l-> ∃q,Ui t=amx q/\qH l=amx q): ∀{v u:SV} {p:PV},R s v p->Hx s bx v=amx u-> ∃q,BT ps Ui p=amx q/\rU u=amx q
 | .int k n,u,p,h,hx=>by injection hx with hx;subst hx;rw [show p=_ from h];exact ⟨_,rfl,rfl⟩
 | .bool b,u,p,h,hx=>by injection hx with hx;subst hx;rw [show p=_ from h];exact ⟨_,rfl,rfl⟩
 | .str x,u,p,h,hx=>by injection hx with hx;subst hx;rw [show p=_ from h];exact ⟨_,rfl,rfl⟩
 | .dU,u,p,h,hx=>by injection hx with hx;subst hx;rw [show p=_ from h];exact ⟨_,rfl,rfl⟩
 | .agg cs,u,p,h,hx=>by
  obtain ⟨q,rfl,h⟩:=h;simp only [Hx] at hx;split at hx
  · rename_i l hl
    injection hx with hx;subst hx;obtain ⟨q',h1,h2⟩:=tQ hS hb h hl;exact ⟨.agg q',by simp only [BT,h1];rfl,by simp only [rU,h2]⟩
  cases hx
 | .cu cs,u,p,h,hx=>by
  obtain ⟨q,rfl,h⟩:=h;simp only [Hx] at hx;split at hx
  · rename_i l hl
    injection hx with hx;subst hx;obtain ⟨q',h1,h2⟩:=tQ hS hb h hl;exact ⟨.cu q',by simp only [BT,h1];rfl,by simp only [rU,h2]⟩
  cases hx
 | .sl r l,u,p,h,hx=>by injection hx with hx;subst hx;rw [show p=_ from h];exact ⟨_,rfl,rfl⟩
 | .nil e c,u,p,h,hx=>by injection hx with hx;subst hx;rw [show p=_ from h];exact ⟨_,rfl,rfl⟩
 | .own t ex,u,p,h,hx=>by
  simp only [Hx,cy] at hx;split at hx
  · rename_i r l ck
    injection hx with hx;subst hx;obtain ⟨e,n,rfl,db⟩:=h;obtain ⟨rfl,rfl⟩:=db.inv ck;refine ⟨.sl (amw r) amA (l.map (RT.pv r)),?_,rfl⟩;simp only [BT,hS.arr ck,aeE];rw [aeC (by simp)]
  cases hx
 | .pre t len cap ex,u,p,h,hx=>by
  simp only [Hx,cy] at hx;split at hx
  · rename_i r l ck
    injection hx with hx;subst hx;obtain ⟨e,rfl,db⟩:=h
    have:=db.inv ck
    subst this;refine ⟨.sl (amw r) amA ((l.take len).map (RT.pv r)),?_,rfl⟩;simp only [BT,hS.arr ck,aeE,aeB]
  cases hx
 | .part t off len cap ex,u,p,h,hx=>by
  simp only [Hx,cy] at hx;split at hx
  · rename_i r l ck
    injection hx with hx;subst hx;obtain ⟨e,rfl,db⟩:=h
    have:=db.inv ck
    subst this;refine ⟨.sl (amw r) amA (((l.drop off).take len).map (RT.pv r)),?_,rfl⟩;simp only [BT,hS.arr ck,aeB,afa]
  cases hx
 | .pa t r i a off,u,p,h,hx=>by
  simp only [Hx,cy] at hx;split at hx
  · rename_i q l ck
    injection hx with hx;subst hx;obtain ⟨rfl,db⟩:=h;obtain ⟨rfl,hg⟩:=db.inv ck;obtain ⟨m,rfl,hm⟩:=m9 hg;refine ⟨.bI (RT.pv r a) off,?_,by simp only [rU,RT.HA]⟩
    have B':(l.map (RT.pv r))[m]? =amx (RT.pv r a):=by simp [hm]
    have e1:(aeZ m).toNat=m:=rfl;simp only [BT,hS.arr ck,e1,B'];rfl
  cases hx
 | .bp t n off,u,p,h,hx=>by
  simp only [Hx,cy] at hx;split at hx
  · rename_i cs ck
    split at hx
    · rename_i l hl
      injection hx with hx;subst hx;rw [show p=_ from h];obtain ⟨q,h1,h2⟩:=hb t l hl;obtain ⟨c,h3,_⟩:=hS.box ck;refine ⟨.bI q off,?_,by simp only [rU,h2]⟩
      simp only [BT,h3,aev,if_true,h1];rfl
    cases hx
  cases hx
 | .bI cs off,u,p,h,hx=>by
  obtain ⟨q,rfl,h⟩:=h;simp only [Hx] at hx;split at hx
  · rename_i l hl
    injection hx with hx;subst hx;obtain ⟨q',h1,h2⟩:=tQ hS hb h hl;exact ⟨.bI q' off,by simp only [BT,h1];rfl,by simp only [rU,h2]⟩
  cases hx
 | .eL f a b,u,p,h,hx=>by
  obtain ⟨pa,pb,rfl,h1,h2⟩:=h;simp only [Hx] at hx;split at hx
  · rename_i x y' h3 h4
    injection hx with hx;subst hx;obtain ⟨qa,h5,h6⟩:=tQ hS hb h1 h3;obtain ⟨qb,h7,h8⟩:=tQ hS hb h2 h4;exact ⟨.eL f qa qb,by simp only [BT,h5,h7],by simp only [rU,h6,h8]⟩
  cases hx
 | .iS,_,_,_,hx| .undef,_,_,_,hx| .jy,_,_,_,hx| .pb _ _ _,_,_,_,hx| .mp _,_,_,_,hx=>by cases hx
theorem tQ {bx:Nat->Option (List SV)} {Ui:Nat->Option (List PV)} (hS:cM s ps) (hb: ∀t l,bx t=amx l-> ∃q,Ui t=amx q/\qH l=amx q): ∀{v u:List SV} {p:List PV},RL s v p->rT s bx v=amx u-> ∃q,BU ps Ui p=amx q/\qH u=amx q
 | [],u,p,h,hx=>by injection hx with hx;subst hx;rw [show p=_ from h];exact ⟨_,rfl,rfl⟩
 |x::xs,u,p,h,hx=>by
  obtain ⟨q,qs,rfl,h1,h2⟩:=h.cons_inv;simp only [rT] at hx;split at hx
  · rename_i y' ys h3 h4
    injection hx with hx;subst hx;obtain ⟨a,h5,h6⟩:=an' hS hb h1 h3;obtain ⟨as,h7,h8⟩:=tQ hS hb h2 h4;exact ⟨a::as,by simp only [BU,h5,h7],eI.2 ⟨a,as,rfl,h6,h8⟩⟩
  cases hx
end
theorem DT (hS:cM s ps): ∀(n t:Nat) (l:List SV),kD s n t=amx l-> ∃q,xi ps n t=amx q/\qH l=amx q
 |0,t,l,h=>by cases h
 |n+1,t,l,h=>by
  simp only [kD,cy] at h;split at h
  · rename_i cs ck
    obtain ⟨q,h1,h2⟩:=hS.box ck;obtain ⟨u,h3,h4⟩:=tQ hS (DT hS n) h2 h;exact ⟨u,by simp only [xi,h1,h3],h4⟩
  cases h
mutual
theorem Uj {bx Ui:Nat->List Nat} (hb: ∀t,bx t=Ui t): ∀{v:SV} {p:PV},R s v p->v.sure=amz->NT bx v=iZ Ui p
 | .iS,_,_,h=>by cases h
 | .undef,p,h,_| .jy,p,h,_| .dU,p,h,_| .int _ _,p,h,_| .bool _,p,h,_| .str _,p,h,_| .sl _ _,p,h,_| .nil _ _,p,h,_=>by rw [show p=_ from h];rfl
 | .agg cs,p,h,hs=>by obtain ⟨q,rfl,h⟩:=h;exact Af hb h hs
 | .cu cs,p,h,hs=>by obtain ⟨q,rfl,h⟩:=h;exact Af hb h hs
 | .own t ex,p,h,_=>by obtain ⟨e,n,rfl,_⟩:=h;rfl
 | .pre t a b c,p,h,_=>by obtain ⟨e,rfl,_⟩:=h;rfl
 | .part t o a b c,p,h,_=>by obtain ⟨e,rfl,_⟩:=h;rfl
 | .pa t r i a o,p,h,_=>by obtain ⟨rfl,_⟩:=h;simp only [NT,iZ,hb]
 | .pb t i o,p,h,_=>by obtain ⟨e,rfl,_⟩:=h;simp only [NT,iZ,hb]
 | .bp t n o,p,h,_=>by rw [show p=_ from h];simp only [NT,iZ,hb]
 | .bI cs o,p,h,hs=>by obtain ⟨q,rfl,h⟩:=h;exact Af hb h hs
 | .mp t,p,h,_=>by rw [show p=_ from h];rfl
 | .eL f a b,p,h,hs=>by
  obtain ⟨pa,pb,rfl,h1,h2⟩:=h;simp only [SV.sure,v6] at hs;simp only [NT,iZ,Af hb h1 hs.1,Af hb h2 hs.2]
theorem Af {bx Ui:Nat->List Nat} (hb: ∀t,bx t=Ui t): ∀{v:List SV} {p:List PV},RL s v p->ma v=amz->q9 bx v=dC Ui p
 | [],p,h,_=>by rw [show p=_ from h];rfl
 |x::xs,p,h,hs=>by
  obtain ⟨q,qs,rfl,h1,h2⟩:=h.cons_inv;simp only [ma,v6] at hs;simp only [q9,dC,Uj hb h1 hs.1,Af hb h2 hs.2]
end
end
end Go.Vm
/- The head of a loop: what the typed machine keeps there, the logical machine keeps there. -/
namespace Go.Vm
section
variable {s : List SB} {ps : cK}
mutual
theorem aoa {n:Nat} (hS:cM s ps) (hB: ∀t l,kD s n t=amx l->xb s n t=di ps n t): ∀{v u:SV} {p:PV},R s v p->Hx s (kD s n) v=amx u->NT (xb s n) v=iZ (di ps n) p
 | .int _ _,_,p,h,_| .bool _,_,p,h,_| .str _,_,p,h,_| .dU,_,p,h,_| .sl _ _,_,p,h,_| .nil _ _,_,p,h,_=>by rw [show p=_ from h];rfl
 | .agg cs,u,p,h,hx=>by
  obtain ⟨q,rfl,h⟩:=h;simp only [Hx] at hx;split at hx
  · rename_i l hl;exact zq hS hB h hl
  cases hx
 | .cu cs,u,p,h,hx=>by
  obtain ⟨q,rfl,h⟩:=h;simp only [Hx] at hx;split at hx
  · rename_i l hl;exact zq hS hB h hl
  cases hx
 | .own t ex,_,p,h,_=>by obtain ⟨e,n,rfl,_⟩:=h;rfl
 | .pre t a b c,_,p,h,_=>by obtain ⟨e,rfl,_⟩:=h;rfl
 | .part t o a b c,_,p,h,_=>by obtain ⟨e,rfl,_⟩:=h;rfl
 | .pa t r i a o,_,p,h,hx=>by
  obtain ⟨rfl,db⟩:=h;simp only [Hx,cy] at hx;split at hx
  · rename_i q l ck
    simp only [NT,iZ];cases n with
    |zero=>rfl
    |succ n=>simp only [xb,di,cy,ck,hS.arr ck]
  cases hx
 | .bp t m o,u,p,h,hx=>by
  rw [show p=_ from h];simp only [Hx,cy] at hx;split at hx
  · split at hx
    · rename_i l hl
      simp only [NT,iZ,hB t l hl]
    cases hx
  cases hx
 | .bI cs o,u,p,h,hx=>by
  obtain ⟨q,rfl,h⟩:=h;simp only [Hx] at hx;split at hx
  · rename_i l hl;exact zq hS hB h hl
  cases hx
 | .eL f a b,u,p,h,hx=>by
  obtain ⟨pa,pb,rfl,h1,h2⟩:=h;simp only [Hx] at hx;split at hx
  · rename_i x y h3 h4
    simp only [NT,iZ,zq hS hB h1 h3,zq hS hB h2 h4]
  cases hx
 | .iS,_,_,_,hx| .undef,_,_,_,hx| .jy,_,_,_,hx| .pb _ _ _,_,_,_,hx| .mp _,_,_,_,hx=>by cases hx
theorem zq {n:Nat} (hS:cM s ps) (hB: ∀t l,kD s n t=amx l->xb s n t=di ps n t): ∀{v u:List SV} {p:List PV},RL s v p->rT s (kD s n) v=amx u->q9 (xb s n) v=dC (di ps n) p
 | [],_,p,h,_=>by rw [show p=_ from h];rfl
 |x::xs,u,p,h,hx=>by
  obtain ⟨q,qs,rfl,h1,h2⟩:=h.cons_inv;simp only [rT] at hx;split at hx
  · rename_i a b h3 h4
    simp only [q9,dC,aoa hS hB h1 h3,zq hS hB h2 h4]
  cases hx
end
theorem Uk {n:Nat} (hS:cM s ps) (hB: ∀t l,kD s n t=amx l->xb s n t=di ps n t): ∀{v:List SV} {p:List PV},RL s v p->NS s (kD s n) v=amz->q9 (xb s n) v=dC (di ps n) p
 | [],p,h,_=>by rw [show p=[] from h];rfl
 |x::xs,p,h,hx=>by
  obtain ⟨a,as,rfl,h1,h2⟩:=h.cons_inv;have other: ∀u,Hx s (kD s n) x=amx u->NS s (kD s n) xs=amz->q9 (xb s n) (x::xs)=dC (di ps n) (a::as):=fun u h3 h4=>by
   simp only [q9,dC,aoa hS hB h1 h3,Uk hS hB h2 h4]
  unfold NS at hx;split at hx
  · rename_i t
    rw [show a= .mp t from h1];simp only [q9,dC,NT,iZ,Uk hS hB h2 hx]
  split at hx
  · rename_i u h3
    exact other u h3 hx
  cases hx
theorem Ff (hS:cM s ps): ∀(n t:Nat) (l:List SV),kD s n t=amx l->xb s n t=di ps n t
 |0,t,l,h=>rfl
 |n+1,t,l,h=>by
  simp only [kD,cy] at h;split at h
  · rename_i cs ck
    obtain ⟨q,h1,h2⟩:=hS.box ck;simp only [xb,di,cy,ck,h1];exact zq hS (Ff hS n) h2 h
  cases h
theorem I9 {b:SB} {q:jR} (h:RB s b q) (hs:yC b=amz):EV b=qS q:=by
 cases b with
 |box cs=>obtain ⟨c,rfl,h⟩:=h;exact Af (fun _=>rfl) h hs
 |arr r l=>rw [show q=_ from h];rfl
 |set l=>rw [show q=_ from h];rfl
 |aO p l=>rw [show q=_ from h];rfl
 |dead=>rw [show q=_ from h];rfl
theorem Fg (hS:cM s ps): ∀(n:Nat) (ts seen m:List Nat),Cg s n ts seen=amx m->reach ps n ts seen=amx m
 |n,[],seen,m,h=>by
  cases n<;>(simp only [Cg] at h;exact h)
 |0,_::_,_,_,h=>by cases h
 |n+1,t::ts,seen,m,h=>by
  simp only [Cg,cy] at h;simp only [reach];cases hh:has seen t with
  |true=>rw [hh] at h;simp only [lw] at h;simp only [if_true];exact Fg hS n ts seen m h
  |false=>
   rw [hh] at h;simp only [ol] at h;simp only [PP,if_false];split at h
   · rename_i b ck
     obtain ⟨q,h1,h2⟩:=hS.at_ t b ck;cases hb:yC b with
     |false=>rw [hb] at h;cases h
     |true=>
      rw [hb] at h;simp only [lw] at h;rw [h1,I9 h2 hb] at*;exact Fg hS n _ _ m h
   cases h
theorem Fh: ∀{t u:Nat} {m:List Nat},idxOf t m=amx u->m[u]? =amx t
 |t,u,[],h=>by cases h
 |t,u,x::m,h=>by
  simp only [idxOf] at h;cases hb:NE x t with
  |true=>rw [hb] at h;simp at h;subst h;simp [ut hb]
  |false=>
   rw [hb] at h;simp only [PP,if_false,aew] at h;obtain ⟨v,hv,rfl⟩:=h;simpa using Fh hv
def Fi (m:List Nat) (s s':List SB):Prop:= ∀(t u:Nat) (b:SB),idxOf t m=amx u->s[t]? =amx b->match b with
 | .arr r l=>s'[u]? =amx (.arr r l)
 | .dead=>s'[u]? =amx .dead
 | .box _=> ∃cs,s'[u]? =amx (.box cs)
 |_=>True
mutual
theorem Ul {m:List Nat} {s':List SB} (hr:Fi m s s'): ∀{v u:SV} {p:PV},R s v p->qc m v=amx u-> ∃q,zc m p=amx q/\R s' u q
 | .iS,_,_,_,hx=>by cases hx
 | .undef,u,p,h,hx| .jy,u,p,h,hx| .dU,u,p,h,hx| .int _ _,u,p,h,hx| .bool _,u,p,h,hx| .str _,u,p,h,hx| .sl _ _,u,p,h,hx| .nil _ _,u,p,h,hx=>by
  injection hx with hx;subst hx;rw [show p=_ from h];exact ⟨_,rfl,rfl⟩
 | .agg cs,u,p,h,hx=>by
  obtain ⟨q,rfl,h⟩:=h;simp only [qc] at hx;split at hx
  · rename_i l hl
    injection hx with hx;subst hx;obtain ⟨q',h1,h2⟩:=s7 hr h hl;exact ⟨.agg q',by simp only [zc,h1];rfl,q',rfl,h2⟩
  cases hx
 | .cu cs,u,p,h,hx=>by
  obtain ⟨q,rfl,h⟩:=h;simp only [qc] at hx;split at hx
  · rename_i l hl
    injection hx with hx;subst hx;obtain ⟨q',h1,h2⟩:=s7 hr h hl;exact ⟨.cu q',by simp only [zc,h1];rfl,q',rfl,h2⟩
  cases hx
 | .own t ex,u,p,h,hx=>by
  obtain ⟨e,n,rfl,db⟩:=h;simp only [qc] at hx;split at hx
  · rename_i v hv
    injection hx with hx;subst hx;refine ⟨.own v e 0 n n ex,by simp only [zc,hv];rfl,e,n,rfl,?_⟩
    rcases db with ⟨r,l,h1,h2,h3⟩|h1
    · exact .inl ⟨r,l,hr t v _ hv h1,h2,h3⟩
    exact .inr (hr t v _ hv h1)
  cases hx
 | .pre t len cap ex,u,p,h,hx=>by
  obtain ⟨e,rfl,db⟩:=h;simp only [qc] at hx;split at hx
  · rename_i v hv
    injection hx with hx;subst hx;refine ⟨.own v e 0 len cap ex,by simp only [zc,hv];rfl,e,rfl,?_⟩
    rcases db with ⟨r,l,h1,h2⟩|h1|⟨cs,h1,h2⟩
    · exact .inl ⟨r,l,hr t v _ hv h1,h2⟩
    · exact .inr (.inl (hr t v _ hv h1))
    obtain ⟨c2,h3⟩:=hr t v _ hv h1
    exact .inr (.inr ⟨c2,h3,h2⟩)
  cases hx
 | .part t off len cap ex,u,p,h,hx=>by
  obtain ⟨e,rfl,db⟩:=h;simp only [qc] at hx;split at hx
  · rename_i v hv
    injection hx with hx;subst hx;refine ⟨.own v e off len cap ex,by simp only [zc,hv];rfl,e,rfl,?_⟩
    rcases db with ⟨r,l,h1,h2⟩|h1|⟨cs,h1,h2⟩
    · exact .inl ⟨r,l,hr t v _ hv h1,h2⟩
    · exact .inr (.inl (hr t v _ hv h1))
    obtain ⟨c2,h3⟩:=hr t v _ hv h1
    exact .inr (.inr ⟨c2,h3,h2⟩)
  cases hx
 | .pa t r i a off,u,p,h,hx=>by
  obtain ⟨rfl,db⟩:=h;simp only [qc] at hx;split at hx
  · rename_i v hv
    injection hx with hx;subst hx;refine ⟨.ptr v (amw r) i.toNat off,by simp only [zc,hv];rfl,amw r,rfl,?_⟩
    rcases db with ⟨l,h1,h2⟩|h1
    · exact .inl ⟨r,l,hr t v _ hv h1,by rw [h2];rfl⟩
    exact .inr (hr t v _ hv h1)
  cases hx
 | .pb t i off,u,p,h,hx=>by
  obtain ⟨e,rfl,db⟩:=h;simp only [qc] at hx;split at hx
  · rename_i v hv
    injection hx with hx;subst hx;refine ⟨.ptr v e i.toNat off,by simp only [zc,hv];rfl,e,rfl,?_⟩
    rcases db with ⟨r,l,h1,h2⟩|h1
    · exact .inl ⟨r,l,hr t v _ hv h1,h2⟩
    exact .inr (hr t v _ hv h1)
  cases hx
 | .bp t n off,u,p,h,hx=>by
  rw [show p=_ from h];simp only [qc] at hx;split at hx
  · rename_i v hv
    injection hx with hx;subst hx;exact ⟨.ptr v n 0 off,by simp only [zc,hv];rfl,rfl⟩
  cases hx
 | .bI cs off,u,p,h,hx=>by
  obtain ⟨q,rfl,h⟩:=h;simp only [qc] at hx;split at hx
  · rename_i l hl
    injection hx with hx;subst hx;obtain ⟨q',h1,h2⟩:=s7 hr h hl;exact ⟨.bI q' off,by simp only [zc,h1];rfl,q',rfl,h2⟩
  cases hx
 | .mp t,u,p,h,hx=>by
  rw [show p=_ from h];simp only [qc] at hx;split at hx
  · rename_i v hv
    injection hx with hx;subst hx;exact ⟨.mp v,by simp only [zc,hv];rfl,rfl⟩
  cases hx
 | .eL f a b,u,p,h,hx=>by
  obtain ⟨pa,pb,rfl,h1,h2⟩:=h;simp only [qc] at hx;split at hx
  · rename_i x y h3 h4
    injection hx with hx;subst hx;obtain ⟨qa,h5,h6⟩:=s7 hr h1 h3;obtain ⟨qb,h7,h8⟩:=s7 hr h2 h4;exact ⟨.eL f qa qb,by simp only [zc,h5,h7],qa,qb,rfl,h6,h8⟩
  cases hx
theorem s7 {m:List Nat} {s':List SB} (hr:Fi m s s'): ∀{v u:List SV} {p:List PV},RL s v p->sZ m v=amx u-> ∃q,y5 m p=amx q/\RL s' u q
 | [],u,p,h,hx=>by injection hx with hx;subst hx;rw [show p=_ from h];exact ⟨_,rfl,rfl⟩
 |x::xs,u,p,h,hx=>by
  obtain ⟨q,qs,rfl,h1,h2⟩:=h.cons_inv;simp only [sZ] at hx;split at hx
  · rename_i a b h3 h4
    injection hx with hx;subst hx;obtain ⟨a',h5,h6⟩:=Ul hr h1 h3;obtain ⟨b',h7,h8⟩:=s7 hr h2 h4;exact ⟨a'::b',by simp only [y5,h5,h7],RL.cons h6 h8⟩
  cases hx
end
theorem agc {m:List Nat} {s':List SB} (hr:Fi m s s') {b c:SB} {q:jR} (h:RB s b q) (hx:NV m b=amx c): ∃q',nJ m q=amx q'/\RB s' c q':=by
 cases b with
 |box cs=>
  obtain ⟨p,rfl,h⟩:=h;simp only [NV] at hx;split at hx
  · rename_i l hl
    injection hx with hx;subst hx;obtain ⟨q',h1,h2⟩:=s7 hr h hl;exact ⟨.box q',by simp only [nJ,h1];rfl,q',rfl,h2⟩
  cases hx
 |arr r l=>injection hx with hx;subst hx;rw [show q=_ from h];exact ⟨_,rfl,rfl⟩
 |set l=>injection hx with hx;subst hx;rw [show q=_ from h];exact ⟨_,rfl,rfl⟩
 |aO p l=>injection hx with hx;subst hx;rw [show q=_ from h];exact ⟨_,rfl,rfl⟩
 |dead=>injection hx with hx;subst hx;rw [show q=_ from h];exact ⟨_,rfl,rfl⟩
theorem xL {m:List Nat}: ∀{ts:List Nat} {s1:List SB},G0 s m ts=amx s1->amw s1=amw ts/\ ∀(j t:Nat),ts[j]? =amx t-> ∃b c,s[t]? =amx b/\NV m b=amx c/\s1[j]? =amx c
 | [],s1,h=>by injection h with h;subst h;exact ⟨rfl,fun j t h=>by simp at h⟩
 |t::ts,s1,h=>by
  simp only [G0,cy] at h;split at h
  · rename_i b hb
    split at h
    · rename_i c r hc hr
      injection h with h;subst h;obtain ⟨h1,h2⟩:=xL hr;refine ⟨by simp [h1],fun j u hj=>?_⟩
      cases j with
      |zero=>simp at hj;subst hj;exact ⟨b,c,hb,hc,rfl⟩
      |succ j=>simpa using h2 j u (by simpa using hj)
    cases h
  cases h
theorem Cl (hS:cM s ps) {m:List Nat} {s':List SB} (hr:Fi m s s'): ∀{ts:List Nat} {s1:List SB},G0 s m ts=amx s1-> ∃p1,xj ps m ts=amx p1/\amw p1=amw s1/\ ∀(j:Nat) (b:SB),s1[j]? =amx b-> ∃q,p1[j]? =amx q/\RB s' b q
 | [],s1,h=>by injection h with h;subst h;exact ⟨[],rfl,rfl,fun j b h=>by simp at h⟩
 |t::ts,s1,h=>by
  simp only [G0,cy] at h;split at h
  · rename_i b hb
    split at h
    · rename_i c r hc hr'
      injection h with h;subst h;obtain ⟨q,h1,h2⟩:=hS.at_ t b hb;obtain ⟨q',h3,h4⟩:=agc hr h2 hc;obtain ⟨p1,h5,h6,h7⟩:=Cl hS hr hr';refine ⟨q'::p1,by simp only [xj,h1,h3,h5],by simp [h6],fun j x hj=>?_⟩
      cases j with
      |zero=>simp at hj;subst hj;exact ⟨q',rfl,h4⟩
      |succ j=>simpa using h7 j x (by simpa using hj)
    cases h
  cases h
theorem Fi.of {m:List Nat} {s1 l:List SB} (h:G0 s m m=amx s1):Fi m s (s1++l):=fun t u b hu hb=>by
 have hm:=Fh hu;obtain ⟨h1,h2⟩:=xL h;obtain ⟨b',c,h3,h4,h5⟩:=h2 u t hm;rw [hb] at h3;injection h3 with h3;subst h3;have dI:=(ww.1 h5).1;cases b with
 |arr r l'=>injection h4 with h4;subst h4;rw [AC dI];exact h5
 |dead=>injection h4 with h4;subst h4;rw [AC dI];exact h5
 |box cs=>
  simp only [NV] at h4;split at h4
  · injection h4 with h4;subst h4;exact ⟨_,by rw [AC dI];exact h5⟩
  cases h4
 |_=>trivial
theorem uR: ∀(rk:List (Nat×List PT)) (n:Nat),(rowOf rk n).length=n
 | [],n=>by simp [rowOf]
 |(m,r)::q,n=>by
  simp only [rowOf];cases hc:(NE m n&&NE (amw r) n) with
  |true=>simp only [v6] at hc;exact ut hc.2
  |false=>exact uR q n
theorem Cm {rk:List (Nat×List PT)} {e:SE} {m:List Nat}: ∀{live:List (Nat×Option Nat)} {nx:Nat} {e1:SE} {s2:List SB},wV rk e m nx live=amx (e1,s2)-> ∀(j:Nat) (b:SB),s2[j]? =amx b-> ∃r,b= .arr r []
 | [],nx,e1,s2,h,j,b,hj=>by
  simp only [wV,EQ,acK] at h;rw [<- h.2] at hj;simp at hj
 |(t,k)::live,nx,e1,s2,h,j,b,hj=>by
  simp only [wV] at h;split at h
  · split at h
    · rename_i p hp
      simp only [EQ,acK] at h;obtain ⟨rfl,rfl⟩:=h;cases j with
      |zero=>simp at hj;exact ⟨_,hj.symm⟩
      |succ j=>exact Cm (e1:=p.1) (s2:=p.2) hp j b (by simpa using hj)
    cases h
  split at h
  · rename_i v' p hv hp
    simp only [EQ,acK] at h;obtain ⟨rfl,rfl⟩:=h;exact Cm (e1:=p.1) (s2:=p.2) hp j b hj
  cases h
mutual
theorem Cn {m:List Nat}: ∀{v u:SV},qc m v=amx u->u.sure=amz
 | .iS,_,h=>by cases h
 | .undef,u,h| .jy,u,h| .dU,u,h| .int _ _,u,h| .bool _,u,h| .str _,u,h| .sl _ _,u,h| .nil _ _,u,h=>by injection h with h;subst h;rfl
 | .agg cs,u,h=>by
  simp only [qc] at h;split at h
  · rename_i l hl;injection h with h;subst h;exact mP hl
  cases h
 | .cu cs,u,h=>by
  simp only [qc] at h;split at h
  · rename_i l hl;injection h with h;subst h;exact mP hl
  cases h
 | .bI cs _,u,h=>by
  simp only [qc] at h;split at h
  · rename_i l hl;injection h with h;subst h;exact mP hl
  cases h
 | .own _ _,u,h=>by simp only [qc] at h;split at h<;>first|(injection h with h;subst h;rfl)|cases h
 | .pre _ _ _ _,u,h=>by simp only [qc] at h;split at h<;>first|(injection h with h;subst h;rfl)|cases h
 | .part _ _ _ _ _,u,h=>by simp only [qc] at h;split at h<;>first|(injection h with h;subst h;rfl)|cases h
 | .pa _ _ _ _ _,u,h=>by simp only [qc] at h;split at h<;>first|(injection h with h;subst h;rfl)|cases h
 | .pb _ _ _,u,h=>by simp only [qc] at h;split at h<;>first|(injection h with h;subst h;rfl)|cases h
 | .bp _ _ _,u,h=>by simp only [qc] at h;split at h<;>first|(injection h with h;subst h;rfl)|cases h
 | .mp _,u,h=>by simp only [qc] at h;split at h<;>first|(injection h with h;subst h;rfl)|cases h
 | .eL f a b,u,h=>by
  simp only [qc] at h;split at h
  · rename_i x y h1 h2
    injection h with h;subst h;simp only [SV.sure,mP h1,mP h2,aeu]
  cases h
theorem mP {m:List Nat}: ∀{v u:List SV},sZ m v=amx u->ma u=amz
 | [],u,h=>by injection h with h;subst h;rfl
 |x::xs,u,h=>by
  simp only [sZ] at h;split at h
  · rename_i a b h1 h2
    injection h with h;subst h;simp only [ma,Cn h1,mP h2,aeu]
  cases h
end
theorem Xs {s:List SB} {v:SV} {p:PV} (h:R s v p): ∀k:Option Nat,v.sure=amz->R s (I1 k v) (Hd k p)
 |none,_=>h
 |some _,hs=>by
  cases v with
  |own t ex=>obtain ⟨e,n,rfl,h⟩:=h;exact ⟨e,n,rfl,h⟩
  |pre t l c ex=>obtain ⟨e,rfl,h⟩:=h;exact ⟨e,rfl,h⟩
  |part t o l c ex=>obtain ⟨e,rfl,h⟩:=h;exact ⟨e,rfl,h⟩
  |iS=>cases hs
  |undef|jy|dU|int _ _|bool _|str _|bp _ _ _|mp _|sl _ _|nil _ _=>rw [show p=_ from h];rfl
  |agg _|cu _|bI _ _=>obtain ⟨q,rfl,h⟩:=h;exact ⟨q,rfl,h⟩
  |eL _ _ _=>obtain ⟨q,q2,rfl,h⟩:=h;exact ⟨q,q2,rfl,h⟩
  |pa _ _ _ _ _=>obtain ⟨rfl,h⟩:=h;exact ⟨rfl,h⟩
  |pb _ _ _=>obtain ⟨q,rfl,h⟩:=h;exact ⟨q,rfl,h⟩
theorem N8 {v:SV} (h:v.sure=amz) (k:Option Nat):(I1 k v).sure=amz:=by
 unfold I1;split<;>first|rfl|exact h
theorem I' {rk:List (Nat×List PT)} {e:SE} {pe:Env} (hE:dW s e pe) {m:List Nat} {s':List SB} (hr:Fi m s s'): ∀{live:List (Nat×Option Nat)} {nx:Nat} {e1:SE} {s2:List SB},wV rk e m nx live=amx (e1,s2)->(∀(j:Nat) (b:SB),s2[j]? =amx b->s'[nx+j]? =amx b)->
 ∃p1 q2,qT pe m nx live=amx (p1,q2)/\dW s' e1 p1/\amw q2=amw s2/\ ∀(j:Nat) (b:SB),s2[j]? =amx b-> ∃q,q2[j]? =amx q/\RB s' b q
 | [],nx,e1,s2,h,_=>by
  simp only [wV,EQ,acK] at h;obtain ⟨rfl,rfl⟩:=h;exact ⟨[],[],rfl,rfl,rfl,fun j b h=>by simp at h⟩
 |(t,k)::live,nx,e1,s2,h,hs=>by
  have uO:=hE.lk t;simp only [wV] at h;split at h
  · rename_i kk esz en hv
    split at h
    · rename_i p hp
      simp only [EQ,acK] at h;obtain ⟨rfl,rfl⟩:=h;rw [hv] at uO;obtain ⟨p1,q2,h1,h2,h3,h4⟩:=I' (live:=live) (nx:=nx+1) (e1:=p.1) (s2:=p.2) hE hr hp (fun j b hj=>by
       have:=hs (j+1) b (by simpa using hj)
       rw [show nx+1+j=nx+(j+1) by omega];exact this)
      refine ⟨(t,.own nx esz 0 0 0 amA)::p1,.arr esz []::q2,?_,⟨_,_,rfl,⟨esz,0,rfl,.inl ⟨rowOf rk esz,[],by simpa using hs 0 _ rfl,(uR rk esz).symm,rfl⟩⟩,h2⟩,by simp [h3],fun j b hj=>?_⟩
      · have agf:lk t pe= .sl en amz []:=uO
        simp only [qT,agf,h1];rfl
      cases j with
      |zero=>simp at hj;subst hj;exact ⟨_,rfl,by show _=_;rw [uR];rfl⟩
      |succ j=>simpa using h4 j b (by simpa using hj)
    cases h
  rename_i dS
  split at h
  · rename_i v' p hv hp
    simp only [EQ,acK] at h;obtain ⟨rfl,rfl⟩:=h;obtain ⟨q',h5,h6⟩:=Ul hr uO hv;obtain ⟨p1,q2,h1,h2,h3,h4⟩:=I' (live:=live) (e1:=p.1) (s2:=p.2) hE hr hp hs;refine ⟨(t,Hd _ q')::p1,q2,?_,⟨_,_,rfl,Xs h6 _ (Cn hv),h2⟩,h3,h4⟩;simp only [qT];split
    · rename_i esz x hx
      exfalso;rw [hx] at uO;generalize GL t e=v0 at uO hv dS;cases v0 with
      |iS=>cases hv
      |nil e' c=>
       have agf:PV.sl x amz []= .sl e' c []:=uO;injection agf with h1 h2;subst h2;exact dS _ _ rfl rfl
      |undef|jy|dU|int _ _|bool _|str _|bp _ _ _|mp _=>cases (show PV.sl x amz []=_ from uO)
      |sl r l=>cases (show PV.sl x amz []=_ from uO)
      |agg _|cu _|bI _ _=>obtain ⟨q,hq,_⟩:=uO;cases hq
      |eL _ _ _=>obtain ⟨q,q2,hq,_⟩:=uO;cases hq
      |own _ _=>obtain ⟨q,q2,hq,_⟩:=uO;cases hq
      |pre _ _ _ _=>obtain ⟨q,hq,_⟩:=uO;cases hq
      |part _ _ _ _ _=>obtain ⟨q,hq,_⟩:=uO;cases hq
      |pa _ _ _ _ _=>obtain ⟨hq,_⟩:=uO;cases hq
      |pb _ _ _=>obtain ⟨q,hq,_⟩:=uO;cases hq
    simp only [h5,h1]
  cases h
def ae6 (s:List SB):Prop:= ∀(t:Nat) (cs:List SV),s[t]? =amx (.box cs)->ma cs=amz
def HE:SE->Prop
 | []=>True
 |(_,v)::r=>v.sure=amz/\HE r
theorem HE.lk: ∀{e:SE},HE e-> ∀t,(GL t e).sure=amz
 | [],_,t=>rfl
 |(u,v)::r,h,t=>by
  simp only [GL];cases hb:NE u t with
  |true=>exact h.1
  |false=>exact HE.lk h.2 t
theorem Ag {rk:List (Nat×List PT)} {e:SE} {m:List Nat}: ∀{live:List (Nat×Option Nat)} {nx:Nat} {e1:SE} {s2:List SB},wV rk e m nx live=amx (e1,s2)->HE e1
 | [],nx,e1,s2,h=>by
  simp only [wV,EQ,acK] at h;rw [<- h.1];trivial
 |(t,k)::live,nx,e1,s2,h=>by
  simp only [wV] at h;split at h
  · split at h
    · rename_i p hp
      simp only [EQ,acK] at h;obtain ⟨rfl,rfl⟩:=h;exact ⟨rfl,Ag (e1:=p.1) (s2:=p.2) hp⟩
    cases h
  split at h
  · rename_i v' p hv hp
    simp only [EQ,acK] at h;obtain ⟨rfl,rfl⟩:=h;exact ⟨N8 (Cn hv) _,Ag (e1:=p.1) (s2:=p.2) hp⟩
  cases h
theorem HF: ∀{l:List SV},ma l=amz-> ∀{n:Nat} {v:SV},nth l n=amx v->v.sure=amz
 | [],_,_,_,h=>by cases h
 |x::xs,hs,0,v,h=>by injection h with h;subst h;simp only [ma,v6] at hs;exact hs.1
 |x::xs,hs,n+1,v,h=>by simp only [ma,v6] at hs;exact HF hs.2 (n:=n) h
theorem HG: ∀{l:List SV},ma l=amz-> ∀(n:Nat) {v:SV},v.sure=amz->ma (l.set n v)=amz
 | [],_,n,v,_=>rfl
 |x::xs,hs,0,v,h=>by simp only [ma,v6] at hs;simp [ma,h,hs.2]
 |x::xs,hs,n+1,v,h=>by simp only [ma,v6] at hs;simp [ma,hs.1,HG hs.2 n h]
theorem RL.set {s:List SB}: ∀{xs:List SV} {ps:List PV},RL s xs ps-> ∀(n:Nat) {v:SV} {p:PV},R s v p->RL s (xs.set n v) (ps.set n p)
 | [],ps,h,n,v,p,_=>by rw [show ps=[] from h];exact RL.nil
 |x::xs,ps,h,0,v,p,hv=>by
  obtain ⟨a,q,rfl,h1,h2⟩:=h.cons_inv;exact RL.cons hv h2
 |x::xs,ps,h,n+1,v,p,hv=>by
  obtain ⟨a,q,rfl,h1,h2⟩:=h.cons_inv;exact RL.cons h1 (RL.set h2 n hv)
structure Xt (st:p9) (p:St):Prop where
 r:zp st p
 s:ae6 st.aE
 e:HE st.env
theorem N9 {rk:List (Nat×List PT)} {st:p9} {p:St} (h:Xt st p) (t c esz:Nat):Xt (EW rk st t c esz) (qU p t c esz):=by
 unfold EW qU;rw [cy];cases ck:st.aE[t]? with
 |none=>
  have:p.aE[t]? =amy:=by
   rw [af9] at ck ⊢;rw [h.r.aE.len];exact ck
  rw [this];exact h
 |some b=>
  obtain ⟨q,h1,h2⟩:=h.r.aE.at_ t b ck;rw [h1];cases b with
  |arr r l=>rw [show q=_ from h2];exact h
  |set l=>rw [show q=_ from h2];exact h
  |aO p l=>rw [show q=_ from h2];exact h
  |dead=>rw [show q=_ from h2];exact h
  |box cs=>
   obtain ⟨pc,rfl,h3⟩:=h2;dsimp only;cases hc:nth cs c with
   |none=>
    have:pc[c]? =amy:=by
     rw [cy,af9] at hc;rw [af9,h3.mK];exact hc
    rw [this];exact h
   |some v=>
    obtain ⟨pv,h4,h5⟩:=h3.nth hc;rw [h4];have aob:=HF (h.s t cs ck) hc;have mL:=h.s t cs ck;have other:(∀e,pv≠ .sl e amz [])->(∀e,v≠ .nil e amz)->Xt (match amx v with
     |some (.nil _ amz)=>{st with aE:=st.aE.set t (.box (cs.set c (.own (amw st.aE) amA)))++[.arr (rowOf rk esz) []]}
     |_=>st) (match amx pv with
     |some (.sl _ amz [])=>{p with aE:=p.aE.set t (.box (pc.set c (.own (amw p.aE) esz 0 0 0 amA)))++[.arr esz []]}
     |_=>p):=by
     intro n1 n2;split
     · rename_i e he;injection he with he;exact absurd he (n2 e)
     split
     · rename_i e he;injection he with he;exact absurd he (n1 e)
     exact h
    cases v with
    |iS=>cases aob
    |nil e' cl=>
     have h5':pv= .sl e' cl []:=h5;subst h5';cases cl with
     |false=>exact other (fun e he=>by cases he) (fun e he=>by cases he)
     |true=>
      dsimp only;have dI:=(ww.1 ck).1;have rQ:Fr [] st.aE (st.aE.set t (.box (cs.set c (.own (amw st.aE) amA)))++[.arr (rowOf rk esz) []]):=fun u x hu=>by
       by_cases Nf:t=u
       · subst Nf;rw [ck] at hu;injection hu with hu;subst hu;exact .inl ⟨_,by rw [AC (by simpa using dI),IR];simp [dI];rfl⟩
       have PW:=(ww.1 hu).1
       have:(st.aE.set t (.box (cs.set c (.own (amw st.aE) amA)))++[.arr (rowOf rk esz) []])[u]? =amx x:=by
        rw [AC (by simpa using PW),IR];simp [Nf,hu]
       cases x with
       |arr r l=>exact .inl ⟨l,this,rfl,fun _=>rfl⟩
       |dead=>exact this
       |box c2=>exact .inl ⟨c2,this⟩
       |_=>trivial
      have cW:(st.aE.set t (.box (cs.set c (.own (amw st.aE) amA)))).length=(amw st.aE):=by simp
      have asO:R (st.aE.set t (.box (cs.set c (.own (amw st.aE) amA)))++[.arr (rowOf rk esz) []]) (.own (amw st.aE) amA) (.own (amw p.aE) esz 0 0 0 amA):=by
       refine ⟨esz,0,by rw [h.r.aE.len],.inl ⟨rowOf rk esz,[],?_,(uR rk esz).symm,rfl⟩⟩
       rw [Do (by simp)];simp
      refine ⟨⟨dW.ext rQ h.r.env,⟨by simp [h.r.aE.len],fun u x hu=>?_⟩,h.r.fz,h.r.kn⟩,fun u x hu=>?_,h.e⟩
      · rcases af5 u (amw st.aE) with PW|PW
        · rw [AC (by simpa using PW),IR] at hu
          by_cases Nf:t=u
          · subst Nf
            simp [dI] at hu;subst hu;refine ⟨.box (pc.set c (.own (amw p.aE) esz 0 0 0 amA)),?_,_,rfl,RL.set (RL.ext rQ h3) c asO⟩;rw [AC (by simp [h.r.aE.len,PW]),IR]
            simp [h.r.aE.len,PW]
          simp [Nf] at hu
          obtain ⟨q,h6,h7⟩:=h.r.aE.at_ u x hu;refine ⟨q,?_,h7.ext rQ⟩;rw [AC (by simp [h.r.aE.len,PW]),IR]
          simp [Nf,h6]
        rw [Do (by simpa using PW)] at hu
        simp only [cW] at hu;have WH:u-(amw st.aE)=0:=by
         rcases al7 (u-(amw st.aE)) with h|h
         · exact h
         rw [List.getElem?_eq_none (by simp;omega)] at hu;cases hu
        rw [WH] at hu;simp at hu;subst hu;refine ⟨.arr esz [],?_,by show _=_;rw [uR];rfl⟩
        rw [Do (by simp [h.r.aE.len];omega)]
        simp [h.r.aE.len,WH]
      rcases af5 u (amw st.aE) with PW|PW
      · rw [AC (by simpa using PW),IR] at hu
        by_cases Nf:t=u
        · subst Nf
          simp [dI] at hu;subst hu;exact HG mL c rfl
        simp [Nf] at hu;exact h.s u x hu
      rw [Do (by simpa using PW)] at hu
      cases hj:u- (st.aE.set t (.box (cs.set c (.own (amw st.aE) amA)))).length with
      |zero=>rw [hj] at hu;simp at hu
      |succ j=>rw [hj] at hu;simp at hu
    |undef|jy|dU|int _ _|bool _|str _|bp _ _ _|mp _=>exact other (fun e he=>by rw [show pv=_ from h5] at he;cases he) (fun e he=>by cases he)
    |sl r l=>exact other (fun e he=>by rw [show pv=_ from h5] at he;cases he) (fun e he=>by cases he)
    |agg _|cu _|bI _ _=>exact other (fun e he=>by obtain ⟨q,hq,_⟩:=h5;rw [hq] at he;cases he) (fun e he=>by cases he)
    |eL _ _ _=>exact other (fun e he=>by obtain ⟨q,q2,hq,_⟩:=h5;rw [hq] at he;cases he) (fun e he=>by cases he)
    |own _ _=>exact other (fun e he=>by obtain ⟨q,q2,hq,_⟩:=h5;rw [hq] at he;cases he) (fun e he=>by cases he)
    |pre _ _ _ _|part _ _ _ _ _|pb _ _ _=>exact other (fun e he=>by obtain ⟨q,hq,_⟩:=h5;rw [hq] at he;cases he) (fun e he=>by cases he)
    |pa _ _ _ _ _=>exact other (fun e he=>by obtain ⟨hq,_⟩:=h5;rw [hq] at he;cases he) (fun e he=>by cases he)
theorem Ja {p:St} {t c esz:Nat} (h: ∀cs,p.aE[t]?≠amx (.box cs)):qU p t c esz=p:=by
 unfold qU;split
 · rename_i cs mL;exact absurd mL (h cs)
 rfl
theorem Um {st:p9} {p:St} (h:Xt st p) {v:SV} {q:PV} (hv:R st.aE v q) (hs:v≠ .iS):(∃t,TW v=amx t/\Ea q=amx t)\/(TW v=amy/\ ∀t,Ea q=amx t-> ∀cs,p.aE[t]?≠amx (.box cs)):=by
 cases v with
 |iS=>exact absurd rfl hs
 |bp u m off=>
  have hq:q= .ptr u m 0 off:=hv;subst hq;cases off with
  |zero=>exact .inl ⟨u,rfl,rfl⟩
  |succ off=>exact .inr ⟨rfl,fun t ht=>by cases ht⟩
 |pb u i off=>
  obtain ⟨e',hq,db⟩:=hv;subst hq;refine .inr ⟨rfl,fun t ht cs mL=>?_⟩
  have:t=u:=by
   unfold Ea at ht;split at ht
   · rename_i heq;injection heq with e1;injection ht with ht;rw [<- ht,e1]
   cases ht
  subst this;rcases db with ⟨r,l,h1,_⟩|h1
  · rw [h.r.aE.arr h1] at mL;cases mL
  obtain ⟨q,h2,h3⟩:=h.r.aE.at_ t _ h1
  rw [mL] at h2;injection h2 with h2;subst h2;cases (show jR.box cs= .dead from h3)
 |pa u r i a off=>
  obtain ⟨hq,db⟩:=hv;subst hq;refine .inr ⟨rfl,fun t ht cs mL=>?_⟩
  have:t=u:=by
   unfold Ea at ht;split at ht
   · rename_i heq;injection heq with e1;injection ht with ht;rw [<- ht,e1]
   cases ht
  subst this;rcases db with ⟨l,h1,_⟩|h1
  · rw [h.r.aE.arr h1] at mL;cases mL
  obtain ⟨q,h2,h3⟩:=h.r.aE.at_ t _ h1
  rw [mL] at h2;injection h2 with h2;subst h2;cases (show jR.box cs= .dead from h3)
 |undef|jy|dU|int _ _|bool _|str _|mp _|sl _ _|nil _ _=>exact .inr ⟨rfl,fun t ht=>by rw [show q=_ from hv] at ht;cases ht⟩
 |agg _|cu _|bI _ _=>exact .inr ⟨rfl,fun t ht=>by obtain ⟨_,rfl,_⟩:=hv;cases ht⟩
 |eL _ _ _=>exact .inr ⟨rfl,fun t ht=>by obtain ⟨_,_,rfl,_⟩:=hv;cases ht⟩
 |own _ _=>exact .inr ⟨rfl,fun t ht=>by obtain ⟨_,_,rfl,_⟩:=hv;cases ht⟩
 |pre _ _ _ _|part _ _ _ _ _=>exact .inr ⟨rfl,fun t ht=>by obtain ⟨_,rfl,_⟩:=hv;cases ht⟩
theorem agh {st:p9} {p:St} (h:Xt st p) {v:SV} {q:PV} (hv:R st.aE v q) (hs:v.sure=amz):(∃t,W7 v=amx t/\Kk q=amx t)\/(W7 v=amy/\ ∀t,Kk q=amx t-> ∀cs,p.aE[t]?≠amx (.box cs)):=by
 have hj:v≠ .iS:=fun e=>by subst e;cases hs
 by_cases hc: ∃f a b,v= .eL f a b
 · obtain ⟨f,a,b,rfl⟩:=hc
   obtain ⟨pa,pb,rfl,h1,h2⟩:=hv;cases b with
   |nil=>
    have:pb=[]:=h2
    subst this;exact .inr ⟨rfl,fun t ht=>by cases ht⟩
   |cons y ys=>
    obtain ⟨z,zs,rfl,g1,g2⟩:=h2;exact Um h g1 (fun e=>by subst e;simp [SV.sure,ma] at hs)
 have e1:W7 v=TW v:=by
  cases v with
  |eL f a b=>exact absurd ⟨f,a,b,rfl⟩ hc
  |_=>rfl
 have e2:Kk q=Ea q:=by
  cases q with
  |eL f a b=>
   exfalso;cases v with
   |iS=>exact hj rfl
   |eL f a b=>exact hc ⟨f,a,b,rfl⟩
   |bp _ _ _|undef|jy|dU|int _ _|bool _|str _|mp _|sl _ _|nil _ _=>cases (show PV.eL f a b=_ from hv)
   |agg _|cu _|bI _ _|pre _ _ _ _|part _ _ _ _ _|pb _ _ _=>obtain ⟨_,hq,_⟩:=hv;cases hq
   |own _ _=>obtain ⟨_,_,hq,_⟩:=hv;cases hq
   |pa _ _ _ _ _=>obtain ⟨hq,_⟩:=hv;cases hq
  |_=>rfl
 rw [e1,e2];exact Um h hv hj
theorem ng {rk:List (Nat×List PT)}: ∀(live:List (Nat×Option Nat)) {st:p9} {p:St},Xt st p->Xt (lO rk live st) (kz live p)
 | [],st,p,h=>h
 |(t,k)::live,st,p,h=>by
  cases k with
  |none=>simp only [lO,kz];exact ng live h
  |some n=>
   simp only [lO,kz];cases hn:M2 1000 n with
   |false=>simp only [ol,PP,if_false];exact ng live h
   |true=>
    simp only [lw,if_true];have uO:=h.r.env.lk t;have hsu:=h.e.lk t;rcases agh h uO hsu with ⟨u,e1,e2⟩|⟨e1,e2⟩
    · rw [e1,e2]
      exact ng live (N9 h u _ _)
    rw [e1]
    cases hb:Kk (lk t p.env) with
    |none=>exact ng live h
    |some u=>
     show Xt (lO rk live st) (kz live (qU p u (n / 1000-1) (n%1000)));rw [Ja (e2 u hb)];exact ng live h
theorem Lj {e:SE} {pe:Env} (hE:dW s e pe): ∀{live:List (Nat×Option Nat)},A3 e live=amz->EX e live=live.flatMap fun p=>iZ sK (lk p.1 pe)
 | [],_=>rfl
 |(t,k)::live,h=>by
  simp only [A3,v6] at h;simp only [EX,am1,Lj hE h.2];rw [Uj (fun _=>rfl) (hE.lk t) h.1]
theorem Un: ∀{s':List SB} {s:List SB} {ps:cK} (n:Nat),(amw ps=amw s/\ ∀(t:Nat) (b:SB),s[t]? =amx b-> ∃q,ps[t]? =amx q/\RB s' b q)->EY s n=amz->NW s n=(ps.take n).flatMap qS
 |s',[],ps,n,h,_=>by
  have:ps=[]:=afe.1 (by simpa using h.1)
  subst this;cases n<;>simp [NW]
 |s',b::s,ps,0,h,_=>by simp [NW]
 |s',b::s,ps,n+1,h,hk=>by
  cases ps with
  |nil=>have:=h.1;simp at this
  |cons q ps=>
   simp only [EY,v6] at hk;obtain ⟨q',h1,h2⟩:=h.2 0 b rfl;simp at h1;subst h1;simp only [NW,ajC,am1,I9 h2 hk.1];rw [Un (s':=s') (ps:=ps) n ⟨by simpa using h.1,fun t x hx=>by simpa using h.2 (t+1) x (by simpa using hx)⟩ hk.2]
theorem PX {s:List SB} {v:SV} {p:PV} (h:R s v p):R s (Hy s v) p:=by
 unfold Hy;split
 · rename_i t ex
   rw [cy];split
   · rename_i r l ck
     obtain ⟨e,n,rfl,db⟩:=h;obtain ⟨rfl,rfl⟩:=db.inv ck;exact ⟨amw r,rfl,.inl ⟨r,l,ck,rfl⟩⟩
   exact h
 exact h
theorem PY {s:List SB} (c:Nat): ∀{e:SE} {p:Env},dW s e p->dW s (PK s c e) p
 | [],_,h=>h
 |(t,v)::r,_,h=>by
  obtain ⟨q,qs,rfl,h1,h2⟩:=h;simp only [PK];cases hb:NE t c with
  |true=>exact ⟨q,qs,rfl,PX h1,h2⟩
  |false=>exact ⟨q,qs,rfl,h1,PY c h2⟩
theorem Co: ∀(live:List (Nat×Option Nat)) {st:p9} {p:St},zp st p->zp (A2 live st) p
 | [],st,p,h=>h
 |(t,k)::r,st,p,h=>by
  simp only [A2];cases hn:M2 1000000 t with
  |true=>exact Co r ⟨PY _ h.env,h.aE,h.fz,h.kn⟩
  |false=>exact Co r h
theorem Lk {rk:List (Nat×List PT)} {live:List (Nat×Option Nat)} {st nL:p9} {p:St} (h:zp st p) (hn:EZ rk live st=amx nL): ∃p1,Eb live p=amx p1/\zp nL p1:=by
 unfold EZ at hn;cases hc:(A3 st.env live&&EY st.aE st.kn) with
 |false=>rw [hc] at hn;cases hn
 |true=>
  rw [hc] at hn;simp only [lw] at hn;simp only [v6] at hc;split at hn
  · cases hn
  rename_i m hm
  split at hn
  · rename_i s1 e1 s2 h1 h2
    injection hn with hn;subst hn;have ht:NW st.aE st.kn++EX st.env live=(p.aE.take p.kn).flatMap qS++live.flatMap fun q=>iZ sK (lk q.1 p.env):=by
     rw [Lj h.env hc.1,Un (s':=st.aE) st.kn ⟨h.aE.len,h.aE.at_⟩ hc.2,h.kn]
    rw [ht] at hm;have B':=Fg h.aE _ _ _ _ hm;have hr:Fi m st.aE (s1++s2):=Fi.of h1;obtain ⟨p1,a1,a2,a3⟩:=Cl h.aE hr h1;have cW:(amw s1)=(amw m):=(xL h1).1;obtain ⟨pe1,q2,b1,b2,b3,b4⟩:=I' h.env hr h2 (fun j b hj=>by rw [<- cW,Do (by omega)];simpa using hj)
    have pY:cM (s1++s2) (p1++q2):=⟨by simp [a2,b3],fun t b ht=>by
     rcases af5 t (amw s1) with hl|hl
     · rw [AC hl] at ht
       obtain ⟨q,c1,c2⟩:=a3 t b ht;exact ⟨q,by rw [AC (by omega)];exact c1,c2⟩
     rw [Do hl] at ht
     obtain ⟨q,c1,c2⟩:=b4 _ b ht;exact ⟨q,by rw [Do (by omega),a2];exact c1,c2⟩⟩
    have hs:ae6 (s1++s2):=fun t cs ht=>by
     rcases af5 t (amw s1) with hl|hl
     · rw [AC hl] at ht
       obtain ⟨b,c,d1,d2,d3⟩:=(xL h1).2 t (m[t]'(by omega)) (F0s (by omega))
       rw [ht] at d3;injection d3 with d3;subst d3;cases b with
       |box x=>
        simp only [NV] at d2;split at d2
        · rename_i l me;injection d2 with d2;injection d2 with d2;subst d2;exact mP me
        cases d2
       |arr _ _=>injection d2 with d2;cases d2
       |set _=>injection d2 with d2;cases d2
       |aO _ _=>injection d2 with d2;cases d2
       |dead=>injection d2 with d2;cases d2
     rw [Do hl] at ht
     obtain ⟨r,hr'⟩:=Cm h2 _ _ ht;cases hr'
    have hR:Xt {env:=e1,aE:=s1++s2,fz:=xk st.fz 0 m,kn:=st.kn} {env:=pe1,aE:=p1++q2,fz:=xk p.fz 0 m,kn:=p.kn}:=
     ⟨⟨b2,pY,by rw [h.fz],h.kn⟩,hs,Ag h2⟩
    refine ⟨_,?_,Co live (ng live hR).r⟩;unfold Eb;rw [h.kn] at B';rw [h.kn];rw [B'];dsimp only;rw [a1,b1]
  cases hn
theorem PZ {rk:List (Nat×List PT)} {live:List (Nat×Option Nat)} {st nL:p9} {p:St} (h:zp st p) (hn:E0 rk live st=amx nL): ∃p1,norm live p=amx p1/\zp nL p1:=by
 unfold E0 at hn;cases h1:EZ rk live st with
 |none=>rw [h1] at hn;cases hn
 |some s=>
  rw [h1] at hn;dsimp only at hn;obtain ⟨p1,h2,h3⟩:=Lk h h1;unfold norm;rw [h2];dsimp only;cases ha:(live.any fun p=>p.2.isSome) with
  |true=>
   rw [ha] at hn;simp only [lw] at hn;rw [pp rfl];exact Lk h3 hn
  |false=>
   rw [ha] at hn;injection hn with hn;subst hn;exact ⟨p1,by rw [rc (by simp)],h3⟩
mutual
theorem DU: ∀{a b:SV} (q:List xg),wX a b=amz->sN a (Ch b++q)=(b,q)
 | .undef,.undef,q,_=>rfl
 | .jy,.jy,q,_=>rfl
 | .dU,.dU,q,_=>rfl
 | .int k _,.int l n,q,h=>by rw [fg.1 h];rfl
 | .bool _,.bool _,q,_=>rfl
 | .agg a,.agg b,q,h=>by simp only [sN,Ch,nV q h]
 | .cu a,.cu b,q,h=>by simp only [sN,Ch,nV q h]
 | .sl r _,.sl r' l,q,h=>rfl
 | .nil e c,.nil f d,q,h=>by
  simp only [wX,v6,beq_iff_eq] at h;rw [ut h.1,h.2];rfl
 | .own t x,.own u y,q,h=>by
  simp only [wX,v6,beq_iff_eq] at h;rw [ut h.1,h.2];rfl
 | .pre t _ _ x,.pre u _ _ y,q,h=>by
  simp only [wX,v6,beq_iff_eq] at h;rw [ut h.1,h.2];rfl
 | .part t _ _ _ x,.part u _ _ _ y,q,h=>by
  simp only [wX,v6,beq_iff_eq] at h;rw [ut h.1,h.2];rfl
 | .pb t _ o,.pb u _ p,q,h=>by
  simp only [wX,v6] at h;rw [ut h.1,ut h.2];rfl
 | .bp t n o,.bp u m p,q,h=>by
  simp only [wX,v6] at h;rw [ut h.1.1,ut h.1.2,ut h.2];rfl
 | .bI a o,.bI b p,q,h=>by
  simp only [wX,v6] at h;simp only [sN,Ch,nV q h.1,ut h.2]
 | .eL f a b,.eL g c d,q,h=>by
  simp only [wX,v6] at h;simp only [sN,Ch,ae3,nV _ h.1.2,nV q h.2,ut h.1.1]
 | .mp t,.mp u,q,h=>by rw [ut h];rfl
theorem nV: ∀{a b:List SV} (q:List xg),xI a b=amz->rh a (Ci b++q)=(b,q)
 | [],[],q,_=>rfl
 |x::xs,y::ys,q,h=>by
  simp only [xI,v6] at h;simp only [rh,Ci,ae3,DU _ h.1,nV q h.2]
 | [],_::_,_,h=>by cases h
 |_::_,[],_,h=>by cases h
end
theorem Uo: ∀{a b:SB} (q:List xg),aeY a b=amz->NX a (TX b++q)=(b,q)
 | .arr r _,.arr r' l,q,h=>rfl
 | .box a,.box b,q,h=>by simp only [NX,TX,nV q h]
 | .set _,.set _,q,_=>rfl
 | .aO p _,.aO p' l,q,h=>by obtain rfl:p=p':=PT.PE h;rfl
 | .dead,.dead,q,_=>rfl
 | .arr _ _,.box _,_,h| .arr _ _,.set _,_,h| .arr _ _,.dead,_,h| .box _,.arr _ _,_,h| .box _,.set _,_,h| .box _,.dead,_,h| .set _,.arr _ _,_,h| .set _,.box _,_,h| .set _,.dead,_,h| .dead,.arr _ _,_,h| .dead,.box _,_,h| .dead,.set _,_,h
 | .aO _ _,.arr _ _,_,h| .aO _ _,.box _,_,h| .aO _ _,.set _,_,h| .aO _ _,.dead,_,h| .arr _ _,.aO _ _,_,h| .box _,.aO _ _,_,h| .set _,.aO _ _,_,h| .dead,.aO _ _,_,h=>by cases h
theorem Bg: ∀{a b:List SB} (q:List xg),E2 a b=amz->z7 a (I2 b++q)=(b,q)
 | [],[],q,_=>rfl
 |x::xs,y::ys,q,h=>by
  simp only [E2,v6] at h;simp only [z7,I2,ae3,Uo _ h.1,Bg q h.2]
 | [],_::_,_,h=>by cases h
 |_::_,[],_,h=>by cases h
theorem Ll: ∀{a b:SE} (q:List xg),PL a b=amz->K7 a (RD b++q)=(b,q)
 | [],[],q,_=>rfl
 |(t,x)::xs,(u,y)::ys,q,h=>by
  simp only [PL,v6] at h;simp only [K7,RD,ae3,DU _ h.1.2,Ll q h.2,ut h.1.1]
 | [],_::_,_,h=>by cases h
 |_::_,[],_,h=>by cases h
theorem Lm: ∀{a b:List Nat},PM a b=amz->a=b
 | [],[],_=>rfl
 |x::xs,y::ys,h=>by
  simp only [PM,v6] at h;rw [ut h.1,Lm h.2]
 | [],_::_,h=>by cases h
 |_::_,[],h=>by cases h
theorem RP {a b:p9} (h:E3 a b=amz):zm a (wW b)=b:=by
 obtain ⟨e1,s1,z1,k1⟩:=a;obtain ⟨e2,s2,z2,k2⟩:=b;simp only [E3,v6] at h;obtain ⟨⟨⟨h1,h2⟩,h3⟩,h4⟩:=h;have hs:=Bg [] h2;rw [ae5] at hs;simp only [zm,wW,Ll _ h1,hs,Lm h3,ut h4]
theorem AK.ae7: ∀{a:AK} {x:xg} {y:a.T},a.of x=amx y->a.at y=x
 | .i,.i _,y,h=>by injection h with h;subst h;rfl
 | .b,.b _,y,h=>by injection h with h;subst h;rfl
 | .n,.n _,y,h=>by injection h with h;subst h;rfl
 | .l r,.l q x,y,h=>by obtain ⟨rfl,rfl⟩:=oS h;rfl
 | .s,.s _,y,h=>by injection h with h;subst h;rfl
 | .i,.b _,_,h| .i,.n _,_,h| .i,.l _ _,_,h| .i,.s _,_,h| .b,.i _,_,h| .b,.n _,_,h| .b,.l _ _,_,h| .b,.s _,_,h| .n,.i _,_,h| .n,.b _,_,h| .n,.l _ _,_,h| .n,.s _,_,h
 | .l _,.i _,_,h| .l _,.b _,_,h| .l _,.n _,_,h| .l _,.s _,_,h| .s,.i _,_,h| .s,.b _,_,h| .s,.n _,_,h| .s,.l _ _,_,h=>by cases h
theorem rV: ∀{ks:List AK} {l:List xg} {y:jW ks},qG ks l=amx y->mg ks y=l
 | [],[],y,_=>rfl
 | [a],[x],y,h=>by
  have:=AK.ae7 (a:=a) h
  simp only [mg,this]
 |a::q::r,x::xs,y,h=>by
  simp only [qG] at h;split at h
  · rename_i u v h1 h2
    injection h with h;subst h;simp only [mg,AK.ae7 h1,rV h2]
  cases h
 | [],_::_,_,h=>by cases h
 | [_],[],_,h=>by cases h
 | [_],_::_::_,_,h=>by cases h
 |_::_::_,[],_,h=>by cases h
end
end Go.Vm
/- What is known of functions, and what a call of one comes to. -/
namespace Go.Vm
mutual
def Fj:Nat->PV->Option (PV×cK)
 |_,.int k n=>amx (.int k n,[])
 |_,.bool b=>amx (.bool b,[])
 |nx,.agg cs=>match Fk nx cs with|some r=>amx (.agg r.1,r.2)|none=>amy
 |nx,.cu cs=>match Fk nx cs with|some r=>amx (.cu r.1,r.2)|none=>amy
 |nx,.sl e amA rows=>amx (.own nx e 0 (amw rows) (amw rows) amA,[.arr e rows])
 |_,_=>amy
def Fk:Nat->List PV->Option (List PV×cK)
 |_,[]=>amx ([],[])
 |nx,x::xs=>match Fj nx x with
  |some a=>match Fk (nx+amw a.2) xs with
   |some b=>amx (a.1::b.1,a.2++b.2)
   |none=>amy
  |none=>amy
end
def vK (s:List SB) (n:Nat) (l:List SB):Prop:= ∀(j:Nat) (b:SB),l[j]? =amx b->s[n+j]? =amx b
theorem vK.left {s:List SB} {n:Nat} {l m:List SB} (h:vK s n (l++m)):vK s n l:=fun j b hj=>h j b (by
 rw [AC (ww.1 hj).1];exact hj)
theorem vK.right {s:List SB} {n:Nat} {l m:List SB} (h:vK s n (l++m)):vK s (n+amw l) m:=fun j b hj=>by
 have:=h (amw l+j) b (by rw [Do (by omega)];simpa using hj)
 rwa [Nat.add_assoc]
def Oa (s:List SB) (l:List SB) (q:cK):Prop:=amw q=amw l/\ ∀(j:Nat) (b:SB),l[j]? =amx b-> ∃x,q[j]? =amx x/\RB s b x
theorem Oa.append {s l m:List SB} {q r:cK} (h:Oa s l q) (k:Oa s m r):Oa s (l++m) (q++r):=by
 refine ⟨by simp [h.1,k.1],fun j b hj=>?_⟩
 rcases af5 j (amw l) with hl|hl
 · rw [AC hl] at hj
   obtain ⟨x,h1,h2⟩:=h.2 j b hj;exact ⟨x,by rw [AC (by rw [h.1];exact hl)];exact h1,h2⟩
 rw [Do hl] at hj
 obtain ⟨x,h1,h2⟩:=k.2 _ b hj;exact ⟨x,by rw [Do (by rw [h.1];exact hl),h.1];exact h1,h2⟩
theorem Oa.nil {s:List SB}:Oa s [] []:=⟨rfl,fun j b h=>by simp at h⟩
theorem Oa.one {s:List SB} {b:SB} {x:jR} (h:RB s b x):Oa s [b] [x]:=⟨rfl,fun j c hc=>by
 cases j with
 |zero=>simp at hc;subst hc;exact ⟨x,rfl,h⟩
 |succ j=>simp at hc⟩
mutual
theorem P0: ∀{v:SV} {nx:Nat} {p0 p:PV} {q:cK},rU v=amx p0->Fj nx p0=amx (p,q)-> ∀{s:List SB},vK s nx (xH nx v).2->R s (xH nx v).1 p/\Oa s (xH nx v).2 q
 | .int k n,nx,p0,p,q,h0,h,s,_=>by injection h0 with h0;subst h0;injection h with h;injection h with h1 h2;subst h1 h2;exact ⟨rfl,Oa.nil⟩
 | .bool b,nx,p0,p,q,h0,h,s,_=>by injection h0 with h0;subst h0;injection h with h;injection h with h1 h2;subst h1 h2;exact ⟨rfl,Oa.nil⟩
 | .agg cs,nx,p0,p,q,h0,h,s,hb=>by
  simp only [rU] at h0;split at h0
  · rename_i l hl
    injection h0 with h0;subst h0;simp only [Fj] at h;split at h
    · rename_i r hr
      injection h with h;injection h with h1 h2;subst h1 h2;obtain ⟨h3,h4⟩:=Fl (p:=r.1) (q:=r.2) hl hr hb;exact ⟨⟨r.1,rfl,h3⟩,h4⟩
    cases h
  cases h0
 | .cu cs,nx,p0,p,q,h0,h,s,hb=>by
  simp only [rU] at h0;split at h0
  · rename_i l hl
    injection h0 with h0;subst h0;simp only [Fj] at h;split at h
    · rename_i r hr
      injection h with h;injection h with h1 h2;subst h1 h2;obtain ⟨h3,h4⟩:=Fl (p:=r.1) (q:=r.2) hl hr hb;exact ⟨⟨r.1,rfl,h3⟩,h4⟩
    cases h
  cases h0
 | .sl r l,nx,p0,p,q,h0,h,s,hb=>by
  injection h0 with h0;subst h0;injection h with h;injection h with h1 h2;subst h1 h2;refine ⟨⟨amw r,amw l,by simp,.inl ⟨r,l,hb 0 _ rfl,rfl,rfl⟩⟩,Oa.one rfl⟩
 | .nil e c,nx,p0,p,q,h0,h,s,hb=>by
  injection h0 with h0;subst h0;cases c with
  |true=>simp [Fj] at h
  |false=>
   injection h with h;injection h with h1 h2;subst h1 h2;exact ⟨⟨e,0,rfl,.inl ⟨_,[],hb 0 _ rfl,by simp,rfl⟩⟩,Oa.one (by show _=_;simp)⟩
 | .str _,nx,p0,p,q,h0,h,s,_=>by injection h0 with h0;subst h0;cases h
 | .dU,nx,p0,p,q,h0,h,s,_=>by injection h0 with h0;subst h0;cases h
 | .bI cs o,nx,p0,p,q,h0,h,s,_=>by
  simp only [rU] at h0;split at h0
  · injection h0 with h0;subst h0;cases h
  cases h0
 | .eL f a b,nx,p0,p,q,h0,h,s,_=>by
  simp only [rU] at h0;split at h0
  · injection h0 with h0;subst h0;cases h
  cases h0
 | .iS,_,_,_,_,h0,_,_,_| .undef,_,_,_,_,h0,_,_,_| .jy,_,_,_,_,h0,_,_,_| .own _ _,_,_,_,_,h0,_,_,_| .pre _ _ _ _,_,_,_,_,h0,_,_,_| .part _ _ _ _ _,_,_,_,_,h0,_,_,_
 | .pa _ _ _ _ _,_,_,_,_,h0,_,_,_| .pb _ _ _,_,_,_,_,h0,_,_,_| .bp _ _ _,_,_,_,_,h0,_,_,_| .mp _,_,_,_,_,h0,_,_,_=>by cases h0
theorem Fl: ∀{v:List SV} {nx:Nat} {p0 p:List PV} {q:cK},qH v=amx p0->Fk nx p0=amx (p,q)-> ∀{s:List SB},vK s nx (tP nx v).2->RL s (tP nx v).1 p/\Oa s (tP nx v).2 q
 | [],nx,p0,p,q,h0,h,s,_=>by injection h0 with h0;subst h0;injection h with h;injection h with h1 h2;subst h1 h2;exact ⟨rfl,Oa.nil⟩
 |x::xs,nx,p0,p,q,h0,h,s,hb=>by
  obtain ⟨a,as,rfl,h1,h2⟩:=eI.1 h0;simp only [Fk] at h;split at h
  · rename_i ra hra
    split at h
    · rename_i rb hrb
      injection h with h;injection h with e1 e2;subst e1 e2;simp only [tP] at hb ⊢;obtain ⟨k1,k2⟩:=P0 (p:=ra.1) (q:=ra.2) h1 hra hb.left;rw [k2.1] at hrb;obtain ⟨k3,k4⟩:=Fl (p:=rb.1) (q:=rb.2) h2 hrb hb.right;exact ⟨RL.cons k1 k3,k2.append k4⟩
    cases h
  cases h
end
mutual
theorem Uq {s:List SB} {ps:cK} {z:List Nat} (hS:cM s ps): ∀{v v':SV} {p:PV} {seen seen':List Nat} (nx:Nat),R s v p->RC s z seen v=amx (v',seen')-> ∃p0 p' q,rU v'=amx p0/\Fj nx p0=amx (p',q)/\zb ps z nx seen p=amx (p',q,seen')
 | .int k n,v',p,seen,seen',nx,h,hx=>by injection hx with hx;injection hx with h1 h2;subst h1 h2;rw [show p=_ from h];exact ⟨_,_,_,rfl,rfl,rfl⟩
 | .bool k,v',p,seen,seen',nx,h,hx=>by injection hx with hx;injection hx with h1 h2;subst h1 h2;rw [show p=_ from h];exact ⟨_,_,_,rfl,rfl,rfl⟩
 | .agg cs,v',p,seen,seen',nx,h,hx=>by
  obtain ⟨q,rfl,h⟩:=h;simp only [RC] at hx;split at hx
  · rename_i r hr
    injection hx with hx;injection hx with h1 h2;subst h1 h2;obtain ⟨p0,p',q',h3,h4,h5⟩:=Jb hS (v':=r.1) (seen':=r.2) nx h hr;exact ⟨.agg p0,.agg p',q',by simp only [rU,h3],by simp only [Fj,h4],by simp only [zb,h5];rfl⟩
  cases hx
 | .cu cs,v',p,seen,seen',nx,h,hx=>by
  obtain ⟨q,rfl,h⟩:=h;simp only [RC] at hx;split at hx
  · rename_i r hr
    injection hx with hx;injection hx with h1 h2;subst h1 h2;obtain ⟨p0,p',q',h3,h4,h5⟩:=Jb hS (v':=r.1) (seen':=r.2) nx h hr;exact ⟨.cu p0,.cu p',q',by simp only [rU,h3],by simp only [Fj,h4],by simp only [zb,h5];rfl⟩
  cases hx
 | .nil e c,v',p,seen,seen',nx,h,hx=>by
  cases c with
  |false=>cases hx
  |true=>injection hx with hx;injection hx with h1 h2;subst h1 h2;rw [show p=_ from h];exact ⟨_,_,_,rfl,rfl,rfl⟩
 | .own t ex,v',p,seen,seen',nx,h,hx=>by
  obtain ⟨e,n,rfl,db⟩:=h;simp only [RC,cy] at hx;split at hx
  · rename_i r l ck
    obtain ⟨rfl,rfl⟩:=db.inv ck;cases hc:(has seen t||has z t) with
    |true=>rw [hc] at hx;cases hx
    |false=>
     rw [hc] at hx;injection hx with hx;injection hx with h1 h2;subst h1 h2;refine ⟨_,_,_,rfl,rfl,?_⟩;simp only [zb,hS.arr ck,hc];simp
  cases hx
 | .iS,_,_,_,_,_,_,hx| .undef,_,_,_,_,_,_,hx| .jy,_,_,_,_,_,_,hx| .dU,_,_,_,_,_,_,hx| .str _,_,_,_,_,_,_,hx| .sl _ _,_,_,_,_,_,_,hx| .pre _ _ _ _,_,_,_,_,_,_,hx| .part _ _ _ _ _,_,_,_,_,_,_,hx
 | .pa _ _ _ _ _,_,_,_,_,_,_,hx| .pb _ _ _,_,_,_,_,_,_,hx| .bp _ _ _,_,_,_,_,_,_,hx| .bI _ _,_,_,_,_,_,_,hx| .eL _ _ _,_,_,_,_,_,_,hx| .mp _,_,_,_,_,_,_,hx=>by cases hx
theorem Jb {s:List SB} {ps:cK} {z:List Nat} (hS:cM s ps): ∀{v v':List SV} {p:List PV} {seen seen':List Nat} (nx:Nat),RL s v p->K6 s z seen v=amx (v',seen')-> ∃p0 p' q,qH v'=amx p0/\Fk nx p0=amx (p',q)/\Ir ps z nx seen p=amx (p',q,seen')
 | [],v',p,seen,seen',nx,h,hx=>by injection hx with hx;injection hx with h1 h2;subst h1 h2;rw [show p=_ from h];exact ⟨_,_,_,rfl,rfl,rfl⟩
 |x::xs,v',p,seen,seen',nx,h,hx=>by
  obtain ⟨a,as,rfl,h1,h2⟩:=h.cons_inv;simp only [K6] at hx;split at hx
  · rename_i r hr
    split at hx
    · rename_i r2 Py
      injection hx with hx;injection hx with e1 e2;subst e1 e2;obtain ⟨p0,p',q,k1,k2,k3⟩:=Uq hS (v':=r.1) (seen':=r.2) nx h1 hr;obtain ⟨p02,p'2,q2,k4,k5,k6⟩:=Jb hS (v':=r2.1) (seen':=r2.2) (nx+amw q) h2 Py;exact ⟨p0::p02,p'::p'2,q++q2,eI.2 ⟨_,_,rfl,k1,k4⟩,by simp only [Fk,k2,k5],by simp only [Ir,k3,k6]⟩
    cases hx
  cases hx
end
mutual
theorem Ln {s:List SB}: ∀{v:SV} {p:PV},R s v p->z6 v=amz->p.ky=amz
 | .int _ _,p,h,_| .bool _,p,h,_| .str _,p,h,_=>by rw [show p=_ from h];rfl
 | .agg cs,p,h,hn=>by obtain ⟨q,rfl,h⟩:=h;exact Cp h hn
 | .cu cs,p,h,hn=>by obtain ⟨q,rfl,h⟩:=h;exact Cp h hn
 | .iS,_,_,h| .undef,_,_,h| .jy,_,_,h| .dU,_,_,h| .sl _ _,_,_,h| .nil _ _,_,_,h| .own _ _,_,_,h| .pre _ _ _ _,_,_,h| .part _ _ _ _ _,_,_,h| .pa _ _ _ _ _,_,_,h| .pb _ _ _,_,_,h| .bp _ _ _,_,_,h| .bI _ _,_,_,h| .eL _ _ _,_,_,h| .mp _,_,_,h=>by cases h
theorem Cp {s:List SB}: ∀{v:List SV} {p:List PV},RL s v p->rf v=amz->vf p=amz
 | [],p,h,_=>by rw [show p=_ from h];rfl
 |x::xs,p,h,hn=>by
  obtain ⟨a,as,rfl,h1,h2⟩:=h.cons_inv;simp only [rf,v6] at hn;simp only [vf,Ln h1 hn.1,Cp h2 hn.2,aeu]
end
mutual
theorem HH {s:List SB} {u:SV}: ∀{v:SV} {p:PV},R s v p->z6 v=amA->TV s v=amx u->p.ky=amA
 | .int _ _,p,h,hn,_| .bool _,p,h,hn,_| .str _,p,h,hn,_=>by cases hn
 | .agg cs,p,h,hn,hi=>by
  obtain ⟨q,rfl,h⟩:=h;simp only [TV] at hi;split at hi
  · rename_i l hl;exact Ah h hn hl
  cases hi
 | .cu cs,p,h,hn,hi=>by
  obtain ⟨q,rfl,h⟩:=h;simp only [TV] at hi;split at hi
  · rename_i l hl;exact Ah h hn hl
  cases hi
 | .sl _ _,p,h,_,_=>by rw [show p=_ from h];rfl
 | .nil _ _,p,h,_,_=>by rw [show p=_ from h];rfl
 | .own _ _,p,h,_,_=>by obtain ⟨e,n,rfl,_⟩:=h;rfl
 | .pre _ _ _ _,p,h,_,_=>by obtain ⟨e,rfl,_⟩:=h;rfl
 | .part _ _ _ _ _,p,h,_,_=>by obtain ⟨e,rfl,_⟩:=h;rfl
 | .iS,_,_,_,h| .undef,_,_,_,h| .jy,_,_,_,h| .dU,_,_,_,h| .pa _ _ _ _ _,_,_,_,h| .pb _ _ _,_,_,_,h| .bp _ _ _,_,_,_,h| .bI _ _,_,_,_,h| .eL _ _ _,_,_,_,h| .mp _,_,_,_,h=>by cases h
theorem Ah {s:List SB}: ∀{v u:List SV} {p:List PV},RL s v p->rf v=amA->NU s v=amx u->vf p=amA
 | [],u,p,h,hn,_=>by cases hn
 |x::xs,u,p,h,hn,hi=>by
  obtain ⟨a,as,rfl,h1,h2⟩:=h.cons_inv;simp only [NU] at hi;split at hi
  · rename_i y ys h3 h4
    simp only [rf] at hn;simp only [vf];cases hx:z6 x with
    |false=>rw [HH h1 hx h3];rfl
    |true=>rw [hx] at hn;rw [Ah h2 (by simpa using hn) h4];simp
  cases hi
end
mutual
theorem ae8 {s:List SB} {ps:cK} (hS:cM s ps): ∀{v u:SV} {p:PV},R s v p->TV s v=amx u-> ∃q,ym ps p=amx q/\rU u=amx q
 | .int k n,u,p,h,hx=>by injection hx with hx;subst hx;rw [show p=_ from h];exact ⟨_,rfl,rfl⟩
 | .bool b,u,p,h,hx=>by injection hx with hx;subst hx;rw [show p=_ from h];exact ⟨_,rfl,rfl⟩
 | .str x,u,p,h,hx=>by injection hx with hx;subst hx;rw [show p=_ from h];exact ⟨_,rfl,rfl⟩
 | .agg cs,u,p,h,hx=>by
  obtain ⟨q,rfl,h⟩:=h;simp only [TV] at hx;split at hx
  · rename_i l hl
    injection hx with hx;subst hx;obtain ⟨q',h1,h2⟩:=Ob hS h hl;exact ⟨.agg q',by simp only [ym,h1];rfl,by simp only [rU,h2]⟩
  cases hx
 | .cu cs,u,p,h,hx=>by
  obtain ⟨q,rfl,h⟩:=h;simp only [TV] at hx;split at hx
  · rename_i l hl
    injection hx with hx;subst hx;obtain ⟨q',h1,h2⟩:=Ob hS h hl;exact ⟨.cu q',by simp only [ym,h1];rfl,by simp only [rU,h2]⟩
  cases hx
 | .sl r l,u,p,h,hx=>by injection hx with hx;subst hx;rw [show p=_ from h];exact ⟨_,rfl,rfl⟩
 | .nil e c,u,p,h,hx=>by injection hx with hx;subst hx;rw [show p=_ from h];exact ⟨_,rfl,rfl⟩
 | .own t ex,u,p,h,hx=>by
  simp only [TV,cy] at hx;split at hx
  · rename_i r l ck
    injection hx with hx;subst hx;obtain ⟨e,n,rfl,db⟩:=h;obtain ⟨rfl,rfl⟩:=db.inv ck;refine ⟨.sl (amw r) amA (l.map (RT.pv r)),?_,rfl⟩;simp only [ym,hS.arr ck,aeE];rw [aeC (by simp)]
  cases hx
 | .pre t len cap ex,u,p,h,hx=>by
  simp only [TV,cy] at hx;split at hx
  · rename_i r l ck
    injection hx with hx;subst hx;obtain ⟨e,rfl,db⟩:=h
    have:=db.inv ck
    subst this;refine ⟨.sl (amw r) amA ((l.take len).map (RT.pv r)),?_,rfl⟩;simp only [ym,hS.arr ck,aeE,aeB]
  cases hx
 | .part t off len cap ex,u,p,h,hx=>by
  simp only [TV,cy] at hx;split at hx
  · rename_i r l ck
    injection hx with hx;subst hx;obtain ⟨e,rfl,db⟩:=h
    have:=db.inv ck
    subst this;refine ⟨.sl (amw r) amA (((l.drop off).take len).map (RT.pv r)),?_,rfl⟩;simp only [ym,hS.arr ck,aeB,afa]
  cases hx
 | .iS,_,_,_,hx| .undef,_,_,_,hx| .jy,_,_,_,hx| .dU,_,_,_,hx| .pa _ _ _ _ _,_,_,_,hx| .pb _ _ _,_,_,_,hx| .bp _ _ _,_,_,_,hx| .bI _ _,_,_,_,hx| .eL _ _ _,_,_,_,hx| .mp _,_,_,_,hx=>by cases hx
theorem Ob {s:List SB} {ps:cK} (hS:cM s ps): ∀{v u:List SV} {p:List PV},RL s v p->NU s v=amx u-> ∃q,Iq ps p=amx q/\qH u=amx q
 | [],u,p,h,hx=>by injection hx with hx;subst hx;rw [show p=_ from h];exact ⟨_,rfl,rfl⟩
 |x::xs,u,p,h,hx=>by
  obtain ⟨a,as,rfl,h1,h2⟩:=h.cons_inv;simp only [NU] at hx;split at hx
  · rename_i y ys h3 h4
    injection hx with hx;subst hx;obtain ⟨q,h5,h6⟩:=ae8 hS h1 h3;obtain ⟨qs,h7,h8⟩:=Ob hS h2 h4;exact ⟨q::qs,by simp only [Iq,h5,h7],eI.2 ⟨_,_,rfl,h6,h8⟩⟩
  cases hx
end
mutual
theorem Ur {s:List SB}: ∀{v:SV} {p:PV},rU v=amx p->R s v p
 | .int _ _,p,h| .bool _,p,h| .str _,p,h| .dU,p,h| .sl _ _,p,h| .nil _ _,p,h=>by injection h with h;exact h.symm
 | .agg cs,p,h=>by
  simp only [rU] at h;split at h
  · rename_i l hl;injection h with h;exact ⟨l,h.symm,Fm hl⟩
  cases h
 | .cu cs,p,h=>by
  simp only [rU] at h;split at h
  · rename_i l hl;injection h with h;exact ⟨l,h.symm,Fm hl⟩
  cases h
 | .bI cs o,p,h=>by
  simp only [rU] at h;split at h
  · rename_i l hl;injection h with h;exact ⟨l,h.symm,Fm hl⟩
  cases h
 | .eL f a b,p,h=>by
  simp only [rU] at h;split at h
  · rename_i x y h1 h2;injection h with h;exact ⟨x,y,h.symm,Fm h1,Fm h2⟩
  cases h
 | .iS,_,h| .undef,_,h| .jy,_,h| .own _ _,_,h| .pre _ _ _ _,_,h| .part _ _ _ _ _,_,h| .pa _ _ _ _ _,_,h| .pb _ _ _,_,h| .bp _ _ _,_,h| .mp _,_,h=>by cases h
theorem Fm {s:List SB}: ∀{v:List SV} {p:List PV},qH v=amx p->RL s v p
 | [],p,h=>by injection h with h;exact h.symm
 |x::xs,p,h=>by
  obtain ⟨a,as,rfl,h1,h2⟩:=eI.1 h;exact RL.cons (Ur h1) (Fm h2)
end
def ae9 (kd:Kd) (n:Nat) (tk:List Nat) (v:SV) (r:nI):Prop:=
 match kd with
 | .pure=> ∃p,rU v=amx p/\r={v:=p,rd:=tk}
 | .na=> ∃p,rU v=amx p/\r={v:=p,rd:=tk,fr:=tk}
 | .own=> ∃p0 p q,rU v=amx p0/\Fj n p0=amx (p,q)/\r={v:=p,news:=q,rd:=tk}
def aG (F : mJ) (f : FuncId) (c : bA) : Prop :=
  ∀ (a : c.α) (b : c.β) (as args : List PV) (aE : cK) (fz : List Nat), c.fn a = amx b -> qH (c.args.enc a) = amx args -> BU aE (xi aE deep) as = amx args ->
    ∃ n r, dv F (run F n) c.ow f as aE fz = amx r /\ ae9 c.kd (amw aE) (dC (di aE deep) as) (c.res.enc b) r
def dP.va (c:dP) (a:jW c.ka):List SV:=(rh c.ta (mg c.ka a)).1
def dP.sa (c:dP) (a:jW c.ka):List SB:=(z7 c.tb (rh c.ta (mg c.ka a)).2).1
def dP.vb (c:dP) (b:jW c.ko):SV:=(sN c.tv (mg c.ko b)).1
def dP.sb (c:dP) (b:jW c.ko):List SB:=(z7 c.to (sN c.tv (mg c.ko b)).2).1
def Us:SB->SB->Prop
 | .arr r l,.arr q m=>r=q/\amw m=amw l
 | .box _,.box _=>True
 | .set _,.set _=>True
 | .aO _ _,.aO _ _=>True
 | .dead,.dead=>True
 |_,_=>False
def jn (F : mJ) (f : FuncId) (c : dP) : Prop :=
  ∀ (a : jW c.ka) (b : jW c.ko) (pa : List PV) (ps : cK), c.fn a = amx b -> RL (c.sa a) (c.va a) pa -> cM (c.sa a) ps ->
    ∃ n v s, run F n (.func f pa ps []) = amx (.func v s []) /\ ij (c.sa a).length v s = amz /\ R (c.sb b) (c.vb b) v /\ cM (c.sb b) (s.take (c.sa a).length) /\ (c.sb b).length = (c.sa a).length /\
      ∀ (t : Nat) (x y : SB), (c.sa a)[t]? = amx x -> (c.sb b)[t]? = amx y -> Us x y
def Ai (F:mJ):List (Nat×bA)->Prop
 | []=>True
 |(f,c)::r=>aG F f c/\Ai F r
def HI (F:mJ):List (Nat×dP)->Prop
 | []=>True
 |(f,c)::r=>jn F f c/\HI F r
def Bh (F:mJ):List (Nat×Cd)->Prop
 | []=>True
 |(f,x)::r=>F f=amx x.ent/\Bh F r
structure gG (F:mJ) (cx:Ctx):Prop where
 con: ∀f c,c∈cx.con f->aG F f c
 fpc: ∀f c,c∈cx.fpc f->jn F f c
 code: ∀f x,cx.code f=amx x->F f=amx x.ent
theorem Ai.mem {F:mJ}: ∀{l:List (Nat×bA)},Ai F l-> ∀f c,c∈Lc l f->aG F f c
 | [],_,f,c,h=>by cases h
 |(g,d)::r,hl,f,c,h=>by
  simp only [Lc] at h;cases hb:NE g f with
  |true=>
   rw [hb] at h
   have:=ut hb
   subst this;simp only [lw] at h;rcases h with _|⟨_,h⟩
   · exact hl.1
   exact Ai.mem hl.2 _ c h
  |false=>rw [hb] at h;exact Ai.mem hl.2 f c h
theorem HI.mem {F:mJ}: ∀{l:List (Nat×dP)},HI F l-> ∀f c,c∈Ld l f->jn F f c
 | [],_,f,c,h=>by cases h
 |(g,d)::r,hl,f,c,h=>by
  simp only [Ld] at h;cases hb:NE g f with
  |true=>
   rw [hb] at h
   have:=ut hb
   subst this;simp only [lw] at h;rcases h with _|⟨_,h⟩
   · exact hl.1
   exact HI.mem hl.2 _ c h
  |false=>rw [hb] at h;exact HI.mem hl.2 f c h
theorem Bh.mem {F:mJ}: ∀{l:List (Nat×Cd)},Bh F l-> ∀f x,I6 l f=amx x->F f=amx x.ent
 | [],_,f,c,h=>by cases h
 |(g,d)::r,hl,f,c,h=>by
  simp only [I6] at h;cases hb:NE g f with
  |true=>
   rw [hb] at h
   have:=ut hb
   subst this;injection h with h;subst h;exact hl.1
  |false=>rw [hb] at h;exact Bh.mem hl.2 f c h
theorem gG.make {F:mJ} {lp:Option Nat} {c:List (Nat×bA)} {p:List (Nat×dP)} {x:List (Nat×Cd)} {rk:List (Nat×List PT)} (h1:Ai F c) (h2:HI F p) (h3:Bh F x):gG F (iT lp c p x rk):=
 ⟨h1.mem,h2.mem,h3.mem⟩
section
variable {F : mJ} {R' ρ : Type} {w : R' -> ρ} {y : ρ} {s : List SB} {ps : cK} {z : List Nat}
theorem xM {f:FuncId} {m:Bool} {tk:List Nat} {vs:List SV} {k:XRS->gp R'} (hS:cM s ps) {as args:List PV} (hx:BU ps (xi ps deep) as=amx args) (hv:qH vs=amx args) (B5:tk=dC (di ps deep) as):
 ∀{l:List bA},(∀c∈l,aG F f c)->NZ f m s tk vs k l ρ w=amx y-> ∃sr pr,(∃n,dv F (run F n) m f as ps z=amx pr)/\Good s ps sr pr/\k (.loc sr) ρ w=amx y
 | [],_,h=>by cases h
 |c::l,hl,h=>by
  simp only [NZ] at h;cases hd:c.args.dec vs with
  |none=>rw [hd] at h;exact xM hS hx hv B5 (fun c hc=>hl c (afp _ hc)) h
  |some a=>
   rw [hd] at h;cases hmo:(m==c.ow) with
   |false=>
    rw [hmo] at h;exact xM hS hx hv B5 (fun c hc=>hl c (afp _ hc)) h
   |true=>
   rw [hmo] at h;obtain ⟨b,hb,h2⟩:=cQ h;have hm:m=c.ow:=by simpa using hmo
   subst hm;have asP:=c.args.law hd hv;obtain ⟨n,r,hr,AX⟩:=hl c (afb ..) a b as args ps z hb asP hx;cases hkd:c.kd with
   |pure=>
    rw [hkd] at h2 AX;obtain ⟨p,h3,rfl⟩:=AX;exact ⟨_,_,⟨n,hr⟩,by rw [<- B5];exact Good.val hS (Ur h3),h2⟩
   |na=>
    rw [hkd] at h2 AX;obtain ⟨p,h3,rfl⟩:=AX;exact ⟨_,_,⟨n,hr⟩,by rw [<- B5];exact Good.val hS (Ur h3),h2⟩
   |own=>
    rw [hkd] at h2 AX;obtain ⟨p0,p,q,h3,h4,rfl⟩:=AX;rw [hS.len] at h4;have hbh:vK (s++(xH (amw s) (c.res.enc b)).2) (amw s) (xH (amw s) (c.res.enc b)).2:=fun j x hj=>by
     rw [Do (by omega)];simpa using hj
    obtain ⟨k1,k2⟩:=P0 h3 h4 hbh;exact ⟨_,_,⟨n,hr⟩,by rw [<- B5];exact Good.news hS k2.1 k2.2 k1,h2⟩
end
end Go.Vm
/- A call of a function that works on the blocks that are lent to it. -/
namespace Go.Vm
def qJ {α:Type}:List (Nat×α)->List α->List α
 | [],s=>s
 |(t,b)::r,s=>qJ r (s.set t b)
theorem vL: ∀(l:List (Nat×SB)) (s:List SB),qI l s=qJ l s
 | [],s=>rfl
 |(t,b)::r,s=>by simp only [qI,qJ,A',vL r]
theorem Da: ∀(l:List (Nat×jR)) (s:cK),fZ l s=qJ l s
 | [],s=>rfl
 |(t,b)::r,s=>by simp only [fZ,qJ,Da r]
theorem Aj {α:Type}: ∀(l:List (Nat×α)) (s:List α),(qJ l s).length=amw s
 | [],s=>rfl
 |(t,b)::r,s=>by simp [qJ,Aj r]
theorem vM {α:Type}: ∀(l:List (Nat×α)) (s:List α) (t:Nat),t∉l.map (·.1)->(qJ l s)[t]? =s[t]?
 | [],s,t,_=>rfl
 |(u,b)::r,s,t,h=>by
  simp only [aet,List.mem_cons,not_or] at h;simp only [qJ];rw [vM r _ t h.2,IR];simp [Ne.symm h.1]
theorem Cq {α:Type}: ∀(l:List (Nat×α)) (s:List α) (j t:Nat) (b:α),(l.map (·.1)).Nodup->l[j]? =amx (t,b)->t<amw s->(qJ l s)[t]? =amx b
 | [],s,j,t,b,_,h,_=>by simp at h
 |(u,c)::r,s,0,t,b,hn,h,ht=>by
  simp at h;obtain ⟨rfl,rfl⟩:=h;simp only [aet,age] at hn;simp only [qJ];rw [vM r _ u hn.1,IR];simp [ht]
 |(u,c)::r,s,j+1,t,b,hn,h,ht=>by
  simp only [aet,age] at hn;simp only [qJ];exact Cq r _ j t b hn.2 (by simpa using h) (by simpa using ht)
theorem Bi: ∀(l:List (Nat×SB)),xJ l=l.map (·.1)
 | []=>rfl
 |(t,b)::r=>by simp [xJ,Bi r]
theorem HJ (g:Nat->Nat): ∀(tk:List Nat) (s:List SB),amw s=amw tk->(zn g tk s).map (·.1)=tk/\ ∀(j t:Nat) (b:SB),tk[j]? =amx t->s[j]? =amx b->(zn g tk s)[j]? =amx (t,T1 g b)
 | [],s,h=>⟨by simp [zn],fun j t b hj=>by simp at hj⟩
 |t::tk,[],h=>by simp at h
 |t::tk,b::s,h=>by
  obtain ⟨h1,h2⟩:=HJ g tk s (by simpa using h)
  refine ⟨by simp [zn,h1],fun j u c hj hc=>?_⟩
  cases j with
  |zero=>simp at hj hc;subst hj hc;rfl
  |succ j=>simp only [zn,aeF];exact h2 j u c (by simpa using hj) (by simpa using hc)
theorem Fo (g:Nat->Nat): ∀(tk:List Nat) (s:cK),amw tk<=amw s->(oO g tk s).map (·.1)=tk/\ ∀(j t:Nat) (b:jR),tk[j]? =amx t->s[j]? =amx b->(oO g tk s)[j]? =amx (t,zd g b)
 | [],s,h=>⟨by simp [oO],fun j t b hj=>by simp at hj⟩
 |t::tk,[],h=>by simp at h
 |t::tk,b::s,h=>by
  obtain ⟨h1,h2⟩:=Fo g tk s (by simpa using h)
  refine ⟨by simp [oO,h1],fun j u c hj hc=>?_⟩
  cases j with
  |zero=>simp at hj hc;subst hj hc;rfl
  |succ j=>simp only [oO,aeF];exact h2 j u c (by simpa using hj) (by simpa using hc)
theorem HK: ∀{l:List (Nat×jR)},(l.map (·.1)).Nodup->vj l=amz
 | [],_=>rfl
 |p::r,h=>by
  simp only [aet,age] at h;simp only [vj,v6,aeD,adc];refine ⟨fun q hq=>?_,HK h.2⟩
  cases hb:NE q.1 p.1 with
  |false=>rfl
  |true=>exact absurd (am6.2 ⟨q,hq,ut hb⟩) h.1
theorem Jc: ∀(s:List SB),BQ [] s=s
 | []=>rfl
 |b::r=>by
  simp only [BQ,Jc r];cases b<;>simp [W9,s4]
theorem Lo (s:List SB) (r:fQ):r.nb s=BQ (xJ r.wr) (qI r.wr s)++r.news:=by
 unfold fQ.nb;split
 · rename_i h;rw [h];simp only [xJ,qI,Jc,mc]
 simp only [mc]
def agi (g:Nat->Nat) (s s2:List SB):Prop:= ∀(u:Nat) (x:SB),s[u]? =amx x->match x with
 | .arr r l=>s2[g u]? =amx (.arr r l)
 | .dead=>s2[g u]? =amx .dead
 | .box _=> ∃cs,s2[g u]? =amx (.box cs)
 |_=>True
mutual
theorem P1 {g:Nat->Nat} {s s2:List SB} (hb:agi g s s2): ∀{v:SV} {p:PV},R s v p->R s2 (K8 g v) (BV g p)
 | .iS,_,_=>trivial
 | .undef,p,h| .jy,p,h| .dU,p,h| .int _ _,p,h| .bool _,p,h| .str _,p,h| .sl _ _,p,h| .nil _ _,p,h| .bp _ _ _,p,h| .mp _,p,h=>by rw [show p=_ from h];rfl
 | .agg cs,p,h=>by obtain ⟨q,rfl,h⟩:=h;exact ⟨_,rfl,vN hb h⟩
 | .cu cs,p,h=>by obtain ⟨q,rfl,h⟩:=h;exact ⟨_,rfl,vN hb h⟩
 | .bI cs o,p,h=>by obtain ⟨q,rfl,h⟩:=h;exact ⟨_,rfl,vN hb h⟩
 | .eL f a b,p,h=>by obtain ⟨pa,pb,rfl,h1,h2⟩:=h;exact ⟨_,_,rfl,vN hb h1,vN hb h2⟩
 | .own t ex,p,h=>by
  obtain ⟨e,n,rfl,db⟩:=h;refine ⟨e,n,rfl,?_⟩;rcases db with ⟨r,l,h1,h2,h3⟩|h1
  · exact .inl ⟨r,l,hb t _ h1,h2,h3⟩
  exact .inr (hb t _ h1)
 | .pre t a b c,p,h=>by
  obtain ⟨e,rfl,db⟩:=h;refine ⟨e,rfl,?_⟩;rcases db with ⟨r,l,h1,h2⟩|h1|⟨cs,h1,h2⟩
  · exact .inl ⟨r,l,hb t _ h1,h2⟩
  · exact .inr (.inl (hb t _ h1))
  obtain ⟨c2,h3⟩:=hb t _ h1
  exact .inr (.inr ⟨c2,h3,h2⟩)
 | .part t o a b c,p,h=>by
  obtain ⟨e,rfl,db⟩:=h;refine ⟨e,rfl,?_⟩;rcases db with ⟨r,l,h1,h2⟩|h1|⟨cs,h1,h2⟩
  · exact .inl ⟨r,l,hb t _ h1,h2⟩
  · exact .inr (.inl (hb t _ h1))
  obtain ⟨c2,h3⟩:=hb t _ h1
  exact .inr (.inr ⟨c2,h3,h2⟩)
 | .pa t r i a o,p,h=>by
  obtain ⟨rfl,db⟩:=h;refine ⟨_,rfl,?_⟩;rcases db with ⟨l,h1,h2⟩|h1
  · exact .inl ⟨r,l,hb t _ h1,by rw [h2];rfl⟩
  exact .inr (hb t _ h1)
 | .pb t i o,p,h=>by
  obtain ⟨e,rfl,db⟩:=h;refine ⟨e,rfl,?_⟩;rcases db with ⟨r,l,h1,h2⟩|h1
  · exact .inl ⟨r,l,hb t _ h1,h2⟩
  exact .inr (hb t _ h1)
theorem vN {g:Nat->Nat} {s s2:List SB} (hb:agi g s s2): ∀{v:List SV} {p:List PV},RL s v p->RL s2 (C7 g v) (wO g p)
 | [],p,h=>by rw [show p=_ from h];rfl
 |x::xs,p,h=>by
  obtain ⟨a,as,rfl,h1,h2⟩:=h.cons_inv;exact RL.cons (P1 hb h1) (vN hb h2)
end
theorem Fp: ∀{a b:cK},(∀(t:Nat) (x:jR),a[t]? =amx x-> ∃y,b[t]? =amx y/\x.bM=y.bM)->vg a b=amz
 | [],b,_=>by cases b<;>rfl
 |x::a,[],h=>by obtain ⟨y,hy,_⟩:=h 0 x rfl;simp at hy
 |x::a,y::b,h=>by
  obtain ⟨y',h1,h2⟩:=h 0 x rfl;simp at h1;subst h1
  have:=Fp (a:=a) (b:=b) (fun t x hx=>by simpa using h (t+1) x (by simpa using hx))
  simp only [vg,this,afo,h2];cases y.bM<;>rfl
section
variable {F : mJ} {R' ρ : Type} {w : R' -> ρ} {y : ρ} {s : List SB} {ps : cK} {z : List Nat}
theorem P2 {f:FuncId} {tk:List Nat} {Od vs:List SV} {s0:List SB} {k:XRS->gp R'} (hS:cM s ps) {Wo:List PV} (hv:RL s Od Wo) (B5:tk=oK (dC (di ps deep) Wo)) (hz:(tk.all fun t=>!has z t)=amz)
 (h1:sZ tk Od=amx vs) (h2:G0 s tk tk=amx s0):
 ∀{l:List dP},(∀c∈l,jn F f c)->fpS f (amw s) tk vs s0 k l ρ w=amx y-> ∃sr pr,(∃n,tG (run F n) f Wo ps z=amx pr)/\Good s ps sr pr/\k (.loc sr) ρ w=amx y
 | [],_,h=>by cases h
 |c::l,hl,h=>by
  have next:fpS f (amw s) tk vs s0 k l ρ w=amx y-> ∃sr pr,(∃n,tG (run F n) f Wo ps z=amx pr)/\Good s ps sr pr/\k (.loc sr) ρ w=amx y:=
   fun h=>P2 hS hv B5 hz h1 h2 (fun c hc=>hl c (afp _ hc)) h
  simp only [fpS] at h;cases uO:(xI c.ta vs&&E2 c.tb s0) with
  |false=>rw [uO] at h;exact next h
  |true=>
   rw [uO] at h;simp only [lw] at h;cases hpo:qG c.ka (Ci vs++I2 s0) with
   |none=>rw [hpo] at h;exact next h
   |some a=>
    rw [hpo] at h;obtain ⟨b,hb,h3⟩:=cQ h;simp only [v6] at uO;have Ew:=rV hpo;have hva:c.va a=vs:=by unfold dP.va;rw [Ew,nV _ uO.1]
    have hsa:c.sa a=s0:=by
     unfold dP.sa;rw [Ew,nV _ uO.1]
     have:=Bg [] uO.2
     rw [ae5] at this;rw [this]
    have EA:Fi tk s s0:=by have:=Fi.of (l:=[]) h2;rwa [ae5] at this
    obtain ⟨pa',a1,a2⟩:=s7 EA hv h1;obtain ⟨p0,b1,b2,b3⟩:=Cl hS EA h2;have IQ:cM s0 p0:=⟨b2,b3⟩;obtain ⟨Xu,aoc⟩:=xL h2;obtain ⟨n,v,sr,r1,r2,r3,r4,r5,r6⟩:=hl c (afb ..) a b pa' p0 hb (by rw [hva,hsa];exact a2) (by rw [hsa];exact IQ)
    rw [hsa] at r2 r4 r5 r6;have GK:tk.Nodup:=by rw [B5];exact sX
    have ND: ∀t∈tk,t<(amw s):=fun t ht=>by
     obtain ⟨j,hj,he⟩:=afu ht;obtain ⟨x,c',d1,_,_⟩:=aoc j t (by rw [F0s hj,he])
     exact (ww.1 d1).1
    have aod:(c.sb b).length=(amw tk):=by rw [r5,Xu]
    have asS:(amw tk)<=(amw sr):=by
     have:=r4.len
     rw [aeA,aod] at this;rw [Xu] at this;omega
    have Fe: ∀j,j<amw tk->(sr.take (amw s0))[j]? =sr[j]?:=fun j hj=>If (by rw [Xu];exact hj)
    have Tk:vg p0 sr=amz:=Fp (fun t x hx=>by
     have asT:t<(amw s0):=by have:=(ww.1 hx).1;rw [b2] at this;exact this
     obtain ⟨x0,IV⟩: ∃x0,s0[t]? =amx x0:=⟨s0[t],F0s asT⟩;obtain ⟨q,q1,q2⟩:=b3 t x0 IV;rw [hx] at q1;injection q1 with q1;subst q1;obtain ⟨y0,RQ⟩: ∃y0,(c.sb b)[t]? =amx y0:=⟨(c.sb b)[t]'(by omega),F0s (by omega)⟩
     obtain ⟨q',q3,q4⟩:=r4.at_ t y0 RQ;rw [Fe t (by omega)] at q3
     refine ⟨q',q3,?_⟩;have GU:=r6 t x0 y0 IV RQ;cases x0 with
     |arr r l=>cases y0 with
      |arr r' l'=>
       obtain ⟨rfl,zP⟩:=GU;rw [show x=_ from q2,show q'=_ from q4];cases l<;>cases l'<;>simp_all [jR.bM]
      |_=>exact GU.elim
     |box cs=>cases y0 with
      |box He=>obtain ⟨_,rfl,_⟩:=q2;obtain ⟨_,rfl,_⟩:=q4;rfl
      |_=>exact GU.elim
     |set l=>cases y0 with
      |set l'=>rw [show x=_ from q2,show q'=_ from q4];rfl
      |_=>exact GU.elim
     |aO p l=>cases y0 with
      |aO p' l'=>rw [show x=_ from q2,show q'=_ from q4];rfl
      |_=>exact GU.elim
     |dead=>cases y0 with
      |dead=>rw [show x=_ from q2,show q'=_ from q4]
      |_=>exact GU.elim)
    let g:=j7 tk (amw s)
    have hg: ∀j t,tk[j]? =amx t->g j=t:=fun j t hj=>by show j7 tk (amw s) j=t;unfold j7;rw [hj]
    obtain ⟨w1,w2⟩:=HJ g tk (c.sb b) aod;obtain ⟨u1,u2⟩:=Fo g tk sr asS
    let s2:=BQ tk (qI (zn g tk (c.sb b)) s)
    have vv: ∀(j t:Nat) (x:SB),tk[j]? =amx t->(c.sb b)[j]? =amx x->s2[t]? =amx (W9 tk (T1 g x)):=fun j t x hj hx=>by
     show (BQ tk _)[t]? =_;rw [ri,vL,Cq _ s j t _ (by rw [w1];exact GK) (w2 j t x hj hx) (ND t (af3 hj))]
     rfl
    have aoe: ∀(t:Nat),t∉tk->s2[t]? =(s[t]?).map (W9 tk):=fun t ht=>by
     show (BQ tk _)[t]? =_;rw [ri,vL,vM _ s t (by rw [w1];exact ht)]
    have y6: ∀t∈tk,∃j,tk[j]? =amx t:=fun t ht=>by
     obtain ⟨j,hj,he⟩:=afu ht;exact ⟨j,by rw [F0s hj,he]⟩
    have rQ:Fr tk s s2:=fun t x hx=>by
     by_cases ht:t∈tk
     · obtain ⟨j,hj⟩:=y6 t ht
       have Nn:j<(amw tk):=(ww.1 hj).1;obtain ⟨x',c',d1,d2,d3⟩:=aoc j t hj;rw [hx] at d1;injection d1 with d1;subst d1;obtain ⟨y0,RQ⟩: ∃y0,(c.sb b)[j]? =amx y0:=⟨(c.sb b)[j]'(by omega),F0s (by omega)⟩
       have GU:=r6 j c' y0 d3 RQ;have Xv:=vv j t y0 hj RQ;cases x with
       |arr r l=>
        injection d2 with d2;subst d2;cases y0 with
        |arr r' l'=>
         obtain ⟨rfl,zP⟩:=GU;refine .inl ⟨l',Xv,zP,fun hb=>?_⟩
         exfalso
         have:has tk t=amz:=by unfold has;rw [amn];exact ⟨t,ht,by simp⟩
         rw [this] at hb;cases hb
        |_=>exact GU.elim
       |dead=>
        injection d2 with d2;subst d2;cases y0 with
        |dead=>exact Xv
        |_=>exact GU.elim
       |box cs=>
        simp only [NV] at d2;split at d2
        · injection d2 with d2;subst d2
          cases y0 with
          |box c2=>exact .inl ⟨_,Xv⟩
          |_=>exact GU.elim
        cases d2
       |_=>trivial
     have:=aoe t ht
     rw [hx] at this;cases x with
     |arr r l=>exact .inl ⟨l,this,rfl,fun _=>rfl⟩
     |dead=>exact this
     |box c2=>exact .inl ⟨_,this⟩
     |_=>trivial
    have ae':agi g (c.sb b) s2:=fun u x hx=>by
     have PW:u<(amw tk):=by have:=(ww.1 hx).1;omega
     have hj:tk[u]? =amx tk[u]:=F0s PW
     have:=vv u _ x hj hx
     rw [hg u _ hj];cases x with
     |arr r l=>exact this
     |dead=>exact this
     |box cs=>exact ⟨_,this⟩
     |_=>trivial
    have asU:(∃n,tG (run F n) f Wo ps z=amx {v:=BV g v,wr:=oO g tk sr}):=by
     refine ⟨n,?_⟩;unfold tG Wq;rw [<- B5,pp hz,a1,b1];dsimp only;rw [r1];dsimp only;unfold Ed;rw [pp Tk,hS.len]
     have:ij (amw tk) v sr=amz:=by rw [<- Xu];exact r2
     rw [pp this]
    refine ⟨{v:=K8 g (c.vb b),wr:=zn g tk (c.sb b)},_,asU,?_,h3⟩;have ck:fQ.nb s {v:=K8 g (c.vb b),wr:=zn g tk (c.sb b)}=s2:=by
     rw [Lo,ae5,Bi,w1]
    exact {
     rd:=rfl
     fr:=rfl
     wr:=by rw [Bi,w1];exact u1
     nw:=HK (by rw [u1];exact GK)
     nl:=rfl
     aE:=by
      rw [ck];show cM s2 (fZ (oO g tk sr) ps);rw [Da];refine ⟨by rw [Aj,vF,vL,Aj,hS.len],fun t x hx=>?_⟩
      by_cases ht:t∈tk
      · obtain ⟨j,hj⟩:=y6 t ht
        have Nn:j<(amw tk):=(ww.1 hj).1;obtain ⟨y0,RQ⟩: ∃y0,(c.sb b)[j]? =amx y0:=⟨(c.sb b)[j]'(by omega),F0s (by omega)⟩
        have Xv:=vv j t y0 hj RQ;rw [hx] at Xv;injection Xv with Xv;subst Xv;obtain ⟨q',q3,q4⟩:=r4.at_ j y0 RQ;rw [Fe j Nn] at q3;refine ⟨zd g q',Cq _ ps j t _ (by rw [u1];exact GK) (u2 j t q' hj q3) (by rw [hS.len];exact ND t ht),?_⟩
        cases y0 with
        |box cs=>
         obtain ⟨pc,rfl,hpc⟩:=q4;exact ⟨_,rfl,RL.fr (Fr.refl tk s2) (vN ae' hpc)⟩
        |arr r l=>rw [show q'=_ from q4];rfl
        |set l=>rw [show q'=_ from q4];rfl
        |aO p l=>rw [show q'=_ from q4];rfl
        |dead=>rw [show q'=_ from q4];rfl
      rw [aoe t ht,aew] at hx
      obtain ⟨x0,IV,rfl⟩:=hx;obtain ⟨q,q1,q2⟩:=hS.at_ t x0 IV;exact ⟨q,by rw [vM _ ps t (by rw [u1];exact ht)];exact q1,q2.fr rQ⟩
     v:=by rw [ck];exact P1 ae' r3
     fra:=by rw [ck,Bi,w1];exact rQ}
end
end Go.Vm
/- What the typed machine makes of a function is what the logical machine runs. -/
namespace Go.Vm
section
variable {F : mJ}
theorem WO.agj {o:bS} {r:List bS} {st:St} {tr:List Tr} {Q:St->List Tr->Prop} {f:FuncId} {args:List PV}
 (hw:wanted o.guard st.env=amx amz) (fv: ∀n,wP F (run F n) st.env st.aE st.fz o.op=fO (run F n) f args st.aE st.fz)
 (h:zL F f args st.aE st.fz fun v s z=>(M2 (amw st.aE) (amw s)&&st.fz.all (has z))=amz/\WO F r {st with env:=iH o.dst v st.env,aE:=s,fz:=z} (T0::tr) Q):
 WO F (o::r) st tr Q:=by
 obtain ⟨n,v,s,z,hr,hc,hk⟩:=h;refine WO.call (.shr v s z) hw ⟨n,?_⟩ rfl hk;rw [fv];simp only [fO,hr];rw [pp hc]
theorem WP.again {live:List (Nat×Option Nat)} {b:jT} {st s1:St} {Q:hJ->St->Prop} (h0:norm live st=amx s1) (h:WP F b s1 (andThen (fun s=>WP F (.loop live b) s Q) Q)):WP F (.loop live b) st Q:=by
 obtain ⟨m,e,s,he,hq⟩:=h;cases e with
 |normal=>
  obtain ⟨k,e',s',BN,SH⟩:=hq;refine ⟨max m k+1,e',s',?_,SH⟩;simp only [sL] at BN ⊢;rw [la];simp only [step,h0];rw [pU (pV F (Nat.le_max_left m k)) _ _ _ he];dsimp only;split at BN
  · rename_i e1 s1 Px
    rw [pV F (Nat.le_max_right m k) _ _ Px];exact BN
  cases BN
 |exit i=>exact ⟨m+1,.exit i,s,by simp only [sL];rw [la];simp only [step,h0,he],hq⟩
 |ret=>exact ⟨m+1,.ret,s,by simp only [sL];rw [la];simp only [step,h0,he],hq⟩
def Lp (F : mJ) (inl : Xa) : Prop :=
  ∀ (f : FuncId) (args : List SV) (s : List SB) (z : List Nat) (R' : Type) (k : SV -> List SB -> List Nat -> gp R') (ρ : Type) (w : R' -> ρ) (y : ρ) (pa : List PV) (ps : cK) (Q : R' -> PV -> cK -> List Nat -> Prop),
    RL s args pa -> cM s ps -> inl f args s z R' k ρ w = amx y ->
    (∀ v s' z' p xh A6 (w' : R' -> A6) y', R s' v p -> cM s' xh -> k v s' z' A6 w' = amx y' -> ∃ r, y' = w' r /\ Q r p xh z') ->
    ∃ r, y = w r /\ zL F f pa ps z (fun p xh z' => Q r p xh z')
def P3:SB->SB->Prop
 | .arr r l,b=>(∃l',b= .arr r l'/\amw l'=amw l)\/b= .dead
 | .dead,b=>b= .dead
 | .box _,b=>(∃cs,b= .box cs)\/b= .dead
 |_,_=>True
theorem Bj {R' ρ:Type} {w:R'->ρ} {y:ρ}: ∀{s s':List SB} {k:gp R'},py s s' k ρ w=amx y->k ρ w=amx y/\amw s<=amw s'/\
 ∀(t:Nat) (b:SB),s[t]? =amx b-> ∃b',s'[t]? =amx b'/\P3 b b'
 | [],s',k,h=>⟨by cases s'<;>exact h,Nat.zero_le _,fun t b ht=>by simp at ht⟩
 |x::xs,[],k,h=>by cases h
 |x::xs,y'::ys,k,h=>by
  have step: ∀(_:py xs ys k ρ w=amx y) (_:P3 x y'),k ρ w=amx y/\(x::xs).length<=(y'::ys).length/\ ∀(t:Nat) (b:SB),(x::xs)[t]? =amx b-> ∃b',(y'::ys)[t]? =amx b'/\P3 b b':=by
   intro h hx;obtain ⟨h1,h2,h3⟩:=Bj h;refine ⟨h1,by simpa using h2,fun t b ht=>?_⟩
   cases t with
   |zero=>simp at ht;subst ht;exact ⟨y',rfl,hx⟩
   |succ t=>simpa using h3 t b (by simpa using ht)
  cases x with
  |arr r l=>
   cases y' with
   |arr q m=>
    obtain ⟨hr,h2⟩:=cX (a:=gz (amw m==amw l) (py xs ys k) aN) h;obtain ⟨hl,h3⟩:=iu h2
    have:=uP hr
    subst this;exact step h3 (.inl ⟨m,rfl,by simpa using hl⟩)
   |dead=>exact step h (.inr rfl)
   |_=>cases h
  |dead=>
   cases y' with
   |dead=>exact step h rfl
   |_=>cases h
  |box cs=>
   cases y' with
   |box c2=>exact step h (.inl ⟨c2,rfl⟩)
   |dead=>exact step h (.inr rfl)
   |_=>cases h
  |set l=>exact step h trivial
  |aO p l=>exact step h trivial
theorem Ut {n t:Nat} (h:t<n):has (uw n) t=amz:=by
 induction n with
 |zero=>omega
 |succ n ih=>
  unfold has at ih ⊢;rw [amn] at*;simp only [uw,amr,afc];rcases af5 t n with h1|h1
  · obtain ⟨x,h2,h3⟩:=ih h1
    exact ⟨x,.inl h2,h3⟩
  have:t=n:=by omega
  subst this;exact ⟨t,.inr rfl,by simp⟩
theorem Oe {s s':List SB} (h: ∀(t:Nat) (b:SB),s[t]? =amx b-> ∃b',s'[t]? =amx b'/\P3 b b'):Fr (uw (amw s)) s s':=fun t b hb=>by
 obtain ⟨b',h1,h2⟩:=h t b hb;have dI:=(ww.1 hb).1;cases b with
 |arr r l=>
  rcases h2 with ⟨l',rfl,h3⟩|rfl
  · exact .inl ⟨l',h1,h3,fun hx=>by rw [Ut dI] at hx;cases hx⟩
  exact .inr h1
 |dead=>rw [show b'= .dead from h2] at h1;exact h1
 |box cs=>
  rcases h2 with ⟨c2,rfl⟩|rfl
  · exact .inl ⟨c2,h1⟩
  exact .inr h1
 |_=>trivial
theorem aof {s:List SB} {ps:cK} {sr:fQ} {pr:nI} (G:Good s ps sr pr) (hS:cM s ps):(XR.loc pr).tr (amw ps)=sr.tr (amw s):=by
 simp only [XR.tr,fQ.tr,G.rd,G.fr,hS.len,<- G.wr,G.nl,amv]
 have:pr.news.isEmpty=sr.news.isEmpty:=by
  have:=G.nl
  cases h1:pr.news<;>cases h2:sr.news<;>simp_all
 rw [this];rfl
theorem agk {st:p9} {p:St} (h:zp st p) {sr:fQ} {pr:nI} (G:Good st.aE p.aE sr pr) (d:Option Nat):zp (sr.next d st) ((XR.loc pr).next d p):=by
 have Xw: ∀{s:List SB} {e:SE} {pe:Env} {v:SV} {q:PV},dW s e pe->R s v q->dW s (I4 d v e) (iH d q pe):=by
  intro s e pe v q he hv;cases d with
  |none=>exact he
  |some t=>exact ⟨q,pe,rfl,hv,he⟩
 have hs:=Lo st.aE sr;unfold fQ.next
 split
 · rename_i hw
   rw [hw] at hs;simp only [xJ,qI,Jc] at hs;have pY:=G.aE;have hv:=G.v;have rQ:=G.fra;rw [hs] at pY hv rQ;rw [hw] at rQ;exact ⟨by simp only [mc];exact Xw (dW.ext rQ h.env) hv,by simp only [mc];exact pY,by simp only [XR.next,G.fr,h.fz],h.kn⟩
 have pY:=G.aE
 have hv:=G.v;have rQ:=G.fra;rw [hs] at pY hv rQ;exact ⟨by simp only [mc];exact Xw (dW.fr rQ h.env) hv,by simp only [mc];exact pY,by simp only [XR.next,G.fr,h.fz],h.kn⟩
theorem ok_eq {s:List SB} {ps:cK} {sr:fQ} {pr:nI} (G:Good s ps sr pr) {z:List Nat} (h:sr.ok z=amz):(XR.loc pr).ok z=amz:=by
 simp only [XR.ok,G.nw,afo];unfold fQ.ok at h;rw [<- G.wr,amv] at h;exact h
section
variable {cx : Ctx} {inl : Xa} {R' : Type}
def asW (_F:mJ) (k:p9->List Tr->gp R') (Q:R'->St->List Tr->Prop):Prop:=
 ∀st p tr ρ (w:R'->ρ) y,zp st p->k st tr ρ w=amx y-> ∃r,y=w r/\Q r p tr
theorem vO {o:bS} {l:List bS} {st:p9} {p:St} {tr:List Tr} {k:p9->List Tr->gp R'} {ρ:Type} {w:R'->ρ} {y:ρ} {Q:R'->St->List Tr->Prop}
 (hl: ∀st p tr ρ (w:R'->ρ) y,zp st p->k st tr ρ w=amx y-> ∃r,y=w r/\WO F l p tr (Q r)) (h:zp st p) {sr:fQ} {pr:nI} (hw:wanted o.guard p.env=amx amz)
 (hx: ∃n,wP F (run F n) p.env p.aE p.fz o.op=amx (.loc pr)) (G:Good st.aE p.aE sr pr) (hg:PN o.dst st tr k (.loc sr) ρ w=amx y): ∃r,y=w r/\WO F (o::l) p tr (Q r):=by
 unfold PN at hg;dsimp only at hg;obtain ⟨zK,hg⟩:=cX hg;rw [IZ] at hg;have hR:=agk h G o.dst;obtain ⟨r,hr,Xx⟩:=hl _ _ _ _ _ _ hR hg;refine ⟨r,hr,WO.call (.loc pr) hw hx (by rw [h.fz];exact ok_eq G zK) ?_⟩
 rw [aof G h.aE];exact Xx
theorem Lq (DC:gG F cx) (Jd:Lp F inl) {o:bS} {l:List bS} {st:p9} {p:St} {tr:List Tr} {k:p9->List Tr->gp R'} {ρ:Type} {w:R'->ρ} {y:ρ} {Q:R'->St->List Tr->Prop}
 (hl: ∀st p tr ρ (w:R'->ρ) y,zp st p->k st tr ρ w=amx y-> ∃r,y=w r/\WO F l p tr (Q r)) (h:zp st p) (hw:wanted o.guard p.env=amx amz)
 (hg:Hz cx inl st.env st.aE st.fz o.op (PN o.dst st tr k) ρ w=amx y): ∃r,y=w r/\WO F (o::l) p tr (Q r):=by
 have hS:=h.aE;have hE:=h.env;have shr: ∀(f:FuncId) (Od:List SV) (Wo:List PV),RL st.aE Od Wo->(∀n,wP F (run F n) p.env p.aE p.fz o.op=fO (run F n) f Wo p.aE p.fz)->
  inl f Od st.aE st.fz R' (fun v s' z'=>PN o.dst st tr k (.shr v s' z')) ρ w=amx y-> ∃r,y=w r/\WO F (o::l) p tr (Q r):=by
  intro f Od Wo hv fv hi;obtain ⟨r,hr,hd⟩:=Jd f Od st.aE st.fz R' _ ρ w y Wo p.aE (fun r v s z=>(M2 (amw p.aE) (amw s)&&p.fz.all (has z))=amz/\WO F l {p with env:=iH o.dst v p.env,aE:=s,fz:=z} (T0::tr) (Q r)) hv hS hi
   (fun v s' z' pv xh A6 w' y' hR hS' hk=>by
    unfold PN at hk;dsimp only at hk;rw [IZ] at hk;obtain ⟨hk,cW,S8⟩:=Bj hk;obtain ⟨hz,hk⟩:=cX hk;have rQ:=Oe S8;have Xw:dW s' (I4 o.dst v (dgE (uw (amw st.aE)) st.env)) (iH o.dst pv p.env):=by
     cases o.dst with
     |none=>exact dW.fr rQ hE
     |some t=>exact ⟨pv,p.env,rfl,hR,dW.fr rQ hE⟩
    have hR':zp {env:=I4 o.dst v (dgE (uw (amw st.aE)) st.env),aE:=s',fz:=z',kn:=st.kn} {p with env:=iH o.dst pv p.env,aE:=xh,fz:=z'}:=⟨Xw,hS',rfl,h.kn⟩;obtain ⟨r,hr,Xx⟩:=hl _ _ _ _ _ _ hR' hk;refine ⟨r,hr,?_,Xx⟩;rw [h.fz,hz,afo,hS.len,hS'.len];simpa using cW)
  refine ⟨r,hr,WO.agj hw fv ?_⟩;rw [h.fz];rw [h.fz] at hd;exact hd
 have loc: ∀{k':fQ->gp R'},mb st.env st.aE st.fz o.op k' ρ w=amx y->Ce o.op=amA->(∀sr,k' sr=PN o.dst st tr k (.loc sr))-> ∃r,y=w r/\WO F (o::l) p tr (Q r):=by
  intro k' hv hc hk;obtain ⟨sr,pr,h1,G,h2⟩:=Xr hE hS (pe:=p.env) hv;rw [hk] at h2;exact vO hl h hw ⟨0,by rw [IX hc,h.fz,h1];rfl⟩ G h2
 generalize fv:o.op=op at hg;cases op with
 |call m f args=>
  have kW:=yE hE args;simp only [Hz] at hg;cases m with
  |Wf=>
   dsimp only at hg;cases hx:rT st.aE (kD st.aE deep) (jD st.env args) with
   |none=>rw [hx] at hg;cases hg
   |some vs=>
    rw [hx] at hg;obtain ⟨q,h1,h2⟩:=tQ hS (DT hS deep) kW hx;obtain ⟨sr,pr,⟨n,h3⟩,G,h4⟩:=xM (f:=f) (z:=st.fz) hS h1 h2 (zq hS (Ff hS deep) kW hx) (fun c hc=>DC.con f c hc) hg
    exact vO hl h hw ⟨n,by rw [fv,h.fz];simp only [wP,h3];rfl⟩ G h4
  |own=>
   dsimp only at hg;cases hx:rT st.aE (kD st.aE deep) (jD st.env args) with
   |none=>rw [hx] at hg;cases hg
   |some vs=>
    rw [hx] at hg;obtain ⟨q,h1,h2⟩:=tQ hS (DT hS deep) kW hx;obtain ⟨sr,pr,⟨n,h3⟩,G,h4⟩:=xM (f:=f) (z:=st.fz) hS h1 h2 (zq hS (Ff hS deep) kW hx) (fun c hc=>DC.con f c hc) hg
    exact vO hl h hw ⟨n,by rw [fv,h.fz];simp only [wP,h3];rfl⟩ G h4
  |shr=>exact shr f _ _ kW (fun n=>by rw [fv];rfl) hg
  |fp=>
   dsimp only at hg;cases hx:NS st.aE (kD st.aE deep) (jD st.env args) with
   |false=>rw [hx] at hg;cases hg
   |true=>
    rw [hx] at hg;dsimp only at hg;obtain ⟨hz,hg⟩:=cX hg;cases h1:sZ (oK (q9 (xb st.aE deep) (jD st.env args))) (jD st.env args) with
    |none=>rw [h1] at hg;cases hg
    |some vs=>
     cases h2:G0 st.aE (oK (q9 (xb st.aE deep) (jD st.env args))) (oK (q9 (xb st.aE deep) (jD st.env args))) with
     |none=>rw [h1,h2] at hg;cases hg
     |some s0=>
      rw [h1,h2] at hg;obtain ⟨sr,pr,⟨n,h3⟩,G,h4⟩:=P2 (f:=f) (z:=st.fz) hS kW (by rw [Uk hS (Ff hS deep) kW hx]) hz h1 h2 (fun c hc=>DC.fpc f c hc) hg
      exact vO hl h hw ⟨n,by rw [fv,h.fz];simp only [wP,h3];rfl⟩ G h4
 |wN x args=>
  have kW:=yE hE args;simp only [Hz] at hg;have hx:=dK hE x;generalize bU st.env x=v at hg hx;cases v with
  |eL f a b=>
   dsimp only at hg;obtain ⟨pa,pb,hx,ha,hb⟩:=hx;have asX: ∀{vs:List SV} {q:List PV},RL st.aE vs q->(z8 vs=amz->q.any Ec=amz):=by
    intro vs
    induction vs with
    |nil=>intro q _ h;cases h
    |cons v vs ih=>
     intro q hq hp;obtain ⟨a,as,rfl,h1,h2⟩:=hq.cons_inv;simp only [z8,ams] at hp;simp only [amt,ams];rcases hp with hp|hp
     · left
       cases v with
       |own _ _=>obtain ⟨_,_,rfl,_⟩:=h1;rfl
       |pre _ _ _ _=>obtain ⟨_,rfl,_⟩:=h1;rfl
       |part _ _ _ _ _=>obtain ⟨_,rfl,_⟩:=h1;rfl
       |pa _ _ _ _ _=>obtain ⟨rfl,_⟩:=h1;rfl
       |pb _ _ _=>obtain ⟨_,rfl,_⟩:=h1;rfl
       |bp _ _ _=>rw [show a=_ from h1];rfl
       |mp _=>rw [show a=_ from h1];rfl
       |_=>cases hp
     right;exact ih h2 hp
   cases hp:z8 (jD st.env args++b) with
   |true=>
    rw [hp] at hg
    have:=asX (kW.append hb) hp
    exact shr f _ _ ((ha.append kW).append hb) (fun n=>by rw [fv];simp only [wP,hx,this,if_true]) hg
   |false=>
    rw [hp] at hg;simp only [ol] at hg;cases hxx:rT st.aE (kD st.aE deep) (a++jD st.env args++b) with
    |none=>rw [hxx] at hg;cases hg
    |some vs=>
     rw [hxx] at hg;have hno: ∀{vs u:List SV} {q:List PV},RL st.aE vs q->z8 vs=amA->rT st.aE (kD st.aE deep) vs=amx u->q.any Ec=amA:=by
      intro vs
      induction vs with
      |nil=>intro u q hq _ _;rw [show q=[] from hq];rfl
      |cons v vs ih=>
       intro u q hq hp hu;obtain ⟨a,as,rfl,h1,h2⟩:=hq.cons_inv;simp only [z8,Bool.or_eq_false_iff] at hp;simp only [rT] at hu;split at hu
       · rename_i y1 y2 e1 e2
         simp only [amt,ih h2 hp.2 e2,Bool.or_false];cases v with
         |agg _|cu _|bI _ _=>obtain ⟨_,rfl,_⟩:=h1;rfl
         |eL _ _ _=>obtain ⟨_,_,rfl,_⟩:=h1;rfl
         |int _ _|bool _|str _|dU|sl _ _|nil _ _|undef|jy=>rw [show a=_ from h1];rfl
         |iS=>cases e1
         |own _ _|pre _ _ _ _|part _ _ _ _ _|pa _ _ _ _ _|pb _ _ _|bp _ _ _|mp _=>cases hp.1
       cases hu
     have agl: ∃u2,rT st.aE (kD st.aE deep) (jD st.env args++b)=amx u2:=by
      have: ∀(l:List SV) {m u:List SV},rT st.aE (kD st.aE deep) (l++m)=amx u-> ∃u2,rT st.aE (kD st.aE deep) m=amx u2:=by
       intro l
       induction l with
       |nil=>intro m u h;exact ⟨u,h⟩
       |cons x l ih=>
        intro m u h;simp only [afY,rT] at h;split at h
        · rename_i e1 e2;exact ih e2
        cases h
      rw [ae3] at hxx;exact this a hxx
     obtain ⟨u2,hu2⟩:=agl;have asY:=hno (kW.append hb) hp hu2;have qY:=(ha.append kW).append hb;obtain ⟨q,h1,h2⟩:=tQ hS (DT hS deep) qY hxx;obtain ⟨sr,pr,⟨n,h3⟩,G,h4⟩:=xM (f:=f) (z:=st.fz) hS h1 h2 (zq hS (Ff hS deep) qY hxx) (fun c hc=>DC.con f c hc) hg
     exact vO hl h hw ⟨n,by rw [fv,h.fz];simp only [wP,hx,asY,PP,if_false,h3];rfl⟩ G h4
  |_=>cases hg
 |_=>exact loc (k':=fun r=>PN o.dst st tr k (.loc r)) (by rw [fv];exact hg) (by rw [fv];rfl) (fun _=>rfl)
theorem vP (DC:gG F cx) (Jd:Lp F inl): ∀(ops:List bS) {st:p9} {p:St} {tr:List Tr} {k:p9->List Tr->gp R'} {ρ:Type} {w:R'->ρ} {y:ρ} {Q:R'->St->List Tr->Prop},
 asW F k Q->zp st p->oR cx inl ops st tr k ρ w=amx y-> ∃r,y=w r/\WO F ops p tr (Q r)
 | [],st,p,tr,k,ρ,w,y,Q,hk,h,he=>by
  obtain ⟨r,hr,hq⟩:=hk st p tr ρ w y h he;exact ⟨r,hr,WO.nil hq⟩
 |o::l,st,p,tr,k,ρ,w,y,Q,hk,h,he=>by
  have hl: ∀st p tr ρ (w:R'->ρ) y,zp st p->oR cx inl l st tr k ρ w=amx y-> ∃r,y=w r/\WO F l p tr (Q r):=fun st p tr ρ w y h he=>vP DC Jd l hk h he
  have RR: ∀{st:p9} {c:Nat} {v:SV},zp st p->R st.aE v (lk c p.env)->zp {st with env:=zZ c v st.env} p:=fun h hv=>⟨h.env.zZ hv,h.aE,h.fz,h.kn⟩
  have agm: ∀{st:p9},zp st p->wanted o.guard p.env=amx amz->(match o.op with
   | .pick (.t c) a b=>match GL c st.env with
    | .bool x=>gz x (PN o.dst {st with env:=zZ c (.bool amz) st.env} tr (oR cx inl l · · k) (.loc {v:=bU st.env a}))
     (PN o.dst {st with env:=zZ c (.bool amA) st.env} tr (oR cx inl l · · k) (.loc {v:=bU st.env b}))
    |_=>aN
   |op=>Hz cx inl st.env st.aE st.fz op (PN o.dst st tr (oR cx inl l · · k))) ρ w=amx y-> ∃r,y=w r/\WO F (o::l) p tr (Q r):=by
   intro st h hw he;have plain:Hz cx inl st.env st.aE st.fz o.op (PN o.dst st tr (oR cx inl l · · k)) ρ w=amx y-> ∃r,y=w r/\WO F (o::l) p tr (Q r):=fun he=>Lq DC Jd hl h hw he
   generalize fv:o.op=op at he;cases op with
   |pick c a b=>
    cases c with
    |c v=>exact plain (by rw [fv];exact he)
    |t c=>
     dsimp only at he;generalize hv:GL c st.env=v at he;cases v with
     |bool x=>
      have hx:lk c p.env= .bool x:=by have:=h.env.lk c;rw [hv] at this;exact this
      rcases fh he with ⟨rfl,he⟩|⟨rfl,he⟩
      · have hR:=RR h (c:=c) (v:= .bool amz) hx
        exact vO (o:=o) hl hR hw ⟨0,by rw [fv];simp only [wP,bF,fy.ev,hx];rfl⟩ (Good.val hR.aE (dK h.env a)) he
      have hR:=RR h (c:=c) (v:= .bool amA) hx
      exact vO (o:=o) hl hR hw ⟨0,by rw [fv];simp only [wP,bF,fy.ev,hx];rfl⟩ (Good.val hR.aE (dK h.env b)) he
     |_=>cases he
   |_=>exact plain (by rw [fv];exact he)
  have Uu: ∀{st:p9},zp st p->wanted o.guard p.env=amx amA->oR cx inl l {st with env:=I4 o.dst .jy st.env} (Tr.idle::tr) k ρ w=amx y-> ∃r,y=w r/\WO F (o::l) p tr (Q r):=by
   intro st h hw he;have hR:zp {st with env:=I4 o.dst .jy st.env} {p with env:=iH o.dst .jy p.env}:=by
    refine ⟨?_,h.aE,h.fz,h.kn⟩;cases o.dst with
    |none=>exact h.env
    |some t=>exact ⟨.jy,p.env,rfl,rfl,h.env⟩
   obtain ⟨r,hr,Xx⟩:=hl _ _ _ _ _ _ hR he;exact ⟨r,hr,WO.skip hw Xx⟩
  simp only [oR] at he;cases Ng:o.guard with
  |none=>
   rw [Ng] at he;exact agm h (by rw [Ng];rfl) he
  |some g=>
   obtain ⟨c,want⟩:=g;rw [Ng] at he;dsimp only at he;generalize hv:GL c st.env=v at he;cases v with
   |bool x=>
    have hx:lk c p.env= .bool x:=by have:=h.env.lk c;rw [hv] at this;exact this
    have hwx: ∀b,x=b->wanted o.guard p.env=amx (b==want):=fun b hb=>by rw [Ng];simp only [wanted,hx,hb]
    cases want with
    |true=>
     simp only [lw] at he;rcases fh he with ⟨rfl,he⟩|⟨rfl,he⟩
     · exact agm (RR h (v:= .bool amz) hx) (hwx amz rfl) he
     exact Uu (RR h (v:= .bool amA) hx) (hwx amA rfl) he
    |false=>
     simp only [ol] at he;rcases fh he with ⟨rfl,he⟩|⟨rfl,he⟩
     · exact Uu (RR h (v:= .bool amz) hx) (hwx amz rfl) he
     exact agm (RR h (v:= .bool amA) hx) (hwx amA rfl) he
   |jy=>
    have hx:lk c p.env= .jy:=by have:=h.env.lk c;rw [hv] at this;exact this
    exact Uu h (by rw [Ng];simp only [wanted,hx]) he
   |_=>cases he
theorem Fq {e:SE}: ∀{fN:List Nat} {k:SE->gp R'} {ρ:Type} {w:R'->ρ} {y:ρ},K9 e fN k ρ w=amx y->k (fN.map fun s=>(s,GL s e)) ρ w=amx y
 | [],k,ρ,w,y,h=>h
 |s::r,k,ρ,w,y,h=>by
  simp only [K9] at h;rw [IZ] at h
  have:=Fq h
  exact this
theorem Uv {s:List SB} {e:SE} {pe:Env} (h:dW s e pe): ∀(fN:List Nat),dW s (fN.map fun t=>(t,GL t e)) (fN.map fun t=>(t,lk t pe))
 | []=>rfl
 |t::r=>⟨_,_,rfl,h.lk t,Uv h r⟩
end
mutual
theorem HL: ∀(v:SV) (q:List xg),sN v (Ch v++q)=(v,q)
 | .iS,q| .undef,q| .jy,q| .dU,q| .int _ _,q| .bool _,q| .str _,q| .sl _ _,q| .nil _ _,q| .own _ _,q| .pre _ _ _ _,q| .part _ _ _ _ _,q| .pa _ _ _ _ _,q| .pb _ _ _,q| .bp _ _ _,q| .mp _,q=>rfl
 | .agg cs,q=>by simp only [sN,Ch,rD]
 | .cu cs,q=>by simp only [sN,Ch,rD]
 | .bI cs o,q=>by simp only [sN,Ch,rD]
 | .eL f a b,q=>by simp only [sN,Ch,ae3,rD]
theorem rD: ∀(v:List SV) (q:List xg),rh v (Ci v++q)=(v,q)
 | [],q=>rfl
 |x::xs,q=>by simp only [rh,Ci,ae3,HL,rD]
end
theorem HM: ∀(v:List SB) (q:List xg),z7 v (I2 v++q)=(v,q)
 | [],q=>rfl
 |x::xs,q=>by
  have: ∀q,NX x (TX x++q)=(x,q):=by
   intro q;cases x<;>first|rfl|simp only [NX,TX,rD]
  simp only [z7,I2,ae3,this,HM]
theorem HN: ∀(v:SE) (q:List xg),K7 v (RD v++q)=(v,q)
 | [],q=>rfl
 |(t,x)::xs,q=>by simp only [K7,RD,ae3,HL,HN]
theorem Of (st:p9):zm st (wW st)=st:=by
 have hs:=HM st.aE [];rw [ae5] at hs;simp only [zm,wW,HN,hs]
theorem RS {cx:Ctx} {inl:Xa} (DC:gG F cx) (Jd:Lp F inl): ∀(c:jT) (R':Type) {st:p9} {p:St} {k:hJ->p9->gp R'} {ρ:Type} {w:R'->ρ} {y:ρ} {Q:R'->hJ->St->Prop},
 (∀e st p ρ (w:R'->ρ) y,zp st p->k e st ρ w=amx y-> ∃r,y=w r/\Q r e p)->zp st p->A5 cx inl c R' st k ρ w=amx y-> ∃r,y=w r/\WP F c p (Q r):=by
 intro c
 induction c with
 |skip=>
  intro R' st p k ρ w y Q hk h he;obtain ⟨r,hr,hq⟩:=hk _ _ _ _ _ _ h he;exact ⟨r,hr,WP.skip hq⟩
 |ret=>
  intro R' st p k ρ w y Q hk h he;obtain ⟨r,hr,hq⟩:=hk _ _ _ _ _ _ h he;exact ⟨r,hr,WP.ret hq⟩
 |exit id=>
  intro R' st p k ρ w y Q hk h he;obtain ⟨r,hr,hq⟩:=hk _ _ _ _ _ _ h he;exact ⟨r,hr,WP.exit hq⟩
 |region d ops fN=>
  intro R' st p k ρ w y Q hk h he;simp only [A5] at he;have fin: ∀st p ρ (w:R'->ρ) y,zp st p->K9 st.env fN (fun e=>k .normal {st with env:=e}) ρ w=amx y-> ∃r,y=w r/\Q r .normal (pW fN p):=by
   intro st p ρ w y h he
   have:=Fq he
   have hR:zp {st with env:=fN.map fun t=>(t,GL t st.env)} (pW fN p):=⟨Uv h.env fN,h.aE,h.fz,h.kn⟩
   exact hk _ _ _ _ _ _ hR this
  cases d with
  |none=>
   obtain ⟨r,hr,Xx⟩:=vP DC Jd ops (Q:=fun r s _=>Q r .normal (pW fN s)) (fun st p tr ρ w y h he=>fin st p ρ w y h he) h he
   exact ⟨r,hr,WP.region Xx⟩
  |some bf=>
   obtain ⟨r,hr,Xx⟩:=vP DC Jd ops (Q:=fun r s t=>qW 0 (t.reverse.zip bf)=amz/\Q r .normal (pW fN s)) (fun st p tr ρ w y h he=>by
    dsimp only at he;cases ho:qW 0 (tr.reverse.zip bf) with
    |false=>rw [ho] at he;cases he
    |true=>
     rw [ho] at he;obtain ⟨r,hr,hq⟩:=fin st p ρ w y h he;exact ⟨r,hr,ho,hq⟩) h he
   exact ⟨r,hr,WP.Wr Xx⟩
 |seq a b iha ihb=>
  intro R' st p k ρ w y Q hk h he;simp only [A5] at he;obtain ⟨r,hr,Og⟩:=iha R' (Q:=fun r=>andThen (fun s=>WP F b s (Q r)) (Q r)) (fun e st p ρ w y h he=>by
   cases e with
   |normal=>exact ihb R' hk h he
   |exit i=>exact hk _ _ _ _ _ _ h he
   |ret=>exact hk _ _ _ _ _ _ h he) h he
  exact ⟨r,hr,WP.seq Og⟩
 |cond c a b iha ihb=>
  intro R' st p k ρ w y Q hk h he;simp only [A5] at he;have hx:=dK h.env c;generalize bU st.env c=v at he hx;cases v with
  |bool x=>
   rcases fh he with ⟨rfl,he⟩|⟨rfl,he⟩
   · obtain ⟨r,hr,Og⟩:=iha R' hk h he
     exact ⟨r,hr,WP.aey hx Og⟩
   obtain ⟨r,hr,Og⟩:=ihb R' hk h he
   exact ⟨r,hr,WP.aez hx Og⟩
  |_=>cases he
 |block id b ih=>
  intro R' st p k ρ w y Q hk h he;simp only [A5] at he;obtain ⟨r,hr,Og⟩:=ih R' (Q:=fun r=>inBlock id (Q r)) (fun e st p ρ w y h he=>by
   cases e with
   |normal=>exact hk _ _ _ _ _ _ h he
   |ret=>exact hk _ _ _ _ _ _ h he
   |exit j=>
    dsimp only at he;cases hj:NE j id with
    |true=>
     rw [hj] at he;obtain ⟨r,hr,hq⟩:=hk _ _ _ _ _ _ h he;have WJ:=ut hj;exact ⟨r,hr,by simpa [inBlock,WJ] using hq⟩
    |false=>
     rw [hj] at he;obtain ⟨r,hr,hq⟩:=hk _ _ _ _ _ _ h he
     have:j≠id:=by intro e;subst e;simp at hj
     exact ⟨r,hr,by simpa [inBlock,this] using hq⟩) h he
  exact ⟨r,hr,WP.block Og⟩
 |loop live b ih=>
  intro R' st p k ρ w y Q hk h he;simp only [A5] at he;cases hn:E0 cx.rk live st with
  |none=>rw [hn] at he;cases he
  |some nL=>
   rw [hn] at he;dsimp only at he;have agn: ∀{β:Type 1} (l:List AK) (c:List AK->β),ksK l c=c l:=by
    intro β l;have aoh: ∀{β:Type 1} (l:List PT) (c:List PT->β),rK l c=c l:=by
     intro β l
     induction l with
     |nil=>intro c;rfl
     |cons p r ih=>intro c;cases p<;>simp only [rK,ptK,ih]
    induction l with
    |nil=>intro c;rfl
    |cons a r ih=>intro c;cases a<;>simp only [ksK,aoh,ih]
   rw [agn] at he;generalize af2 (wW nL)=ks at he;cases hp:qG ks (wW nL) with
   |none=>rw [hp] at he;cases he
   |some y0=>
    rw [hp] at he;dsimp only at he;obtain ⟨p1,hp1,hR1⟩:=PZ h hn;have aoi: ∀(N0:p9) (y':jW ks),E3 nL N0=amz->qG ks (wW N0)=amx y'->zm nL (mg ks y')=N0:=fun N0 y' h1 h2=>by
     rw [rV h2,RP h1]
    obtain ⟨n,hit⟩:=TP he;have h0:zp (zm nL (mg ks y0)) p1:=by rw [rV hp,Of];exact hR1
    clear he hp hn h hR1
    induction n generalizing y0 p p1 with
    |zero=>cases hit
    |succ n ihn=>
     have body: ∀zr,A5 cx inl b (Step (jW ks) ρ) (zm nL (mg ks y0)) (fun e Dw=>match e with
      | .normal=>match E0 cx.rk live Dw with
       |some N0=>bif E3 nL N0 then (match qG ks (wW N0) with
        |some y'=>Hw (.next y')
        |none=>aN) else aN
       |none=>aN
      |e=>fun A6 w'=>k e Dw A6 fun r=>w' (.done (w r))) (Step (jW ks) ρ) (fun z=>z)=amx zr->
      WP F b p1 (fun e s=>match zr with
       | .next y'=>e= .normal/\ ∃p3,norm live s=amx p3/\zp (zm nL (mg ks y')) p3
       | .done x=>e≠ .normal/\ ∃r,x=w r/\Q r e s):=by
      intro zr p6;obtain ⟨zr',Ph,Og⟩:=ih (Step (jW ks) ρ) (Q:=fun zr e s=>match zr with
       | .next y'=>e= .normal/\ ∃p3,norm live s=amx p3/\zp (zm nL (mg ks y')) p3
       | .done x=>e≠ .normal/\ ∃r,x=w r/\Q r e s) (fun e Dw p2 A6 w' y2 h2 CZ=>by
       cases e with
       |normal=>
        dsimp only at CZ;cases hn3:E0 cx.rk live Dw with
        |none=>rw [hn3] at CZ;cases CZ
        |some N0=>
         rw [hn3] at CZ;obtain ⟨uO,CZ⟩:=cX CZ;cases hp3:qG ks (wW N0) with
         |none=>rw [hp3] at CZ;cases CZ
         |some y3=>
          rw [hp3] at CZ;injection CZ with CZ;obtain ⟨p3,as0,hR3⟩:=PZ h2 hn3;exact ⟨.next y3,CZ.symm,rfl,p3,as0,by rw [aoi N0 y3 uO hp3];exact hR3⟩
       |exit i=>
        obtain ⟨r,hr,hq⟩:=hk _ _ _ _ _ _ h2 CZ;exact ⟨.done (w r),hr,(by intro e;cases e),r,rfl,hq⟩
       |ret=>
        obtain ⟨r,hr,hq⟩:=hk _ _ _ _ _ _ h2 CZ;exact ⟨.done (w r),hr,(by intro e;cases e),r,rfl,hq⟩) h0 p6
      subst Ph;exact Og
     simp only [p7] at hit;split at hit
     · rename_i y' p6
       obtain ⟨m,e,s,cq,rfl,p3,hp3,hR3⟩:=body _ p6;obtain ⟨r,hr,Og⟩:=ihn y' p3 hp3 hit hR3;exact ⟨r,hr,WP.again hp1 ⟨m,.normal,s,cq,Og⟩⟩
     · rename_i x p6
       injection hit with hit;obtain ⟨m,e,s,cq,dS,r,hr,hq⟩:=body _ p6;refine ⟨r,by rw [<- hit];exact hr,WP.again hp1 ⟨m,e,s,cq,?_⟩⟩
       cases e with
       |normal=>exact absurd rfl dS
       |exit i=>exact hq
       |ret=>exact hq
     cases hit
end
end Go.Vm
/- Contracts from the typed machine. -/
namespace Go.Vm
section
variable {F : mJ} {cx : Ctx} {inl : Xa}
theorem Lr {s:List SB}: ∀{l:List SV} {q:List PV} (i:Nat),RL s l q->dW s (N2 i l) (uz i q)
 | [],q,i,h=>by rw [show q=[] from h];rfl
 |x::xs,q,i,h=>by
  obtain ⟨a,as,rfl,h1,h2⟩:=h.cons_inv;exact ⟨a,uz (i+1) as,rfl,h1,Lr (i+1) h2⟩
theorem Uw {st:p9} {p:St} (h:zp st p) {r:RV} {v:SV} (hr:N1 st r=amx v): ∃q,Ee p r=amx q/\R st.aE v q:=by
 cases r with
 |tmp t=>injection hr with hr;subst hr;exact ⟨_,rfl,h.env.lk t⟩
 |cell t agg=>
  simp only [N1] at hr;have uO:=h.env.lk t;split at hr
  · rename_i u n off hv
    rw [hv] at uO;rw [cy] at hr;split at hr
    · rename_i cs ck
      obtain ⟨q,h1,h2⟩:=h.aE.box ck;obtain ⟨x,h3,h4⟩:=s5 h2 hr;refine ⟨x,?_,h4⟩;simp only [Ee,show lk t p.env=_ from uO,oJ,h1,aev,if_true,h3];rfl
    cases hr
  · rename_i cs off hv
    rw [hv] at uO;obtain ⟨q,h1,h2⟩:=uO;obtain ⟨x,h3,h4⟩:=s5 h2 hr;refine ⟨x,?_,h4⟩;simp only [Ee,h1,oJ,h3];rfl
  cases hr
theorem HO {st:p9} {p:St} (h:zp st p): ∀{l:List RV} {vs:List SV},yD st l=amx vs-> ∃q,nK p l=amx q/\RL st.aE vs q
 | [],vs,hr=>by injection hr with hr;subst hr;exact ⟨[],rfl,rfl⟩
 |r::l,vs,hr=>by
  simp only [yD] at hr;split at hr
  · rename_i v M' h1 h2
    injection hr with hr;subst hr;obtain ⟨q,h3,h4⟩:=Uw h h1;obtain ⟨qs,h5,h6⟩:=HO h h2;exact ⟨q::qs,by simp only [nK,h3,h5],RL.cons h4 h6⟩
  cases hr
theorem Ls {s:List SB} {vs:List SV} {q:List PV} (h:RL s vs q):R s (Cj vs) (results1 q):=by
 match vs,q,h with
 | [],q,h=>rw [show q=[] from h];exact ⟨[],rfl,rfl⟩
 | [v],q,h=>
  obtain ⟨a,as,rfl,h1,h2⟩:=h.cons_inv;rw [show as=[] from h2];exact h1
 |v::u::r,q,h=>
  have qY:=h;obtain ⟨a,as,rfl,h1,h2⟩:=h.cons_inv;obtain ⟨b,bs,rfl,h3,h4⟩:=h2.cons_inv;exact ⟨_,rfl,qY⟩
theorem xN (DC:gG F cx) (Jd:Lp F inl) {f:FuncId} {x:aK} (hf:F f=amx (.code x)) {R':Type} {args:List SV} {s:List SB} {z:List Nat} {k:SV->List SB->List Nat->gp R'} {ρ:Type} {w:R'->ρ} {y:ρ} {pa:List PV} {ps:cK}
 {Q:R'->PV->cK->List Nat->Prop} (ha:RL s args pa) (hS:cM s ps) (he:La cx inl x R' args s z k ρ w=amx y)
 (hk: ∀v s' z' p xh A6 (w':R'->A6) y',R s' v p->cM s' xh->k v s' z' A6 w'=amx y'-> ∃r,y'=w' r/\Q r p xh z'): ∃r,y=w r/\zL F f pa ps z (fun p xh z'=>Q r p xh z'):=by
 unfold La at he;obtain ⟨hn,he⟩:=cX he;have fin: ∀st p A6 (w':R'->A6) y',zp st p->(match yD st x.res with
  |some vs=>k (Cj vs) st.aE st.fz
  |none=>aN) A6 w'=amx y'-> ∃r,y'=w' r/\ ∃vs,nK p x.res=amx vs/\Q r (results1 vs) p.aE p.fz:=by
  intro st p A6 w' y' h he;cases hr:yD st x.res with
  |none=>rw [hr] at he;cases he
  |some vs=>
   rw [hr] at he;obtain ⟨q,h1,h2⟩:=HO h hr;obtain ⟨r,h3,h4⟩:=hk _ _ _ _ _ _ _ _ (Ls h2) h.aE he;exact ⟨r,h3,q,h1,by rw [h.fz];exact h4⟩
 obtain ⟨r,hr,Og⟩:=RS DC Jd x.code R' (Q:=fun r=>Iv x fun p xh z'=>Q r p xh z') (p:={env:=uz 0 pa,aE:=ps,fz:=z,kn:=amw ps}) (fun e st p A6 w' y' h he=>by
  cases e with
  |normal=>exact fin st p A6 w' y' h he
  |ret=>exact fin st p A6 w' y' h he
  |exit i=>cases he) ⟨Lr 0 ha,hS,rfl,hS.len⟩ he
 exact ⟨r,hr,zL.of hf (by rw [ha.mK];exact hn) Og⟩
theorem Je {α:Type} {l m r:List α} {i:Int} (h:yA l i m=amx r):0<=i/\i.toNat<=amw l/\amw m=1/\amw l+1<=1048576/\r=l.take i.toNat++m++l.drop i.toNat:=by
 unfold yA at h;split at h
 · rename_i hc
   injection h with h;exact ⟨hc.1,hc.2.1,hc.2.2.1,hc.2.2.2,h.symm⟩
 cases h
theorem RU {e:Nat} {args:List SV} {s:List SB} {z:List Nat} {a:an2} (h:Xb e args s z=amx a):
 ∃x u x2 m,args=[.own a.t x,.int .i64 a.i,.own u x2]/\nth s a.t=amx (.arr a.r a.l)/\nth s u=amx (.arr a.r m)/\a.m=m/\amw a.r=e/\NE a.t u=amA/\has z a.t=amA:=by
 unfold Xb at h;split at h
 case h_2=>cases h
 split at h
 case h_2=>cases h
 split at h
 case h_2=>cases h
 split at h
 case h_2=>cases h
 rename_i m' hm;cases hc:(NE _ e&&_&&_) with
 |false=>rw [hc] at h;cases h
 |true=>
  rw [hc] at h;injection h with h;subst h;simp only [v6,afA,adc] at hc;obtain ⟨rfl,rfl⟩:=oS hm;exact ⟨_,_,_,_,rfl,by assumption,by assumption,rfl,hc.1.1,hc.1.2,hc.2⟩
theorem Oh {e:Nat} {f:FuncId} (hf:F f=amx (.GI (Iu e))) {R':Type} {args:List SV} {s:List SB} {z:List Nat} {k:SV->List SB->List Nat->gp R'} {ρ:Type} {w:R'->ρ} {y:ρ} {pa:List PV} {ps:cK}
 {Q:R'->PV->cK->List Nat->Prop} (ha:RL s args pa) (hS:cM s ps) (he:af6 e args s z k ρ w=amx y)
 (hk: ∀v s' z' p xh A6 (w':R'->A6) y',R s' v p->cM s' xh->k v s' z' A6 w'=amx y'-> ∃r,y'=w' r/\Q r p xh z'): ∃r,y=w r/\zL F f pa ps z (fun p xh z'=>Q r p xh z'):=by
 unfold af6 at he;cases hA:Xb e args s z with
 |none=>rw [hA] at he;cases he
 |some a=>
 rw [hA] at he;dsimp only at he;obtain ⟨l',hl,he⟩:=cQ he;obtain ⟨x,u,x2,m0,rfl,ht,hu,hm,SK,htu,hz⟩:=RU hA;obtain ⟨t,q,l,i,m⟩:=a;dsimp only at*;subst hm SK;obtain ⟨i0,il,m1,k7,rfl⟩:=Je hl;obtain ⟨p0,pr0,rfl,h0,ha⟩:=ha;obtain ⟨p1,pr1,rfl,h1,ha⟩:=ha;obtain ⟨p2,pr2,rfl,h2,ha⟩:=ha;obtain rfl:pr2=[]:=ha;obtain rfl:p1= .int .i64 i:=h1
 have PA:s[t]? =amx (.arr q l):=by rw [<- cy];exact ht
 have BP:s[u]? =amx (.arr q m):=by rw [<- cy];exact hu
 obtain ⟨e0,n0,rfl,o0⟩:=h0;obtain ⟨e2,n2,rfl,o2⟩:=h2;obtain ⟨rfl,rfl⟩:e0=amw q/\n0=(amw l):=by
  rcases o0 with ⟨r1,l1,a,b,c⟩|a
  · rw [PA] at a;injection a with a;injection a with a1 a2;subst a1;subst a2;exact ⟨b,c⟩
  rw [PA] at a;cases a
 obtain ⟨rfl,rfl⟩:e2=amw q/\n2=(amw m):=by
  rcases o2 with ⟨r1,l1,a,b,c⟩|a
  · rw [BP] at a;injection a with a;injection a with a1 a2;subst a1;subst a2;exact ⟨b,c⟩
  rw [BP] at a;cases a
 obtain ⟨b1,KD,Jf⟩:=hS.at_ t _ PA;obtain ⟨b2,hb2,ago⟩:=hS.at_ u _ BP;have Jf:b1= .arr (amw q) (l.map (RT.pv q)):=Jf;have ago:b2= .arr (amw q) (m.map (RT.pv q)):=ago;subst Jf ago;have cW:(BQ [t] (s.set t .dead)).length=(amw s):=by rw [vF];simp
 obtain ⟨L,hL⟩: ∃L,L=l.take i.toNat++m++l.drop i.toNat:=⟨_,rfl⟩;rw [<- hL] at he;have G:=Good.put hS (b:= .dead) (q:= .dead) (l:=[.arr q L]) (ql:=[.arr (amw q) (L.map (RT.pv q))]) (v:= .own (amw s) amA)
  (p:= .own (amw s) (amw q) 0 (amw L) (amw L) amA) (rd:=[]) PA (.inr rfl) rfl rfl
  (fun j b hj=>by
   cases j with
   |zero=>simp at hj;subst hj;exact ⟨_,rfl,rfl⟩
   |succ j=>simp at hj)
  ⟨amw q,amw L,rfl,.inl ⟨q,L,by rw [<- cW];exact mh,rfl,rfl⟩⟩
 have zP:(amw L)=amw l+1:=by
  rw [hL];simp only [afI,aeA,amo,m1];omega
 obtain ⟨rr,hr,hq⟩:=hk _ _ _ _ _ _ _ _ G.v G.aE he;refine ⟨rr,hr,1,_,_,_,?_,hq⟩;rw [la];have ik:M2 (amw l+1) dH=amz:=by simp [dH];omega
 have hbl:M2 i.toNat (amw l)=amz:=by simpa using il
 have hLm:L.map (RT.pv q)=(l.map (RT.pv q)).take i.toNat++m.map (RT.pv q)++(l.map (RT.pv q)).drop i.toNat:=by
  rw [hL,aeH,aeH,aeB,afa]
 simp [step,hf,Iu,KD,hb2,m1,htu,hz,i0,ik,il,zP,hS.len,fZ,Km,hLm]
theorem RW {α:Type} {l m r:List α} (h:RA l m=amx r):1<=amw l+amw m/\amw l+amw m<=1048576/\r=l++m:=by
 unfold RA at h;split at h
 · rename_i hc
   injection h with h;exact ⟨hc.1,hc.2,h.symm⟩
 cases h
theorem RX {args:List SV} {s:List SB} {z:List Nat} {a:an3} (h:Xc args s z=amx a):
 ∃cap x m,args=[.part a.t 0 2 cap x]/\nth s a.t=amx (.box [.sl a.r a.l,.sl a.r m])/\a.m=m/\amw a.r=1/\has z a.t=amA:=by
 unfold Xc at h;split at h
 case h_2=>cases h
 split at h
 case h_2=>cases h
 split at h
 case h_2=>cases h
 rename_i m' hm;cases hc:(NE _ 1&&NE _ 0&&NE _ 2&&_) with
 |false=>rw [hc] at h;cases h
 |true=>
  rw [hc] at h;injection h with h;subst h;simp only [v6,afA,adc] at hc;obtain ⟨rfl,rfl⟩:=oS hm;obtain ⟨⟨⟨h1,rfl⟩,rfl⟩,h2⟩:=hc;exact ⟨_,_,_,rfl,by assumption,rfl,h1,h2⟩
theorem HP {r:List PT} (h:(amw r)=1) (l:List (RT r)):vn (l.map (RT.pv r))=amz:=by
 unfold vn;rw [aeD];intro x hx;obtain ⟨a,_,rfl⟩:=am6.1 hx
 match r,h with
 | [p],_=>
  show (NE [p.pv a].length 1&&[p.pv a].all PV.plain)=amz;cases p<;>rfl
theorem Oi {f:FuncId} (hf:F f=amx (.GI Is)) {R':Type} {args:List SV} {s:List SB} {z:List Nat} {k:SV->List SB->List Nat->gp R'} {ρ:Type} {w:R'->ρ} {y:ρ} {pa:List PV} {ps:cK}
 {Q:R'->PV->cK->List Nat->Prop} (ha:RL s args pa) (hS:cM s ps) (he:af7 args s z k ρ w=amx y)
 (hk: ∀v s' z' p xh A6 (w':R'->A6) y',R s' v p->cM s' xh->k v s' z' A6 w'=amx y'-> ∃r,y'=w' r/\Q r p xh z'): ∃r,y=w r/\zL F f pa ps z (fun p xh z'=>Q r p xh z'):=by
 unfold af7 at he;cases hA:Xc args s z with
 |none=>rw [hA] at he;cases he
 |some a=>
 rw [hA] at he;dsimp only at he;obtain ⟨l',hl,he⟩:=cQ he;obtain ⟨cap,x,m0,rfl,ht,hm,SK,hz⟩:=RX hA;obtain ⟨t,q,l,m⟩:=a;dsimp only at*;subst hm;obtain ⟨hp,k7,rfl⟩:=RW hl;obtain ⟨p0,pr0,rfl,h0,ha⟩:=ha;obtain rfl:pr0=[]:=ha;have PA:s[t]? =amx (.box [.sl q l,.sl q m]):=by rw [<- cy];exact ht
 obtain ⟨e0,rfl,o0⟩:=h0;obtain rfl:e0=1:=by
  rcases o0 with ⟨r1,l1,a,b⟩|a|⟨_,a,b⟩
  · rw [PA] at a;cases a
  · rw [PA] at a;cases a
  exact b
 obtain ⟨b1,KD,Jf⟩:=hS.at_ t _ PA;obtain ⟨ps1,rfl,p1,q1,rfl,hp1,p2,q2,rfl,hp2,rfl⟩:=Jf;have hp1:p1= .sl (amw q) amA (l.map (RT.pv q)):=hp1;have hp2:p2= .sl (amw q) amA (m.map (RT.pv q)):=hp2;subst hp1 hp2;have cW:(BQ [t] (s.set t .dead)).length=(amw s):=by rw [vF];simp
 obtain ⟨L,hL⟩: ∃L,L=l++m:=⟨_,rfl⟩;rw [<- hL] at he;have G:=Good.put hS (b:= .dead) (q:= .dead) (l:=[.arr q L]) (ql:=[.arr (amw q) (L.map (RT.pv q))]) (v:= .own (amw s) amA)
  (p:= .own (amw s) (amw q) 0 (amw L) (amw L) amA) (rd:=[]) PA (.inr rfl) rfl rfl
  (fun j b hj=>by
   cases j with
   |zero=>simp at hj;subst hj;exact ⟨_,rfl,rfl⟩
   |succ j=>simp at hj)
  ⟨amw q,amw L,rfl,.inl ⟨q,L,by rw [<- cW];exact mh,rfl,rfl⟩⟩
 have zP:(amw L)=amw l+(amw m):=by rw [hL];simp
 obtain ⟨rr,hr,hq⟩:=hk _ _ _ _ _ _ _ _ G.v G.aE he;refine ⟨rr,hr,1,_,_,_,?_,hq⟩;rw [la];have ik:M2 (amw l+amw m) dH=amz:=by simp [dH];omega
 have GQ:M2 1 (amw l+amw m)=amz:=by simpa using hp
 have hLm:L.map (RT.pv q)=l.map (RT.pv q)++m.map (RT.pv q):=by rw [hL,aeH]
 have hc:(NE 1 1&&NE 0 0&&NE 2 2&&!has z t&&vn (l.map (RT.pv q))&&vn (m.map (RT.pv q))&&M2 1 ((l.map (RT.pv q)).length+(m.map (RT.pv q)).length)&&M2 ((l.map (RT.pv q)).length+(m.map (RT.pv q)).length) dH&&(NE (amw q) 1||(l.map (RT.pv q)).isEmpty)&&(NE (amw q) 1||(m.map (RT.pv q)).isEmpty))=amz:=by
  rw [HP SK,HP SK,hz,aem,aem,GQ,ik,SK];rfl
 simp only [step,hf];unfold Is
 dsimp only;rw [KD];dsimp only;rw [hc];simp [hS.len,fZ,Km,hLm,zP,SK]
theorem Lt: ∀(p:PT) (a:p.T),A4 p (p.pv a)=amx a
 | .i k,a=>by
  have:fu k k=amz:=fg.2 rfl
  simp [A4,PT.pv,this]
 | .b,a=>rfl
theorem P4: ∀(r:List PT) (a:RT r),G1 r (RT.pv r a)=amx a
 | [],a=>rfl
 | [p],a=>Lt p a
 |p::q::r,a=>by
  show (match A4 p (p.pv a.1),G1 (q::r) (RT.pv (q::r) a.2) with
   |some a,amx b=>amx (a,b)
   |_,_=>amy)=_
  rw [Lt,P4 (q::r)]
theorem Lu (r:List PT): ∀l:List (RT r),C6 r (l.map (RT.pv r))=amx l
 | []=>rfl
 |a::l=>by
  show (match G1 r (RT.pv r a),C6 r (l.map (RT.pv r)) with
   |some a,amx l=>amx (a::l)
   |_,_=>amy)=_
  rw [P4,Lu r l]
theorem Xy {s:List SB} {g:Option FuncId} {a:List SV} {p:List PV} (h:C8 g a=amz) (hr:RL s a p):W8 g p=amz:=by
 unfold C8 at h;split at h
 · obtain rfl:p=[]:=hr
   rfl
 · obtain ⟨p0,pr,rfl,h0,hr⟩:=hr
   obtain rfl:pr=[]:=hr;obtain ⟨x,y,rfl,hx,hy⟩:=h0;obtain rfl:x=[]:=hx;obtain rfl:y=[]:=hy;exact h
 cases h
theorem RY {r:List PT} {g:Option FuncId} {args:List SV} {s:List SB} {z:List Nat} {t:Nat} {o:Option Nat} {l:List (RT r)} (h:Xd r g args s z=amx (t,o,l)):
 ∃x a,args=x::a/\nth s t=amx (.arr r l)/\has z t=amA/\C8 g a=amz/\((o=amy/\ ∃ex,x= .own t ex)\/ ∃len cap ex,o=amx len/\x= .pre t len cap ex):=by
 unfold Xd at h;split at h
 · split at h
   · split at h
     · rename_i hm
       cases hc:(!has z _&&C8 g _) with
       |false=>rw [hc] at h;cases h
       |true=>
        rw [hc] at h;simp only [lw,EQ,acK] at h;obtain ⟨rfl,rfl,rfl⟩:=h;simp only [v6,adc] at hc;obtain ⟨rfl,rfl⟩:=oS hm;exact ⟨_,_,rfl,by assumption,hc.1,hc.2,.inl ⟨rfl,_,rfl⟩⟩
     cases h
   cases h
 · split at h
   · split at h
     · rename_i hm
       cases hc:(!has z _&&C8 g _) with
       |false=>rw [hc] at h;cases h
       |true=>
        rw [hc] at h;simp only [lw,EQ,acK] at h;obtain ⟨rfl,rfl,rfl⟩:=h;simp only [v6,adc] at hc;obtain ⟨rfl,rfl⟩:=oS hm;exact ⟨_,_,rfl,by assumption,hc.1,hc.2,.inr ⟨_,_,_,rfl,rfl⟩⟩
     cases h
   cases h
 cases h
theorem Oj {α:Type} {f:List α->Option (List α)} {l m:List α} (h:C5 f l=amx m):(amw l)<=1048576/\f l=amx m/\amw m=(amw l):=by
 unfold C5 at h;split at h
 · rename_i hl
   split at h
   · rename_i m' hm
     split at h
     · rename_i he
       injection h with h;subst h;exact ⟨hl,hm,he⟩
     cases h
   cases h
 cases h
theorem Jg {α:Type} {f:List α->Option (List α)} {n:Nat} {l m:List α} (h:yB f n l=amx m):n<=amw l/\ ∃m',C5 f (l.take n)=amx m'/\m=m'++l.drop n:=by
 unfold yB at h;split at h
 · rename_i hn
   cases hm:C5 f (l.take n) with
   |none=>rw [hm] at h;cases h
   |some m'=>
    rw [hm] at h;injection h with h;exact ⟨hn,m',rfl,h.symm⟩
 cases h
theorem Ol {q:Srt} {f:FuncId} (hf:F f=amx (.GI (I3 q))) {R':Type} {args:List SV} {s:List SB} {z:List Nat} {k:SV->List SB->List Nat->gp R'} {ρ:Type} {w:R'->ρ} {y:ρ} {pa:List PV} {ps:cK}
 {Q:R'->PV->cK->List Nat->Prop} (ha:RL s args pa) (hS:cM s ps) (he:af8 q args s z k ρ w=amx y)
 (hk: ∀v s' z' p xh A6 (w':R'->A6) y',R s' v p->cM s' xh->k v s' z' A6 w'=amx y'-> ∃r,y'=w' r/\Q r p xh z'): ∃r,y=w r/\zL F f pa ps z (fun p xh z'=>Q r p xh z'):=by
 have key: ∀(t len:Nat) (l m':List (RT q.r)) (ex:Bool) (cap:Nat) (pr:List PV) (a:List SV),s[t]? =amx (.arr q.r l)->has z t=amA->C8 q.g a=amz->RL s a pr->pa= .own t (amw q.r) 0 len cap ex::pr->len<=amw l->C5 q.fn (l.take len)=amx m'->
  k (.cu []) (fQ.nb s {v:= .cu [],wr:=[(t,.arr q.r (m'++l.drop len))]}) z ρ w=amx y-> ∃r,y=w r/\zL F f pa ps z (fun p xh z'=>Q r p xh z'):=by
  intro t len l m' ex cap pr a ht hz hg har Tj cW Dz he;subst Tj;obtain ⟨s1,s2,s3⟩:=Oj Dz;obtain ⟨b1,KD,Jf⟩:=hS.at_ t _ ht;have Jf:b1= .arr (amw q.r) (l.map (RT.pv q.r)):=Jf;subst Jf;have zP:(l.take len).length=len:=by rw [aeA];omega
  have Kb:(m'++l.drop len).length=(amw l):=by rw [afI,amo,s3,zP];omega
  have G:=Good.put hS (b:= .arr q.r (m'++l.drop len)) (q:= .arr (amw q.r) ((m'++l.drop len).map (RT.pv q.r))) (l:=[]) (ql:=[]) (v:= .cu []) (p:= .cu []) (rd:=[]) ht (.inl ⟨_,rfl,Kb⟩) rfl rfl
   (fun j b hj=>by simp at hj) ⟨[],rfl,rfl⟩
  obtain ⟨rr,hr,hq⟩:=hk _ _ _ _ _ _ _ _ G.v G.aE he;refine ⟨rr,hr,1,_,_,_,?_,hq⟩;rw [la];have hg':=Xy hg har;have hrt:C6 q.r ((l.map (RT.pv q.r)).take len)=amx (l.take len):=by rw [<- aeB];exact Lu q.r _
  have hbl:M2 len (amw l)=amz:=by simpa using cW
  have hmo:M2 len dH=amz:=by simp [dH];omega
  have hbe:NE (amw m') (l.take len).length=amz:=by rw [s3];exact aev _
  simp only [step,hf,I3,KD,aem,aev,hbl,hmo,hz,hg',hrt,s2,hbe,af0,afo,if_true,Option.map_some,fZ,Km,aeH,afa]
 unfold af8 at he;cases hA:Xd q.r q.g args s z with
 |none=>rw [hA] at he;cases he
 |some u=>
  obtain ⟨t,o,l⟩:=u;rw [hA] at he;obtain ⟨x,a,rfl,ht,hz,hg,h⟩:=RY hA;obtain ⟨p0,pr,rfl,h0,ha⟩:=ha;rw [cy] at ht;rcases h with ⟨rfl,ex,rfl⟩|⟨len,cap,ex,rfl,rfl⟩
  · obtain ⟨m,hm,he⟩:=cQ he
    obtain ⟨e0,n0,rfl,o0⟩:=h0;obtain ⟨rfl,rfl⟩:e0=amw q.r/\n0=(amw l):=by
     rcases o0 with ⟨r1,l1,a,b,c⟩|a
     · rw [ht] at a;injection a with a;injection a with a1 a2;subst a1;cases a2;exact ⟨b,c⟩
     rw [ht] at a;cases a
    refine key t (amw l) l m ex (amw l) pr a ht hz hg ha rfl (aig _) (by rw [List.take_length];exact hm) ?_
    rw [List.drop_length,ae5];exact he
  obtain ⟨m,hm,he⟩:=cQ he
  obtain ⟨e0,rfl,o0⟩:=h0;obtain rfl:e0=(amw q.r):=by
   rcases o0 with ⟨r1,l1,a,b⟩|a|⟨_,a,_⟩
   · rw [ht] at a;injection a with a;injection a with a1 a2;subst a1;exact b
   · rw [ht] at a;cases a
   rw [ht] at a;cases a
  obtain ⟨hn,m',Dz,rfl⟩:=Jg hm;exact key t len l m' ex cap pr a ht hz hg ha rfl hn Dz he
theorem Jh (DC:gG F cx): ∀n,Lp F (T2 cx n)
 |0=>fun f args s z R' k ρ w y pa ps Q _ _ h _=>by cases h
 |n+1=>fun f args s z R' k ρ w y pa ps Q ha hS h hk=>by
  simp only [T2] at h;cases hx:cx.code f with
  |none=>rw [hx] at h;cases h
  |some x=>
   rw [hx] at h;cases x with
   |code x=>exact xN DC (Jh DC n) (DC.code f _ hx) ha hS h hk
   |ins e=>exact Oh (DC.code f _ hx) ha hS h hk
   |srt q=>exact Ol (DC.code f _ hx) ha hS h hk
   |cat=>exact Oi (DC.code f _ hx) ha hS h hk
def Xz:Kd->Bool->Bool
 | .own,b=>b
 |_,b=>!b
def Ux (kd:Kd) {β:Type} (res:Arg β) (b:β) (p:PV) (ps:cK) (z:List Nat):Prop:=
 match kd with
 | .pure=>p.ky=amz/\rU (res.enc b)=amx p
 | .na=>p.ky=amA/\ ∃q,ym ps p=amx q/\rU (res.enc b)=amx q
 | .own=> ∀nx,∃p0 p' q seen,zb ps z nx [] p=amx (p',q,seen)/\rU (res.enc b)=amx p0/\Fj nx p0=amx (p',q)
mutual
theorem Lv {s:List SB}: ∀{v:SV} {p:PV},R s v p->z6 v=amz->rU v=amx p
 | .int _ _,p,h,_| .bool _,p,h,_| .str _,p,h,_=>by rw [show p=_ from h];rfl
 | .agg cs,p,h,hn=>by obtain ⟨q,rfl,h⟩:=h;simp only [rU,Fs h hn]
 | .cu cs,p,h,hn=>by obtain ⟨q,rfl,h⟩:=h;simp only [rU,Fs h hn]
 | .iS,_,_,h| .undef,_,_,h| .jy,_,_,h| .dU,_,_,h| .sl _ _,_,_,h| .nil _ _,_,_,h| .own _ _,_,_,h| .pre _ _ _ _,_,_,h| .part _ _ _ _ _,_,_,h| .pa _ _ _ _ _,_,_,h| .pb _ _ _,_,_,h| .bp _ _ _,_,_,h| .bI _ _,_,_,h| .eL _ _ _,_,_,h| .mp _,_,_,h=>by cases h
theorem Fs {s:List SB}: ∀{v:List SV} {p:List PV},RL s v p->rf v=amz->qH v=amx p
 | [],p,h,_=>by rw [show p=_ from h];rfl
 |x::xs,p,h,hn=>by
  obtain ⟨a,as,rfl,h1,h2⟩:=h.cons_inv;simp only [rf,v6] at hn;exact eI.2 ⟨_,_,rfl,Lv h1 hn.1,Fs h2 hn.2⟩
end
theorem Om {kd:Kd} {β:Type} {res:Arg β} {v:SV} {s:List SB} {z:List Nat} {p:PV} {ps:cK} {ρ:Type} {w:β->ρ} {y:ρ} (hv:R s v p) (hS:cM s ps) (h:T3 kd res v s z ρ w=amx y):
 ∃b,y=w b/\Ux kd res b p ps z:=by
 unfold T3 at h;cases kd with
 |pure=>
  dsimp only at h;obtain ⟨h1,h2⟩:=cX h;obtain ⟨b,h3,h4⟩:=bK h2;injection h4 with h4;exact ⟨b,h4.symm,Ln hv h1,res.law h3 (Lv hv h1)⟩
 |na=>
  dsimp only at h;obtain ⟨h1,h2⟩:=rC h;obtain ⟨u,h3,h4⟩:=bK h2;obtain ⟨b,h5,h6⟩:=bK h4;injection h6 with h6;obtain ⟨q,h7,h8⟩:=ae8 hS hv h3;exact ⟨b,h6.symm,HH hv h1 h3,q,h7,res.law h5 h8⟩
 |own=>
  dsimp only at h;obtain ⟨u,h3,h4⟩:=bK h;obtain ⟨b,h5,h6⟩:=bK h4;injection h6 with h6;refine ⟨b,h6.symm,fun nx=>?_⟩
  obtain ⟨p0,p',q,h7,h8,h9⟩:=Uq hS (v':=u.1) (seen':=u.2) nx hv h3;exact ⟨p0,p',q,u.2,h9,res.law h5 h7,h8⟩
theorem cM.nil:cM [] []:=⟨rfl,fun t b h=>by simp at h⟩
theorem aG.of {f:FuncId} {x:aK} {α β:Type} {args:ay α} {res:Arg β} {kd:Kd} {fn:α->Option β} {ow:Bool} (hf:F f=amx (.code x)) (ho:Xz kd ow=amz) (DC:gG F cx)
 (h: ∀a,ae2 cx x args res kd a=fn a):aG F f ⟨args,res,fn,kd,ow⟩:=by
 intro a b as pa aE fz hb Tj hex;have hb:fn a=amx b:=hb;rw [<- h a] at hb;obtain ⟨r,hr,n,v,s,z,cq,hl⟩:=xN DC (Jh DC 8) hf (Q:=fun r p ps z=>Ux kd res r p ps z) (Fm Tj) cM.nil hb (fun v s' z' p xh A6 w' y' hv hS hk=>Om hv hS hk)
 have hr':b=r:=hr;subst hr';cases kd with
 |pure=>
  obtain ⟨h1,h2⟩:=hl;have how:ow=amA:=by simpa [Xz] using ho
  subst how;refine ⟨n,{v:=v,rd:=dC (di aE deep) as},?_,v,h2,rfl⟩;simp only [dv,hex,hf,cq,PP,if_false,h1,if_true]
 |na=>
  obtain ⟨h1,q,h2,h3⟩:=hl;have how:ow=amA:=by simpa [Xz] using ho
  subst how;refine ⟨n,{v:=q,rd:=dC (di aE deep) as,fr:=dC (di aE deep) as},?_,q,h3,rfl⟩;simp only [dv,hex,hf,cq,PP,if_false,h1,h2]
 |own=>
  have how:ow=amz:=ho;subst how;obtain ⟨p0,p',q,seen,h1,h2,h3⟩:=hl (amw aE);refine ⟨n,{v:=p',news:=q,rd:=dC (di aE deep) as},?_,p0,p',q,h2,h3,rfl⟩;simp only [dv,hex,hf,cq,if_true,h1]
theorem Lw: ∀(s:List SB) (q:List xg),(z7 s q).1.length=amw s
 | [],q=>rfl
 |b::r,q=>by simp only [z7,ae0,Lw r]
mutual
theorem R.take {s:List SB} {k:Nat}: ∀{v:SV} {p:PV},R s v p->(∀t∈NT sK v,t<k)->R (s.take k) v p
 | .iS,_,_,_=>trivial
 | .undef,_,h,_| .jy,_,h,_| .dU,_,h,_| .int _ _,_,h,_| .bool _,_,h,_| .str _,_,h,_| .sl _ _,_,h,_| .nil _ _,_,h,_| .bp _ _ _,_,h,_| .mp _,_,h,_=>h
 | .agg cs,_,h,ht=>by obtain ⟨q,rfl,h⟩:=h;exact ⟨q,rfl,RL.Ft h ht⟩
 | .cu cs,_,h,ht=>by obtain ⟨q,rfl,h⟩:=h;exact ⟨q,rfl,RL.Ft h ht⟩
 | .bI cs o,_,h,ht=>by obtain ⟨q,rfl,h⟩:=h;exact ⟨q,rfl,RL.Ft h ht⟩
 | .eL f a b,_,h,ht=>by
  obtain ⟨pa,pb,rfl,h1,h2⟩:=h;exact ⟨pa,pb,rfl,RL.Ft h1 (fun t h=>ht t (aft _ h)),RL.Ft h2 (fun t h=>ht t (afn _ h))⟩
 | .own t ex,_,h,ht=>by
  obtain ⟨e,n,rfl,db⟩:=h;have hk:=ht t (afc.2 rfl);refine ⟨e,n,rfl,?_⟩;rcases db with ⟨r,l,h1,h2,h3⟩|h1
  · exact .inl ⟨r,l,by rw [If hk];exact h1,h2,h3⟩
  exact .inr (by rw [If hk];exact h1)
 | .pre t a b c,_,h,ht=>by
  obtain ⟨e,rfl,db⟩:=h;have hk:=ht t (afc.2 rfl);refine ⟨e,rfl,?_⟩;rcases db with ⟨r,l,h1,h2⟩|h1
  · exact .inl ⟨r,l,by rw [If hk];exact h1,h2⟩
  exact .inr (by rw [If hk];exact h1)
 | .part t o a b c,_,h,ht=>by
  obtain ⟨e,rfl,db⟩:=h;have hk:=ht t (afc.2 rfl);refine ⟨e,rfl,?_⟩;rcases db with ⟨r,l,h1,h2⟩|h1
  · exact .inl ⟨r,l,by rw [If hk];exact h1,h2⟩
  exact .inr (by rw [If hk];exact h1)
 | .pa t r i a o,_,h,ht=>by
  obtain ⟨rfl,db⟩:=h;have hk:=ht t (afb ..);refine ⟨rfl,?_⟩;rcases db with ⟨l,h1,h2⟩|h1
  · exact .inl ⟨l,by rw [If hk];exact h1,h2⟩
  exact .inr (by rw [If hk];exact h1)
 | .pb t i o,_,h,ht=>by
  obtain ⟨e,rfl,db⟩:=h;have hk:=ht t (afb ..);refine ⟨e,rfl,?_⟩;rcases db with ⟨r,l,h1,h2⟩|h1
  · exact .inl ⟨r,l,by rw [If hk];exact h1,h2⟩
  exact .inr (by rw [If hk];exact h1)
theorem RL.Ft {s:List SB} {k:Nat}: ∀{v:List SV} {p:List PV},RL s v p->(∀t∈q9 sK v,t<k)->RL (s.take k) v p
 | [],_,h,_=>h
 |x::xs,_,h,ht=>by
  obtain ⟨a,as,rfl,h1,h2⟩:=h.cons_inv;exact RL.cons (R.take h1 (fun t h=>ht t (aft _ h))) (RL.Ft h2 (fun t h=>ht t (afn _ h)))
end
theorem Fu {R' ρ:Type} {w:R'->ρ} {y:ρ}: ∀{s s':List SB} {k:gp R'},A7 s s' k ρ w=amx y->k ρ w=amx y/\amw s'=amw s/\ ∀(t:Nat) (x z:SB),s[t]? =amx x->s'[t]? =amx z->Us x z
 | [],[],k,h=>⟨h,rfl,fun t x z h=>by simp at h⟩
 | [],_::_,k,h=>by cases h
 |_::_,[],k,h=>by cases h
 |x::xs,y'::ys,k,h=>by
  have step: ∀(_:A7 xs ys k ρ w=amx y) (_:Us x y'),k ρ w=amx y/\(y'::ys).length=(x::xs).length/\ ∀(t:Nat) (a b:SB),(x::xs)[t]? =amx a->(y'::ys)[t]? =amx b->Us a b:=by
   intro h hx;obtain ⟨h1,h2,h3⟩:=Fu h;refine ⟨h1,by simpa using h2,fun t a b ha hb=>?_⟩
   cases t with
   |zero=>simp at ha hb;subst ha hb;exact hx
   |succ t=>exact h3 t a b (by simpa using ha) (by simpa using hb)
  cases x with
  |arr r l=>
   cases y' with
   |arr q m=>
    obtain ⟨hr,h2⟩:=cX (a:=gz (amw m==amw l) (A7 xs ys k) aN) h;obtain ⟨hl,h3⟩:=iu h2;exact step h3 ⟨uP hr,by simpa using hl⟩
   |_=>cases h
  |dead=>cases y' with
   |dead=>exact step h trivial
   |_=>cases h
  |box cs=>cases y' with
   |box _=>exact step h trivial
   |_=>cases h
  |set l=>cases y' with
   |set _=>exact step h trivial
   |_=>cases h
  |aO p l=>cases y' with
   |aO _ _=>exact step h trivial
   |_=>cases h
theorem Fv: ∀{s:List SB},E4 s=amz-> ∀(t:Nat) (b:SB),s[t]? =amx b->yC b=amz
 | [],_,t,b,h=>by simp at h
 |x::xs,hs,0,b,h=>by simp only [E4,v6] at hs;simp at h;subst h;exact hs.1
 |x::xs,hs,t+1,b,h=>by simp only [E4,v6] at hs;exact Fv hs.2 t b (by simpa using h)
theorem jn.of {f:FuncId} {x:aK} {wd:Bool} {ka ko:List AK} {ta:List SV} {tb to:List SB} {tv:SV} {fn:jW ka->Option (jW ko)} (hf:F f=amx (.code x)) (DC:gG F cx)
 (h: ∀a,asI wd cx x ka ta tb ko tv to a=fn a):jn F f ⟨ka,ta,tb,ko,tv,to,fn⟩:=by
 intro a b pa ps hb ha hS;rw [show (⟨ka,ta,tb,ko,tv,to,fn⟩:dP).fn a=fn a from rfl,<- h a] at hb;have cW:(dP.sa ⟨ka,ta,tb,ko,tv,to,fn⟩ a).length=(amw tb):=Lw _ _;obtain ⟨r,hr,n,v,s,z,cq,hz,hq⟩:=xN DC (Jh DC 8) hf (Q:=fun (r:jW ko) p xh z'=>z'=[]/\ij (amw tb) p xh=amz/\
  R (dP.sb ⟨ka,ta,tb,ko,tv,to,fn⟩ r) (dP.vb ⟨ka,ta,tb,ko,tv,to,fn⟩ r) p/\cM (dP.sb ⟨ka,ta,tb,ko,tv,to,fn⟩ r) (xh.take (amw tb))/\
  (dP.sb ⟨ka,ta,tb,ko,tv,to,fn⟩ r).length=(dP.sa ⟨ka,ta,tb,ko,tv,to,fn⟩ a).length/\
  ∀(t:Nat) (x y:SB),(dP.sa ⟨ka,ta,tb,ko,tv,to,fn⟩ a)[t]? =amx x->(dP.sb ⟨ka,ta,tb,ko,tv,to,fn⟩ r)[t]? =amx y->Us x y) ha hS hb (fun v s' z' p xh A6 w' y' hv hS' hk=>by
  cases z' with
  |cons _ _=>cases hk
  |nil=>
   dsimp only at hk;obtain ⟨hc,hk⟩:=cX hk;simp only [v6] at hc;obtain ⟨⟨⟨⟨c1,c2⟩,c3⟩,c4⟩,c5⟩:=hc;obtain ⟨hk,f1,f2⟩:=Fu hk;obtain ⟨r,hr,hk⟩:=bK hk;injection hk with hk;have hu:R s' (bif wd then Hy s' v else v) p:=by
    cases wd with
    |true=>exact PX hv
    |false=>exact hv
   generalize (bif wd then Hy s' v else v)=u at c1 c3 c4 hr hu
   have Ew:=rV hr;have Uy:dP.vb ⟨ka,ta,tb,ko,tv,to,fn⟩ r=u:=by
    show (sN tv (mg ko r)).1=u;rw [Ew,DU _ c1]
   have hsb:dP.sb ⟨ka,ta,tb,ko,tv,to,fn⟩ r=s'.take (amw tb):=by
    show (z7 to (sN tv (mg ko r)).2).1=_;rw [Ew,DU _ c1]
    have:=Bg [] c2
    rw [ae5] at this;rw [this]
   have k7:(amw tb)<=(amw s'):=by
    have:=f1
    rw [aeA] at this;have h2:(dP.sa ⟨ka,ta,tb,ko,tv,to,fn⟩ a).length=(amw tb):=cW;have h3:min (amw tb) (amw s')=(amw tb):=by rw [this];exact h2
    omega
   unfold ae1 at c3;rw [aeD] at c3;have hkv: ∀t∈NT sK u,t<(amw tb):=fun t ht=>by simpa using c3 t (aft _ ht)
   have hkb: ∀b∈s'.take (amw tb),∀t∈EV b,t<(amw tb):=fun b hb t ht=>by simpa using c3 t (afn _ (amp.2 ⟨b,hb,ht⟩))
   have pY:cM (s'.take (amw tb)) (xh.take (amw tb)):=⟨by simp [hS'.len],fun t x hx=>by
    have dI:t<(amw tb):=by
     have:=(ww.1 hx).1
     rw [aeA] at this;omega
    have hx':=hx;rw [If dI] at hx';obtain ⟨q,q1,q2⟩:=hS'.at_ t x hx';refine ⟨q,by rw [If dI];exact q1,?_⟩
    cases x with
    |box cs=>
     obtain ⟨pc,rfl,hpc⟩:=q2;exact ⟨pc,rfl,RL.Ft hpc (hkb _ (af3 hx))⟩
    |_=>exact q2⟩
   refine ⟨r,hk.symm,rfl,?_,by rw [Uy,hsb];exact R.take hu hkv,by rw [hsb];exact pY,by rw [hsb];exact f1,by rw [hsb];exact f2⟩
   unfold ij;rw [aeD];intro t ht;rw [amr] at ht;rcases ht with ht|ht
   · rw [<- Uj (bx:=sK) (fun _=>rfl) hu c4] at ht
     simpa using hkv t ht
   rw [amp] at ht
   obtain ⟨q,hq,ht⟩:=ht;obtain ⟨j,hj,he⟩:=afu hq;have Nn:j<(s'.take (amw tb)).length:=by rw [<- pY.len];exact hj
   obtain ⟨x,hx⟩: ∃x,(s'.take (amw tb))[j]? =amx x:=⟨_,F0s Nn⟩;obtain ⟨q',q1,q2⟩:=pY.at_ j x hx;rw [F0s hj,he] at q1;injection q1 with q1;subst q1;rw [<- I9 q2 (Fv c5 j x hx)] at ht;simpa using hkb x (af3 hx) t ht)
 have hr':b=r:=hr;subst hr';subst hz;refine ⟨n,v,s,cq,?_⟩;rw [cW];obtain ⟨h1,h2,h3,h4,h5⟩:=hq;exact ⟨h1,h2,h3,by rw [h4,cW],h5⟩
theorem On {f:FuncId} {r:List PT} (hf:F f=amx (.j0 amA (fB (amw r)))) (l:List (RT r)) (hl:(amw l)<=1048576) {as:List PV} {aE:cK} {fz:List Nat} (hex:BU aE (xi aE deep) as=amx [.sl (amw r) amA (l.map (RT.pv r))]):
 ∃n x,dv F (run F n) amA f as aE fz=amx x/\ae9 .own (amw aE) (dC (di aE deep) as) (.sl r l) x:=by
 refine ⟨0,{v:= .own (amw aE) (amw r) 0 (amw l) (amw l) amA,news:=[.arr (amw r) (l.map (RT.pv r))],rd:=dC (di aE deep) as},?_,.sl (amw r) amA (l.map (RT.pv r)),.own (amw aE) (amw r) 0 (amw l) (amw l) amA,[.arr (amw r) (l.map (RT.pv r))],rfl,by simp only [Fj,aem],rfl⟩
 simp only [dv,hex,hf];cases l with
 |nil=>rfl
 |cons a l=>
  have h2:M2 ((l.map (RT.pv r)).length+1) dH=amz:=by simp [dH] at hl ⊢;omega
  simp only [aet,fB,aev,h2,aeu,if_true,zb];simp [has]
theorem aG.clone {f:FuncId} {n:Nat} {r:List PT} (hf:F f=amx (.j0 amA (fB n))) (hn:n=amw r):aG F f (bA.clone r):=by
 intro (a:List (RT r)) (b:List (RT r)) as pa aE fz hb Tj hex;subst hn;have hb:bP a=amx b:=hb;obtain ⟨rfl,hl⟩:=Ad hb;have agp:pa=[.sl (amw r) amA (b.map (RT.pv r))]:=by
  have:amx [PV.sl (amw r) amA (b.map (RT.pv r))]=amx pa:=Tj
  exact (aeJ this).symm
 subst agp;exact On hf b hl hex
theorem aG.Lb {f:FuncId} (hf:F f=amx (.j0 amA zJ)):aG F f bA.Lb:=by
 intro a b as pa aE fz hb Tj hex;obtain ⟨x,y,c⟩:=a;have Az:oT x y c=amx b:=hb;unfold oT at Az;cases hc:(amB (0<=x)&&amB (0<=y)&&amB (0<=c)&&amB (c<=1)) with
 |false=>rw [hc] at Az;cases Az
 |true=>
  rw [hc] at Az;injection Az with Az;subst Az;simp only [v6,decide_eq_true_eq] at hc;obtain ⟨⟨⟨h1,h2⟩,h3⟩,h4⟩:=hc;obtain ⟨x,rfl⟩:=acl h1;obtain ⟨y,rfl⟩:=acl h2;obtain ⟨c,rfl⟩:=acl h3;have agp:pa=[.int .u64 (.ofNat x),.int .u64 (.ofNat y),.int .u64 (.ofNat c)]:=by
   have:amx [PV.int .u64 (x:Int),.int .u64 (y:Int),.int .u64 (c:Int)]=amx pa:=Tj
   exact (aeJ this).symm
  subst agp;have hcb:M2 c 1=amz:=by simp;omega
  refine ⟨0,{v:= .cu [.int .u64 (.ofNat ((x+y+c)%18446744073709551616)),.int .u64 (.ofNat ((x+y+c) / 18446744073709551616))],rd:=dC (di aE deep) as},?_,_,rfl,rfl⟩;show dv F (run F 0) amA f as aE fz=_;simp only [dv,hex,hf,zJ,hcb,if_true];rfl
theorem jn.zero {f:FuncId} {c:dP} (h: ∀a,c.fn a=amy):jn F f c:=fun a b pa ps hb=>by rw [h a] at hb;cases hb
theorem aG.zero {f:FuncId} {c:bA} (h: ∀a,c.fn a=amy):aG F f c:=fun a b as pa aE fz hb=>by rw [h a] at hb;cases hb
theorem aG.at0 {f:FuncId} {fn:Unit->Option Bool} (h:aG F f ⟨ay.nil,Arg.bool,fn,.pure,amA⟩) (hb:fn ()=amx amz):aG F f ⟨ay.nil,Arg.bool,fun _=>amx amz,.pure,amA⟩:=by
 intro a b as args aE fz hr hp hx;obtain rfl:amz=b:=aeJ hr;exact h () amz as args aE fz hb hp hx
end
end Go.Vm
/- What comes in to a law, as typed values; a law from a contract. -/
namespace Go.Vm
open Go.ChangeShapes Go.WideShapes Go.ChangeAt Go.RowKit
def PT.wf:(p:PT)->p.T->Prop
 | .i k,n=>(Lit.int k n).wf=amz
 | .b,_=>True
def RT.wf:(r:List PT)->RT r->Prop
 | [],_=>True
 | [p],a=>p.wf a
 |p::q::r,a=>p.wf a.1/\RT.wf (q::r) a.2
def gM (r:List PT) (vs:List SV):Prop:= ∃a:RT r,vs=RT.sv r a/\RT.wf r a
def Lx (r:List PT) (vs:List SV):Prop:= ∃l:List (RT r),vs=[.sl r l]/\ ∀a∈l,RT.wf r a
def XA:List (List SV->Prop)->List SV->Prop
 | [],vs=>vs=[]
 |K::Ks,vs=> ∃a b,vs=a++b/\K a/\XA Ks b
theorem gM.cons {p:PT}: ∀{r:List PT} {a b:List SV},gM [p] a->gM r b->gM (p::r) (a++b)
 | [],a,b,⟨x,hx,wx⟩,⟨y,hy,_⟩=>⟨x,by rw [hx,hy];rfl,wx⟩
 |q::r,a,b,⟨x,hx,wx⟩,⟨y,hy,wy⟩=>⟨(x,y),by rw [hx,hy];rfl,wx,wy⟩
theorem gM.split {p q:PT} {r:List PT} {vs:List SV}:gM (p::q::r) vs-> ∃a b,vs=a++b/\gM [p] a/\gM (q::r) b
 |⟨x,hx,wx⟩=>⟨[p.sv x.1],RT.sv (q::r) x.2,hx,⟨x.1,rfl,wx.1⟩,⟨x.2,rfl,wx.2⟩⟩
theorem gM.app: ∀{r s:List PT} {a b:List SV},gM r a->gM s b->gM (r++s) (a++b)
 | [],s,a,b,⟨x,hx,_⟩,h=>by
  have:a=[]:=hx
  subst this;exact h
 | [p],s,a,b,h,k=>gM.cons h k
 |p::q::r,s,a,b,h,k=>by
  obtain ⟨a1,a2,rfl,h1,h2⟩:=gM.split h
  rw [ae3];exact gM.cons h1 (gM.app h2 k)
theorem ni: ∀{rs:List (List PT)} {vs:List SV},XA (rs.map gM) vs->gM rs.flatten vs
 | [],vs,h=>by
  have:vs=[]:=h
  subst this;exact ⟨(),rfl,trivial⟩
 |r::rs,vs,⟨a,b,h1,h2,h3⟩=>by
  subst h1;rw [List.flatten_cons];exact gM.app h2 (ni h3)
def cD (P : Program) (t : TypeId) (K : List SV -> Prop) : Prop :=
  ∀ (H : Type) (enc : TypeId × Value -> H) (w : World) (zV : Nat) (cs : List Value) (x : DataW H × List MemPlace), DataW.trod enc P w 0 (fun _ => amz) amz zV t cs = amx x ->
    ∃ vs q, K vs /\ qH vs = amx q /\ eX (ES w) fW q cs
section
variable {P : Program}
theorem cD.mono {t:TypeId} {K K':List SV->Prop} (h:cD P t K) (hk: ∀vs,K vs->K' vs):cD P t K':=fun H enc w zV cs x hx=>by
 obtain ⟨vs,q,h1,h2,h3⟩:=h H enc w zV cs x hx;exact ⟨vs,q,hk vs h1,h2,h3⟩
theorem cD.int {t:TypeId} {k:IntKind} (ht:P.underlying t=amx (.int k)):cD P t (gM [.i k]):=fun H enc w zV cs x h=>by
 obtain ⟨n,rfl,_,hw⟩:=DataW.trod_int ht h;exact ⟨[.int k n],[.int k n],⟨n,rfl,hw⟩,rfl,.cons _ _ _ _ (.int k n) .nil⟩
theorem cD.bool {t:TypeId} (ht:P.underlying t=amx .bool):cD P t (gM [.b]):=fun H enc w zV cs x h=>by
 obtain ⟨b,rfl,_⟩:=DataW.trod_bool ht h;exact ⟨[.bool b],[.bool b],⟨b,rfl,trivial⟩,rfl,.cons _ _ _ _ (.bool b) .nil⟩
def bk (P:Program):List Field->List (List SV->Prop)->Nat->Prop
 | [],[],_=>True
 |f::fs,K::Ks,off=>f.offset=off/\cD P f.type K/\bk P fs Ks (off+P.cellsOf f.type)
 |_,_,_=>False
theorem bk.nil {off:Nat}:bk P [] [] off:=trivial
theorem bk.cons {f:Field} {fs:List Field} {K:List SV->Prop} {Ks:List (List SV->Prop)} {off:Nat} (h1:f.offset=off) (h2:cD P f.type K) (h3:bk P fs Ks (off+P.cellsOf f.type)):bk P (f::fs) (K::Ks) off:=⟨h1,h2,h3⟩
def xO (P:Program):List Field->Nat
 | []=>0
 |f::fs=>P.cellsOf f.type+xO P fs
theorem Fw {im:Im} {loc:Loc}: ∀{p:List PV} {vs:List Value} {q:List PV} {us:List Value},eX im loc p vs->eX im loc q us->eX im loc (p++q) (vs++us)
 | [],[],_,_,.nil,h=>h
 |_::_,_::_,_,_,.cons x v xs ws h hs,k=> .cons x v _ _ h (Fw hs k)
theorem Fx {H:Type} {enc:TypeId×Value->H} {w:World} {n:Nat} {cs:List Value}: ∀{fs:List Field} {Ks:List (List SV->Prop)} {off:Nat},bk P fs Ks off->amw cs=off+xO P fs->
 (∀f∈fs,∃x,DataW.trod enc P w 0 (fun _=>amz) amz n f.type ((cs.drop f.offset).take (P.cellsOf f.type))=amx x)-> ∃vs q,XA Ks vs/\qH vs=amx q/\eX (ES w) fW q (cs.drop off)
 | [],[],off,_,hl,_=>⟨[],[],rfl,rfl,by rw [List.drop_eq_nil_of_le (by simp [xO] at hl;omega)];exact .nil⟩
 |f::fs,K::Ks,off,⟨h1,h2,h3⟩,hl,hx=>by
  obtain ⟨x,GX⟩:=hx f (by simp)
  obtain ⟨vs,q,k1,k2,k3⟩:=h2 H enc w n _ x GX;obtain ⟨M',q',k1',k2',k3'⟩:=Fx (n:=n) h3 (by simp only [xO] at hl;omega) (fun g hg=>hx g (by simp [hg]))
  refine ⟨vs++M',q++q',⟨vs,M',rfl,k1,k1'⟩,Aa k2 k2',?_⟩;rw [h1] at k3
  have:cs.drop off=(cs.drop off).take (P.cellsOf f.type)++cs.drop (off+P.cellsOf f.type):=by
   rw [<- List.drop_drop,List.take_append_drop]
  rw [this];exact Fw k3 k3'
 | [],_::_,_,h,_,_=>h.elim
 |_::_,[],_,h,_,_=>h.elim
theorem cD.struct {t:TypeId} {fs:Array Field} {Ks:List (List SV->Prop)} (ht:P.underlying t=amx (.struct fs)) (hF:bk P fs.toList Ks 0) (hc:P.cellsOf t=xO P fs.toList):cD P t (XA Ks):=fun H enc w zV cs x h=>by
 obtain ⟨xs,n,rfl,_,hl,hxl,qY⟩:=DataW.trod_struct ht h
 have:=Fx (P:=P) (enc:=enc) (w:=w) (n:=n) (cs:=cs) hF (by omega) (fun f hf=>by
  obtain ⟨i,hi,he⟩:=List.mem_iff_getElem.1 hf;have sJ:i<fs.size:=by simpa using hi
  have hg:fs[i]? =amx f:=by rw [Array.getElem?_eq_getElem sJ];simpa using he
  have:=qY i f hg
  rw [F0s (by omega)] at this
  exact ⟨_,this⟩)
 rwa [aeE] at this
theorem RT.vrl {r:List PT} {a:RT r} {q:List PV} (h:qH (RT.sv r a)=amx q):q=RT.pv r a:=by
 rw [RT.HA] at h;exact (aeJ h).symm
theorem eX.nth {im:Im} {loc:Loc}: ∀{p:List PV} {vs:List Value},eX im loc p vs-> ∀(k:Nat) (c:PV),p[k]? =amx c-> ∃v,vs[k]? =amx v/\VR im loc c v
 |_::_,_::_,.cons x v xs ws h hs,0,c,hc=>by
  simp at hc;subst hc;exact ⟨v,by simp,h⟩
 |_::_,_::_,.cons x v xs ws h hs,k+1,c,hc=>by
  obtain ⟨u,h1,h2⟩:=eX.nth hs k c (by simpa using hc)
  exact ⟨u,by simpa using h1,h2⟩
theorem cD.slice {t e:TypeId} {r:List PT} (ht:P.underlying t=amx (.slice e)) (he:cD P e (gM r)) (hc:P.cellsOf e=amw r) (hr:0<amw r):cD P t (Lx r):=fun H enc w zV cs x h=>by
 rcases Go.Deep.open_slice ht h with ⟨rfl,_⟩|⟨a,len,cap,m,n,D,Pl,rfl,_,hl,hm,hmm,_,hx⟩
 · exact ⟨[.sl r []],[.sl (amw r) amA []],⟨[],rfl,by simp⟩,rfl,.cons _ _ _ _ (.sl (amw r) amA [] amy 0 (aig _) (fun h=>by cases h) (fun h=>absurd rfl h)) .nil⟩
 have B':len<=m:=by rw [hmm];split<;>omega
 have each: ∀i,i<len-> ∃A:RT r,RT.wf r A/\ ∃He,w.cells? 0 (a.add (i*amw r)) (amw r)=amx He/\eX (ES w) fW (RT.pv r A) He:=by
  intro i hi;obtain ⟨He,h1,h2⟩:=hx i (by omega)
  obtain ⟨vs,q,⟨A,hA,wA⟩,k2,k3⟩:=he H enc w n He _ h2;subst hA;rw [RT.vrl k2] at k3;rw [hc] at h1;exact ⟨A,wA,He,h1,k3⟩
 have ch: ∃A:Nat->RT r,∀i,i<len->RT.wf r (A i)/\ ∃He,w.cells? 0 (a.add (i*amw r)) (amw r)=amx He/\eX (ES w) fW (RT.pv r (A i)) He:=by
  classical
  refine ⟨fun i=>if h:i<len then (each i h).choose else RT.zero r,fun i hi=>?_⟩
  simp only [dif_pos hi];exact (each i hi).choose_spec
 obtain ⟨A,hA⟩:=ch;refine ⟨[.sl r ((al8 len).map A)],[.sl (amw r) amA (((al8 len).map A).map (RT.pv r))],⟨_,rfl,fun x hx=>?_⟩,rfl,.cons _ _ _ _ ?_ .nil⟩
 · obtain ⟨i,hi,rfl⟩:=am6.1 hx
   exact (hA i (List.mem_range.1 hi)).1
 have cW:(((al8 len).map A).map (RT.pv r)).length=len:=by simp
 have:=VR.sl (im:=ES w) (loc:=fW) (amw r) amA (((al8 len).map A).map (RT.pv r)) (amx a) cap (by rw [cW];exact hl) (fun h=>by cases h) (fun dS=>by
  have GQ:0<len:=by
   rcases al7 len with h|h
   · subst h;exact absurd rfl dS
   exact h
  obtain ⟨_,cs0,h0,_⟩:=hA 0 GQ;obtain ⟨_,Ka,EE⟩:=am7 h0;obtain ⟨b,off,spot⟩:=a;have aom:spot=amy:=by
   have h1:=EE 0 hr;rw [F0s (by omega)] at h1
   simpa [Addr.add] using World.cell?_spot h1
  subst aom;refine ⟨b,off,rfl,fun i row uB=>?_⟩
  simp only [List.map_map,List.getElem?_map,aew] at uB;obtain ⟨j,hj,rfl⟩:=uB;have Nn:=cO hj
  have:j=i:=by
   rw [List.getElem?_range (by simpa using Nn)] at hj
   exact (aeJ hj).symm
  subst this;have aon:j<len:=by simpa using Nn
  obtain ⟨_,He,h1,h2⟩:=hA j aon;obtain ⟨_,Hh,C0⟩:=am7 h1;refine ⟨RT.vD r (A j),fun k c hk=>?_⟩
  obtain ⟨v,hv,oG⟩:=eX.nth h2 k c hk;have hkr:k<(amw r):=by
   have:=cO hk
   rwa [Function.comp,RT.vD] at this
  have cc:=C0 k hkr;rw [hv] at cc;rw [Go.WideShapes.add_plain,Go.WideShapes.add_plain] at cc;have Nl:c.plain=amz:=aeD.1 (RT.plain r (A j)) c (af3 hk);exact ⟨v,oG.plain Nl,Rx cc⟩)
 rw [cW] at this;exact this
theorem cD.aoo {t:TypeId} {fs:Array Field} {K:List SV->Prop} (h:cD P t K) (ht:P.underlying t=amx (.struct fs)) {H:Type} {enc:TypeId×Value->H} {w:World} {nR:Nat} {v:Value} {d:DataW H} {p:List MemPlace}
 (hv:Value.okWide P w .any nR t v) (hd:DataW.Trod enc P w 0 (fun _=>amz) amz t v d p): ∃vs q,K vs/\qH vs=amx q/\VR (ES w) fW (.agg q) v:=by
 obtain ⟨cs,rfl,_⟩:=okWide_struct ht hv;obtain ⟨zV,hf⟩:=hd;obtain ⟨vs,q,k1,k2,k3⟩:=h H enc w zV _ _ hf;exact ⟨vs,q,k1,k2,.agg q _ k3⟩
theorem cD.as3 {t:TypeId} {k:IntKind} (ht:P.underlying t=amx (.int k)) {H:Type} {enc:TypeId×Value->H} {w:World} {nR:Nat} {v:Value} {d:DataW H} {p:List MemPlace}
 (hv:Value.okWide P w .any nR t v) (hd:DataW.Trod enc P w 0 (fun _=>amz) amz t v d p): ∃n,(Lit.int k n).wf=amz/\VR (ES w) fW (.int k n) v:=by
 obtain ⟨n,rfl,_,_,hw⟩:=open_int ht hv hd;exact ⟨n,hw,.int k n⟩
theorem wf_i64 {n:Int} (h:(Lit.int .i64 n).wf=amz): -9223372036854775808<=n/\n<9223372036854775808:=by
 simp only [Lit.wf,v6,decide_eq_true_eq] at h;have e1:IntKind.i64.min= -9223372036854775808:=by decide
 have e2:IntKind.i64.max=9223372036854775807:=by decide
 rw [e1,e2] at h;omega
end
theorem aG.as4 {F:mJ} {f:FuncId} {x:aK} {α:Type} {A:ay α} {fn:α->Option Bool} (h:aG F f ⟨A,Arg.bool,fn,.pure,amA⟩) (hf:F f=amx (.code x)) {a:α} (hb:fn a=amx amz) {ps:List PV} (hp:qH (A.enc a)=amx ps) (hx:BU [] (xi [] deep) ps=amx ps):
 ∃n s z,run F n (.func f ps [] [])=amx (.func (.bool amz) s z):=by
 obtain ⟨n,r,h1,p,h2,rfl⟩:=h a amz ps ps [] [] hb hp hx;have hp':p= .bool amz:=(aeJ h2).symm;subst hp';refine ⟨n,?_⟩;simp only [dv,hx,hf] at h1;split at h1
 · rename_i v s z hr
   simp only [PP,if_false] at h1;split at h1
   · injection h1 with h1
     injection h1 with h1;subst h1;exact ⟨s,z,hr⟩
   rename_i hn
   split at h1
   · rename_i v' hv
     injection h1 with h1;injection h1 with h1;subst h1;exfalso;cases v with
     |bool b=>exact hn rfl
     |int _ _|str _|sl _ _ _=>injection hv with hv;cases hv
     |agg cs=>simp only [ym,aew] at hv;obtain ⟨_,_,hv⟩:=hv;cases hv
     |cu cs=>simp only [ym,aew] at hv;obtain ⟨_,_,hv⟩:=hv;cases hv
     |own t e off len cap ex=>simp only [ym] at hv;split at hv<;>first|(injection hv with hv;cases hv)|cases hv
     |_=>cases hv
   cases h1
 cases h1
end Go.Vm
