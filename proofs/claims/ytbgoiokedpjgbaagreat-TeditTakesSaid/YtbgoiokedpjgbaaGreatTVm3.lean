/- The logical machine, part 3: SvCod, SvRel, SvOps1, SvOps2, SvOps3, SvOps4, SvNorm, SvCall, SvFp, SvRun, SvCon, SvLaw. -/
import Derived.Test.YtbgoiokedpjgbaaGreatTVm2
open Nat renaming eq_of_beq_eq_true->bm,ble->cd,beq->ce,le_of_ble_eq_true->ci,beq_refl->c6,lt_or_ge->dv,zero_add->d8,beq_eq->eh,min_eq_left->ez,le_refl->fb,blt->ff,eq_zero_or_pos->fo,le_of_lt->fu,sub_self->gl
open Bool renaming and_eq_true->bn,false_eq_true->cf,not_eq_true'->cm,and_self->cz,not_false->dp,and_true->eb,not_true->fj,or_eq_true->gi
open List renaming getElem?_eq_some_iff->bo,getElem?_append_left->bq,getElem?_append_right->bu,getElem?_eq_getElem->bw,getElem?_take_of_lt->bz,getElem?_set->cb,length_cons->cp,append_assoc->cq,append_nil->cu,length_map->cw,map_cons->cy,replicate->db,length_take->dc,map_take->dd,take_of_length_le->de,all_eq_true->df,drop_zero->dh,getElem?_cons_succ->di,map_append->dj,mem_of_getElem?->dt,getElem?_eq_none_iff->dw,map_drop->dy,mem_cons_self->d5,mem_singleton->d6,length_eq_zero_iff->d7,mem_append_right->d9,mem_cons_of_mem->ec,mem_append_left->ed,getElem_of_mem->ef,length_append->ei,getElem?_cons_zero->ek,cons_append->ew,nodup_cons->fa,take_succ_cons->fg,all_cons->fh,cons_beq_cons->fk,range->fq,map_set->ft,ext_getElem?->fv,map_nil->fw,flatMap_cons->fx,mem_map->fy,any_eq_true->gc,length_drop->gd,mem_flatMap->ge,all_append->gf,mem_append->gg,any_cons->gj,all_map->gm
open Option.some renaming injEq->bv,inj->dz
open Int renaming eq_ofNat_of_zero_le->cj,ofNat->dm,le_trans->eg
open Prod.mk renaming injEq->ck
open Option renaming map_eq_some_iff->c7,isSome_iff_exists->ej,getD_none->eu,getD_some->gb
open Go.World renaming cells?_some->ga
/- The types of arguments and results, as cells. -/
namespace Go.Vm
theorem tI {r q:List PT} {l:List (RT r)} {m:List (RT q)} (h:xR r q l=some m): ∃e:r=q,m=e▸l:=by
 unfold xR at h;split at h
 · rename_i hs
   injection h with h;exact ⟨BJ hs,h.symm⟩
 cases h
theorem I3 {r q:List PT} {l:List (RT r)} {m:List (RT q)} (h:xR r q l=some m):r=q/\m.map (RT.pv q)=l.map (RT.pv r)/\m.length=l.length:=by
 obtain ⟨rfl,rfl⟩:=tI h;exact ⟨rfl,rfl,rfl⟩
theorem fD {x:SV} {xs:List SV} {ps:List PV}:pvL (x::xs)=some ps↔ ∃p qs,ps=p::qs/\xS x=some p/\pvL xs=some qs:=by
 simp only [pvL];constructor
 · intro h
   split at h
   · rename_i y ys h1 h2
     injection h with h;exact ⟨y,ys,h.symm,h1,h2⟩
   cases h
 rintro ⟨p,qs,rfl,h1,h2⟩
 rw [h1,h2]
theorem HO: ∀{xs ys:List SV} {p q:List PV},pvL xs=some p->pvL ys=some q->pvL (xs++ys)=some (p++q)
 | [],ys,p,q,h,k=>by simp only [pvL,bv] at h;subst h;exact k
 |x::xs,ys,p,q,h,k=>by
  obtain ⟨a,as,rfl,h1,h2⟩:=fD.1 h;exact fD.2 ⟨a,as++q,rfl,h1,HO h2 k⟩
theorem PT.of_some: ∀{p:PT} {v:SV} {a:p.T},p.of v=some a->v=p.sv a
 | .i k,.int l n,a,h=>by
  simp only [PT.of] at h;cases hk:gB l k with
  |false=>rw [hk] at h;cases h
  |true=>
   rw [hk] at h;injection h with h;subst h;rw [fU.1 hk];rfl
 | .b,.bool x,a,h=>by injection h with h;subst h;rfl
 | .i k,.bool _,a,h=>by cases h
 | .b,.int _ _,a,h=>by cases h
 | .i _,.junk,a,h| .i _,.undef,a,h| .i _,.nul,a,h| .i _,.nilf,a,h| .i _,.str _,a,h| .i _,.agg _,a,h| .i _,.tup _,a,h| .i _,.sl _ _,a,h| .i _,.nil _ _,a,h| .i _,.own _ _,a,h| .i _,.pre _ _ _ _,a,h| .i _,.part _ _ _ _ _,a,h| .i _,.pa _ _ _ _ _,a,h| .i _,.pb _ _ _,a,h| .i _,.bp _ _ _,a,h| .i _,.rptr _ _,a,h| .i _,.clo _ _ _,a,h| .i _,.mp _,a,h=>by cases h
 | .b,.junk,a,h| .b,.undef,a,h| .b,.nul,a,h| .b,.nilf,a,h| .b,.str _,a,h| .b,.agg _,a,h| .b,.tup _,a,h| .b,.sl _ _,a,h| .b,.nil _ _,a,h| .b,.own _ _,a,h| .b,.pre _ _ _ _,a,h| .b,.part _ _ _ _ _,a,h| .b,.pa _ _ _ _ _,a,h| .b,.pb _ _ _,a,h| .b,.bp _ _ _,a,h| .b,.rptr _ _,a,h| .b,.clo _ _ _,a,h| .b,.mp _,a,h=>by cases h
theorem RT.of_some: ∀{r:List PT} {vs:List SV} {a:RT r},RT.of r vs=some a->vs=RT.sv r a
 | [],[],a,_=>rfl
 | [p],[v],a,h=>by
  have:=PT.of_some (p:=p) h
  rw [this];rfl
 |p::q::r,v::vs,a,h=>by
  simp only [RT.of] at h;split at h
  · rename_i x y h1 h2
    injection h with h;subst h;rw [PT.of_some h1,RT.of_some h2];rfl
  cases h
 | [],_::_,a,h=>by simp [RT.of] at h
 | [p],[],a,h=>by simp [RT.of] at h
 | [p],_::_::_,a,h=>by simp [RT.of] at h
 |_::_::_,[],a,h=>by simp [RT.of] at h
theorem PT.pv_sv (p:PT) (a:p.T):xS (p.sv a)=some (p.pv a):=by cases p<;>rfl
theorem RT.pv_sv: ∀(r:List PT) (a:RT r),pvL (RT.sv r a)=some (RT.pv r a)
 | [],_=>rfl
 | [p],a=>fD.2 ⟨_,_,rfl,PT.pv_sv p a,rfl⟩
 |p::q::r,a=>fD.2 ⟨_,_,rfl,PT.pv_sv p a.1,RT.pv_sv (q::r) a.2⟩
theorem RT.pv_len: ∀(r:List PT) (a:RT r),(RT.pv r a).length=r.length
 | [],_=>rfl
 | [p],a=>rfl
 |p::q::r,a=>by simp [RT.pv,RT.pv_len (q::r) a.2]
theorem RT.sv_len: ∀(r:List PT) (a:RT r),(RT.sv r a).length=r.length
 | [],_=>rfl
 | [p],a=>rfl
 |p::q::r,a=>by simp [RT.sv,RT.sv_len (q::r) a.2]
theorem RO: ∀(n:Nat) {vs:List SV} {ps:List PV},pvL vs=some ps-> ∃p q,ps=p++q/\pvL (vs.take n)=some p/\pvL (vs.drop n)=some q
 |0,vs,ps,h=>⟨[],ps,rfl,by simp [pvL],by simpa using h⟩
 |n+1,[],ps,h=>⟨[],ps,rfl,by simp [pvL],by simpa using h⟩
 |n+1,v::vs,ps,h=>by
  obtain ⟨p,qs,rfl,h1,h2⟩:=fD.1 h;obtain ⟨a,b,rfl,h3,h4⟩:=RO n h2;exact ⟨p::a,b,rfl,by rw [fg];exact fD.2 ⟨p,a,rfl,h1,h3⟩,by simpa using h4⟩
def cY.int (k:IntKind):cY Int where
 enc n:=[.int k n]
 dec vs:=match vs with
  | .int l n::r=>bif gB l k then some (n,r) else none
  |_=>none
 law:=fun {vs a rest ps} h hp=>by
  split at h
  · rename_i l n r
    cases hk:gB l k with
    |false=>rw [hk] at h;cases h
    |true=>
     rw [hk] at h;simp only [cond_true,bv,ck] at h;obtain ⟨rfl,rfl⟩:=h;obtain ⟨p,qs,rfl,h1,h2⟩:=fD.1 hp;rw [fU.1 hk] at h1;exact ⟨[p],qs,rfl,fD.2 ⟨p,[],rfl,h1,rfl⟩,h2⟩
  cases h
def cY.bool:cY Bool where
 enc n:=[.bool n]
 dec vs:=match vs with
  | .bool n::r=>some (n,r)
  |_=>none
 law:=fun {vs a rest ps} h hp=>by
  split at h
  · simp only [bv,ck] at h
    obtain ⟨rfl,rfl⟩:=h;obtain ⟨p,qs,rfl,h1,h2⟩:=fD.1 hp;exact ⟨[p],qs,rfl,fD.2 ⟨p,[],rfl,h1,rfl⟩,h2⟩
  cases h
def aBo (r:List PT):SV->Option (List (RT r))
 | .sl q l=>xR q r l
 | .nil e c=>bif ce e r.length&&!c then some [] else none
 |_=>none
theorem RP {r:List PT} {v:SV} {l:List (RT r)} {p:PV} (h:aBo r v=some l) (hp:xS v=some p):xS (.sl r l)=some p:=by
 cases v with
 |sl q m=>
  obtain ⟨rfl,h2,_⟩:=I3 h;rw [<- hp];simp only [xS,h2]
 |nil e c=>
  simp only [aBo] at h;cases hc:(ce e r.length&&!c) with
  |false=>rw [hc] at h;cases h
  |true=>
   rw [hc] at h;injection h with h;subst h;simp only [bn,eh,cm] at hc;obtain ⟨rfl,rfl⟩:=hc;rw [<- hp];rfl
 |_=>cases h
def cY.sl (r:List PT):cY (List (RT r)) where
 enc l:=[.sl r l]
 dec vs:=match vs with
  |v::rest=>match aBo r v with
   |some l=>some (l,rest)
   |none=>none
  | []=>none
 law:=fun {vs a rest ps} h hp=>by
  split at h
  · split at h
    · rename_i v r' x l hl
      simp only [bv,ck] at h;obtain ⟨rfl,rfl⟩:=h;obtain ⟨p,qs,rfl,h1,h2⟩:=fD.1 hp;exact ⟨[p],qs,rfl,fD.2 ⟨p,[],rfl,RP hl h1,rfl⟩,h2⟩
    cases h
  cases h
def cY.row (r:List PT):cY (RT r) where
 enc:=RT.sv r
 dec vs:=match RT.of r (vs.take r.length) with
  |some a=>some (a,vs.drop r.length)
  |none=>none
 law:=fun {vs a rest ps} h hp=>by
  split at h
  · rename_i x hx
    simp only [bv,ck] at h;obtain ⟨rfl,rfl⟩:=h;obtain ⟨p,q,rfl,h1,h2⟩:=RO r.length hp;rw [RT.of_some hx] at h1;exact ⟨p,q,rfl,h1,h2⟩
  cases h
def cY.prod {α β:Type} (A:cY α) (B:cY β):cY (α×β) where
 enc p:=A.enc p.1++B.enc p.2
 dec vs:=match A.dec vs with
  |some p=>match B.dec p.2 with
   |some q=>some ((p.1,q.1),q.2)
   |none=>none
  |none=>none
 law:=fun {vs a rest ps} h hp=>by
  split at h
  · rename_i p hA
    split at h
    · rename_i q hB
      simp only [bv,ck] at h;obtain ⟨rfl,rfl⟩:=h;obtain ⟨p1,p2,rfl,h1,h2⟩:=A.law (a:=p.1) (rest:=p.2) hA hp;obtain ⟨q1,q2,rfl,h3,h4⟩:=B.law (a:=q.1) (rest:=q.2) hB h2;exact ⟨p1++q1,q2,by simp,HO h1 h3,h4⟩
    cases h
  cases h
def cY.iso {α β:Type} (A:cY α) (f:α->β) (g:β->α) (h: ∀a,g (f a)=a):cY β where
 enc b:=A.enc (g b)
 dec vs:=match A.dec vs with
  |some p=>some (f p.1,p.2)
  |none=>none
 law:=fun {vs a rest ps} hd hp=>by
  split at hd
  · rename_i p hA
    simp only [bv,ck] at hd;obtain ⟨rfl,rfl⟩:=hd;rw [h];exact A.law hA hp
  cases hd
def aK.int (k:IntKind):aK Int where
 enc n:= .int k n
 dec v:=match v with
  | .int l n=>bif gB l k then some n else none
  |_=>none
 law:=fun {v a p} h hp=>by
  split at h
  · rename_i l n
    cases hk:gB l k with
    |false=>rw [hk] at h;cases h
    |true=>rw [hk] at h;injection h with h;subst h;rw [fU.1 hk] at hp;exact hp
  cases h
def aK.bool:aK Bool where
 enc n:= .bool n
 dec v:=match v with
  | .bool n=>some n
  |_=>none
 law:=fun {v a p} h hp=>by
  split at h
  · injection h with h;subst h;exact hp
  cases h
def aK.sl (r:List PT):aK (List (RT r)) where
 enc l:= .sl r l
 dec:=aBo r
 law:=RP
def aK.agg {α:Type} (A:cY α):aK α where
 enc a:= .agg (A.enc a)
 dec v:=match v with
  | .agg cs=>match A.dec cs with
   |some p=>match p.2 with
    | []=>some p.1
    |_=>none
   |none=>none
  |_=>none
 law:=fun {v a p} h hp=>by
  split at h
  · rename_i cs
    split at h
    · rename_i q hA
      obtain ⟨x,rest⟩:=q;dsimp only at h;cases rest with
      |cons _ _=>cases h
      |nil=>
       injection h with h;subst h;simp only [xS] at hp;cases hc:pvL cs with
       |none=>rw [hc] at hp;cases hp
       |some l=>
        rw [hc] at hp;injection hp with hp;subst hp;obtain ⟨p1,p2,rfl,h1,h2⟩:=A.law hA hc;simp only [pvL,bv] at h2;subst h2;simp only [xS,h1,cu]
    cases h
  cases h
def aK.ref {α:Type} (A:cY α):aK α where
 enc a:= .rptr (A.enc a) 0
 dec v:=match v with
  | .rptr cs 0=>match A.dec cs with
   |some p=>match p.2 with
    | []=>some p.1
    |_=>none
   |none=>none
  |_=>none
 law:=fun {v a p} h hp=>by
  split at h
  · rename_i cs
    split at h
    · rename_i q hA
      obtain ⟨x,rest⟩:=q;dsimp only at h;cases rest with
      |cons _ _=>cases h
      |nil=>
       injection h with h;subst h;simp only [xS] at hp;cases hc:pvL cs with
       |none=>rw [hc] at hp;cases hp
       |some l=>
        rw [hc] at hp;injection hp with hp;subst hp;obtain ⟨p1,p2,rfl,h1,h2⟩:=A.law hA hc;simp only [pvL,bv] at h2;subst h2;simp only [xS,h1,cu]
    cases h
  cases h
def aC.nil:aC Unit where
 enc _:=[]
 dec vs:=match vs with
  | []=>some ()
  |_=>none
 law:=fun {vs a ps} h hp=>by
  split at h
  · exact hp
  cases h
def aC.one {α:Type} (A:aK α):aC α where
 enc a:=[A.enc a]
 dec vs:=match vs with
  | [v]=>A.dec v
  |_=>none
 law:=fun {vs a ps} h hp=>by
  split at h
  · obtain ⟨p,qs,rfl,h1,h2⟩:=fD.1 hp
    exact fD.2 ⟨p,qs,rfl,A.law h h1,h2⟩
  cases h
def aC.cons {α β:Type} (A:aK α) (B:aC β):aC (α×β) where
 enc a:=A.enc a.1::B.enc a.2
 dec vs:=match vs with
  |v::r=>match A.dec v with
   |some x=>match B.dec r with
    |some y=>some (x,y)
    |none=>none
   |none=>none
  | []=>none
 law:=fun {vs a ps} h hp=>by
  split at h
  · split at h
    · rename_i x hx
      split at h
      · rename_i y hy
        injection h with h;subst h;obtain ⟨p,qs,rfl,h1,h2⟩:=fD.1 hp;exact fD.2 ⟨p,qs,rfl,A.law hx h1,B.law hy h2⟩
      cases h
    cases h
  cases h
def aK.tup {α:Type} (A:aC α):aK α where
 enc a:= .tup (A.enc a)
 dec v:=match v with
  | .tup vs=>A.dec vs
  |_=>none
 law:=fun {v a p} h hp=>by
  split at h
  · rename_i vs
    simp only [xS] at hp;cases hc:pvL vs with
    |none=>rw [hc] at hp;cases hp
    |some l=>
     rw [hc] at hp;injection hp with hp;subst hp;simp only [xS,A.law h hc]
  cases h
def aK.clo {α:Type} (f:FuncId) (A:aC α):aK α where
 enc a:= .clo f [] (A.enc a)
 dec v:=match v with
  | .clo g [] b=>bif ce g f then A.dec b else none
  |_=>none
 law:=fun {v a p} h hp=>by
  split at h
  · rename_i g b
    cases hg:ce g f with
    |false=>rw [hg] at h;cases h
    |true=>
     rw [hg] at h
     have:=bm hg
     subst this;simp only [xS,pvL] at hp ⊢;cases hc:pvL b with
     |none=>rw [hc] at hp;cases hp
     |some l=>
      rw [hc] at hp;rw [A.law h hc];exact hp
  cases h
def bJ.clone (r:List PT):bJ:=⟨.one (.sl r),.sl r,bW,.own,false⟩
def tJ (a b c:Int):Option (Int×Int):=bif decide (0<=a)&&decide (0<=b)&&decide (0<=c)&&decide (c<=1) then some ((a+b+c)%18446744073709551616,(a+b+c) / 18446744073709551616) else none
def bJ.add64:bJ:=⟨.cons (.int .u64) (.cons (.int .u64) (.one (.int .u64))),.tup (.cons (.int .u64) (.one (.int .u64))),fun a=>tJ a.1 a.2.1 a.2.2,.pure,false⟩
def WH:List (Nat×bJ)->FuncId->List bJ
 | [],_=>[]
 |(g,c)::r,f=>bif ce g f then c::WH r f else WH r f
def WI:List (Nat×eH)->FuncId->List eH
 | [],_=>[]
 |(g,c)::r,f=>bif ce g f then c::WI r f else WI r f
def TS:List (Nat×Cd)->FuncId->Option Cd
 | [],_=>none
 |(g,c)::r,f=>bif ce g f then some c else TS r f
def kY (lp:Option Nat) (c:List (Nat×bJ)) (p:List (Nat×eH)) (x:List (Nat×Cd)) (rk:List (Nat×List PT)):Ctx:=⟨lp,WH c,WI p,TS x,rk⟩
end Go.Vm
/- What a typed value says of a value of the logical machine. -/
namespace Go.Vm
def aEl (s:List SB) (t e n:Nat):Prop:=(∃r l,s[t]? =some (.arr r l)/\e=r.length/\n=l.length)\/s[t]? =some .dead
def GW (s:List SB) (t e:Nat):Prop:=(∃r l,s[t]? =some (.arr r l)/\e=r.length)\/s[t]? =some .dead\/(∃cs,s[t]? =some (.box cs)/\e=1)
def aEm (s:List SB) (t:Nat) (r:List PT) (i:Int) (a:RT r):Prop:=(∃l,s[t]? =some (.arr r l)/\aN l i=some a)\/s[t]? =some .dead
def aOa (s:List SB) (t:Nat) (i:Int):Prop:=(∃r l,s[t]? =some (.arr r l)/\(aN l i).isSome=true)\/s[t]? =some .dead
mutual
def R (s:List SB):SV->PV->Prop
 | .junk,_=>True
 | .undef,v=>v= .undef
 | .nul,v=>v= .nul
 | .nilf,v=>v= .nilf
 | .int k n,v=>v= .int k n
 | .bool b,v=>v= .bool b
 | .str x,v=>v= .str x
 | .agg cs,v=> ∃ps,v= .agg ps/\RL s cs ps
 | .tup cs,v=> ∃ps,v= .tup ps/\RL s cs ps
 | .sl r l,v=>v= .sl r.length false (l.map (RT.pv r))
 | .nil e c,v=>v= .sl e c []
 | .own t ex,v=> ∃e n,v= .own t e 0 n n ex/\aEl s t e n
 | .pre t len cap ex,v=> ∃e,v= .own t e 0 len cap ex/\GW s t e
 | .part t off len cap ex,v=> ∃e,v= .own t e off len cap ex/\GW s t e
 | .pa t r i a off,v=>v= .ptr t r.length i.toNat off/\aEm s t r i a
 | .pb t i off,v=> ∃e,v= .ptr t e i.toNat off/\aOa s t i
 | .bp t n off,v=>v= .ptr t n 0 off
 | .rptr cs off,v=> ∃ps,v= .rptr ps off/\RL s cs ps
 | .clo f a b,v=> ∃pa pb,v= .clo f pa pb/\RL s a pa/\RL s b pb
 | .mp t,v=>v= .mp t
def RL (s:List SB):List SV->List PV->Prop
 | [],ps=>ps=[]
 |x::xs,ps=> ∃p q,ps=p::q/\R s x p/\RL s xs q
end
def zF:List Int->PV
 | [a]=> .int .i64 a
 |l=> .agg (l.map (.int .i64))
def I4 (k:List Int):PV×PV:=(zF k,.bool true)
def MI (p:PT) (a:RT [.i .i64,p]):PV×PV:=(.int .i64 a.1,p.pv a.2)
def RB (s:List SB):SB->mJ->Prop
 | .arr r l,b=>b= .arr r.length (l.map (RT.pv r))
 | .box cs,b=> ∃ps,b= .box ps/\RL s cs ps
 | .set l,b=>b= .map (l.map I4)
 | .tab p l,b=>b= .map (l.map (MI p))
 | .dead,b=>b= .dead
structure cU (s:List SB) (p:cT):Prop where
 len:p.length=s.length
 at_: ∀(t:Nat) (b:SB),s[t]? =some b-> ∃q,p[t]? =some q/\RB s b q
def eJ (s:List SB):SE->zA->Prop
 | [],e=>e=[]
 |(t,v)::r,e=> ∃p q,e=(t,p)::q/\R s v p/\eJ s r q
structure GX (st:vK) (p:St):Prop where
 env:eJ st.sto st.env p.env
 sto:cU st.sto p.sto
 fz:p.fz=st.fz
 kn:p.kn=st.kn
theorem pI: ∀(s l:List SB),apS s l=s++l
 | [],_=>rfl
 |b::r,l=>by simp [apS,pI r l]
theorem I5: ∀(s:List SB) (t:Nat) (b:SB),aEg s t b=s.set t b
 | [],_,_=>by simp [aEg]
 |_::_,0,_=>rfl
 |x::r,n+1,b=>by simp [aEg,I5 r n b]
theorem RL.nil {s:List SB}:RL s [] []:=rfl
theorem RL.cons {s:List SB} {x:SV} {xs:List SV} {p:PV} {q:List PV} (h:R s x p) (k:RL s xs q):RL s (x::xs) (p::q):=⟨p,q,rfl,h,k⟩
theorem RL.cons_inv {s:List SB} {x:SV} {xs:List SV} {ps:List PV} (h:RL s (x::xs) ps): ∃p q,ps=p::q/\R s x p/\RL s xs q:=h
theorem RL.length {s:List SB}: ∀{xs:List SV} {ps:List PV},RL s xs ps->ps.length=xs.length
 | [],ps,h=>by rw [show ps=[] from h];rfl
 |x::xs,ps,h=>by
  obtain ⟨p,q,rfl,_,h2⟩:=h.cons_inv;simp [h2.length]
theorem RL.append {s:List SB}: ∀{xs:List SV} {ps:List PV},RL s xs ps-> ∀{ys:List SV} {qs:List PV},RL s ys qs->RL s (xs++ys) (ps++qs)
 | [],ps,h,_,_,k=>by rw [show ps=[] from h];exact k
 |x::xs,ps,h,_,_,k=>by
  obtain ⟨p,q,rfl,h1,h2⟩:=h.cons_inv;exact RL.cons h1 (h2.append k)
theorem RL.take {s:List SB}: ∀{xs:List SV} {ps:List PV},RL s xs ps-> ∀n,RL s (xs.take n) (ps.take n)
 | [],ps,h,n=>by rw [show ps=[] from h];simp;exact RL.nil
 |x::xs,ps,h,0=>by simp;exact RL.nil
 |x::xs,ps,h,n+1=>by
  obtain ⟨p,q,rfl,h1,h2⟩:=h.cons_inv;exact RL.cons h1 (h2.take n)
theorem RL.drop {s:List SB}: ∀{xs:List SV} {ps:List PV},RL s xs ps-> ∀n,RL s (xs.drop n) (ps.drop n)
 | [],ps,h,n=>by rw [show ps=[] from h];simp;exact RL.nil
 |x::xs,ps,h,0=>h
 |x::xs,ps,h,n+1=>by
  obtain ⟨p,q,rfl,h1,h2⟩:=h.cons_inv;exact h2.drop n
theorem RL.nth {s:List SB}: ∀{xs:List SV} {ps:List PV},RL s xs ps-> ∀{n:Nat} {v:SV},Vm.nth xs n=some v-> ∃p,ps[n]? =some p/\R s v p
 | [],_,_,_,_,e=>by cases e
 |x::xs,ps,h,0,v,e=>by
  obtain ⟨p,q,rfl,h1,_⟩:=h.cons_inv;injection e with e;subst e;exact ⟨p,rfl,h1⟩
 |x::xs,ps,h,n+1,v,e=>by
  obtain ⟨p,q,rfl,_,h2⟩:=h.cons_inv;obtain ⟨p',h3,h4⟩:=h2.nth (n:=n) e;exact ⟨p',by simpa using h3,h4⟩
mutual
theorem aAc (s:List SB): ∀v:PV,R s (aGf v) v
 | .undef=>rfl
 | .nul=>rfl
 | .nilf=>rfl
 | .int _ _=>rfl
 | .bool _=>rfl
 | .str _=>rfl
 | .agg cs=>⟨cs,rfl,ofPVL_R s cs⟩
 | .tup cs=>⟨cs,rfl,ofPVL_R s cs⟩
 | .sl e c rows=>by
  cases rows with
  |nil=>exact rfl
  |cons _ _=>trivial
 | .clo f a b=>⟨a,b,rfl,ofPVL_R s a,ofPVL_R s b⟩
 | .own .. =>trivial
 | .ptr .. =>trivial
 | .rptr .. =>trivial
 | .mp _=>trivial
theorem ofPVL_R (s:List SB): ∀l:List PV,RL s (ofPVL l) l
 | []=>rfl
 |x::xs=>RL.cons (aAc s x) (ofPVL_R s xs)
end
theorem eJ.lk {s:List SB}: ∀{e:SE} {p:zA},eJ s e p-> ∀t,R s (QP t e) (Vm.lk t p)
 | [],p,h,t=>by rw [show p=[] from h];rfl
 |(u,v)::r,p,h,t=>by
  obtain ⟨q,qs,rfl,h1,h2⟩:=h;simp only [QP,Vm.lk];cases hb:ce u t with
  |true=>exact h1
  |false=>exact eJ.lk h2 t
theorem eJ.setS {s:List SB}: ∀{e:SE} {p:zA},eJ s e p-> ∀{t:Nat} {v:SV},R s v (Vm.lk t p)->eJ s (Vm.setS t v e) p
 | [],p,h,t,v,_=>h
 |(u,x)::r,p,h,t,v,hv=>by
  obtain ⟨q,qs,rfl,h1,h2⟩:=h;simp only [Vm.setS];simp only [Vm.lk] at hv;cases hb:ce u t with
  |true=>rw [hb] at hv;exact ⟨q,qs,rfl,hv,h2⟩
  |false=>rw [hb] at hv;exact ⟨q,qs,rfl,h1,eJ.setS h2 hv⟩
theorem eC {s:List SB} {e:SE} {p:zA} (h:eJ s e p): ∀x:gE,R s (bZ e x) (x.ev p)
 | .t n=>h.lk n
 | .c v=>aAc s v
theorem FV {s:List SB} {e:SE} {p:zA} (h:eJ s e p): ∀l:List gE,RL s (lS e l) (NA p l)
 | []=>rfl
 |x::xs=>RL.cons (eC h x) (FV h xs)
def Fr (bad:List Nat) (s s':List SB):Prop:= ∀(t:Nat) (b:SB),s[t]? =some b->match b with
 | .arr r l=>(∃l',s'[t]? =some (.arr r l')/\l'.length=l.length/\(has bad t=false->l'=l))\/s'[t]? =some .dead
 | .dead=>s'[t]? =some .dead
 | .box _=>(∃cs,s'[t]? =some (.box cs))\/s'[t]? =some .dead
 |_=>True
theorem Fr.refl (bad:List Nat) (s:List SB):Fr bad s s:=fun t b h=>by
 cases b with
 |arr r l=>exact .inl ⟨l,h,rfl,fun _=>rfl⟩
 |dead=>exact h
 |box cs=>exact .inl ⟨cs,h⟩
 |_=>trivial
theorem Fr.app (bad:List Nat) (s l:List SB):Fr bad s (s++l):=fun t b h=>by
 have h':(s++l)[t]? =some b:=by
  have:=(bo.1 h).1
  rw [bq this];exact h
 cases b with
 |arr r l=>exact .inl ⟨l,h',rfl,fun _=>rfl⟩
 |dead=>exact h'
 |box cs=>exact .inl ⟨cs,h'⟩
 |_=>trivial
theorem Fr.trans {bad:List Nat} {a b c:List SB} (h:Fr bad a b) (k:Fr bad b c):Fr bad a c:=fun t x hx=>by
 have h1:=h t x hx;cases x with
 |arr r l=>
  rcases h1 with ⟨l',h2,h3,h4⟩|h2
  · have k1:=k t _ h2
    rcases k1 with ⟨l2,k2,k3,k4⟩|k2
    · exact .inl ⟨l2,k2,k3.trans h3,fun hb=>(k4 hb).trans (h4 hb)⟩
    exact .inr k2
  exact .inr (k t _ h2)
 |dead=>exact k t _ h1
 |box cs=>
  rcases h1 with ⟨c2,h2⟩|h2
  · exact k t _ h2
  exact .inr (k t _ h2)
 |_=>trivial
theorem LZ {α:Type} {l m:List α} {i:Int} (h:(aN l i).isSome=true) (hl:m.length=l.length):(aN m i).isSome=true:=by
 cases i with
 |ofNat n=>
  simp only [aN] at h ⊢;rw [ej] at h;obtain ⟨a,ha⟩:=h
  have:=(bo.1 ha).1
  rw [bw (by omega)];rfl
 |negSucc n=>simp [aN] at h
mutual
theorem R.fr {bad:List Nat} {s s':List SB} (hf:Fr bad s s'): ∀{v:SV} {p:PV},R s v p->R s' (dgV bad v) p
 | .junk,_,_=>trivial
 | .undef,_,h=>h
 | .nul,_,h=>h
 | .nilf,_,h=>h
 | .int _ _,_,h=>h
 | .bool _,_,h=>h
 | .str _,_,h=>h
 | .agg cs,_,h=>by obtain ⟨ps,rfl,h⟩:=h;exact ⟨ps,rfl,RL.fr hf h⟩
 | .tup cs,_,h=>by obtain ⟨ps,rfl,h⟩:=h;exact ⟨ps,rfl,RL.fr hf h⟩
 | .sl _ _,_,h=>h
 | .nil _ _,_,h=>h
 | .own t ex,_,h=>by
  obtain ⟨e,n,rfl,h⟩:=h;refine ⟨e,n,rfl,?_⟩;rcases h with ⟨r,l,h1,h2,h3⟩|h1
  · rcases hf t _ h1 with ⟨l',k1,k2,_⟩|k1
    · exact .inl ⟨r,l',k1,h2,by rw [h3,k2]⟩
    exact .inr k1
  exact .inr (hf t _ h1)
 | .pre t len cap ex,_,h=>by
  obtain ⟨e,rfl,h⟩:=h;refine ⟨e,rfl,?_⟩;rcases h with ⟨r,l,h1,h2⟩|h1|⟨cs,h1,h2⟩
  · rcases hf t _ h1 with ⟨l',k1,_,_⟩|k1
    · exact .inl ⟨r,l',k1,h2⟩
    exact .inr (.inl k1)
  · exact .inr (.inl (hf t _ h1))
  rcases hf t _ h1 with ⟨c2,k1⟩|k1
  · exact .inr (.inr ⟨c2,k1,h2⟩)
  exact .inr (.inl k1)
 | .part t off len cap ex,_,h=>by
  obtain ⟨e,rfl,h⟩:=h;refine ⟨e,rfl,?_⟩;rcases h with ⟨r,l,h1,h2⟩|h1|⟨cs,h1,h2⟩
  · rcases hf t _ h1 with ⟨l',k1,_,_⟩|k1
    · exact .inl ⟨r,l',k1,h2⟩
    exact .inr (.inl k1)
  · exact .inr (.inl (hf t _ h1))
  rcases hf t _ h1 with ⟨c2,k1⟩|k1
  · exact .inr (.inr ⟨c2,k1,h2⟩)
  exact .inr (.inl k1)
 | .pa t r i a off,_,h=>by
  obtain ⟨rfl,h⟩:=h;simp only [dgV];cases hb:has bad t with
  |true=>
   refine ⟨_,rfl,?_⟩;rcases h with ⟨l,h1,h2⟩|h1
   · rcases hf t _ h1 with ⟨l',k1,k2,_⟩|k1
     · exact .inl ⟨r,l',k1,LZ (by rw [h2];rfl) k2⟩
     exact .inr k1
   exact .inr (hf t _ h1)
  |false=>
   refine ⟨rfl,?_⟩;rcases h with ⟨l,h1,h2⟩|h1
   · rcases hf t _ h1 with ⟨l',k1,_,k3⟩|k1
     · exact .inl ⟨l',k1,by rw [k3 hb];exact h2⟩
     exact .inr k1
   exact .inr (hf t _ h1)
 | .pb t i off,_,h=>by
  obtain ⟨e,rfl,h⟩:=h;refine ⟨e,rfl,?_⟩;rcases h with ⟨r,l,h1,h2⟩|h1
  · rcases hf t _ h1 with ⟨l',k1,k2,_⟩|k1
    · exact .inl ⟨r,l',k1,LZ h2 k2⟩
    exact .inr k1
  exact .inr (hf t _ h1)
 | .bp _ _ _,_,h=>h
 | .rptr cs off,_,h=>by obtain ⟨ps,rfl,h⟩:=h;exact ⟨ps,rfl,RL.fr hf h⟩
 | .clo f a b,_,h=>by obtain ⟨pa,pb,rfl,h1,h2⟩:=h;exact ⟨pa,pb,rfl,RL.fr hf h1,RL.fr hf h2⟩
 | .mp _,_,h=>h
theorem RL.fr {bad:List Nat} {s s':List SB} (hf:Fr bad s s'): ∀{v:List SV} {p:List PV},RL s v p->RL s' (dgL bad v) p
 | [],_,h=>h
 |x::xs,_,h=>by
  obtain ⟨p,q,rfl,h1,h2⟩:=h.cons_inv;exact RL.cons (R.fr hf h1) (RL.fr hf h2)
end
mutual
theorem aBp: ∀v:SV,dgV [] v=v
 | .junk| .undef| .nul| .nilf| .int _ _| .bool _| .str _| .sl _ _| .nil _ _| .own _ _| .pre _ _ _ _| .part _ _ _ _ _| .pb _ _ _| .bp _ _ _| .mp _=>rfl
 | .agg cs=>by simp only [dgV,dgL_nil cs]
 | .tup cs=>by simp only [dgV,dgL_nil cs]
 | .rptr cs _=>by simp only [dgV,dgL_nil cs]
 | .clo _ a b=>by simp only [dgV,dgL_nil a,dgL_nil b]
 | .pa t r i a off=>by simp [dgV,has]
theorem dgL_nil: ∀v:List SV,dgL [] v=v
 | []=>rfl
 |x::xs=>by simp only [dgL,aBp x,dgL_nil xs]
end
theorem R.ext {s s':List SB} (hf:Fr [] s s') {v:SV} {p:PV} (h:R s v p):R s' v p:=by
 have:=R.fr hf h
 rwa [aBp] at this
theorem RL.ext {s s':List SB} (hf:Fr [] s s') {v:List SV} {p:List PV} (h:RL s v p):RL s' v p:=by
 have:=RL.fr hf h
 rwa [dgL_nil] at this
theorem RB.fr {bad:List Nat} {s s':List SB} (hf:Fr bad s s') {b:SB} {p:mJ} (h:RB s b p):RB s' (dgB bad b) p:=by
 cases b with
 |box cs=>obtain ⟨ps,rfl,h⟩:=h;exact ⟨ps,rfl,RL.fr hf h⟩
 |_=>exact h
theorem RB.ext {s s':List SB} (hf:Fr [] s s') {b:SB} {p:mJ} (h:RB s b p):RB s' b p:=by
 cases b with
 |box cs=>obtain ⟨ps,rfl,h⟩:=h;exact ⟨ps,rfl,RL.ext hf h⟩
 |_=>exact h
theorem eJ.fr {bad:List Nat} {s s':List SB} (hf:Fr bad s s'): ∀{e:SE} {p:zA},eJ s e p->eJ s' (dgE bad e) p
 | [],_,h=>h
 |(t,v)::r,_,h=>by
  obtain ⟨p,q,rfl,h1,h2⟩:=h;exact ⟨p,q,rfl,R.fr hf h1,eJ.fr hf h2⟩
theorem eJ.ext {s s':List SB} (hf:Fr [] s s'): ∀{e:SE} {p:zA},eJ s e p->eJ s' e p
 | [],_,h=>h
 |(t,v)::r,_,h=>by
  obtain ⟨p,q,rfl,h1,h2⟩:=h;exact ⟨p,q,rfl,R.ext hf h1,eJ.ext hf h2⟩
theorem cU.app {s:List SB} {p:cT} (h:cU s p) {l:List SB} {q:cT} (hl:q.length=l.length) (hb: ∀(j:Nat) (b:SB),l[j]? =some b-> ∃x,q[j]? =some x/\RB (s++l) b x):cU (s++l) (p++q) where
 len:=by simp [h.len,hl]
 at_:=fun t b ht=>by
  rcases dv t s.length with hlt|hge
  · rw [bq hlt] at ht
    obtain ⟨x,h1,h2⟩:=h.at_ t b ht;exact ⟨x,by rw [bq (by rw [h.len];exact hlt)];exact h1,h2.ext (Fr.app [] s l)⟩
  rw [bu hge] at ht
  obtain ⟨x,h1,h2⟩:=hb _ b ht;exact ⟨x,by rw [bu (by rw [h.len];exact hge),h.len];exact h1,h2⟩
theorem wX (ts:List Nat): ∀(s:List SB) (t:Nat),(J6 ts s)[t]? =(s[t]?).map (dgB ts)
 | [],t=>by simp [J6]
 |b::r,0=>by simp [J6]
 |b::r,t+1=>by simp [J6,wX ts r t]
theorem CC (ts:List Nat): ∀(s:List SB),(J6 ts s).length=s.length
 | []=>rfl
 |b::r=>by simp [J6,CC ts r]
theorem Fr.dg {bad ts:List Nat} {s s':List SB} (h:Fr bad s s'):Fr bad s (J6 ts s'):=fun t b hb=>by
 have h1:=h t b hb;cases b with
 |arr r l=>
  rcases h1 with ⟨l',h2,h3,h4⟩|h2
  · exact .inl ⟨l',by rw [wX,h2];rfl,h3,h4⟩
  exact .inr (by rw [wX,h2];rfl)
 |dead=>show (J6 ts s')[t]? =_;rw [wX,h1];rfl
 |box cs=>
  rcases h1 with ⟨c2,h2⟩|h2
  · exact .inl ⟨dgL ts c2,by rw [wX,h2];rfl⟩
  exact .inr (by rw [wX,h2];rfl)
 |_=>trivial
theorem RQ {s:List SB}: ∀(r:List PT) (a:RT r),RL s (RT.sv r a) (RT.pv r a)
 | [],_=>rfl
 | [p],a=>by refine RL.cons ?_ RL.nil;cases p<;>rfl
 |p::q::r,a=>by refine RL.cons ?_ (RQ (q::r) a.2);cases p<;>rfl
theorem FW {s:List SB}: ∀(r:List PT) (a:RT r) {ps:List PV},RL s (RT.sv r a) ps->ps=RT.pv r a
 | [],_,ps,h=>h
 | [p],a,ps,h=>by
  obtain ⟨x,q,rfl,h1,h2⟩:=h.cons_inv;have h2':q=[]:=h2;subst h2';cases p<;>(have h1':=h1;simp only [PT.sv,R] at h1';rw [h1'];rfl)
 |p::q::r,a,ps,h=>by
  obtain ⟨x,qs,rfl,h1,h2⟩:=h.cons_inv;rw [FW (q::r) a.2 h2];cases p<;>(have h1':=h1;simp only [PT.sv,R] at h1';rw [h1'];rfl)
theorem RT.plain: ∀(r:List PT) (a:RT r),(RT.pv r a).all PV.plain=true
 | [],_=>rfl
 | [p],a=>by cases p<;>rfl
 |p::q::r,a=>by
  have:=RT.plain (q::r) a.2
  cases p<;>(simp only [RT.pv,fh,this,eb];rfl)
theorem R.cells {s:List SB} {v:SV} {p:PV} (h:R s v p) (hj:v≠ .junk):RL s v.cells p.cells:=by
 cases v with
 |junk=>exact absurd rfl hj
 |agg cs=>obtain ⟨ps,rfl,h⟩:=h;exact h
 |undef=>rw [show p= .undef from h];exact RL.cons rfl RL.nil
 |nul=>rw [show p= .nul from h];exact RL.cons rfl RL.nil
 |nilf=>rw [show p= .nilf from h];exact RL.cons rfl RL.nil
 |int k n=>rw [show p= .int k n from h];exact RL.cons rfl RL.nil
 |bool b=>rw [show p= .bool b from h];exact RL.cons rfl RL.nil
 |str x=>rw [show p= .str x from h];exact RL.cons rfl RL.nil
 |sl r l=>rw [show p=_ from h];exact RL.cons rfl RL.nil
 |nil e c=>rw [show p=_ from h];exact RL.cons rfl RL.nil
 |bp t n o=>rw [show p=_ from h];exact RL.cons rfl RL.nil
 |mp t=>rw [show p=_ from h];exact RL.cons rfl RL.nil
 |tup cs=>obtain ⟨ps,rfl,h⟩:=h;exact RL.cons ⟨ps,rfl,h⟩ RL.nil
 |own t ex=>obtain ⟨e,n,rfl,h⟩:=h;exact RL.cons ⟨e,n,rfl,h⟩ RL.nil
 |pre t a b c=>obtain ⟨e,rfl,h⟩:=h;exact RL.cons ⟨e,rfl,h⟩ RL.nil
 |part t o a b c=>obtain ⟨e,rfl,h⟩:=h;exact RL.cons ⟨e,rfl,h⟩ RL.nil
 |pa t r i a o=>obtain ⟨rfl,h⟩:=h;exact RL.cons ⟨rfl,h⟩ RL.nil
 |pb t i o=>obtain ⟨e,rfl,h⟩:=h;exact RL.cons ⟨e,rfl,h⟩ RL.nil
 |rptr cs o=>obtain ⟨ps,rfl,h⟩:=h;exact RL.cons ⟨ps,rfl,h⟩ RL.nil
 |clo f a b=>obtain ⟨pa,pb,rfl,h⟩:=h;exact RL.cons ⟨pa,pb,rfl,h⟩ RL.nil
theorem R.isOne {s:List SB} {v:SV} {p:PV} (h:R s v p) (ho:v.isOne=true):p.isOne=true:=by
 cases v with
 |junk|undef|nul|agg _|tup _=>cases ho
 |nilf|int _ _|bool _|str _|sl _ _|nil _ _|bp _ _ _|mp _=>rw [show p=_ from h];rfl
 |own t ex=>obtain ⟨e,n,rfl,h⟩:=h;rfl
 |pre t a b c=>obtain ⟨e,rfl,h⟩:=h;rfl
 |part t o a b c=>obtain ⟨e,rfl,h⟩:=h;rfl
 |pa t r i a o=>obtain ⟨rfl,h⟩:=h;rfl
 |pb t i o=>obtain ⟨e,rfl,h⟩:=h;rfl
 |rptr cs o=>obtain ⟨ps,rfl,h⟩:=h;rfl
 |clo f a b=>obtain ⟨pa,pb,rfl,h⟩:=h;rfl
theorem RL.allOne {s:List SB}: ∀{cs:List SV} {ps:List PV},RL s cs ps->Vm.allOne cs=true->ps.all PV.isOne=true
 | [],ps,h,_=>by rw [show ps=[] from h];rfl
 |x::xs,ps,h,ho=>by
  obtain ⟨p,q,rfl,h1,h2⟩:=h.cons_inv;simp only [Vm.allOne,bn] at ho;simp only [fh,bn];exact ⟨h1.isOne ho.1,h2.allOne ho.2⟩
theorem R.stored {s:List SB} {v:SV} {p:PV} {w:List SV} (h:R s v p) (hs:v.stored=some w): ∃q,p.stored=some q/\RL s w q:=by
 unfold SV.stored at hs;cases ha:Vm.allOne v.cells with
 |false=>rw [ha] at hs;cases hs
 |true=>
  rw [ha] at hs;injection hs with hs;subst hs;have hj:v≠ .junk:=by intro e;subst e;cases ha
  have hc:=h.cells hj;exact ⟨p.cells,by unfold PV.stored;rw [if_pos (hc.allOne ha)],hc⟩
theorem R.ofRow {s:List SB} {v:SV} {p:PV} {r:List PT} {a:RT r} (h:R s v p) (hr:RT.of r v.cells=some a):p.storedPlain=some (RT.pv r a)/\v.cells.length=r.length:=by
 have hc:=RT.of_some hr;have hl:v.cells.length=r.length:=by rw [hc,RT.sv_len]
 refine ⟨?_,hl⟩;have hj:v≠ .junk:=by
  intro e;subst e;cases r with
  |nil=>simp [SV.cells,RT.of] at hr
  |cons p q=>cases q with
   |nil=>cases p<;>simp [SV.cells,RT.of,PT.of] at hr
   |cons _ _=>simp only [SV.cells,RT.of] at hr;split at hr<;>cases hr<;>(rename_i x y h1 h2;simp at h2)
 have h1:=h.cells hj;rw [hc] at h1;have h2:=FW r a h1;unfold PV.storedPlain;rw [h2,if_pos (RT.plain r a)]
theorem zM {s:List SB} {agg:Option Nat} {off:Nat} {cs:List SV} {ps:List PV} {v:SV} (h:RL s cs ps) (hp:GS agg off cs=some v): ∃p,part agg off ps=some p/\R s v p:=by
 cases agg with
 |none=>
  obtain ⟨p,h1,h2⟩:=h.nth hp;exact ⟨p,h1,h2⟩
 |some n=>
  simp only [GS] at hp;cases hb:cd (off+n) cs.length with
  |false=>rw [hb] at hp;cases hp
  |true=>
   rw [hb] at hp;injection hp with hp;subst hp
   have:off+n<=ps.length:=by rw [h.length];exact ci hb
   exact ⟨.agg ((ps.drop off).take n),by simp only [part,if_pos this],_,rfl,(h.drop off).take n⟩
theorem FX {s:List SB} {off:Nat} {new old:List SV} {pn po:List PV} (h:RL s new pn) (k:RL s old po):RL s (uD off new old) (rM off pn po):=by
 unfold uD rM;rw [h.length];exact ((k.take off).append h).append (k.drop _)
theorem aBq {s:List SB} {ps:cT} {v:SV} {p:PV} {r:List PT} {l:List (RT r)} (hs:cU s ps) (h:R s v p) (hc:GT s v=some ⟨r,l⟩):
 rN ps r.length p=some (l.map (RT.pv r))/\kO p=CA v:=by
 cases v with
 |sl q m=>
  have hc':(⟨q,m⟩:Rows)=⟨r,l⟩:=by injection hc
  cases hc';rw [show p=_ from h];refine ⟨?_,rfl⟩;cases l with
  |nil=>rfl
  |cons a l=>simp [rN]
 |own t ex=>
  simp only [GT,cM] at hc;split at hc
  · rename_i q m hst
    have hc':(⟨q,m⟩:Rows)=⟨r,l⟩:=by injection hc
    cases hc';obtain ⟨e,n,rfl,hat⟩:=h;rcases hat with ⟨q',m',h1,rfl,rfl⟩|h1
    · rw [hst] at h1
      injection h1 with h1;cases h1;obtain ⟨b,h2,h3⟩:=hs.at_ t _ hst;rw [show b=_ from h3] at h2;refine ⟨?_,rfl⟩;simp only [rN,c6,if_true,h2,dh];rw [de (by simp)]
    rw [hst] at h1;cases h1
  cases hc
 |pre t len cap ex=>
  simp only [GT,cM] at hc;split at hc
  · rename_i q m hst
    have hc':(⟨q,m.take len⟩:Rows)=⟨r,l⟩:=by injection hc
    cases hc';obtain ⟨e,rfl,hat⟩:=h;rcases hat with ⟨q',m',h1,rfl⟩|h1|⟨_,h1,_⟩
    · rw [hst] at h1
      injection h1 with h1;cases h1;obtain ⟨b,h2,h3⟩:=hs.at_ t _ hst;rw [show b=_ from h3] at h2;refine ⟨?_,rfl⟩;simp only [rN,c6,if_true,h2];simp
    · rw [hst] at h1;cases h1
    rw [hst] at h1;cases h1
  cases hc
 |part t off len cap ex=>
  simp only [GT,cM] at hc;split at hc
  · rename_i q m hst
    have hc':(⟨q,(m.drop off).take len⟩:Rows)=⟨r,l⟩:=by injection hc
    cases hc';obtain ⟨e,rfl,hat⟩:=h;rcases hat with ⟨q',m',h1,rfl⟩|h1|⟨_,h1,_⟩
    · rw [hst] at h1
      injection h1 with h1;cases h1;obtain ⟨b,h2,h3⟩:=hs.at_ t _ hst;rw [show b=_ from h3] at h2;refine ⟨?_,rfl⟩;simp only [rN,c6,if_true,h2];simp
    · rw [hst] at h1;cases h1
    rw [hst] at h1;cases h1
  cases hc
 |_=>cases hc
end Go.Vm
/- Operation by operation: what the typed machine does, the logical machine does; the easy ones. -/
namespace Go.Vm
structure iZ (s:List SB) (ps:cT) (sr:gX) (pr:rO):Prop where
 rd:pr.rd=sr.rd
 fr:pr.fr=sr.fr
 wr:pr.wr.map (·.1)=EJ sr.wr
 nw:BZ pr.wr=true
 nl:pr.news.length=sr.news.length
 sto:cU (sr.stoOf s) (VH (hZ pr.wr ps) pr.news)
 v:R (sr.stoOf s) sr.v pr.v
 fra:Fr (EJ sr.wr) s (sr.stoOf s)
section
variable {s : List SB} {ps : cT}
theorem iZ.val (hS:cU s ps) {v:SV} {p:PV} {rd fr:List Nat} (hv:R s v p):iZ s ps {v,rd,fr} {v:=p,rd,fr} where
 rd:=rfl
 fr:=rfl
 wr:=rfl
 nw:=rfl
 nl:=rfl
 sto:=by simp only [gX.stoOf,pI,cu,hZ,VH];exact hS
 v:=by simp only [gX.stoOf,pI,cu];exact hv
 fra:=by simp only [gX.stoOf,pI,cu];exact Fr.refl _ _
theorem iZ.news (hS:cU s ps) {v:SV} {p:PV} {l:List SB} {q:cT} {rd:List Nat} (hl:q.length=l.length) (hb: ∀(j:Nat) (b:SB),l[j]? =some b-> ∃x,q[j]? =some x/\RB (s++l) b x) (hv:R (s++l) v p):
 iZ s ps {v,news:=l,rd} {v:=p,news:=q,rd} where
 rd:=rfl
 fr:=rfl
 wr:=rfl
 nw:=rfl
 nl:=hl
 sto:=by simp only [gX.stoOf,pI,hZ,wS];exact hS.app hl hb
 v:=by simp only [gX.stoOf,pI];exact hv
 fra:=by simp only [gX.stoOf,pI];exact Fr.app _ _ _
theorem iZ.new (hS:cU s ps) {v:SV} {p:PV} {b:SB} {q:mJ} {rd:List Nat} (hb:RB (s++[b]) b q) (hv:R (s++[b]) v p):iZ s ps {v,news:=[b],rd} {v:=p,news:=[q],rd}:=
 iZ.news hS rfl (fun j x h=>by
  cases j with
  |zero=>simp at h;subst h;exact ⟨q,rfl,hb⟩
  |succ j=>simp at h) hv
def aBr (b0 b:SB):Prop:=
 match b0 with
 | .arr r l=>(∃l',b= .arr r l'/\l'.length=l.length)\/b= .dead
 | .dead=>b= .dead
 | .box _=>(∃cs,b= .box cs)\/b= .dead
 |_=>True
theorem Fr.set {t:Nat} {b0 b:SB} (h0:s[t]? =some b0) (hk:aBr b0 b):Fr [t] s (s.set t b):=fun u x hu=>by
 by_cases hut:t=u
 · subst hut
   rw [h0] at hu;injection hu with hu;subst hu;have hlt:=(bo.1 h0).1;have hb:(s.set t b)[t]? =some b:=by simp [hlt]
   cases b0 with
   |arr r l=>
    rcases hk with ⟨l',rfl,hl⟩|rfl
    · exact .inl ⟨l',hb,hl,fun h=>by simp [has] at h⟩
    exact .inr hb
   |dead=>rw [show b= .dead from hk] at hb ⊢;exact hb
   |box cs=>
    rcases hk with ⟨c2,rfl⟩|rfl
    · exact .inl ⟨c2,hb⟩
    exact .inr hb
   |_=>trivial
 have hb:(s.set t b)[u]? =some x:=by rw [cb];simp [hut,hu]
 cases x with
 |arr r l=>exact .inl ⟨l,hb,rfl,fun _=>rfl⟩
 |dead=>exact hb
 |box cs=>exact .inl ⟨cs,hb⟩
 |_=>trivial
theorem cU.put (hS:cU s ps) {t:Nat} {b0 b:SB} {q:mJ} (h0:s[t]? =some b0) (hk:aBr b0 b) (hq:RB (J6 [t] (s.set t b)) (dgB [t] b) q):cU (J6 [t] (s.set t b)) (ps.set t q) where
 len:=by simp [CC,hS.len]
 at_:=fun u x hu=>by
  have hlt:=(bo.1 h0).1;rw [wX] at hu
  by_cases hut:t=u
  · subst hut
    have hb:(s.set t b)[t]? =some b:=by simp [hlt]
    rw [hb] at hu;simp at hu;subst hu;exact ⟨q,by rw [cb];simp [hS.len,hlt],hq⟩
  rw [cb] at hu
  simp only [hut,if_false,c7] at hu;obtain ⟨y,hy,rfl⟩:=hu;obtain ⟨q',h1,h2⟩:=hS.at_ u y hy;exact ⟨q',by rw [cb];simp [hut,h1],h2.fr (Fr.dg (Fr.set h0 hk))⟩
theorem iZ.put (hS:cU s ps) {v:SV} {p:PV} {t:Nat} {b0 b:SB} {q:mJ} {l:List SB} {ql:cT} {rd:List Nat} (h0:s[t]? =some b0) (hk:aBr b0 b) (hq:RB (J6 [t] (s.set t b)) (dgB [t] b) q)
 (hl:ql.length=l.length) (hb: ∀(j:Nat) (x:SB),l[j]? =some x-> ∃y,ql[j]? =some y/\RB (J6 [t] (s.set t b)++l) x y) (hv:R (J6 [t] (s.set t b)++l) v p):
 iZ s ps {v,wr:=[(t,b)],news:=l,rd} {v:=p,wr:=[(t,q)],news:=ql,rd} where
 rd:=rfl
 fr:=rfl
 wr:=rfl
 nw:=rfl
 nl:=hl
 sto:=by
  simp only [gX.stoOf,pI,hZ,wS,EJ,wI,I5];exact (hS.put h0 hk hq).app hl hb
 v:=by simp only [gX.stoOf,pI,EJ,wI,I5];exact hv
 fra:=by
  simp only [gX.stoOf,pI,EJ,wI,I5];exact (Fr.dg (Fr.set h0 hk)).trans (Fr.app _ _ _)
theorem iZ.put0 (hS:cU s ps) {t:Nat} {b0 b:SB} {q:mJ} {rd:List Nat} (h0:s[t]? =some b0) (hk:aBr b0 b) (hq:RB (J6 [t] (s.set t b)) (dgB [t] b) q):
 iZ s ps {v:= .undef,wr:=[(t,b)],rd} {v:= .undef,wr:=[(t,q)],rd}:=
 iZ.put hS h0 hk hq rfl (fun j x h=>by simp at h) rfl
end
section
variable {R' ρ : Type} {w : R' -> ρ} {y : ρ}
theorem bS {α:Type} {x:Option α} {k:α->iJ R'} (h:nZ x k ρ w=some y): ∃a,x=some a/\k a ρ w=some y:=by
 cases x with
 |none=>cases h
 |some a=>exact ⟨a,rfl,h⟩
theorem cZ {α:Type} {x:Option α} {k:α->iJ R'} (h:nR x k ρ w=some y): ∃a,x=some a/\k a ρ w=some y:=ZX h
theorem fV {c:Bool} {a b:iJ R'} (h:iN c a b ρ w=some y):(c=true/\a ρ w=some y)\/(c=false/\b ρ w=some y):=ZY h
theorem dG {c:Bool} {a:iJ R'} (h:(bif c then a else aQ) ρ w=some y):c=true/\a ρ w=some y:=by
 cases c
 · cases h
 exact ⟨rfl,h⟩
theorem xG {c:Bool} {a:iJ R'} (h:(bif c then aQ else a) ρ w=some y):c=false/\a ρ w=some y:=by
 cases c
 · exact ⟨rfl,h⟩
 cases h
theorem jV {c:Bool} {a:iJ R'} (h:iN c a aQ ρ w=some y):c=true/\a ρ w=some y:=by
 rcases fV h with ⟨h1,h2⟩|⟨_,h2⟩
 · exact ⟨h1,h2⟩
 cases h2
theorem CD {c:Bool} {a:iJ R'} (h:iN c aQ a ρ w=some y):c=false/\a ρ w=some y:=by
 rcases fV h with ⟨_,h2⟩|⟨h1,h2⟩
 · cases h2
 exact ⟨h1,h2⟩
end
def iY {R':Type} (s:List SB) (ps:cT) (po:Option rO) (k:gX->iJ R') (ρ:Type) (w:R'->ρ) (y:ρ):Prop:=
 ∃sr pr,po=some pr/\iZ s ps sr pr/\k sr ρ w=some y
section
variable {R' ρ : Type} {w : R' -> ρ} {y : ρ} {s : List SB} {ps : cT} {e : SE} {pe : zA} {z : List Nat} {k : gX -> iJ R'}
theorem iY.val (hS:cU s ps) {po:Option rO} {v:SV} {p:PV} (h:k {v} ρ w=some y) (hp:po=some {v:=p}) (hv:R s v p):iY s ps po k ρ w y:=
 ⟨_,_,hp,iZ.val hS hv,h⟩
theorem iY.rd (hS:cU s ps) {po:Option rO} {v:SV} {p:PV} {rd:List Nat} (h:k {v,rd} ρ w=some y) (hp:po=some {v:=p,rd}) (hv:R s v p):iY s ps po k ρ w y:=
 ⟨_,_,hp,iZ.val hS hv,h⟩
theorem qJ (hE:eJ s e pe) {x:gE} {a:IntKind} {n:Int} (h:bZ e x= .int a n):x.ev pe= .int a n:=by
 have:=eC hE x;rw [h] at this;exact this
theorem I6 (hE:eJ s e pe) {x:gE} {b:Bool} (h:bZ e x= .bool b):x.ev pe= .bool b:=by
 have:=eC hE x;rw [h] at this;exact this
theorem aCS (hE:eJ s e pe) {x:gE} {v:SV} (h:bZ e x=v):R s v (x.ev pe):=by
 have:=eC hE x;rwa [h] at this
theorem WJ (k:IntKind):gB k k=true:=by cases k<;>rfl
theorem aAd (hS:cU s ps) {op:BinOp} {a:IntKind} {m n:Int} (h:Z1 op a m n (ofV k) ρ w=some y): ∃p,VF op a m n=some p/\iY s ps (some {v:=p}) k ρ w y:=by
 cases op with
 |quo=>
  obtain ⟨h1,h2⟩:=CD h;have hn:n≠0:=by intro e;subst e;cases h1
  exact ⟨_,by simp only [VF,if_neg hn],iY.val hS h2 rfl rfl⟩
 |rem=>
  obtain ⟨h1,h2⟩:=CD h;have hn:n≠0:=by intro e;subst e;cases h1
  exact ⟨_,by simp only [VF,if_neg hn],iY.val hS h2 rfl rfl⟩
 |shl=>cases h
 |shr=>cases h
 |_=>exact ⟨_,rfl,iY.val hS h rfl rfl⟩
theorem aGp (hE:eJ s e pe) (hS:cU s ps) {op:BinOp} {a b:gE} (h:pH e s z (.bin op a b) k ρ w=some y):iY s ps (bN pe ps z (.bin op a b)) k ρ w y:=by
 simp only [pH] at h;generalize ha:bZ e a=va at h;cases va with
 |int ka m=>
  generalize hb:bZ e b=vb at h;cases vb with
  |int kb n=>
   have h1:=qJ hE ha;have h2:=qJ hE hb;have key:(op≠ .shl)->(op≠ .shr)->(bif gB ka kb then Z1 op ka m n (ofV k) else aQ) ρ w=some y->iY s ps (bN pe ps z (.bin op a b)) k ρ w y:=by
    intro n1 n2 h;obtain ⟨hk,h⟩:=dG h;obtain ⟨p,hp,hs⟩:=aAd hS h
    have:bN pe ps z (.bin op a b)=some {v:=p}:=by
     simp only [bN,h1,h2];cases op<;>first|exact absurd rfl n1|exact absurd rfl n2|(simp only [aCu,hk,if_true,hp];rfl)
    rw [this];exact hs
   cases op with
   |shl=>
    obtain ⟨hc,h⟩:=CD h;have hc': ¬n<0:=by simpa using hc
    exact iY.val hS h (by simp only [bN,h1,h2,aCu,J7,if_neg hc'];rfl) rfl
   |shr=>
    obtain ⟨hc,h⟩:=CD h;have hc': ¬n<0:=by simpa using hc
    exact iY.val hS h (by simp only [bN,h1,h2,aCu,J7,if_neg hc'];rfl) rfl
   |_=>exact key (by intro e;cases e) (by intro e;cases e) h
  |_=>cases h
 |_=>cases h
theorem aEn (hE:eJ s e pe) (hS:cU s ps) {neg:Bool} {a b:gE} (h:pH e s z (.binb neg a b) k ρ w=some y):iY s ps (bN pe ps z (.binb neg a b)) k ρ w y:=by
 simp only [pH] at h;generalize ha:bZ e a=va at h;cases va with
 |bool x=>
  generalize hb:bZ e b=vb at h;cases vb with
  |bool x'=>
   refine iY.val hS h ?_ rfl;simp only [bN,I6 hE ha,I6 hE hb];cases neg<;>rfl
  |_=>cases h
 |_=>cases h
theorem aEo: ∀{xs ys:List SV} {ps qs:List PV} {r:Bool},RL s xs ps->RL s ys qs->eqS xs ys=some r->dW ps qs=some r
 | [],[],ps,qs,r,h1,h2,h=>by rw [show ps=[] from h1,show qs=[] from h2];exact h
 |x::xs,b::ys,ps,qs,r,h1,h2,h=>by
  obtain ⟨p,ps,rfl,a1,a2⟩:=h1.cons_inv;obtain ⟨q,qs,rfl,b1,b2⟩:=h2.cons_inv;simp only [eqS] at h;split at h
  · rename_i ka m kb n
    have a1':p= .int ka m:=a1;have b1':q= .int kb n:=b1;subst a1' b1';cases hk:gB ka kb with
    |false=>rw [hk] at h;cases h
    |true=>
     rw [hk] at h;have hc:wE (.int ka m) (.int kb n)=some (m==n):=by simp only [wE,hk,if_true]
     simp only [dW,hc];cases xs with
     |nil=>
      cases ys with
      |nil=>
       simp only [cond_true,bv] at h;subst h;rw [show ps=[] from a2,show qs=[] from b2];cases m==n<;>rfl
      |cons _ _=>cases h
     |cons x2 xs2=>
      simp only [cond_true] at h;split at h
      · rename_i r' hr
        injection h with h;subst h;rw [aEo a2 b2 hr];cases m==n<;>rfl
      cases h
  cases h
 | [],_::_,ps,qs,r,h1,h2,h=>by cases h
 |_::_,[],ps,qs,r,h1,h2,h=>by cases h
theorem aGq (hE:eJ s e pe) (hS:cU s ps) {n:Nat} {neg:Bool} {a b:gE} (h:pH e s z (.eqc n neg a b) k ρ w=some y):iY s ps (bN pe ps z (.eqc n neg a b)) k ρ w y:=by
 simp only [pH] at h;generalize ha:bZ e a=va at h;cases va with
 |agg xs=>
  generalize hb:bZ e b=vb at h;cases vb with
  |agg ys=>
   obtain ⟨hl,h⟩:=dG h;obtain ⟨r,hr,h⟩:=bS h;obtain ⟨p,hp,h1⟩:=aCS hE ha;obtain ⟨q,hq,h2⟩:=aCS hE hb;refine iY.val hS h ?_ rfl;simp only [bN,hp,hq,h1.length,h2.length];rw [if_pos hl,aEo h1 h2 hr];cases neg<;>rfl
  |_=>cases h
 |_=>cases h
theorem aOb (hE:eJ s e pe) (hS:cU s ps) {op:UnOp} {a:gE} (h:pH e s z (.un op a) k ρ w=some y):iY s ps (bN pe ps z (.un op a)) k ρ w y:=by
 simp only [pH] at h;cases op with
 |neg=>
  dsimp only at h;generalize ha:bZ e a=va at h;cases va with
  |int ka n=>exact iY.val hS h (by simp only [bN,qJ hE ha];rfl) rfl
  |_=>cases h
 |not=>
  dsimp only at h;generalize ha:bZ e a=va at h;cases va with
  |bool b=>exact iY.val hS h (by simp only [bN,I6 hE ha];rfl) rfl
  |_=>cases h
 |_=>cases h
theorem aEp (hE:eJ s e pe) (hS:cU s ps) {a:IntKind} {x:gE} (h:pH e s z (.conv a x) k ρ w=some y):iY s ps (bN pe ps z (.conv a x)) k ρ w y:=by
 simp only [pH] at h;generalize ha:bZ e x=va at h;cases va with
 |int ka n=>exact iY.val hS h (by simp only [bN,qJ hE ha]) rfl
 |_=>cases h
theorem aGr (hE:eJ s e pe) (hS:cU s ps) {x:gE} (h:pH e s z (.len x) k ρ w=some y):iY s ps (bN pe ps z (.len x)) k ρ w y:=by
 simp only [pH] at h;have hx:=eC hE x;generalize bZ e x=v at h hx;cases v with
 |nil e' c=>exact iY.val hS h (by simp only [bN,show x.ev pe= .sl e' c [] from hx];rfl) rfl
 |pre t len cap ex=>
  obtain ⟨e',hx,_⟩:=hx;exact iY.val hS h (by simp only [bN,hx]) rfl
 |part t off len cap ex=>
  obtain ⟨e',hx,_⟩:=hx;exact iY.val hS h (by simp only [bN,hx]) rfl
 |sl q m=>
  exact iY.val hS h (by simp only [bN,show x.ev pe=_ from hx,cw]) rfl
 |own t ex=>
  obtain ⟨c,hc,h⟩:=bS h;simp only [GT,cM] at hc;split at hc
  · rename_i q m hst
    injection hc with hc;subst hc;obtain ⟨e',n,hx,hat⟩:=hx;rcases hat with ⟨q',m',h1,rfl,rfl⟩|h1
    · rw [hst] at h1;injection h1 with h1;cases h1
      exact iY.val hS h (by simp only [bN,hx]) rfl
    rw [hst] at h1;cases h1
  cases hc
 |_=>obtain ⟨c,hc,h⟩:=bS h;cases hc
theorem I7: ∀{l:List (Nat×Nat×SV)} {pl:List (Nat×Nat×PV)} {cs:List SV} {pc:List PV} {r:List SV},
 (pl.length=l.length/\ ∀(j:Nat) (a:Nat×Nat×SV),l[j]? =some a-> ∃b,pl[j]? =some (a.1,a.2.1,b)/\R s a.2.2 b)->RL s cs pc->CB l cs=some r-> ∃q,qP pl pc=some q/\RL s r q
 | [],pl,cs,pc,r,hl,hc,h=>by
  have:pl=[]:=d7.1 hl.1
  subst this;injection h with h;subst h;exact ⟨pc,rfl,hc⟩
 |(off,sz,v)::l,pl,cs,pc,r,hl,hc,h=>by
  cases pl with
  |nil=>simp at hl
  |cons p pl=>
   obtain ⟨b,h1,h2⟩:=hl.2 0 _ rfl;simp at h1;subst h1;simp only [CB] at h;split at h
   · rename_i w hw
     obtain ⟨q,hq,hqr⟩:=h2.stored hw;cases hcnd:(ce w.length sz&&cd (off+sz) cs.length) with
     |false=>rw [hcnd] at h;cases h
     |true=>
      rw [hcnd] at h;simp only [cond_true] at h;obtain ⟨q2,h3,h4⟩:=I7 (pl:=pl) ⟨by simpa using hl.1,fun j a ha=>hl.2 (j+1) a (by simpa using ha)⟩ (FX hqr hc) h
      refine ⟨q2,?_,h4⟩;simp only [qP,hq,hqr.length,hc.length];rw [if_pos hcnd];exact h3
   cases h
theorem WK (hE:eJ s e pe): ∀(l:List (Nat×Nat×gE)),((l.map fun p=>(p.1,p.2.1,p.2.2.ev pe)).length=(EH e l).length/\ ∀(j:Nat) (a:Nat×Nat×SV),(EH e l)[j]? =some a-> ∃b,(l.map fun p=>(p.1,p.2.1,p.2.2.ev pe))[j]? =some (a.1,a.2.1,b)/\R s a.2.2 b)
 | []=>⟨rfl,fun j a h=>by simp [EH] at h⟩
 |p::l=>by
  obtain ⟨h1,h2⟩:=WK hE l;refine ⟨by simp [EH] at h1 ⊢;omega,fun j a h=>?_⟩
  cases j with
  |zero=>simp [EH] at h;subst h;exact ⟨_,rfl,eC hE _⟩
  |succ j=>simp only [EH,di] at h;obtain ⟨b,h3,h4⟩:=h2 j a h;exact ⟨b,by simpa using h3,h4⟩
theorem aCT (hE:eJ s e pe) (hS:cU s ps) {zero:List PV} {parts:List (Nat×Nat×gE)} (h:pH e s z (.build zero parts) k ρ w=some y):iY s ps (bN pe ps z (.build zero parts)) k ρ w y:=by
 simp only [pH] at h;obtain ⟨cs,hc,h⟩:=bS h;obtain ⟨q,hq,hr⟩:=I7 (WK hE parts) (ofPVL_R s zero) hc;exact iY.val hS h (by simp only [bN,hq];rfl) ⟨q,rfl,hr⟩
theorem aGs (hE:eJ s e pe) (hS:cU s ps) {x:gE} (h:pH e s z (.box x) k ρ w=some y):iY s ps (bN pe ps z (.box x)) k ρ w y:=by
 simp only [pH] at h;obtain ⟨cs,hc,h⟩:=bS h;obtain ⟨q,hq,hr⟩:=(eC hE x).stored hc;refine ⟨_,_,?_,iZ.new hS (b:= .box cs) (q:= .box q) (v:= .bp s.length cs.length 0) (p:= .ptr s.length cs.length 0 0) (rd:=[]) ⟨q,rfl,hr.ext (Fr.app _ _ _)⟩ rfl,h⟩;simp only [bN,hq,hS.len,hr.length]
theorem aCU (hS:cU s ps) {cells:List PV} (h:pH e s z (.alloc cells) k ρ w=some y):iY s ps (bN pe ps z (.alloc cells)) k ρ w y:=by
 simp only [pH] at h;refine ⟨_,_,?_,iZ.new hS (b:= .box (ofPVL cells)) (q:= .box cells) (v:= .bp s.length cells.length 0) (p:= .ptr s.length cells.length 0 0) (rd:=[]) ⟨cells,rfl,ofPVL_R _ _⟩ rfl,h⟩;simp only [bN,hS.len]
theorem aEq (hE:eJ s e pe) (hS:cU s ps) {x:gE} (h:pH e s z (.nilc x) k ρ w=some y):iY s ps (bN pe ps z (.nilc x)) k ρ w y:=by
 simp only [pH] at h;have hx:=eC hE x;generalize bZ e x=v at h hx;cases v with
 |pa t r i a o=>exact iY.val hS h (by simp only [bN,hx.1]) ⟨rfl,hx.2⟩
 |pb t i o=>
  obtain ⟨e',h1,h2⟩:=hx;exact iY.val hS h (by simp only [bN,h1]) ⟨e',rfl,h2⟩
 |bp t n o=>exact iY.val hS h (by simp only [bN,show x.ev pe=_ from hx]) rfl
 |rptr c o=>
  obtain ⟨q,h1,h2⟩:=hx;exact iY.val hS h (by simp only [bN,h1]) ⟨q,rfl,h2⟩
 |clo f a b=>
  obtain ⟨pa,pb,h1,h2⟩:=hx;exact iY.val hS h (by simp only [bN,h1]) ⟨pa,pb,rfl,h2⟩
 |_=>cases h
theorem aEr (hE:eJ s e pe) (hS:cU s ps) {off:Nat} {x:gE} (h:pH e s z (.fadr off x) k ρ w=some y):iY s ps (bN pe ps z (.fadr off x)) k ρ w y:=by
 simp only [pH] at h;have hx:=eC hE x;generalize bZ e x=v at h hx;cases v with
 |pa t r i a o=>exact iY.val hS h (by simp only [bN,hx.1]) ⟨rfl,hx.2⟩
 |pb t i o=>
  obtain ⟨e',h1,h2⟩:=hx;exact iY.val hS h (by simp only [bN,h1]) ⟨e',rfl,h2⟩
 |bp t n o=>exact iY.val hS h (by simp only [bN,show x.ev pe=_ from hx]) rfl
 |rptr c o=>
  obtain ⟨q,h1,h2⟩:=hx;exact iY.val hS h (by simp only [bN,h1]) ⟨q,rfl,h2⟩
 |_=>cases h
theorem aGt (hE:eJ s e pe) (hS:cU s ps) {agg:Option Nat} {off:Nat} {x:gE} (h:pH e s z (.fld agg off x) k ρ w=some y):iY s ps (bN pe ps z (.fld agg off x)) k ρ w y:=by
 simp only [pH] at h;generalize hv:bZ e x=v at h;cases v with
 |agg cs=>
  obtain ⟨v,h1,h⟩:=bS h;obtain ⟨q,h2,h3⟩:=aCS hE hv;obtain ⟨p,h4,h5⟩:=zM h3 h1;exact iY.val hS h (by simp only [bN,h2,h4];rfl) h5
 |_=>cases h
theorem aGu (hE:eJ s e pe) (hS:cU s ps) {i:Nat} {x:gE} (h:pH e s z (.ext i x) k ρ w=some y):iY s ps (bN pe ps z (.ext i x)) k ρ w y:=by
 simp only [pH] at h;generalize hv:bZ e x=v at h;cases v with
 |tup cs=>
  obtain ⟨v,h1,h⟩:=bS h;obtain ⟨q,h2,h3⟩:=aCS hE hv;obtain ⟨p,h4,h5⟩:=h3.nth h1;exact iY.val hS h (by simp only [bN,h2,h4];rfl) h5
 |_=>cases h
theorem aGv (hE:eJ s e pe) (hS:cU s ps) {f:FuncId} {a b:List gE} (h:pH e s z (.mkf f a b) k ρ w=some y):iY s ps (bN pe ps z (.mkf f a b)) k ρ w y:=by
 simp only [pH] at h;exact iY.val hS h rfl ⟨_,_,rfl,FV hE a,FV hE b⟩
theorem aGw (hS:cU s ps) {m:Option PV} (h:pH e s z (.mkm m) k ρ w=some y):iY s ps (bN pe ps z (.mkm m)) k ρ w y:=by
 simp only [pH] at h;cases m with
 |none=>
  refine ⟨_,_,?_,iZ.new hS (b:= .set []) (q:= .map []) (v:= .mp s.length) (p:= .mp s.length) (rd:=[]) rfl rfl,h⟩;simp only [bN,hS.len]
 |some m=>
  obtain ⟨p,_,h⟩:=bS h;refine ⟨_,_,?_,iZ.new hS (b:= .tab p []) (q:= .map []) (v:= .mp s.length) (p:= .mp s.length) (rd:=[]) rfl rfl,h⟩;simp only [bN,hS.len]
theorem aNK: ∀{l:List SV} {q:List PV} {m:Bool} {a:IntKind} {n:Int} {v:SV},RL s l q->mmS m a n l=some v-> ∃p,mmE m a n q=some p/\R s v p
 | [],q,m,a,n,v,hl,h=>by
  rw [show q=[] from hl];injection h with h;subst h;exact ⟨_,rfl,rfl⟩
 |x::l,q,m,a,n,v,hl,h=>by
  obtain ⟨p,q,rfl,h1,h2⟩:=hl.cons_inv;simp only [mmS] at h;split at h
  · rename_i b c
    have h1':p= .int b c:=h1;subst h1';cases hk:gB a b with
    |true=>
     rw [hk] at h;obtain ⟨p,h3,h4⟩:=aNK h2 h;refine ⟨p,?_,h4⟩;simp only [mmE,hk,if_true];rw [<- h3];cases m<;>rfl
    |false=>rw [hk] at h;cases h
  cases h
theorem aOc (hE:eJ s e pe) (hS:cU s ps) {m:Bool} {x:gE} {xs:List gE} (h:pH e s z (.mm m x xs) k ρ w=some y):iY s ps (bN pe ps z (.mm m x xs)) k ρ w y:=by
 simp only [pH] at h;generalize hv:bZ e x=v at h;cases v with
 |int a n=>
  obtain ⟨v,h1,h⟩:=bS h;obtain ⟨p,h2,h3⟩:=aNK (FV hE xs) h1;exact iY.val hS h (by simp only [bN,qJ hE hv,h2];rfl) h3
 |_=>cases h
theorem aEs (hE:eJ s e pe) (hS:cU s ps) {c a b:gE} (h:pH e s z (.pick c a b) k ρ w=some y):iY s ps (bN pe ps z (.pick c a b)) k ρ w y:=by
 simp only [pH] at h;generalize hv:bZ e c=v at h;cases v with
 |bool x=>
  rcases fV h with ⟨rfl,h⟩|⟨rfl,h⟩
  · exact iY.val hS h (by simp only [bN,I6 hE hv]) (eC hE a)
  exact iY.val hS h (by simp only [bN,I6 hE hv]) (eC hE b)
 |_=>cases h
end
end Go.Vm
/- Operation by operation, second part: elements, blocks, slices, sets. -/
namespace Go.Vm
section
variable {R' ρ : Type} {w : R' -> ρ} {y : ρ} {s : List SB} {ps : cT} {e : SE} {pe : zA} {z : List Nat} {k : gX -> iJ R'}
theorem cU.arr (hS:cU s ps) {t:Nat} {r:List PT} {l:List (RT r)} (h:s[t]? =some (.arr r l)):ps[t]? =some (.arr r.length (l.map (RT.pv r))):=by
 obtain ⟨q,h1,h2⟩:=hS.at_ t _ h;rw [show q=_ from h2] at h1;exact h1
theorem cU.box (hS:cU s ps) {t:Nat} {cs:List SV} (h:s[t]? =some (.box cs)): ∃q,ps[t]? =some (.box q)/\RL s cs q:=by
 obtain ⟨q,h1,q',rfl,h2⟩:=hS.at_ t _ h;exact ⟨q',h1,h2⟩
theorem cU.set_ (hS:cU s ps) {t:Nat} {l:List (List Int)} (h:s[t]? =some (.set l)):ps[t]? =some (.map (l.map I4)):=by
 obtain ⟨q,h1,h2⟩:=hS.at_ t _ h;rw [show q=_ from h2] at h1;exact h1
theorem cU.tab_ (hS:cU s ps) {t:Nat} {p:PT} {l:List (RT [.i .i64,p])} (h:s[t]? =some (.tab p l)):ps[t]? =some (.map (l.map (MI p))):=by
 obtain ⟨q,h1,h2⟩:=hS.at_ t _ h;rw [show q=_ from h2] at h1;exact h1
theorem aEl.inv {t e n:Nat} {r:List PT} {l:List (RT r)} (h:aEl s t e n) (hs:s[t]? =some (.arr r l)):e=r.length/\n=l.length:=by
 rcases h with ⟨q,m,h1,rfl,rfl⟩|h1
 · rw [hs] at h1;injection h1 with h1;cases h1;exact ⟨rfl,rfl⟩
 rw [hs] at h1;cases h1
theorem GW.inv {t e:Nat} {r:List PT} {l:List (RT r)} (h:GW s t e) (hs:s[t]? =some (.arr r l)):e=r.length:=by
 rcases h with ⟨q,m,h1,rfl⟩|h1|⟨cs,h1,_⟩
 · rw [hs] at h1;injection h1 with h1;cases h1;rfl
 · rw [hs] at h1;cases h1
 rw [hs] at h1;cases h1
theorem aEm.inv {t:Nat} {q r:List PT} {i:Int} {a:RT q} {l:List (RT r)} (h:aEm s t q i a) (hs:s[t]? =some (.arr r l)): ∃e:q=r,aN l i=some (e▸a):=by
 rcases h with ⟨m,h1,h2⟩|h1
 · rw [hs] at h1;injection h1 with h1;cases h1;exact ⟨rfl,h2⟩
 rw [hs] at h1;cases h1
theorem aOa.inv {t:Nat} {r:List PT} {i:Int} {l:List (RT r)} (h:aOa s t i) (hs:s[t]? =some (.arr r l)):(aN l i).isSome=true:=by
 rcases h with ⟨q,m,h1,h2⟩|h1
 · rw [hs] at h1;injection h1 with h1;cases h1;exact h2
 rw [hs] at h1;cases h1
theorem gQ {α:Type} {l:List α} {n:Nat} {i:Int} {a:α} (h:aN (l.take n) i=some a): ∃m:Nat,i=dm m/\m<n/\l[m]? =some a:=by
 obtain ⟨m,rfl,hm⟩:=qU h;have hlt:=(bo.1 hm).1;rw [dc] at hlt;have hmn:m<n:=by omega
 rw [bz hmn] at hm;exact ⟨m,rfl,hmn,hm⟩
theorem aEt (hE:eJ s e pe) (hS:cU s ps) {esz:Nat} {x i:gE} (h:pH e s z (.iadr esz x i) k ρ w=some y):iY s ps (bN pe ps z (.iadr esz x i)) k ρ w y:=by
 simp only [pH] at h;generalize hi:bZ e i=vi at h;cases vi with
 |int ki n=>
  have hi:=qJ hE hi;have hx:=eC hE x;dsimp only at h;unfold aND at h;generalize bZ e x=v at h hx;cases v with
  |sl r l=>
   obtain ⟨he,h⟩:=dG h;obtain ⟨a,ha,hk⟩:=cZ h;obtain ⟨m,rfl,hm⟩:=qU ha;refine iY.val hS (p:= .rptr (RT.pv r a) 0) hk ?_ ⟨_,rfl,RQ r a⟩;have hr:(l.map (RT.pv r))[m]? =some (RT.pv r a):=by simp [hm]
   simp only [bN,hi,mL,show x.ev pe=_ from hx,hr,he,if_true]
  |own t ex=>
   simp only [cM] at h;generalize hst:s[t]? =b at h;cases b with
   |none=>cases h
   |some b=>
    cases b with
    |arr r l=>
     obtain ⟨he,h⟩:=dG h;obtain ⟨a,ha,hk⟩:=cZ h;obtain ⟨m,rfl,hm⟩:=qU ha;obtain ⟨e',n',hx,hat⟩:=hx;obtain ⟨rfl,rfl⟩:=hat.inv hst;have hlt:=(bo.1 hm).1;have h1:ff m l.length=true:=by simpa using hlt
     refine iY.val hS (p:= .ptr t r.length m 0) hk ?_ ⟨rfl,.inl ⟨l,hst,ha⟩⟩;simp only [bN,hi,mL,hx,h1,he,cz,if_true,d8]
    |_=>cases h
  |pre t len cap ex=>
   simp only [cM] at h;generalize hst:s[t]? =b at h;cases b with
   |none=>cases h
   |some b=>
    cases b with
    |arr r l=>
     obtain ⟨he,h⟩:=dG h;obtain ⟨a,ha,hk⟩:=cZ h;obtain ⟨m,rfl,hlt,hm⟩:=gQ ha;obtain ⟨e',hx,hat⟩:=hx
     have:=hat.inv hst
     subst this;have h1:ff m len=true:=by simpa using hlt
     refine iY.val hS (p:= .ptr t r.length m 0) hk ?_ ⟨rfl,.inl ⟨l,hst,hm⟩⟩;simp only [bN,hi,mL,hx,h1,he,cz,if_true,d8]
    |_=>cases h
  |part t off len cap ex=>
   simp only [cM] at h;generalize hst:s[t]? =b at h;cases b with
   |none=>cases h
   |some b=>
    cases b with
    |arr r l=>
     obtain ⟨he,h⟩:=dG h;obtain ⟨a,ha,hk⟩:=cZ h;obtain ⟨m,rfl,hlt,hm⟩:=gQ ha;rw [List.getElem?_drop] at hm;obtain ⟨e',hx,hat⟩:=hx
     have:=hat.inv hst
     subst this;have h1:ff m len=true:=by simpa using hlt
     refine iY.val hS (p:= .ptr t r.length (off+m) 0) hk ?_ ⟨rfl,.inl ⟨l,hst,hm⟩⟩;simp only [bN,hi,mL,hx,h1,he,cz,if_true]
    |_=>cases h
  |_=>cases h
 |_=>cases h
theorem HP {n:Nat} {i:Int} {j:Nat} {f:Nat->iJ R'}:WB n i j f ρ w=some y-> ∃m,i=dm m/\j<=m/\m<j+n/\f m ρ w=some y:=by
 induction n generalizing j with
 |zero=>intro h;cases h
 |succ n ih=>
  intro h;rcases fV h with ⟨h1,h2⟩|⟨_,h2⟩
  · exact ⟨j,by simpa using h1,fb _,by omega,h2⟩
  obtain ⟨m,h3,h4,h5,h6⟩:=ih h2
  exact ⟨m,h3,by omega,by omega,h6⟩
theorem aCV (hE:eJ s e pe) (hS:cU s ps) {n esz:Nat} {p i:gE} (h:pH e s z (.iadra n esz p i) k ρ w=some y):iY s ps (bN pe ps z (.iadra n esz p i)) k ρ w y:=by
 simp only [pH] at h;generalize hi:bZ e i=vi at h;cases vi with
 |int ki j=>
  have hi:=qJ hE hi;have hx:=eC hE p;generalize bZ e p=v at h hx;cases v with
  |bp t m o=>
   obtain ⟨j',rfl,_,h2,h⟩:=HP h;have h1:ff j' n=true:=by simp;omega
   exact iY.val hS h (by simp only [bN,hi,mL,h1,if_true,show p.ev pe=_ from hx]) rfl
  |rptr c o=>
   obtain ⟨j',rfl,_,h2,h⟩:=HP h;have h1:ff j' n=true:=by simp;omega
   obtain ⟨q,hq,hr⟩:=hx;exact iY.val hS h (by simp only [bN,hi,mL,h1,if_true,hq]) ⟨q,rfl,hr⟩
  |_=>cases h
 |_=>cases h
theorem aGx (hE:eJ s e pe) (hS:cU s ps) {n esz:Nat} {agg:Option Nat} {x i:gE} (h:pH e s z (.idx n esz agg x i) k ρ w=some y):iY s ps (bN pe ps z (.idx n esz agg x i)) k ρ w y:=by
 simp only [pH] at h;generalize hi:bZ e i=vi at h;cases vi with
 |int ki j=>
  have hi:=qJ hE hi;generalize hx:bZ e x=v at h;cases v with
  |agg cs=>
   obtain ⟨j',rfl,_,h2,h⟩:=HP h;have h1:ff j' n=true:=by simp;omega
   obtain ⟨v,hv,h⟩:=bS h;obtain ⟨q,hq,hr⟩:=aCS hE hx;obtain ⟨p,hp,hpr⟩:=zM hr hv;exact iY.val hS h (by simp only [bN,hi,mL,h1,if_true,hq,hp];rfl) hpr
  |_=>cases h
 |_=>cases h
theorem aEu (hE:eJ s e pe) (hS:cU s ps) {x i:gE} (h:pH e s z (.sidx x i) k ρ w=some y):iY s ps (bN pe ps z (.sidx x i)) k ρ w y:=by
 simp only [pH] at h;generalize hi:bZ e i=vi at h;cases vi with
 |int ki j=>
  have hi:=qJ hE hi;generalize hx:bZ e x=v at h;cases v with
  |str t=>
   obtain ⟨b,hb,h⟩:=cZ h;have hx:=aCS hE hx;cases j with
   |negSucc _=>cases hb
   |ofNat m=>
    simp only [aNC,c7] at hb;obtain ⟨c,hc,rfl⟩:=hb;exact iY.val hS h (by simp only [bN,hi,mL,show x.ev pe=_ from hx,hc]) rfl
  |_=>cases h
 |_=>cases h
theorem aEv (hE:eJ s e pe) (hS:cU s ps) {agg:Option Nat} {p:gE} (h:pH e s z (.load agg p) k ρ w=some y):iY s ps (bN pe ps z (.load agg p)) k ρ w y:=by
 simp only [pH] at h;have hx:=eC hE p;unfold aNE at h;generalize bZ e p=v at h hx;cases v with
 |bp t n off=>
  simp only [cM] at h;generalize hst:s[t]? =b at h;cases b with
  |none=>cases h
  |some b=>
   cases b with
   |box cs=>
    obtain ⟨v,hv,h⟩:=bS h;obtain ⟨q,h1,h2⟩:=hS.box hst;obtain ⟨u,h3,h4⟩:=zM h2 hv;refine iY.rd hS h ?_ h4;show sX ps agg (p.ev pe)=_;rw [show p.ev pe=_ from hx];simp only [sX,h1,c6,if_true,h3];rfl
   |_=>cases h
 |pa t r i a off=>
  simp only [cM] at h;generalize hst:s[t]? =b at h;cases b with
  |none=>cases h
  |some b=>
   cases b with
   |arr q l=>
    obtain ⟨v,hv,hk⟩:=bS h;obtain ⟨hx,hat⟩:=hx;obtain ⟨rfl,hg⟩:=hat.inv hst;obtain ⟨u,h3,h4⟩:=zM (RQ r a) hv;obtain ⟨m,rfl,hm⟩:=qU hg;refine iY.rd hS hk ?_ h4;show sX ps agg (p.ev pe)=_;rw [hx];have hm':(l.map (RT.pv r))[m]? =some (RT.pv r a):=by simp [hm]
    have e1:(dm m).toNat=m:=rfl;simp only [sX,hS.arr hst,e1,hm',h3];rfl
   |_=>cases h
 |pb t i off=>
  simp only [cM] at h;generalize hst:s[t]? =b at h;cases b with
  |none=>cases h
  |some b=>
   cases b with
   |arr r l=>
    obtain ⟨a,ha,h⟩:=cZ h;obtain ⟨v,hv,hk⟩:=bS h;obtain ⟨e',hx,hat⟩:=hx;obtain ⟨u,h3,h4⟩:=zM (RQ r a) hv;obtain ⟨m,rfl,hm⟩:=qU ha;refine iY.rd hS hk ?_ h4;show sX ps agg (p.ev pe)=_;rw [hx];have hm':(l.map (RT.pv r))[m]? =some (RT.pv r a):=by simp [hm]
    have e1:(dm m).toNat=m:=rfl;simp only [sX,hS.arr hst,e1,hm',h3];rfl
   |_=>cases h
 |rptr cs off=>
  obtain ⟨v,hv,h⟩:=bS h;obtain ⟨q,hq,hr⟩:=hx;obtain ⟨u,h3,h4⟩:=zM hr hv;refine iY.val hS h ?_ h4;show sX ps agg (p.ev pe)=_;rw [hq];simp only [sX,h3];rfl
 |_=>cases h
theorem TU (hS:cU s ps) {t:Nat} {r:List PT} {l:List (RT r)} (hst:s[t]? =some (.arr r l)) {i:Int} {b:RT r} {rd:List Nat}:
 iZ s ps {v:= .undef,wr:=[(t,.arr r (cL l i b))],rd} {v:= .undef,wr:=[(t,.arr r.length ((l.map (RT.pv r)).set i.toNat (RT.pv r b)))],rd}:=
 iZ.put0 hS hst (.inl ⟨_,rfl,by simp⟩) (by show _=_;simp [cL,ft])
theorem aCW (hE:eJ s e pe) (hS:cU s ps) {sz:Nat} {p x:gE} (h:pH e s z (.store sz p x) k ρ w=some y):iY s ps (bN pe ps z (.store sz p x)) k ρ w y:=by
 simp only [pH] at h;have hx:=eC hE p;have hv:=eC hE x;unfold aD9 at h;generalize bZ e p=v at h hx;generalize bZ e x=u at h hv;cases v with
 |bp t n off=>
  simp only [cM] at h;generalize hst:s[t]? =b at h;cases b with
  |none=>cases h
  |some b=>
   cases b with
   |box cs=>
    obtain ⟨w',hw,h⟩:=bS h;obtain ⟨hc,h⟩:=dG h;obtain ⟨q,h1,h2⟩:=hv.stored hw;obtain ⟨b,h3,h4⟩:=hS.box hst;have hfr:=Fr.dg (ts:=[t]) (Fr.set (b:= .box (uD off w' cs)) hst (.inl ⟨_,rfl⟩));refine ⟨_,_,?_,iZ.put0 hS (b:= .box (uD off w' cs)) (q:= .box (rM off q b)) (rd:=[]) hst (.inl ⟨_,rfl⟩) ⟨_,rfl,RL.fr hfr (FX h2 h4)⟩,h⟩
    show xO ps z sz (x.ev pe) (p.ev pe)=_
    rw [show p.ev pe=_ from hx];simp only [xO,h3,h1,h2.length,h4.length];rw [if_pos (by simpa using hc)]
   |_=>cases h
 |pa t r i a off=>
  simp only [cM] at h;generalize hst:s[t]? =b at h;cases b with
  |none=>cases h
  |some b=>
   cases b with
   |arr q l=>
    obtain ⟨hc,h⟩:=dG h;obtain ⟨a',ha',hk⟩:=bS h;obtain ⟨hx,hat⟩:=hx;obtain ⟨rfl,hg⟩:=hat.inv hst;obtain ⟨m,rfl,hm⟩:=qU hg;refine ⟨_,_,?_,TU hS hst (rd:=[]),hk⟩;show xO ps z sz (x.ev pe) (p.ev pe)=_;rw [hx];have hm':(l.map (RT.pv r))[m]? =some (RT.pv r a):=by simp [hm]
    have e1:(dm m).toNat=m:=rfl;simp only [bn,cm] at hc;obtain ⟨⟨c1,c2⟩,c3⟩:=hc;have hj:u≠ .junk:=by
     intro e;subst e
     have:=RT.of_some ha'
     have hq:=congrArg (fun l=>l[off]?) this
     have hle:=ci c2;have hsz:sz=1:=by have:=bm c1;simpa [SV.cells] using this.symm
     have hlt:off<r.length:=by omega
     have hl1:off<(RT.sv r a).length:=by rw [RT.sv_len];exact hlt
     simp only [uD,SV.cells] at hq;rw [bq (by simp;omega),bu (by simp;omega)] at hq
     simp only [dc,ez (fu hl1),gl,ek] at hq
     have: ∀(r:List PT) (b:RT r) (n:Nat),(RT.sv r b)[n]?≠some .junk:=by
      intro r
      induction r with
      |nil=>intro b n h;simp [RT.sv] at h
      |cons p rest ih=>
       intro b n;cases rest with
       |nil=>cases n<;>cases p<;>simp [RT.sv,PT.sv]
       |cons p2 rest2=>cases n with
        |zero=>cases p<;>simp [RT.sv,PT.sv]
        |succ n=>simpa [RT.sv] using ih b.2 n
     exact this r a' off hq.symm
    have hcells:=hv.cells hj;have hrow:=RT.of_some ha';have h5:RL s (RT.sv r a') (rM off (x.ev pe).cells (RT.pv r a)):=by
     rw [<- hrow];exact FX hcells (RQ r a)
    have h6:=FW r a' h5;have hplain:(x.ev pe).storedPlain=some (x.ev pe).cells:=by
     unfold PV.storedPlain;rw [if_pos ?_];have hall:=RT.plain r a';rw [<- h6] at hall;unfold rM at hall;simp only [gf,bn] at hall;exact hall.1.2
    simp only [xO,hS.arr hst,e1,hm',hplain,hcells.length,RT.pv_len];rw [if_pos (by simp [c1,c2,c3])]
    simp only [h6]
   |_=>cases h
 |pb t i off=>
  simp only [cM] at h;generalize hst:s[t]? =b at h;cases b with
  |none=>cases h
  |some b=>
   cases b with
   |arr r l=>
    obtain ⟨hc,h⟩:=dG h;obtain ⟨e',hx,hat⟩:=hx;have hin:=hat.inv hst;rw [ej] at hin;obtain ⟨a0,hg⟩:=hin;obtain ⟨m,rfl,hm⟩:=qU hg;have hm':(l.map (RT.pv r))[m]? =some (RT.pv r a0):=by simp [hm]
    have e1:(dm m).toNat=m:=rfl;simp only [bn,cm] at hc;obtain ⟨⟨c1,c2⟩,c3⟩:=hc;cases hsz:ce sz r.length with
    |true=>
     rw [hsz] at h;obtain ⟨a',ha',hk⟩:=bS h;obtain ⟨hp,hl⟩:=hv.ofRow ha';have hszr:=bm hsz;have hoff:off=0:=by have:=ci c2;omega
     subst hoff;refine ⟨_,_,?_,TU hS hst (rd:=[]),hk⟩;show xO ps z sz (x.ev pe) (p.ev pe)=_;rw [hx];simp only [xO,hS.arr hst,e1,hm',hp,RT.pv_len];rw [if_pos (by rw [d8,hszr];simp [c3])]
     have:rM 0 (RT.pv r a') (RT.pv r a0)=RT.pv r a':=by
      unfold rM;rw [RT.pv_len,List.drop_of_length_le (by rw [RT.pv_len];omega)];simp
     rw [this]
    |false=>
     rw [hsz] at h;obtain ⟨a,ha,h⟩:=cZ h;obtain ⟨a',ha',hk⟩:=bS h;rw [hg] at ha;injection ha with ha;subst ha;refine ⟨_,_,?_,TU hS hst (rd:=[]),hk⟩;show xO ps z sz (x.ev pe) (p.ev pe)=_;rw [hx];have hj:u≠ .junk:=by
      intro e;subst e
      have:=RT.of_some ha'
      have hq:=congrArg (fun l=>l[off]?) this
      have hle:=ci c2;have hsz:sz=1:=by have:=bm c1;simpa [SV.cells] using this.symm
      have hlt:off<r.length:=by omega
      have hl1:off<(RT.sv r a0).length:=by rw [RT.sv_len];exact hlt
      simp only [uD,SV.cells] at hq;rw [bq (by simp;omega),bu (by simp;omega)] at hq
      simp only [dc,ez (fu hl1),gl,ek] at hq
      have: ∀(r:List PT) (b:RT r) (n:Nat),(RT.sv r b)[n]?≠some .junk:=by
       intro r
       induction r with
       |nil=>intro b n h;simp [RT.sv] at h
       |cons p rest ih=>
        intro b n;cases rest with
        |nil=>cases n<;>cases p<;>simp [RT.sv,PT.sv]
        |cons p2 rest2=>cases n with
         |zero=>cases p<;>simp [RT.sv,PT.sv]
         |succ n=>simpa [RT.sv] using ih b.2 n
      exact this r a' off hq.symm
     have hcells:=hv.cells hj;have hrow:=RT.of_some ha';have h5:RL s (RT.sv r a') (rM off (x.ev pe).cells (RT.pv r a0)):=by
      rw [<- hrow];exact FX hcells (RQ r a0)
     have h6:=FW r a' h5;have hplain:(x.ev pe).storedPlain=some (x.ev pe).cells:=by
      unfold PV.storedPlain;rw [if_pos ?_];have hall:=RT.plain r a';rw [<- h6] at hall;unfold rM at hall;simp only [gf,bn] at hall;exact hall.1.2
     simp only [xO,hS.arr hst,e1,hm',hplain,hcells.length,RT.pv_len];rw [if_pos (by simp [c1,c2,c3])]
     simp only [h6]
   |_=>cases h
 |_=>cases h
end
end Go.Vm
/- Operation by operation, third part: slices, new blocks, append, sets; all of them together. -/
namespace Go.Vm
section
variable {R' ρ : Type} {w : R' -> ρ} {y : ρ} {s : List SB} {ps : cT} {e : SE} {pe : zA} {z : List Nat} {k : gX -> iJ R'}
def OF (pe:zA) (o:Option gE):Option (Option Nat):=match o with|none=>some none|some a=>(mL (a.ev pe)).map some
theorem BK (hE:eJ s e pe) {o:Option gE} {d a:Int} {n:Nat} (h:KN e d o=some a) (hd:d=dm n) (h0:0<=a): ∃b,OF pe o=some b/\b.getD n=a.toNat:=by
 cases o with
 |none=>
  injection h with h;subst h hd;exact ⟨none,rfl,rfl⟩
 |some x=>
  simp only [KN] at h;split at h
  · rename_i ka m hx
    injection h with h;subst h;obtain ⟨b,rfl⟩:=cj h0;refine ⟨some b,?_,rfl⟩;simp only [OF,qJ hE hx];rfl
  cases h
theorem HQ {esz:Nat} {x:gE} {lo hi mx:Option gE} {l h m:Option Nat} {v:PV} (he:A6 esz (x.ev pe)=true) (h1:OF pe lo=some l) (h2:OF pe hi=some h) (h3:OF pe mx=some m) (hv:wF (x.ev pe) l h m=some v):
 bN pe ps z (.slc esz x lo hi mx)=some {v:=v}:=by
 have e:bN pe ps z (.slc esz x lo hi mx)=(match OF pe lo,OF pe hi,OF pe mx with|some l,some h,some m=>(wF (x.ev pe) l h m).map fun v=>({v}:rO)|_,_,_=>none):=by
  simp only [bN,he,fj,cf,if_false];rfl
 rw [e,h1,h2,h3];simp only [hv];rfl
theorem OG {α:Type} {l r:List α} {lo hi:Int} (h:gW l lo hi=some r): ∃a b:Nat,lo=dm a/\hi=dm b/\a<=b/\b<=l.length/\r=(l.drop a).take (b-a):=by
 unfold gW at h;split at h
 · rename_i hc
   obtain ⟨a,rfl⟩:=cj hc.1;obtain ⟨b,rfl⟩:=cj (eg hc.1 hc.2.1);injection h with h;exact ⟨a,b,rfl,rfl,by omega,by omega,by rw [<- h];simp⟩
 cases h
theorem TV (hE:eJ s e pe) (hS:cU s ps) {esz t off len cap:Nat} {ex:Bool} {x:gE} {lo hi mx:Option gE} (hx:x.ev pe= .own t esz off len cap ex) (hat:GW s t esz) (h:Z2 e t off len cap ex lo hi mx k ρ w=some y):
 iY s ps (bN pe ps z (.slc esz x lo hi mx)) k ρ w y:=by
 unfold Z2 at h;obtain ⟨a,ha,h⟩:=bS h;obtain ⟨b,hb,h⟩:=bS h;have he:A6 esz (x.ev pe)=true:=by rw [hx];simp [A6]
 cases mx with
 |none=>
  obtain ⟨hc,h⟩:=jV h;simp only [bn,decide_eq_true_eq] at hc;obtain ⟨⟨c1,c2⟩,c3⟩:=hc;obtain ⟨l,h1,h2⟩:=BK hE (n:=0) ha rfl c1;obtain ⟨u,h3,h4⟩:=BK hE (n:=len) hb rfl (eg c1 c2);refine iY.val hS h (HQ he h1 h3 (m:=none) rfl ?_) ⟨esz,rfl,hat⟩;rw [hx];have c4:(cd a.toNat b.toNat&&cd b.toNat cap)=true:=by
   have c3':b<=(cap:Int):=c3
   simp;omega
  simp only [wF,h2,h4,c4,if_true]
 |some mo=>
  dsimp only at h;generalize hm:bZ e mo=vm at h;cases vm with
  |int km c=>
   obtain ⟨hc,h⟩:=jV h;simp only [bn,decide_eq_true_eq] at hc;obtain ⟨⟨⟨c1,c2⟩,c3⟩,c4⟩:=hc;obtain ⟨l,h1,h2⟩:=BK hE (n:=0) ha rfl c1;obtain ⟨u,h3,h4⟩:=BK hE (n:=len) hb rfl (eg c1 c2);have hc0:0<=c:=eg (eg c1 c2) c3;obtain ⟨c,rfl⟩:=cj hc0
   refine iY.val hS h (HQ he h1 h3 (m:=some c) (by simp only [OF,qJ hE hm];rfl) ?_) ⟨esz,rfl,hat⟩
   rw [hx];have c5:(cd a.toNat b.toNat&&cd b.toNat c&&cd c cap)=true:=by
    have c4':(c:Int)<=(cap:Int):=c4
    simp;omega
   simp only [wF,h2,h4,c5,if_true];rfl
  |_=>cases h
theorem aGy (hE:eJ s e pe) (hS:cU s ps) {esz:Nat} {x:gE} {lo hi mx:Option gE} (h:pH e s z (.slc esz x lo hi mx) k ρ w=some y):iY s ps (bN pe ps z (.slc esz x lo hi mx)) k ρ w y:=by
 simp only [pH] at h;have hx:=eC hE x;unfold aUn at h;generalize bZ e x=v at h hx;cases v with
 |sl r l=>
  cases mx with
  |some _=>cases h
  |none=>
   dsimp only at h;obtain ⟨he,h⟩:=dG h;have he:=bm he;obtain ⟨a,ha,h⟩:=bS h;obtain ⟨b,hb,h⟩:=bS h;obtain ⟨m,hm,hk⟩:=cZ h;obtain ⟨n1,n2,rfl,rfl,c1,c2,rfl⟩:=OG hm;obtain ⟨u1,h1,h2⟩:=BK hE (n:=0) ha rfl (by simp)
   obtain ⟨u2,h3,h4⟩:=BK hE (n:=l.length) hb rfl (by simp)
   have hx':x.ev pe= .sl r.length false (l.map (RT.pv r)):=hx;subst he;refine iY.val hS (p:= .sl r.length false ((((l.drop n1).take (n2-n1))).map (RT.pv r))) hk (HQ (m:=none) (by rw [hx'];simp [A6]) h1 h3 rfl ?_) rfl
   rw [hx'];have h2':u1.getD 0=n1:=by rw [h2];rfl
   have h4':u2.getD (l.map (RT.pv r)).length=n2:=by rw [cw,h4];rfl
   have c3:(cd n1 n2&&cd n2 (l.map (RT.pv r)).length)=true:=by simp [c1,c2]
   simp only [wF,h2',h4',c3,if_true,Bool.false_and,dd,dy]
 |own t ex=>
  simp only [cM] at h;generalize hst:s[t]? =b at h;cases b with
  |none=>cases h
  |some b=>
   cases b with
   |arr r l=>
    dsimp only at h;obtain ⟨he,hk⟩:=dG h;have he:=bm he;obtain ⟨e',n',hx,hat⟩:=hx;obtain ⟨rfl,rfl⟩:=hat.inv hst;subst he;have hesz:GW s t r.length:= .inl ⟨r,l,hst,rfl⟩;have gen:Z2 e t 0 l.length l.length ex lo hi mx k ρ w=some y->iY s ps (bN pe ps z (.slc r.length x lo hi mx)) k ρ w y:=fun h=>TV hE hS hx hesz h
    have he:A6 r.length (x.ev pe)=true:=by rw [hx];simp [A6]
    cases mx with
    |some m=>cases lo<;>cases hi<;>exact gen hk
    |none=>
     cases lo with
     |some _=>cases hi<;>exact gen hk
     |none=>
      cases hi with
      |none=>
       refine iY.val hS hk (HQ (l:=none) (h:=none) (m:=none) he rfl rfl rfl ?_) ⟨r.length,l.length,rfl,hat⟩;rw [hx];simp [wF]
      |some ho=>
       dsimp only at hk;generalize hh:bZ e ho=vh at hk;cases vh with
       |int kh b=>
        obtain ⟨m,hm,hk⟩:=cZ hk;obtain ⟨n1,n2,h0,rfl,c1,c2,rfl⟩:=OG hm;refine iY.val hS hk (HQ (l:=none) (h:=some n2) (m:=none) he rfl (by simp only [OF,qJ hE hh];rfl) rfl ?_) ⟨r.length,rfl,hesz⟩
        rw [hx];have c3:(cd 0 n2&&cd n2 l.length)=true:=by simp [c2]
        simp only [wF,eu,gb,c3,if_true];rfl
       |_=>cases hk
   |_=>cases h
 |pre t len cap ex=>
  simp only [cM] at h;generalize hst:s[t]? =b at h;cases b with
  |none=>cases h
  |some b=>
   cases b with
   |arr r l=>
    dsimp only at h;obtain ⟨he,hk⟩:=dG h;have he:=bm he;obtain ⟨e',hx,hat⟩:=hx
    have:=hat.inv hst
    subst this;subst he;have gen:Z2 e t 0 len cap ex lo hi mx k ρ w=some y->iY s ps (bN pe ps z (.slc r.length x lo hi mx)) k ρ w y:=fun h=>TV hE hS hx hat h
    have he:A6 r.length (x.ev pe)=true:=by rw [hx];simp [A6]
    cases mx with
    |some m=>cases lo<;>cases hi<;>exact gen hk
    |none=>
     cases lo with
     |some _=>cases hi<;>exact gen hk
     |none=>
      cases hi with
      |none=>
       obtain ⟨hlc,hk⟩:=jV hk;refine iY.val hS hk (HQ (l:=none) (h:=none) (m:=none) he rfl rfl rfl ?_) ⟨r.length,rfl,hat⟩;rw [hx];have c3:(cd 0 len&&cd len cap)=true:=by simp [hlc]
       simp only [wF,eu,c3,if_true];simp
      |some ho=>
       dsimp only at hk;generalize hh:bZ e ho=vh at hk;cases vh with
       |int kh b=>
        obtain ⟨hc,hk⟩:=jV hk;simp only [bn,decide_eq_true_eq] at hc;obtain ⟨c1,c2⟩:=hc;obtain ⟨b,rfl⟩:=cj c1;refine iY.val hS hk (HQ (l:=none) (h:=some b) (m:=none) he rfl (by simp only [OF,qJ hE hh];rfl) rfl ?_) ⟨r.length,rfl,hat⟩
        rw [hx];have c3:(cd 0 b&&cd b cap)=true:=by
         have c2':(b:Int)<=(cap:Int):=c2
         simp;omega
        simp only [wF,eu,gb,c3,if_true];rfl
       |_=>cases hk
   |_=>cases h
 |part t off len cap ex=>
  simp only [cM] at h;generalize hst:s[t]? =b at h;cases b with
  |none=>cases h
  |some b=>
   cases b with
   |arr r l=>
    dsimp only at h;obtain ⟨he,hk⟩:=dG h;have he:=bm he;obtain ⟨e',hx,hat⟩:=hx
    have:=hat.inv hst
    subst this;subst he;exact TV hE hS hx hat hk
   |_=>cases h
 |_=>cases h
theorem pL {b:SB}:(s++[b])[s.length]? =some b:=by simp
theorem fT: ∀{v:PV} {p:PT},iT v=some p->p.pv p.zero=v
 | .int k n,p,h=>by
  simp only [iT] at h;split at h
  · injection h with h;subst h;rfl
  cases h
 | .bool b,p,h=>by
  simp only [iT] at h;split at h
  · injection h with h;subst h;rfl
  cases h
 | .undef,_,h| .nul,_,h| .str _,_,h| .agg _,_,h| .tup _,_,h| .sl _ _ _,_,h| .own _ _ _ _ _ _,_,h| .ptr _ _ _ _,_,h| .rptr _ _,_,h| .mp _,_,h| .clo _ _ _,_,h| .nilf,_,h=>by cases h
theorem I8 : ∀ {l : List PV} {r : List PT}, N4 l = some r -> RT.pv r (RT.zero r) = l
  | [], r, h => by injection h with h; subst h; rfl
  | v :: vs, r, h => by
    simp only [N4] at h
    split at h
    · rename_i p q h1 h2
      injection h with h; subst h
      have e1 := fT h1
      have e2 := I8 h2
      cases q with
      | nil =>
        have : vs = [] := by
          cases vs with
          | nil => rfl
          | cons a b => simp only [RT.pv] at e2; cases e2
        subst this
        show [p.pv p.zero] = _
        rw [e1]
      | cons p2 q2 =>
        show p.pv p.zero :: RT.pv (p2 :: q2) (RT.zero (p2 :: q2)) = _
        rw [e1, e2]
    cases h
theorem aGz (hE:eJ s e pe) (hS:cU s ps) {esz:Nat} {zero:qF} {l c:gE} (h:pH e s z (.mks esz zero l c) k ρ w=some y):iY s ps (bN pe ps z (.mks esz zero l c)) k ρ w y:=by
 simp only [pH] at h;generalize hl:bZ e l=vl at h;cases vl with
 |int kl n=>
  generalize hc:bZ e c=vc at h;cases vc with
  |int kc m=>
   obtain ⟨hnm,h1⟩:=jV h;obtain ⟨r,hr,h2⟩:=bS h1;obtain ⟨he,h3⟩:=dG h2;obtain ⟨x,hx,hk⟩:=cZ h3;have hnm:n=m:=by simpa using hnm
   subst hnm;have he:=bm he;subst he;unfold GR at hx;split at hx
   · rename_i hc2
     injection hx with hx;subst hx;obtain ⟨a,rfl⟩:=cj hc2.1;have h1:(cd a a&&cd a most)=true:=by simp [most];omega
     refine ⟨_,_,?_,iZ.new hS (b:= .arr r (db (dm a).toNat (RT.zero r))) (q:= .arr r.length (db a zero)) (v:= .own s.length true) (p:= .own s.length r.length 0 a a true) (rd:=[]) ?_ ?_,hk⟩
     · have e1:mL (.int kl (a:Int))=some a:=rfl
       have e2:mL (.int kc (a:Int))=some a:=rfl;simp only [bN,qJ hE hl,qJ hE hc,e1,e2];rw [if_pos h1,hS.len]
     · show _=_
       simp [I8 hr]
     exact ⟨r.length,a,rfl,.inl ⟨r,_,pL,rfl,by simp⟩⟩
   cases hx
  |_=>cases h
 |_=>cases h
def CE {α:Type}:List α->List (Nat×α)->List α
 |l,[]=>l
 |l,(i,a)::r=>CE (l.set i a) r
theorem OH {α : Type} : ∀ (q : List (Nat × α)) (l : List α) (i : Nat), (CE l q)[i]? = (l[i]?).map fun z => LW i z q
  | [], l, i => by simp [CE, LW]
  | (j, a) :: q, l, i => by
    simp only [CE, LW]
    rw [OH q (l.set j a) i, cb]
    by_cases hji : j = i
    · subst hji
      cases hl : l[j]? with
      | none =>
        have : ¬ j < l.length := by intro h; rw [bw h] at hl; cases hl
        simp [this]
      | some z =>
        have : j < l.length := (bo.1 hl).1
        simp [this]
    have : ce j i = false := by
      cases hb : ce j i with
      | false => rfl
      | true => exact absurd (bm hb) hji
    simp [hji, this]
theorem WL {α:Type} (f:Nat->α): ∀(n i j:Nat),(TN f i n)[j]? =if j<n then some (f (i+j)) else none
 |0,i,j=>by simp [TN]
 |n+1,i,0=>by simp [TN]
 |n+1,i,j+1=>by
  simp only [TN,di];rw [WL f n (i+1) j,show i+1+j=i+(j+1) by omega]
  by_cases h:j<n
  · simp [h]
  simp [h]
theorem OI {α:Type} (z:α) (n:Nat) (q:List (Nat×α)):CE (db n z) q=TN (fun i=>LW i z q) 0 n:=by
 apply fv;intro i;rw [OH,WL]
 by_cases h:i<n
 · simp [h]
 simp [h]
theorem OJ (hE:eJ s e pe) {r:List PT} {n:Nat}: ∀{parts:List (Nat×gE)} {q:List (Nat×RT r)} {l:List (RT r)},aBf r e n parts=some q->l.length=n->
 vA (parts.map fun p=>(p.1,p.2.ev pe)) (l.map (RT.pv r)) r.length=some ((CE l q).map (RT.pv r))
 | [],q,l,h,hl=>by injection h with h;subst h;rfl
 |p::parts,q,l,h,hl=>by
  simp only [aBf] at h;split at h
  · rename_i a q' h1 h2
    cases hb:ff p.1 n with
    |false=>rw [hb] at h;cases h
    |true=>
     rw [hb] at h;injection h with h;subst h;have hp:=((eC hE p.2).ofRow h1).1;simp only [cy,vA,hp,RT.pv_len,cw,hl,hb,c6,cz,if_true,CE];rw [<- ft];exact OJ hE h2 (by simp [hl])
  cases h
theorem aCX (hE:eJ s e pe) (hS:cU s ps) {esz n:Nat} {zero:qF} {parts:List (Nat×gE)} (h:pH e s z (.mkrow esz n zero parts) k ρ w=some y):iY s ps (bN pe ps z (.mkrow esz n zero parts)) k ρ w y:=by
 simp only [pH] at h;obtain ⟨r,hr,h1⟩:=bS h;obtain ⟨he,h2⟩:=dG h1;obtain ⟨q,hq,hk⟩:=bS h2;have he:=bm he;subst he;have hf:=OJ hE (l:=db n (RT.zero r)) hq (by simp)
 rw [OI] at hf;have hz:(db n (RT.zero r)).map (RT.pv r)=db n zero:=by simp [I8 hr]
 rw [hz] at hf;refine ⟨_,_,?_,iZ.new hS (b:= .arr r (TN (fun i=>LW i (RT.zero r) q) 0 n)) (q:= .arr r.length ((TN (fun i=>LW i (RT.zero r) q) 0 n).map (RT.pv r))) (v:= .own s.length true) (p:= .own s.length r.length 0 n n true) (rd:=[]) rfl ?_,hk⟩
 · simp only [bN,hf,hS.len]
   rfl
 refine ⟨r.length,n,rfl,.inl ⟨r,_,pL,rfl,?_⟩⟩
 rw [<- OI]
 have: ∀(q:List (Nat×RT r)) (l:List (RT r)),(CE l q).length=l.length:=by
  intro q
  induction q with
  |nil=>intro l;rfl
  |cons p q ih=>intro l;simp [CE,ih]
 rw [this];simp
theorem aBs: ∀{cs:List SV} {q:List PV} {l:List Int},RL s cs q->aBg cs=some l->q=l.map (.int .i64)
 | [],q,l,h,hi=>by injection hi with hi;subst hi;exact h
 |x::xs,q,l,h,hi=>by
  obtain ⟨p,q,rfl,h1,h2⟩:=h.cons_inv;simp only [aBg] at hi;split at hi
  · rename_i n l' hx
    injection hi with hi;subst hi;rw [show p= .int .i64 n from h1,aBs h2 hx];rfl
  cases hi
theorem aEw {v:SV} {p:PV} {n:Option Nat} {l:List Int} (h:R s v p) (hk:aGh n v=some l):p=zF l/\lP n (zF l)=true/\(zF l).storedPlain=some (zF l).cells/\(zF l).cells=l.map (.int .i64)/\(n=none->l.length=1)/\(∀m,n=some m->l.length=m/\m≠1):=by
 cases n with
 |none=>
  cases v with
  |int kk a=>
   cases kk with
   |i64=>
    injection hk with hk;subst hk;exact ⟨h,rfl,rfl,rfl,fun _=>rfl,fun m hm=>by cases hm⟩
   |_=>cases hk
  |_=>cases hk
 |some m=>
  cases v with
  |agg cs=>
   simp only [aGh] at hk;cases hc:(ce cs.length m&&!Nat.beq m 1) with
   |false=>rw [hc] at hk;cases hk
   |true=>
    rw [hc] at hk;simp only [cond_true] at hk;simp only [bn,eh,cm] at hc;obtain ⟨c1,c2⟩:=hc;obtain ⟨q,rfl,hq⟩:=h;have hq':=aBs hq hk;have hlen:l.length=m:=by have:=hq.length;rw [hq'] at this;simp at this;omega
    have hm1:m≠1:=by intro e;subst e;cases c2
    have hkl:zF l= .agg (l.map (.int .i64)):=by
     unfold zF;split
     · simp at hlen;omega
     rfl
    refine ⟨by rw [hkl,hq'],by rw [hkl];simp [lP,hlen],?_,by rw [hkl];rfl,(fun h=>(by cases h)),fun m' hm=>by injection hm with hm;subst hm;exact ⟨hlen,hm1⟩⟩
    rw [hkl];unfold PV.storedPlain;rw [if_pos];simp [PV.cells,PV.plain]
  |_=>cases hk
theorem CF: ∀(a b:List Int),a.length=b.length->dW (a.map (.int .i64)) (b.map (.int .i64))=some (a==b)
 | [],[],_=>rfl
 |x::a,y::b,h=>by
  have ih:=CF a b (by simpa using h)
  simp only [cy,dW,wE,WJ,if_true];cases hxy:x==y with
  |true=>simp only [ih];simp [fk,hxy]
  |false=>simp [fk,hxy]
 | [],_::_,h=>by simp at h
 |_::_,[],h=>by simp at h
theorem KR {n : Option Nat} {a : List Int} (ha : (zF a).cells = a.map (.int .i64)) (hn : (n = none -> a.length = 1) /\ (∀ m, n = some m -> a.length = m /\ m ≠ 1)) : ∀ (l : List (List Int)) (i : Nat), (∀ r, gA n (zF a) (l.map I4) i = some r -> (match r with | none => MH l a = false | some j => i <= j /\ MH l a = true /\ l[j - i]? = some a))
  | [], i, r, h => by
    simp only [fw, gA, bv] at h
    subst h; rfl
  | b :: l, i, r, h => by
    simp only [cy, I4, gA] at h
    split at h
    · rename_i hk
      have hb : (zF b).cells = b.map (.int .i64) /\ a.length = b.length := by
        cases n with
        | none =>
          have hl := hn.1 rfl
          unfold zF at hk ⊢
          split at hk
          · exact ⟨rfl, by simpa using hl⟩
          cases hk
        | some m =>
          obtain ⟨hl, hm⟩ := hn.2 m rfl
          unfold zF at hk ⊢
          split at hk
          · cases hk
          simp only [lP, cw, eh] at hk
          exact ⟨rfl, by omega⟩
      rw [ha, hb.1, CF a b hb.2] at h
      cases hab : a == b with
      | true =>
        rw [hab] at h
        injection h with h; subst h
        have : a = b := by simpa using hab
        subst this
        exact ⟨fb _, by simp [MH], by simp⟩
      | false =>
        rw [hab] at h
        have := KR ha hn l (i + 1) r h
        cases r with
        | none => simpa [MH, hab] using this
        | some j =>
          obtain ⟨h1, h2, h3⟩ := this
          refine ⟨by omega, by simp only [MH] at h2; simp [MH, h2], ?_⟩
          rw [show j - i = (j - (i + 1)) + 1 by omega]; simpa using h3
    cases h
theorem I9 {n:Option Nat} {a:List Int} (ha:(zF a).cells=a.map (.int .i64)) (hn:(n=none->a.length=1)/\(∀m,n=some m->a.length=m/\m≠1)) {l:List (List Int)} (hl:l.all (fun b=>lP n (zF b))=true): ∀i,∃r,gA n (zF a) (l.map I4) i=some r:=by
 induction l with
 |nil=>intro i;exact ⟨none,rfl⟩
 |cons b l ih=>
  intro i;simp only [fh,bn] at hl;obtain ⟨r,hr⟩:=ih hl.2 (i+1);simp only [cy,I4,gA,hl.1,if_true];have hb:(zF b).cells=b.map (.int .i64)/\a.length=b.length:=by
   have hk:=hl.1;cases n with
   |none=>
    have hl':=hn.1 rfl;unfold zF at hk ⊢;split at hk
    · exact ⟨rfl,by simpa using hl'⟩
    cases hk
   |some m=>
    obtain ⟨hl',hm⟩:=hn.2 m rfl;unfold zF at hk ⊢;split at hk
    · cases hk
    simp only [lP,cw,eh] at hk
    exact ⟨rfl,by omega⟩
  rw [ha,hb.1,CF a b hb.2];cases hab:a==b with
  |true=>exact ⟨some i,rfl⟩
  |false=>exact ⟨r,hr⟩
theorem L0 {n:Option Nat} {a:List Int} (hn:(n=none->a.length=1)/\(∀m,n=some m->a.length=m/\m≠1)) {l:List (List Int)} (hl: ∀b∈l,b.length=a.length):l.all (fun b=>lP n (zF b))=true:=by
 rw [df];intro b hb;have hlen:=hl b hb;cases n with
 |none=>
  have h1:=hn.1 rfl;rw [h1] at hlen
  match b,hlen with
  | [x],_=>rfl
 |some m=>
  obtain ⟨h1,h2⟩:=hn.2 m rfl;unfold zF;split
  · rename_i x;simp at hlen;omega
  simp [lP];omega
theorem JA {a:List Int} {l:List (List Int)} (h:rV a l=true): ∀b∈l,b.length=a.length:=by
 intro b hb;exact bm (df.1 h b hb)
theorem PT.of_R {s:List SB} {p:PT} {v:SV} {q:PV} {a:p.T} (h:R s v q) (ho:p.of v=some a):q=p.pv a:=by
 cases p with
 |i k=>
  cases v with
  |int l n=>
   simp only [PT.of] at ho;cases hk:gB l k with
   |false=>rw [hk] at ho;cases ho
   |true=>
    rw [hk] at ho;obtain rfl:=fU.1 hk;injection ho with ho;subst ho;exact h
  |_=>cases ho
 |b=>
  cases v with
  |bool x=>
   injection ho with ho;subst ho;exact h
  |_=>cases ho
theorem OK {β:Type} (g:Int×β->PV×PV) (hg: ∀x,(g x).1= .int .i64 x.1) (k:Int): ∀(l:List (Int×β)) (i:Nat),
 (∃j x,gA none (.int .i64 k) (l.map g) i=some (some (i+j))/\l[j]? =some x/\(∀z,vJ z l k=x.2)/\ ∀a,sZ l k a=l.set j (k,a))\/
 (gA none (.int .i64 k) (l.map g) i=some none/\(∀z,vJ z l k=z)/\ ∀a,sZ l k a=l++[(k,a)])
 | [],i=> .inr ⟨rfl,fun _=>rfl,fun _=>rfl⟩
 |x::l,i=>by
  have hk:lP none (g x).1=true:=by rw [hg];rfl
  have he:dW (PV.int .i64 k).cells (g x).1.cells=some (k==x.1):=by
   rw [hg];show dW [.int .i64 k] [.int .i64 x.1]=_;simp only [dW,wE,gB,if_true];cases k==x.1<;>rfl
  have hf:gA none (.int .i64 k) ((x::l).map g) i=(match some (k==x.1) with
   |some true=>some (some i)
   |some false=>gA none (.int .i64 k) (l.map g) (i+1)
   |none=>none):=by
   rw [cy];show (if lP none (g x).1 then _ else none)=_
   rw [if_pos hk,he];cases k==x.1<;>rfl
  cases hb:k==x.1 with
  |true=>
   rw [hb] at hf;exact .inl ⟨0,x,hf,rfl,fun z=>by simp only [vJ,hb,cond_true],fun a=>by simp only [sZ,hb,cond_true,List.set_cons_zero]⟩
  |false=>
   rw [hb] at hf;rcases OK g hg k l (i+1) with ⟨j,y,h1,h2,h3,h4⟩|⟨h1,h2,h3⟩
   · refine .inl ⟨j+1,y,?_,by simpa using h2,fun z=>?_,fun a=>?_⟩
     · rw [hf];show gA none (.int .i64 k) (l.map g) (i+1)=_
       rw [h1,show i+1+j=i+(j+1) by omega]
     · simp only [vJ,hb,cond_false,h3]
     simp only [sZ,hb,cond_false,h4,List.set_cons_succ]
   exact .inr ⟨hf.trans h1,fun z=>by simp only [vJ,hb,cond_false,h2],fun a=>by simp only [sZ,hb,cond_false,h3,ew]⟩
theorem OL (p:PT) (k:Int) (l:List (RT [.i .i64,p])):
 (∃(j:Nat) (x:RT [.i .i64,p]),gA none (.int .i64 k) (l.map (MI p)) 0=some (some j)/\l[j]? =some x/\(∀z,p.get z l k=x.2)/\ ∀a,p.put l k a=l.set j (k,a))\/
 (gA none (.int .i64 k) (l.map (MI p)) 0=some none/\(∀z,p.get z l k=z)/\ ∀a,p.put l k a=l++[(k,a)]):=by
 cases p with
 |i d=>
  rcases OK (β:=Int) (MI (.i d)) (fun _=>rfl) k l 0 with ⟨j,x,h1,h2,h3,h4⟩|h
  · exact .inl ⟨j,x,by rw [h1,d8],h2,h3,h4⟩
  exact .inr h
 |b=>
  rcases OK (β:=Bool) (MI .b) (fun _=>rfl) k l 0 with ⟨j,x,h1,h2,h3,h4⟩|h
  · exact .inl ⟨j,x,by rw [h1,d8],h2,h3,h4⟩
  exact .inr h
theorem PT.sv_R {s:List SB} (p:PT) (a:p.T):R s (p.sv a) (p.pv a):=by cases p<;>rfl
theorem PT.pv_plain (p:PT) (a:p.T):(p.pv a).storedPlain=some [p.pv a]:=by cases p<;>rfl
theorem aAe (hE:eJ s e pe) (hS:cU s ps) {n:Option Nat} {zero:PV} {ok:Bool} {m q:gE} (h:pH e s z (.lookup n zero ok m q) k ρ w=some y):iY s ps (bN pe ps z (.lookup n zero ok m q)) k ρ w y:=by
 simp only [pH] at h;have hx:=eC hE m;generalize bZ e m=v at h hx;cases v with
 |mp t=>
  simp only [cM] at h;generalize hst:s[t]? =b at h;cases b with
  |none=>cases h
  |some b=>
   cases b with
   |set l=>
    dsimp only at h;unfold aBi at h;cases zero with
    |bool b=>
     cases b with
     |true=>cases h
     |false=>
      cases ok with
      |true=>cases h
      |false=>
       obtain ⟨a,ha,h1⟩:=bS h;obtain ⟨b,hb,hk⟩:=cZ h1;obtain ⟨k1,k2,k3,k4,k5⟩:=aEw (eC hE q) ha;unfold V9 at hb;cases hlk:rV a l with
       |false=>rw [hlk] at hb;cases hb
       |true=>
        rw [hlk] at hb;injection hb with hb;subst hb;obtain ⟨r,hr⟩:=I9 k4 k5 (L0 k5 (JA hlk)) 0;have hf:=KR k4 k5 l 0 r hr;refine iY.rd hS hk ?_ rfl;show zG ps n (.bool false) false (m.ev pe) (q.ev pe)=_;rw [show m.ev pe=_ from hx,k1];simp only [zG,hS.set_ hst,k2,if_true,hr];cases r with
        |none=>simp only at hf;simp [hf]
        |some j=>
         obtain ⟨_,h2,h3⟩:=hf
         have:(l.map I4)[j]? =some (I4 a):=by simp at h3;simp [h3]
         simp [this,h2,I4]
    |_=>cases h
   |tab p l=>
    dsimp only at h;unfold aBj at h;cases n with
    |some _=>cases h
    |none=>
     cases ok with
     |true=>cases h
     |false=>
      have hq:=eC hE q;generalize bZ e q=u at h hq;cases u with
      |int d a=>
       cases d with
       |i64=>
        obtain ⟨zv,hz,hk⟩:=bS h;have hzero:=PT.of_R (aAc s zero) hz;refine iY.rd hS hk ?_ (PT.sv_R p _);show zG ps none zero false (m.ev pe) (q.ev pe)=_;rw [show m.ev pe=_ from hx,show q.ev pe=_ from hq];rcases OL p a l with ⟨j,x,h1,h2,h3,_⟩|⟨h1,h2,_⟩
        · have h5:(l.map (MI p))[j]? =some (MI p x):=by simp [h2]
          simp only [zG,hS.tab_ hst,lP,if_true,h1,h5,h3,MI,cf,if_false]
        simp only [zG,hS.tab_ hst,lP,if_true,h1,h2,hzero,cf,if_false]
       |_=>cases h
      |_=>cases h
   |_=>cases h
 |_=>cases h
theorem aEx (hE:eJ s e pe) (hS:cU s ps) {n:Option Nat} {m q x:gE} (h:pH e s z (.mapu n m q x) k ρ w=some y):iY s ps (bN pe ps z (.mapu n m q x)) k ρ w y:=by
 simp only [pH] at h;have hx:=eC hE m;generalize bZ e m=v at h hx;cases v with
 |mp t=>
  simp only [cM] at h;generalize hst:s[t]? =b at h;cases b with
  |none=>cases h
  |some b=>
   cases b with
   |set l=>
    obtain ⟨hz,h0⟩:=xG h;unfold aEb at h0;have hv:=eC hE x;generalize bZ e x=u at h0 hv;cases u with
    |bool b=>
     cases b with
     |false=>cases h0
     |true=>
      obtain ⟨a,ha,h1⟩:=bS h0;obtain ⟨b,hb,hk⟩:=cZ h1;obtain ⟨k1,k2,k3,k4,k5⟩:=aEw (eC hE q) ha;unfold WA at hb;cases hlk:rV a l with
      |false=>rw [hlk] at hb;cases hb
      |true=>
       rw [hlk] at hb;injection hb with hb;subst hb;obtain ⟨r,hr⟩:=I9 k4 k5 (L0 k5 (JA hlk)) 0;have hf:=KR k4 k5 l 0 r hr;refine ⟨_,_,?_,iZ.put0 hS (b:= .set (Z0 l a)) (q:= .map ((Z0 l a).map I4)) (rd:=[]) hst trivial rfl,hk⟩;show LM ps z n (m.ev pe) (q.ev pe) (x.ev pe)=_;rw [show m.ev pe=_ from hx,k1,show x.ev pe= .bool true from hv]
       have p2:(PV.bool true).storedPlain=some [.bool true]:=rfl;simp only [LM,hS.set_ hst,k2,hz,dp,cz,if_true,k3,p2,hr];cases r with
       |none=>simp only at hf;simp [Z0,hf,I4]
       |some j=>
        obtain ⟨_,h2,h3⟩:=hf;have h5:l[j]? =some a:=by simpa using h3
        have:(l.map I4).set j (zF a,.bool true)=l.map I4:=by
         apply fv;intro i;rw [cb];split
         · rename_i hij
           subst hij;have hlt:=(bo.1 h5).1;have h6:l[j]=a:=(bo.1 h5).2;simp [hlt,h6,I4]
         rfl
        simp [Z0,h2,this]
    |_=>cases h0
   |tab p l=>
    obtain ⟨hz,h0⟩:=xG h;unfold aEc at h0;cases n with
    |some _=>cases h0
    |none=>
     have hq:=eC hE q;generalize bZ e q=u at h0 hq;cases u with
     |int d a=>
      cases d with
      |i64=>
       obtain ⟨xv,hxv,hk⟩:=bS h0;have hval:=PT.of_R (eC hE x) hxv;refine ⟨_,_,?_,iZ.put0 hS (b:= .tab p (p.put l a xv)) (q:= .map ((p.put l a xv).map (MI p))) (rd:=[]) hst trivial rfl,hk⟩;show LM ps z none (m.ev pe) (q.ev pe) (x.ev pe)=_;rw [show m.ev pe=_ from hx,show q.ev pe=_ from hq,hval];have p1:(PV.int .i64 a).storedPlain=some [.int .i64 a]:=rfl
       rcases OL p a l with ⟨j,x,h1,_,_,h3⟩|⟨h1,_,h3⟩
       · simp only [LM,hS.tab_ hst,lP,hz,dp,cz,if_true,p1,PT.pv_plain,h1,h3,ft,MI]
       simp only [LM,hS.tab_ hst,lP,hz,dp,cz,if_true,p1,PT.pv_plain,h1,h3,dj,cy,fw,MI]
      |_=>cases h0
     |_=>cases h0
   |_=>cases h
 |_=>cases h
theorem GW.fr' {s s':List SB} {bad:List Nat} {t e:Nat} (h:GW s t e) (hf:Fr bad s s'):GW s' t e:=by
 rcases h with ⟨r,l,h1,h2⟩|h1|⟨cs,h1,h2⟩
 · rcases hf t _ h1 with ⟨l',k1,_,_⟩|k1
   · exact .inl ⟨r,l',k1,h2⟩
   exact .inr (.inl k1)
 · exact .inr (.inl (hf t _ h1))
 rcases hf t _ h1 with ⟨c2,k1⟩|k1
 · exact .inr (.inr ⟨c2,k1,h2⟩)
 exact .inr (.inl k1)
theorem HR {α:Type} {l r:List α} (h:bW l=some r):r=l/\l.length<=1048576:=by
 unfold bW at h;split at h
 · injection h with h;exact ⟨h.symm,by assumption⟩
 cases h
theorem EK {α:Type} {l m r:List α} (h:bP l m=some r):r=l++m/\l.length+m.length<=1048576:=by
 unfold bP at h;split at h
 · injection h with h;exact ⟨h.symm,by assumption⟩
 cases h
theorem zN: ∀(m l:List qF) (n:Nat),n+m.length<=l.length->nQ n m l=fS l n m
 | [],l,n,h=>by simp [nQ,fS]
 |a::m,l,n,h=>by
  simp only [cp] at h;rw [nQ,zN m (l.set n a) (n+1) (by simp;omega)]
  unfold fS;rw [List.take_set,List.drop_set];have hn:n<l.length:=by omega
  have h1: ¬(n+1+m.length<=n):=by omega
  rw [if_pos (by omega)]
  have:(l.take (n+1)).set n a=l.take n++[a]:=by
   rw [List.take_succ_eq_append_getElem hn,List.set_append_right _ _ (by simp;omega)]
   simp [ez (fu hn)]
  rw [this];simp only [cq,ew,List.nil_append,cp];rw [show n+1+m.length=n+(m.length+1) by omega]
theorem OM {α β:Type} (f:α->β) (l m:List α) (n:Nat):(fS l n m).map f=fS (l.map f) n (m.map f):=by
 simp [fS,dd,dy]
theorem JB {α:Type} (l m:List α) (n:Nat) (h:n+m.length<=l.length):(fS l n m).length=l.length:=by
 simp [fS];omega
theorem aAf (hE:eJ s e pe) (hS:cU s ps) {esz:Nat} {x yy:gE} (h:pH e s z (.append esz x yy) k ρ w=some y):iY s ps (bN pe ps z (.append esz x yy)) k ρ w y:=by
 simp only [pH] at h;have hx:=eC hE x;have hyv:=eC hE yy;unfold aBh at h;generalize bZ e yy=vy at h hyv;cases hc:GT s vy with
 |none=>rw [hc] at h;cases h
 |some cc=>
  obtain ⟨q,m⟩:=cc;rw [hc] at h;dsimp only at h;obtain ⟨he,h⟩:=dG h;have he:=bm he;obtain ⟨hro,htk⟩:=aBq hS hyv hc;rw [he] at hro;have pe_app:bN pe ps z (.append esz x yy)=kQ ps z esz (x.ev pe) (yy.ev pe):=rfl;generalize bZ e x=v at h hx;cases v with
  |nil e' c=>
   dsimp only at h;obtain ⟨hcl,h⟩:=dG h;obtain ⟨m',hm',hk⟩:=cZ h;obtain ⟨rfl,hle⟩:=HR hm';refine ⟨_,_,?_,iZ.new hS (b:= .arr q m') (q:= .arr esz (m'.map (RT.pv q))) (v:= .own s.length false) (p:= .own s.length esz 0 m'.length m'.length false) (rd:=CA vy) (by rw [<- he];rfl) ⟨esz,m'.length,rfl,.inl ⟨q,m',pL,he.symm,rfl⟩⟩,hk⟩
   rw [pe_app];have hcl':c=true:=hcl;subst hcl';rw [show x.ev pe= .sl e' true [] from hx];unfold kQ;rw [hro];cases m' with
   |nil=>simp [hS.len,htk]
   |cons a m'=>
    have h2:cd ((a::m').length) most=true:=by simp [most] at hle ⊢;omega
    simp only [cp] at h2;simp [hS.len,htk,h2]
  |own t ex=>
   dsimp only at h;simp only [cM] at h;generalize hst:s[t]? =b at h;cases b with
   |none=>cases h
   |some b=>
    cases b with
    |arr r l=>
     dsimp only at h;cases hca:xR q r m with
     |none=>rw [hca] at h;cases h
     |some m2=>
      rw [hca] at h;dsimp only at h;obtain ⟨rfl,hmp,hml⟩:=I3 hca;obtain ⟨e',n',hx,hat⟩:=hx;obtain ⟨rfl,rfl⟩:=hat.inv hst;rw [<- hmp] at hro;have harr:=hS.arr hst;cases ex with
      |true=>
       dsimp only at h;rcases fV h with ⟨hl,h⟩|⟨hl,h⟩
       · obtain ⟨m',hm',hk⟩:=cZ h
         obtain ⟨rfl,hle⟩:=HR hm';have hl:l=[]:=by simpa using hl
         subst hl;refine ⟨_,_,?_,iZ.new hS (b:= .arr q m') (q:= .arr q.length (m'.map (RT.pv q))) (v:= .own s.length false) (p:= .own s.length q.length 0 m'.length m'.length false) (rd:=t::CA vy) rfl ⟨q.length,m'.length,rfl,.inl ⟨q,m',pL,rfl,rfl⟩⟩,hk⟩;rw [pe_app,hx];unfold kQ;rw [hro];subst he;cases m' with
         |nil=>simp [hS.len,htk]
         |cons a m'=>
          have h2:cd ((a::m').length) most=true:=by simp [most] at hle ⊢;omega
          simp only [cp] at h2;simp [hS.len,htk,h2,harr]
       have hl:l≠[]:=by intro e;subst e;cases hl
       have hl0:l.length≠0:=by intro e;exact hl (d7.1 e)
       have hb0:ce l.length 0=false:=by
        cases hb:ce l.length 0 with
        |false=>rfl
        |true=>exact absurd (bm hb) hl0
       rcases fV h with ⟨hm,h⟩|⟨hm,h⟩
       · have hm:m2=[]:=by simpa using hm
         subst hm;refine iY.rd hS h ?_ ⟨_,_,rfl,hat⟩;rw [pe_app,hx];unfold kQ;rw [hro];simp [hb0,htk]
       obtain ⟨l',hl',hk⟩:=cZ h
       obtain ⟨rfl,hle⟩:=EK hl';refine ⟨_,_,?_,iZ.new hS (b:= .arr q (l++m2)) (q:= .arr q.length ((l++m2).map (RT.pv q))) (v:= .own s.length false) (p:= .own s.length q.length 0 (l++m2).length (l++m2).length false) (rd:=t::CA vy) rfl ⟨q.length,(l++m2).length,rfl,.inl ⟨q,l++m2,pL,rfl,rfl⟩⟩,hk⟩;rw [pe_app,hx];unfold kQ;rw [hro];subst he;cases m2 with
       |nil=>cases hm
       |cons a m2=>
        have h2:cd (l.length+(a::m2).length) most=true:=by simp [most] at hle ⊢;omega
        have h3:cd (l.length+(m2.length+1)) l.length=false:=by
         cases hb:cd (l.length+(m2.length+1)) l.length with
         |false=>rfl
         |true=>have:=ci hb;omega
        simp only [cp] at h2;simp [hS.len,htk,h2,h3,harr,de]
      |false=>
       dsimp only at h;rcases fV h with ⟨hm,h⟩|⟨hm,h⟩
       · have hm:m2=[]:=by simpa using hm
         subst hm;refine iY.rd hS h ?_ ⟨_,_,rfl,hat⟩;rw [pe_app,hx];unfold kQ;rw [hro];simp [htk]
       obtain ⟨hz,h⟩:=xG h
       obtain ⟨l',hl',hk⟩:=cZ h;obtain ⟨rfl,hle⟩:=EK hl';have hlen:(J6 [t] (s.set t .dead)).length=s.length:=by rw [CC];simp
       refine ⟨_,_,?_,iZ.put hS (b:= .dead) (q:= .dead) (l:=[.arr q (l++m2)]) (ql:=[.arr q.length ((l++m2).map (RT.pv q))]) (v:= .own s.length false) (p:= .own s.length q.length 0 (l++m2).length (l++m2).length false) (rd:=CA vy) hst (.inr rfl) rfl rfl
        (fun j b hj=>by
         cases j with
         |zero=>simp at hj;subst hj;exact ⟨_,rfl,rfl⟩
         |succ j=>simp at hj)
        ⟨q.length,(l++m2).length,rfl,.inl ⟨q,l++m2,by rw [<- hlen];exact pL,rfl,rfl⟩⟩,hk⟩
       rw [pe_app,hx];unfold kQ;rw [hro];subst he;cases m2 with
       |nil=>cases hm
       |cons a m2=>
        have h2:cd (l.length+(a::m2).length) most=true:=by simp [most] at hle ⊢;omega
        have h3:cd (l.length+(m2.length+1)) l.length=false:=by
         cases hb:cd (l.length+(m2.length+1)) l.length with
         |false=>rfl
         |true=>have:=ci hb;omega
        simp only [cp] at h2;simp [hS.len,htk,h2,h3,harr,hz,de]
    |_=>cases h
  |pre t len cap ex=>
   dsimp only at h;simp only [cM] at h;generalize hst:s[t]? =b at h;cases b with
   |none=>cases h
   |some b=>
    cases b with
    |arr r l=>
     dsimp only at h;cases hca:xR q r m with
     |none=>rw [hca] at h;cases h
     |some m2=>
      rw [hca] at h;dsimp only at h;obtain ⟨rfl,hmp,hml⟩:=I3 hca;obtain ⟨e',hx,hat⟩:=hx
      have:=hat.inv hst
      subst this;rw [<- hmp] at hro;have harr:=hS.arr hst;obtain ⟨hex,h⟩:=xG h;subst hex;rcases fV h with ⟨hm,h⟩|⟨hm,h⟩
      · have hm:m2=[]:=by simpa using hm
        subst hm;refine iY.rd hS h ?_ ⟨_,rfl,hat⟩;rw [pe_app,hx];unfold kQ;rw [hro];simp [htk]
      rcases fV h with ⟨c1,h⟩|⟨c1,h⟩
      · obtain ⟨hc2,hk⟩:=jV h
        simp only [bn,cm] at hc2;obtain ⟨c2,c3⟩:=hc2;have c2':=ci c2
        refine ⟨_,_,?_,iZ.put hS (b:= .arr q (fS l len m2)) (q:= .arr q.length ((fS l len m2).map (RT.pv q))) (l:=[]) (ql:=[]) (v:= .pre t (len+m2.length) cap false) (p:= .own t q.length 0 (len+m2.length) cap false) (rd:=CA vy) hst (.inl ⟨_,rfl,JB _ _ _ c2'⟩) rfl rfl
         (fun j b hj=>by simp at hj) ⟨q.length,rfl,?_⟩,hk⟩
        · rw [pe_app,hx]
          unfold kQ;rw [hro];subst he;have hsr:nQ (0+len) (m2.map (RT.pv q)) (l.map (RT.pv q))=(fS l len m2).map (RT.pv q):=by
           rw [zN _ _ _ (by simp;omega),OM,d8]
          cases m2 with
          |nil=>cases hm
          |cons a m2=>
           simp only [cp] at c1;simp only [cy] at hsr ⊢;simp only [harr,c6,fj,cf,if_false,cp,cw,c1,if_true,c3,hsr,htk]
        have:=GW.fr' (s:=s) (s':=J6 [t] (s.set t (.arr q (fS l len m2)))++[]) hat ((Fr.dg (ts:=[t]) (Fr.set hst (.inl ⟨_,rfl,JB _ _ _ c2'⟩))).trans (Fr.app [t] _ []))
        exact this
      obtain ⟨hz0,h⟩:=xG h
      have hz:has z t=false:=by
       cases hh:has z t with
       |false=>rfl
       |true=>rw [hh] at hz0;cases hz0
      obtain ⟨l',hl',h⟩:=cZ h;obtain ⟨hll,hk⟩:=jV h;obtain ⟨hl'e,hle⟩:=EK hl';subst hl'e;have hll':=ci hll;have htl:(l.take len).length=len:=by rw [dc];omega
      rw [htl] at hle;have hlen:(J6 [t] (s.set t .dead)).length=s.length:=by rw [CC];simp
      have hal:(l.take len++m2).length=len+m2.length:=by rw [ei,htl]
      refine ⟨_,_,?_,iZ.put hS (b:= .dead) (q:= .dead) (l:=[.arr q (l.take len++m2)]) (ql:=[.arr q.length ((l.take len++m2).map (RT.pv q))]) (v:= .own s.length false) (p:= .own s.length q.length 0 (l.take len++m2).length (l.take len++m2).length false) (rd:=CA vy) hst (.inr rfl) rfl rfl
       (fun j b hj=>by
        cases j with
        |zero=>simp at hj;subst hj;exact ⟨_,rfl,rfl⟩
        |succ j=>simp at hj)
       ⟨q.length,(l.take len++m2).length,rfl,.inl ⟨q,l.take len++m2,by rw [<- hlen];exact pL,rfl,rfl⟩⟩,hk⟩
      rw [pe_app,hx];unfold kQ;rw [hro];subst he;cases m2 with
      |nil=>cases hm
      |cons a m2=>
       have h2:cd (len+(m2.length+1)) most=true:=by simp [most] at hle ⊢;omega
       simp only [cp] at c1 hal;simp only [cy,cp,cw,harr,c6,fj,cf,if_false,c1,h2,hz,hS.len,htk,hal,dh,dj,dd]
    |_=>cases h
  |_=>cases h
end
end Go.Vm
/- Operation by operation: all of them. -/
namespace Go.Vm
section
variable {R' ρ : Type} {w : R' -> ρ} {y : ρ} {s : List SB} {ps : cT} {e : SE} {pe : zA} {z : List Nat} {k : gX -> iJ R'}
theorem aCY (hE:eJ s e pe) (hS:cU s ps) {esz:Nat} {zero:qF} {x:gE} (h:pH e s z (.clear esz zero x) k ρ w=some y):iY s ps (bN pe ps z (.clear esz zero x)) k ρ w y:=by
 simp only [pH] at h;have hx:=eC hE x;unfold aEa at h;generalize bZ e x=v at h hx;cases v with
 |part t off len cap ex=>
  simp only [cM] at h;generalize hst:s[t]? =b at h;cases b with
  |none=>cases h
  |some b=>
   cases b with
   |arr r l=>
    dsimp only at h;cases hq:N4 zero with
    |none=>rw [hq] at h;cases h
    |some q=>
     rw [hq] at h;dsimp only at h;obtain ⟨hc,h1⟩:=dG h;simp only [bn] at hc;obtain ⟨hqr,he⟩:=hc;have hqr:=BJ hqr;have he:=bm he;obtain ⟨e',hx,hat⟩:=hx
     have:=hat.inv hst
     subst this;subst hqr;subst he;rcases fV h1 with ⟨hl,hk⟩|⟨hl,hk⟩
     · have hl:=bm hl
       subst hl;exact iY.val hS hk (by simp only [bN,hx]) rfl
     obtain ⟨hc2,hk⟩:=jV hk
     simp only [bn,cm] at hc2;obtain ⟨c1,c2⟩:=hc2;have c1':=ci c1;have hlen:=JB l (db len (RT.zero q)) off (by simpa using c1')
     refine ⟨_,_,?_,iZ.put0 hS (b:= .arr q (fS l off (db len (RT.zero q)))) (q:= .arr q.length ((fS l off (db len (RT.zero q))).map (RT.pv q))) (rd:=[]) hst (.inl ⟨_,rfl,hlen⟩) rfl,hk⟩;cases len with
     |zero=>cases hl
     |succ len=>
      have hsr:nQ off (db (len+1) zero) (l.map (RT.pv q))=(fS l off (db (len+1) (RT.zero q))).map (RT.pv q):=by
       rw [OM,zN _ _ _ (by simpa using c1')]
       simp [I8 hq]
      simp only [bN,hx,hS.arr hst,c6,c2,dp,cz,if_true,hsr]
   |_=>cases h
 |_=>cases h
theorem HS (hS:cU s ps) {t off len cap:Nat} {ex:Bool} {r:List PT} {l:List (RT r)} {x yy:gE} {vy:SV} (hst:s[t]? =some (.arr r l)) (hx:x.ev pe= .own t r.length off len cap ex) (hyv:R s vy (yy.ev pe))
 (h:N5 s z t r l off len vy k ρ w=some y):iY s ps (bN pe ps z (.copy r.length x yy)) k ρ w y:=by
 unfold N5 at h;cases hc:GT s vy with
 |none=>rw [hc] at h;cases h
 |some cc=>
  obtain ⟨q,m⟩:=cc;rw [hc] at h;dsimp only at h;cases hca:xR q r m with
  |none=>rw [hca] at h;cases h
  |some m2=>
   rw [hca] at h;dsimp only at h;obtain ⟨hqr,hmp,hml⟩:=I3 hca;subst hqr;obtain ⟨hro,htk⟩:=aBq hS hyv hc;rw [<- hmp] at hro;have htake:(m2.map (RT.pv q)).take len=(m2.take len).map (RT.pv q):=by rw [dd]
   generalize m2.take len=mm at h htake;rcases fV h with ⟨hm,hk⟩|⟨hm,hk⟩
   · have hm:mm=[]:=by simpa using hm
     subst hm;refine iY.rd hS hk ?_ rfl;simp only [bN,hro,hx,htake,fw,htk]
   obtain ⟨hc2,hk⟩:=jV hk
   simp only [bn,cm] at hc2;obtain ⟨c1,c2⟩:=hc2;have c1':=ci c1;have hlen:=JB l mm off c1'
   refine ⟨_,_,?_,iZ.put hS (b:= .arr q (fS l off mm)) (q:= .arr q.length ((fS l off mm).map (RT.pv q))) (l:=[]) (ql:=[]) (v:= .int .i64 (.ofNat mm.length)) (p:= .int .i64 (.ofNat mm.length)) (rd:=CA vy) hst (.inl ⟨_,rfl,hlen⟩) rfl rfl (fun j b hj=>by simp at hj) rfl,hk⟩
   have hsr:nQ off (mm.map (RT.pv q)) (l.map (RT.pv q))=(fS l off mm).map (RT.pv q):=by
    rw [OM,zN _ _ _ (by simpa using c1')]
   cases mm with
   |nil=>cases hm
   |cons a mm=>
    simp only [cy] at hsr htake;simp only [bN,hro,hx,htake,hS.arr hst,c6,c2,dp,cz,if_true,hsr,htk,cw,cp]
theorem aEy (hE:eJ s e pe) (hS:cU s ps) {esz:Nat} {x yy:gE} (h:pH e s z (.copy esz x yy) k ρ w=some y):iY s ps (bN pe ps z (.copy esz x yy)) k ρ w y:=by
 simp only [pH] at h;have hx:=eC hE x;have hyv:=eC hE yy;unfold aNF at h;generalize bZ e yy=vy at h hyv;generalize bZ e x=v at h hx;cases v with
 |own t ex=>
  simp only [cM] at h;generalize hst:s[t]? =b at h;cases b with
  |none=>cases h
  |some b=>
   cases b with
   |arr r l=>
    obtain ⟨he,hk⟩:=dG h;have he:=bm he;subst he;obtain ⟨e',n',hx,hat⟩:=hx;obtain ⟨rfl,rfl⟩:=hat.inv hst;exact HS hS hst hx hyv hk
   |_=>cases h
 |pre t len cap ex=>
  simp only [cM] at h;generalize hst:s[t]? =b at h;cases b with
  |none=>cases h
  |some b=>
   cases b with
   |arr r l=>
    obtain ⟨he,hk⟩:=dG h;have he:=bm he;subst he;obtain ⟨e',hx,hat⟩:=hx
    have:=hat.inv hst
    subst this;exact HS hS hst hx hyv hk
   |_=>cases h
 |part t off len cap ex=>
  simp only [cM] at h;generalize hst:s[t]? =b at h;cases b with
  |none=>cases h
  |some b=>
   cases b with
   |arr r l=>
    obtain ⟨he,hk⟩:=dG h;have he:=bm he;subst he;obtain ⟨e',hx,hat⟩:=hx
    have:=hat.inv hst
    subst this;exact HS hS hst hx hyv hk
   |_=>cases h
 |_=>cases h
theorem aCZ (hE:eJ s e pe) (hS:cU s ps) {x1 x2:gE} (h:pH e s z (.mkbox x1 x2) k ρ w=some y):iY s ps (bN pe ps z (.mkbox x1 x2)) k ρ w y:=by
 simp only [pH] at h;have hx:=eC hE x1;have hy:=eC hE x2;generalize bZ e x1=v at h hx;generalize bZ e x2=u at h hy;cases v with
 |sl r l=>
  cases u with
  |sl q m=>
   have hx:x1.ev pe= .sl r.length false (l.map (RT.pv r)):=hx;have hy:x2.ev pe= .sl q.length false (m.map (RT.pv q)):=hy
   refine ⟨_,_,?_,iZ.new hS (b:= .box [.sl r l,.sl q m]) (q:= .box [.sl r.length false (l.map (RT.pv r)),.sl q.length false (m.map (RT.pv q))]) (v:= .part s.length 0 2 2 true) (p:= .own s.length 1 0 2 2 true) (rd:=[]) ⟨_,rfl,_,_,rfl,rfl,_,_,rfl,rfl,rfl⟩ ⟨1,rfl,.inr (.inr ⟨_,pL,rfl⟩)⟩,h⟩;simp only [bN,hx,hy,hS.len];rfl
  |_=>cases h
 |_=>cases h
theorem aGA (hE:eJ s e pe) (hS:cU s ps) {op:nP} (h:pH e s z op k ρ w=some y):iY s ps (bN pe ps z op) k ρ w y:=by
 cases op with
 |mov x=>exact iY.val hS h rfl (eC hE x)
 |pick c a b=>exact aEs hE hS h
 |bin op a b=>exact aGp hE hS h
 |binb n a b=>exact aEn hE hS h
 |eqc n g a b=>exact aGq hE hS h
 |un op a=>exact aOb hE hS h
 |conv a x=>exact aEp hE hS h
 |len x=>exact aGr hE hS h
 |lenc n=>exact iY.val hS h rfl rfl
 |box x=>exact aGs hE hS h
 |alloc c=>exact aCU hS h
 |build z p=>exact aCT hE hS h
 |mkrow a b c d=>exact aCX hE hS h
 |mkbox a b=>exact aCZ hE hS h
 |load a p=>exact aEv hE hS h
 |store a p x=>exact aCW hE hS h
 |nilc x=>exact aEq hE hS h
 |fadr o x=>exact aEr hE hS h
 |fld a o x=>exact aGt hE hS h
 |iadr a x i=>exact aEt hE hS h
 |iadra n a x i=>exact aCV hE hS h
 |idx n a g x i=>exact aGx hE hS h
 |sidx x i=>exact aEu hE hS h
 |slc a x l h' m=>exact aGy hE hS h
 |mks a z l c=>exact aGz hE hS h
 |mkf f a b=>exact aGv hE hS h
 |mkm m=>exact aGw hS h
 |lookup n z o m q=>exact aAe hE hS h
 |mapu n m q x=>exact aEx hE hS h
 |ext i x=>exact aGu hE hS h
 |append a x b=>exact aAf hE hS h
 |copy a x b=>exact aEy hE hS h
 |clear a z x=>exact aCY hE hS h
 |mm m x xs=>exact aOc hE hS h
 |call m f a=>cases h
 |callv x a=>cases h
 |bad=>cases h
mutual
theorem aUr {bx:Nat->Option (List SV)} {pbx:Nat->Option (List PV)} (hS:cU s ps) (hb: ∀t l,bx t=some l-> ∃q,pbx t=some q/\pvL l=some q): ∀{v u:SV} {p:PV},R s v p->RK s bx v=some u-> ∃q,J8 ps pbx p=some q/\xS u=some q
 | .int k n,u,p,h,hx=>by injection hx with hx;subst hx;rw [show p=_ from h];exact ⟨_,rfl,rfl⟩
 | .bool b,u,p,h,hx=>by injection hx with hx;subst hx;rw [show p=_ from h];exact ⟨_,rfl,rfl⟩
 | .str x,u,p,h,hx=>by injection hx with hx;subst hx;rw [show p=_ from h];exact ⟨_,rfl,rfl⟩
 | .nilf,u,p,h,hx=>by injection hx with hx;subst hx;rw [show p=_ from h];exact ⟨_,rfl,rfl⟩
 | .agg cs,u,p,h,hx=>by
  obtain ⟨q,rfl,h⟩:=h;simp only [RK] at hx;split at hx
  · rename_i l hl
    injection hx with hx;subst hx;obtain ⟨q',h1,h2⟩:=exVL_R hS hb h hl;exact ⟨.agg q',by simp only [J8,h1];rfl,by simp only [xS,h2]⟩
  cases hx
 | .tup cs,u,p,h,hx=>by
  obtain ⟨q,rfl,h⟩:=h;simp only [RK] at hx;split at hx
  · rename_i l hl
    injection hx with hx;subst hx;obtain ⟨q',h1,h2⟩:=exVL_R hS hb h hl;exact ⟨.tup q',by simp only [J8,h1];rfl,by simp only [xS,h2]⟩
  cases hx
 | .sl r l,u,p,h,hx=>by injection hx with hx;subst hx;rw [show p=_ from h];exact ⟨_,rfl,rfl⟩
 | .nil e c,u,p,h,hx=>by injection hx with hx;subst hx;rw [show p=_ from h];exact ⟨_,rfl,rfl⟩
 | .own t ex,u,p,h,hx=>by
  simp only [RK,cM] at hx;split at hx
  · rename_i r l hst
    injection hx with hx;subst hx;obtain ⟨e,n,rfl,hat⟩:=h;obtain ⟨rfl,rfl⟩:=hat.inv hst;refine ⟨.sl r.length false (l.map (RT.pv r)),?_,rfl⟩;simp only [J8,hS.arr hst,dh];rw [de (by simp)]
  cases hx
 | .pre t len cap ex,u,p,h,hx=>by
  simp only [RK,cM] at hx;split at hx
  · rename_i r l hst
    injection hx with hx;subst hx;obtain ⟨e,rfl,hat⟩:=h
    have:=hat.inv hst
    subst this;refine ⟨.sl r.length false ((l.take len).map (RT.pv r)),?_,rfl⟩;simp only [J8,hS.arr hst,dh,dd]
  cases hx
 | .part t off len cap ex,u,p,h,hx=>by
  simp only [RK,cM] at hx;split at hx
  · rename_i r l hst
    injection hx with hx;subst hx;obtain ⟨e,rfl,hat⟩:=h
    have:=hat.inv hst
    subst this;refine ⟨.sl r.length false (((l.drop off).take len).map (RT.pv r)),?_,rfl⟩;simp only [J8,hS.arr hst,dd,dy]
  cases hx
 | .pa t r i a off,u,p,h,hx=>by
  simp only [RK,cM] at hx;split at hx
  · rename_i q l hst
    injection hx with hx;subst hx;obtain ⟨rfl,hat⟩:=h;obtain ⟨rfl,hg⟩:=hat.inv hst;obtain ⟨m,rfl,hm⟩:=qU hg;refine ⟨.rptr (RT.pv r a) off,?_,by simp only [xS,RT.pv_sv]⟩
    have hm':(l.map (RT.pv r))[m]? =some (RT.pv r a):=by simp [hm]
    have e1:(dm m).toNat=m:=rfl;simp only [J8,hS.arr hst,e1,hm'];rfl
  cases hx
 | .bp t n off,u,p,h,hx=>by
  simp only [RK,cM] at hx;split at hx
  · rename_i cs hst
    split at hx
    · rename_i l hl
      injection hx with hx;subst hx;rw [show p=_ from h];obtain ⟨q,h1,h2⟩:=hb t l hl;obtain ⟨c,h3,_⟩:=hS.box hst;refine ⟨.rptr q off,?_,by simp only [xS,h2]⟩
      simp only [J8,h3,c6,if_true,h1];rfl
    cases hx
  cases hx
 | .rptr cs off,u,p,h,hx=>by
  obtain ⟨q,rfl,h⟩:=h;simp only [RK] at hx;split at hx
  · rename_i l hl
    injection hx with hx;subst hx;obtain ⟨q',h1,h2⟩:=exVL_R hS hb h hl;exact ⟨.rptr q' off,by simp only [J8,h1];rfl,by simp only [xS,h2]⟩
  cases hx
 | .clo f a b,u,p,h,hx=>by
  obtain ⟨pa,pb,rfl,h1,h2⟩:=h;simp only [RK] at hx;split at hx
  · rename_i x y' h3 h4
    injection hx with hx;subst hx;obtain ⟨qa,h5,h6⟩:=exVL_R hS hb h1 h3;obtain ⟨qb,h7,h8⟩:=exVL_R hS hb h2 h4;exact ⟨.clo f qa qb,by simp only [J8,h5,h7],by simp only [xS,h6,h8]⟩
  cases hx
 | .junk,_,_,_,hx| .undef,_,_,_,hx| .nul,_,_,_,hx| .pb _ _ _,_,_,_,hx| .mp _,_,_,_,hx=>by cases hx
theorem exVL_R {bx:Nat->Option (List SV)} {pbx:Nat->Option (List PV)} (hS:cU s ps) (hb: ∀t l,bx t=some l-> ∃q,pbx t=some q/\pvL l=some q): ∀{v u:List SV} {p:List PV},RL s v p->exVL s bx v=some u-> ∃q,exL ps pbx p=some q/\pvL u=some q
 | [],u,p,h,hx=>by injection hx with hx;subst hx;rw [show p=_ from h];exact ⟨_,rfl,rfl⟩
 |x::xs,u,p,h,hx=>by
  obtain ⟨q,qs,rfl,h1,h2⟩:=h.cons_inv;simp only [exVL] at hx;split at hx
  · rename_i y' ys h3 h4
    injection hx with hx;subst hx;obtain ⟨a,h5,h6⟩:=aUr hS hb h1 h3;obtain ⟨as,h7,h8⟩:=exVL_R hS hb h2 h4;exact ⟨a::as,by simp only [exL,h5,h7],fD.2 ⟨a,as,rfl,h6,h8⟩⟩
  cases hx
end
theorem MV (hS:cU s ps): ∀(n t:Nat) (l:List SV),nF s n t=some l-> ∃q,D3 ps n t=some q/\pvL l=some q
 |0,t,l,h=>by cases h
 |n+1,t,l,h=>by
  simp only [nF,cM] at h;split at h
  · rename_i cs hst
    obtain ⟨q,h1,h2⟩:=hS.box hst;obtain ⟨u,h3,h4⟩:=exVL_R hS (MV hS n) h2 h;exact ⟨u,by simp only [D3,h1,h3],h4⟩
  cases h
mutual
theorem aEz {bx pbx:Nat->List Nat} (hb: ∀t,bx t=pbx t): ∀{v:SV} {p:PV},R s v p->v.sure=true->Z4 bx v=kX pbx p
 | .junk,_,_,h=>by cases h
 | .undef,p,h,_| .nul,p,h,_| .nilf,p,h,_| .int _ _,p,h,_| .bool _,p,h,_| .str _,p,h,_| .sl _ _,p,h,_| .nil _ _,p,h,_=>by rw [show p=_ from h];rfl
 | .agg cs,p,h,hs=>by obtain ⟨q,rfl,h⟩:=h;exact tkVL_R hb h hs
 | .tup cs,p,h,hs=>by obtain ⟨q,rfl,h⟩:=h;exact tkVL_R hb h hs
 | .own t ex,p,h,_=>by obtain ⟨e,n,rfl,_⟩:=h;rfl
 | .pre t a b c,p,h,_=>by obtain ⟨e,rfl,_⟩:=h;rfl
 | .part t o a b c,p,h,_=>by obtain ⟨e,rfl,_⟩:=h;rfl
 | .pa t r i a o,p,h,_=>by obtain ⟨rfl,_⟩:=h;simp only [Z4,kX,hb]
 | .pb t i o,p,h,_=>by obtain ⟨e,rfl,_⟩:=h;simp only [Z4,kX,hb]
 | .bp t n o,p,h,_=>by rw [show p=_ from h];simp only [Z4,kX,hb]
 | .rptr cs o,p,h,hs=>by obtain ⟨q,rfl,h⟩:=h;exact tkVL_R hb h hs
 | .mp t,p,h,_=>by rw [show p=_ from h];rfl
 | .clo f a b,p,h,hs=>by
  obtain ⟨pa,pb,rfl,h1,h2⟩:=h;simp only [SV.sure,bn] at hs;simp only [Z4,kX,tkVL_R hb h1 hs.1,tkVL_R hb h2 hs.2]
theorem tkVL_R {bx pbx:Nat->List Nat} (hb: ∀t,bx t=pbx t): ∀{v:List SV} {p:List PV},RL s v p->sureL v=true->tkVL bx v=toksL pbx p
 | [],p,h,_=>by rw [show p=_ from h];rfl
 |x::xs,p,h,hs=>by
  obtain ⟨q,qs,rfl,h1,h2⟩:=h.cons_inv;simp only [sureL,bn] at hs;simp only [tkVL,toksL,aEz hb h1 hs.1,tkVL_R hb h2 hs.2]
end
end
end Go.Vm
/- The head of a loop: what the typed machine keeps there, the logical machine keeps there. -/
namespace Go.Vm
section
variable {s : List SB} {ps : cT}
mutual
theorem aUs {n:Nat} (hS:cU s ps) (hB: ∀t l,nF s n t=some l->D0 s n t=dP ps n t): ∀{v u:SV} {p:PV},R s v p->RK s (nF s n) v=some u->Z4 (D0 s n) v=kX (dP ps n) p
 | .int _ _,_,p,h,_| .bool _,_,p,h,_| .str _,_,p,h,_| .nilf,_,p,h,_| .sl _ _,_,p,h,_| .nil _ _,_,p,h,_=>by rw [show p=_ from h];rfl
 | .agg cs,u,p,h,hx=>by
  obtain ⟨q,rfl,h⟩:=h;simp only [RK] at hx;split at hx
  · rename_i l hl;exact tkExL hS hB h hl
  cases hx
 | .tup cs,u,p,h,hx=>by
  obtain ⟨q,rfl,h⟩:=h;simp only [RK] at hx;split at hx
  · rename_i l hl;exact tkExL hS hB h hl
  cases hx
 | .own t ex,_,p,h,_=>by obtain ⟨e,n,rfl,_⟩:=h;rfl
 | .pre t a b c,_,p,h,_=>by obtain ⟨e,rfl,_⟩:=h;rfl
 | .part t o a b c,_,p,h,_=>by obtain ⟨e,rfl,_⟩:=h;rfl
 | .pa t r i a o,_,p,h,hx=>by
  obtain ⟨rfl,hat⟩:=h;simp only [RK,cM] at hx;split at hx
  · rename_i q l hst
    simp only [Z4,kX];cases n with
    |zero=>rfl
    |succ n=>simp only [D0,dP,cM,hst,hS.arr hst]
  cases hx
 | .bp t m o,u,p,h,hx=>by
  rw [show p=_ from h];simp only [RK,cM] at hx;split at hx
  · split at hx
    · rename_i l hl
      simp only [Z4,kX,hB t l hl]
    cases hx
  cases hx
 | .rptr cs o,u,p,h,hx=>by
  obtain ⟨q,rfl,h⟩:=h;simp only [RK] at hx;split at hx
  · rename_i l hl;exact tkExL hS hB h hl
  cases hx
 | .clo f a b,u,p,h,hx=>by
  obtain ⟨pa,pb,rfl,h1,h2⟩:=h;simp only [RK] at hx;split at hx
  · rename_i x y h3 h4
    simp only [Z4,kX,tkExL hS hB h1 h3,tkExL hS hB h2 h4]
  cases hx
 | .junk,_,_,_,hx| .undef,_,_,_,hx| .nul,_,_,_,hx| .pb _ _ _,_,_,_,hx| .mp _,_,_,_,hx=>by cases hx
theorem tkExL {n:Nat} (hS:cU s ps) (hB: ∀t l,nF s n t=some l->D0 s n t=dP ps n t): ∀{v u:List SV} {p:List PV},RL s v p->exVL s (nF s n) v=some u->tkVL (D0 s n) v=toksL (dP ps n) p
 | [],_,p,h,_=>by rw [show p=_ from h];rfl
 |x::xs,u,p,h,hx=>by
  obtain ⟨q,qs,rfl,h1,h2⟩:=h.cons_inv;simp only [exVL] at hx;split at hx
  · rename_i a b h3 h4
    simp only [tkVL,toksL,aUs hS hB h1 h3,tkExL hS hB h2 h4]
  cases hx
end
theorem aEA {n:Nat} (hS:cU s ps) (hB: ∀t l,nF s n t=some l->D0 s n t=dP ps n t): ∀{v:List SV} {p:List PV},RL s v p->Z3 s (nF s n) v=true->tkVL (D0 s n) v=toksL (dP ps n) p
 | [],p,h,_=>by rw [show p=[] from h];rfl
 |x::xs,p,h,hx=>by
  obtain ⟨a,as,rfl,h1,h2⟩:=h.cons_inv;have other: ∀u,RK s (nF s n) x=some u->Z3 s (nF s n) xs=true->tkVL (D0 s n) (x::xs)=toksL (dP ps n) (a::as):=fun u h3 h4=>by
   simp only [tkVL,toksL,aUs hS hB h1 h3,aEA hS hB h2 h4]
  unfold Z3 at hx;split at hx
  · rename_i t
    rw [show a= .mp t from h1];simp only [tkVL,toksL,Z4,kX,aEA hS hB h2 hx]
  split at hx
  · rename_i u h3
    exact other u h3 hx
  cases hx
theorem ON (hS:cU s ps): ∀(n t:Nat) (l:List SV),nF s n t=some l->D0 s n t=dP ps n t
 |0,t,l,h=>rfl
 |n+1,t,l,h=>by
  simp only [nF,cM] at h;split at h
  · rename_i cs hst
    obtain ⟨q,h1,h2⟩:=hS.box hst;simp only [D0,dP,cM,hst,h1];exact tkExL hS (ON hS n) h2 h
  cases h
theorem TW {b:SB} {q:mJ} (h:RB s b q) (hs:FT b=true):N6 b=wP q:=by
 cases b with
 |box cs=>obtain ⟨c,rfl,h⟩:=h;exact tkVL_R (fun _=>rfl) h hs
 |arr r l=>rw [show q=_ from h];rfl
 |set l=>rw [show q=_ from h];rfl
 |tab p l=>rw [show q=_ from h];rfl
 |dead=>rw [show q=_ from h];rfl
theorem OO (hS:cU s ps): ∀(n:Nat) (ts seen m:List Nat),KO s n ts seen=some m->IL ps n ts seen=some m
 |n,[],seen,m,h=>by
  cases n<;>(simp only [KO] at h;exact h)
 |0,_::_,_,_,h=>by cases h
 |n+1,t::ts,seen,m,h=>by
  simp only [KO,cM] at h;simp only [IL];cases hh:has seen t with
  |true=>rw [hh] at h;simp only [cond_true] at h;simp only [if_true];exact OO hS n ts seen m h
  |false=>
   rw [hh] at h;simp only [cond_false] at h;simp only [cf,if_false];split at h
   · rename_i b hst
     obtain ⟨q,h1,h2⟩:=hS.at_ t b hst;cases hb:FT b with
     |false=>rw [hb] at h;cases h
     |true=>
      rw [hb] at h;simp only [cond_true] at h;rw [h1,TW h2 hb] at*;exact OO hS n _ _ m h
   cases h
theorem OP: ∀{t u:Nat} {m:List Nat},vB t m=some u->m[u]? =some t
 |t,u,[],h=>by cases h
 |t,u,x::m,h=>by
  simp only [vB] at h;cases hb:ce x t with
  |true=>rw [hb] at h;simp at h;subst h;simp [bm hb]
  |false=>
   rw [hb] at h;simp only [cf,if_false,c7] at h;obtain ⟨v,hv,rfl⟩:=h;simpa using OP hv
def OQ (m:List Nat) (s s':List SB):Prop:= ∀(t u:Nat) (b:SB),vB t m=some u->s[t]? =some b->match b with
 | .arr r l=>s'[u]? =some (.arr r l)
 | .dead=>s'[u]? =some .dead
 | .box _=> ∃cs,s'[u]? =some (.box cs)
 |_=>True
mutual
theorem aEB {m:List Nat} {s':List SB} (hr:OQ m s s'): ∀{v u:SV} {p:PV},R s v p->vL m v=some u-> ∃q,ren m p=some q/\R s' u q
 | .junk,_,_,_,hx=>by cases hx
 | .undef,u,p,h,hx| .nul,u,p,h,hx| .nilf,u,p,h,hx| .int _ _,u,p,h,hx| .bool _,u,p,h,hx| .str _,u,p,h,hx| .sl _ _,u,p,h,hx| .nil _ _,u,p,h,hx=>by
  injection hx with hx;subst hx;rw [show p=_ from h];exact ⟨_,rfl,rfl⟩
 | .agg cs,u,p,h,hx=>by
  obtain ⟨q,rfl,h⟩:=h;simp only [vL] at hx;split at hx
  · rename_i l hl
    injection hx with hx;subst hx;obtain ⟨q',h1,h2⟩:=renVL_R hr h hl;exact ⟨.agg q',by simp only [ren,h1];rfl,q',rfl,h2⟩
  cases hx
 | .tup cs,u,p,h,hx=>by
  obtain ⟨q,rfl,h⟩:=h;simp only [vL] at hx;split at hx
  · rename_i l hl
    injection hx with hx;subst hx;obtain ⟨q',h1,h2⟩:=renVL_R hr h hl;exact ⟨.tup q',by simp only [ren,h1];rfl,q',rfl,h2⟩
  cases hx
 | .own t ex,u,p,h,hx=>by
  obtain ⟨e,n,rfl,hat⟩:=h;simp only [vL] at hx;split at hx
  · rename_i v hv
    injection hx with hx;subst hx;refine ⟨.own v e 0 n n ex,by simp only [ren,hv];rfl,e,n,rfl,?_⟩
    rcases hat with ⟨r,l,h1,h2,h3⟩|h1
    · exact .inl ⟨r,l,hr t v _ hv h1,h2,h3⟩
    exact .inr (hr t v _ hv h1)
  cases hx
 | .pre t len cap ex,u,p,h,hx=>by
  obtain ⟨e,rfl,hat⟩:=h;simp only [vL] at hx;split at hx
  · rename_i v hv
    injection hx with hx;subst hx;refine ⟨.own v e 0 len cap ex,by simp only [ren,hv];rfl,e,rfl,?_⟩
    rcases hat with ⟨r,l,h1,h2⟩|h1|⟨cs,h1,h2⟩
    · exact .inl ⟨r,l,hr t v _ hv h1,h2⟩
    · exact .inr (.inl (hr t v _ hv h1))
    obtain ⟨c2,h3⟩:=hr t v _ hv h1
    exact .inr (.inr ⟨c2,h3,h2⟩)
  cases hx
 | .part t off len cap ex,u,p,h,hx=>by
  obtain ⟨e,rfl,hat⟩:=h;simp only [vL] at hx;split at hx
  · rename_i v hv
    injection hx with hx;subst hx;refine ⟨.own v e off len cap ex,by simp only [ren,hv];rfl,e,rfl,?_⟩
    rcases hat with ⟨r,l,h1,h2⟩|h1|⟨cs,h1,h2⟩
    · exact .inl ⟨r,l,hr t v _ hv h1,h2⟩
    · exact .inr (.inl (hr t v _ hv h1))
    obtain ⟨c2,h3⟩:=hr t v _ hv h1
    exact .inr (.inr ⟨c2,h3,h2⟩)
  cases hx
 | .pa t r i a off,u,p,h,hx=>by
  obtain ⟨rfl,hat⟩:=h;simp only [vL] at hx;split at hx
  · rename_i v hv
    injection hx with hx;subst hx;refine ⟨.ptr v r.length i.toNat off,by simp only [ren,hv];rfl,r.length,rfl,?_⟩
    rcases hat with ⟨l,h1,h2⟩|h1
    · exact .inl ⟨r,l,hr t v _ hv h1,by rw [h2];rfl⟩
    exact .inr (hr t v _ hv h1)
  cases hx
 | .pb t i off,u,p,h,hx=>by
  obtain ⟨e,rfl,hat⟩:=h;simp only [vL] at hx;split at hx
  · rename_i v hv
    injection hx with hx;subst hx;refine ⟨.ptr v e i.toNat off,by simp only [ren,hv];rfl,e,rfl,?_⟩
    rcases hat with ⟨r,l,h1,h2⟩|h1
    · exact .inl ⟨r,l,hr t v _ hv h1,h2⟩
    exact .inr (hr t v _ hv h1)
  cases hx
 | .bp t n off,u,p,h,hx=>by
  rw [show p=_ from h];simp only [vL] at hx;split at hx
  · rename_i v hv
    injection hx with hx;subst hx;exact ⟨.ptr v n 0 off,by simp only [ren,hv];rfl,rfl⟩
  cases hx
 | .rptr cs off,u,p,h,hx=>by
  obtain ⟨q,rfl,h⟩:=h;simp only [vL] at hx;split at hx
  · rename_i l hl
    injection hx with hx;subst hx;obtain ⟨q',h1,h2⟩:=renVL_R hr h hl;exact ⟨.rptr q' off,by simp only [ren,h1];rfl,q',rfl,h2⟩
  cases hx
 | .mp t,u,p,h,hx=>by
  rw [show p=_ from h];simp only [vL] at hx;split at hx
  · rename_i v hv
    injection hx with hx;subst hx;exact ⟨.mp v,by simp only [ren,hv];rfl,rfl⟩
  cases hx
 | .clo f a b,u,p,h,hx=>by
  obtain ⟨pa,pb,rfl,h1,h2⟩:=h;simp only [vL] at hx;split at hx
  · rename_i x y h3 h4
    injection hx with hx;subst hx;obtain ⟨qa,h5,h6⟩:=renVL_R hr h1 h3;obtain ⟨qb,h7,h8⟩:=renVL_R hr h2 h4;exact ⟨.clo f qa qb,by simp only [ren,h5,h7],qa,qb,rfl,h6,h8⟩
  cases hx
theorem renVL_R {m:List Nat} {s':List SB} (hr:OQ m s s'): ∀{v u:List SV} {p:List PV},RL s v p->renVL m v=some u-> ∃q,renL m p=some q/\RL s' u q
 | [],u,p,h,hx=>by injection hx with hx;subst hx;rw [show p=_ from h];exact ⟨_,rfl,rfl⟩
 |x::xs,u,p,h,hx=>by
  obtain ⟨q,qs,rfl,h1,h2⟩:=h.cons_inv;simp only [renVL] at hx;split at hx
  · rename_i a b h3 h4
    injection hx with hx;subst hx;obtain ⟨a',h5,h6⟩:=aEB hr h1 h3;obtain ⟨b',h7,h8⟩:=renVL_R hr h2 h4;exact ⟨a'::b',by simp only [renL,h5,h7],RL.cons h6 h8⟩
  cases hx
end
theorem aOd {m:List Nat} {s':List SB} (hr:OQ m s s') {b c:SB} {q:mJ} (h:RB s b q) (hx:Z5 m b=some c): ∃q',rQ m q=some q'/\RB s' c q':=by
 cases b with
 |box cs=>
  obtain ⟨p,rfl,h⟩:=h;simp only [Z5] at hx;split at hx
  · rename_i l hl
    injection hx with hx;subst hx;obtain ⟨q',h1,h2⟩:=renVL_R hr h hl;exact ⟨.box q',by simp only [rQ,h1];rfl,q',rfl,h2⟩
  cases hx
 |arr r l=>injection hx with hx;subst hx;rw [show q=_ from h];exact ⟨_,rfl,rfl⟩
 |set l=>injection hx with hx;subst hx;rw [show q=_ from h];exact ⟨_,rfl,rfl⟩
 |tab p l=>injection hx with hx;subst hx;rw [show q=_ from h];exact ⟨_,rfl,rfl⟩
 |dead=>injection hx with hx;subst hx;rw [show q=_ from h];exact ⟨_,rfl,rfl⟩
theorem EL {m:List Nat}: ∀{ts:List Nat} {s1:List SB},QS s m ts=some s1->s1.length=ts.length/\ ∀(j t:Nat),ts[j]? =some t-> ∃b c,s[t]? =some b/\Z5 m b=some c/\s1[j]? =some c
 | [],s1,h=>by injection h with h;subst h;exact ⟨rfl,fun j t h=>by simp at h⟩
 |t::ts,s1,h=>by
  simp only [QS,cM] at h;split at h
  · rename_i b hb
    split at h
    · rename_i c r hc hr
      injection h with h;subst h;obtain ⟨h1,h2⟩:=EL hr;refine ⟨by simp [h1],fun j u hj=>?_⟩
      cases j with
      |zero=>simp at hj;subst hj;exact ⟨b,c,hb,hc,rfl⟩
      |succ j=>simpa using h2 j u (by simpa using hj)
    cases h
  cases h
theorem KS (hS:cU s ps) {m:List Nat} {s':List SB} (hr:OQ m s s'): ∀{ts:List Nat} {s1:List SB},QS s m ts=some s1-> ∃p1,D4 ps m ts=some p1/\p1.length=s1.length/\ ∀(j:Nat) (b:SB),s1[j]? =some b-> ∃q,p1[j]? =some q/\RB s' b q
 | [],s1,h=>by injection h with h;subst h;exact ⟨[],rfl,rfl,fun j b h=>by simp at h⟩
 |t::ts,s1,h=>by
  simp only [QS,cM] at h;split at h
  · rename_i b hb
    split at h
    · rename_i c r hc hr'
      injection h with h;subst h;obtain ⟨q,h1,h2⟩:=hS.at_ t b hb;obtain ⟨q',h3,h4⟩:=aOd hr h2 hc;obtain ⟨p1,h5,h6,h7⟩:=KS hS hr hr';refine ⟨q'::p1,by simp only [D4,h1,h3,h5],by simp [h6],fun j x hj=>?_⟩
      cases j with
      |zero=>simp at hj;subst hj;exact ⟨q',rfl,h4⟩
      |succ j=>simpa using h7 j x (by simpa using hj)
    cases h
  cases h
theorem OQ.of {m:List Nat} {s1 l:List SB} (h:QS s m m=some s1):OQ m s (s1++l):=fun t u b hu hb=>by
 have hm:=OP hu;obtain ⟨h1,h2⟩:=EL h;obtain ⟨b',c,h3,h4,h5⟩:=h2 u t hm;rw [hb] at h3;injection h3 with h3;subst h3;have hlt:=(bo.1 h5).1;cases b with
 |arr r l'=>injection h4 with h4;subst h4;rw [bq hlt];exact h5
 |dead=>injection h4 with h4;subst h4;rw [bq hlt];exact h5
 |box cs=>
  simp only [Z5] at h4;split at h4
  · injection h4 with h4;subst h4;exact ⟨_,by rw [bq hlt];exact h5⟩
  cases h4
 |_=>trivial
theorem BL: ∀(rk:List (Nat×List PT)) (n:Nat),(DQ rk n).length=n
 | [],n=>by simp [DQ]
 |(m,r)::q,n=>by
  simp only [DQ];cases hc:(ce m n&&ce r.length n) with
  |true=>simp only [bn] at hc;exact bm hc.2
  |false=>exact BL q n
theorem KT {rk:List (Nat×List PT)} {e:SE} {m:List Nat}: ∀{live:List (Nat×Option Nat)} {nx:Nat} {e1:SE} {s2:List SB},DR rk e m nx live=some (e1,s2)-> ∀(j:Nat) (b:SB),s2[j]? =some b-> ∃r,b= .arr r []
 | [],nx,e1,s2,h,j,b,hj=>by
  simp only [DR,bv,ck] at h;rw [<- h.2] at hj;simp at hj
 |(t,k)::live,nx,e1,s2,h,j,b,hj=>by
  simp only [DR] at h;split at h
  · split at h
    · rename_i p hp
      simp only [bv,ck] at h;obtain ⟨rfl,rfl⟩:=h;cases j with
      |zero=>simp at hj;exact ⟨_,hj.symm⟩
      |succ j=>exact KT (e1:=p.1) (s2:=p.2) hp j b (by simpa using hj)
    cases h
  split at h
  · rename_i v' p hv hp
    simp only [bv,ck] at h;obtain ⟨rfl,rfl⟩:=h;exact KT (e1:=p.1) (s2:=p.2) hp j b hj
  cases h
mutual
theorem KU {m:List Nat}: ∀{v u:SV},vL m v=some u->u.sure=true
 | .junk,_,h=>by cases h
 | .undef,u,h| .nul,u,h| .nilf,u,h| .int _ _,u,h| .bool _,u,h| .str _,u,h| .sl _ _,u,h| .nil _ _,u,h=>by injection h with h;subst h;rfl
 | .agg cs,u,h=>by
  simp only [vL] at h;split at h
  · rename_i l hl;injection h with h;subst h;exact renVL_sure hl
  cases h
 | .tup cs,u,h=>by
  simp only [vL] at h;split at h
  · rename_i l hl;injection h with h;subst h;exact renVL_sure hl
  cases h
 | .rptr cs _,u,h=>by
  simp only [vL] at h;split at h
  · rename_i l hl;injection h with h;subst h;exact renVL_sure hl
  cases h
 | .own _ _,u,h=>by simp only [vL] at h;split at h<;>first|(injection h with h;subst h;rfl)|cases h
 | .pre _ _ _ _,u,h=>by simp only [vL] at h;split at h<;>first|(injection h with h;subst h;rfl)|cases h
 | .part _ _ _ _ _,u,h=>by simp only [vL] at h;split at h<;>first|(injection h with h;subst h;rfl)|cases h
 | .pa _ _ _ _ _,u,h=>by simp only [vL] at h;split at h<;>first|(injection h with h;subst h;rfl)|cases h
 | .pb _ _ _,u,h=>by simp only [vL] at h;split at h<;>first|(injection h with h;subst h;rfl)|cases h
 | .bp _ _ _,u,h=>by simp only [vL] at h;split at h<;>first|(injection h with h;subst h;rfl)|cases h
 | .mp _,u,h=>by simp only [vL] at h;split at h<;>first|(injection h with h;subst h;rfl)|cases h
 | .clo f a b,u,h=>by
  simp only [vL] at h;split at h
  · rename_i x y h1 h2
    injection h with h;subst h;simp only [SV.sure,renVL_sure h1,renVL_sure h2,cz]
  cases h
theorem renVL_sure {m:List Nat}: ∀{v u:List SV},renVL m v=some u->sureL u=true
 | [],u,h=>by injection h with h;subst h;rfl
 |x::xs,u,h=>by
  simp only [renVL] at h;split at h
  · rename_i a b h1 h2
    injection h with h;subst h;simp only [sureL,KU h1,renVL_sure h2,cz]
  cases h
end
theorem aGB {s:List SB} {v:SV} {p:PV} (h:R s v p): ∀k:Option Nat,v.sure=true->R s (TO k v) (exOff k p)
 |none,_=>h
 |some _,hs=>by
  cases v with
  |own t ex=>obtain ⟨e,n,rfl,h⟩:=h;exact ⟨e,n,rfl,h⟩
  |pre t l c ex=>obtain ⟨e,rfl,h⟩:=h;exact ⟨e,rfl,h⟩
  |part t o l c ex=>obtain ⟨e,rfl,h⟩:=h;exact ⟨e,rfl,h⟩
  |junk=>cases hs
  |undef|nul|nilf|int _ _|bool _|str _|bp _ _ _|mp _|sl _ _|nil _ _=>rw [show p=_ from h];rfl
  |agg _|tup _|rptr _ _=>obtain ⟨q,rfl,h⟩:=h;exact ⟨q,rfl,h⟩
  |clo _ _ _=>obtain ⟨q,q2,rfl,h⟩:=h;exact ⟨q,q2,rfl,h⟩
  |pa _ _ _ _ _=>obtain ⟨rfl,h⟩:=h;exact ⟨rfl,h⟩
  |pb _ _ _=>obtain ⟨q,rfl,h⟩:=h;exact ⟨q,rfl,h⟩
theorem aAg {v:SV} (h:v.sure=true) (k:Option Nat):(TO k v).sure=true:=by
 unfold TO;split<;>first|rfl|exact h
theorem TX {rk:List (Nat×List PT)} {e:SE} {pe:zA} (hE:eJ s e pe) {m:List Nat} {s':List SB} (hr:OQ m s s'): ∀{live:List (Nat×Option Nat)} {nx:Nat} {e1:SE} {s2:List SB},DR rk e m nx live=some (e1,s2)->(∀(j:Nat) (b:SB),s2[j]? =some b->s'[nx+j]? =some b)->
 ∃p1 q2,wQ pe m nx live=some (p1,q2)/\eJ s' e1 p1/\q2.length=s2.length/\ ∀(j:Nat) (b:SB),s2[j]? =some b-> ∃q,q2[j]? =some q/\RB s' b q
 | [],nx,e1,s2,h,_=>by
  simp only [DR,bv,ck] at h;obtain ⟨rfl,rfl⟩:=h;exact ⟨[],[],rfl,rfl,rfl,fun j b h=>by simp at h⟩
 |(t,k)::live,nx,e1,s2,h,hs=>by
  have hlk:=hE.lk t;simp only [DR] at h;split at h
  · rename_i kk esz en hv
    split at h
    · rename_i p hp
      simp only [bv,ck] at h;obtain ⟨rfl,rfl⟩:=h;rw [hv] at hlk;obtain ⟨p1,q2,h1,h2,h3,h4⟩:=TX (live:=live) (nx:=nx+1) (e1:=p.1) (s2:=p.2) hE hr hp (fun j b hj=>by
       have:=hs (j+1) b (by simpa using hj)
       rw [show nx+1+j=nx+(j+1) by omega];exact this)
      refine ⟨(t,.own nx esz 0 0 0 false)::p1,.arr esz []::q2,?_,⟨_,_,rfl,⟨esz,0,rfl,.inl ⟨DQ rk esz,[],by simpa using hs 0 _ rfl,(BL rk esz).symm,rfl⟩⟩,h2⟩,by simp [h3],fun j b hj=>?_⟩
      · have hlk':lk t pe= .sl en true []:=hlk
        simp only [wQ,hlk',h1];rfl
      cases j with
      |zero=>simp at hj;subst hj;exact ⟨_,rfl,by show _=_;rw [BL];rfl⟩
      |succ j=>simpa using h4 j b (by simpa using hj)
    cases h
  rename_i hne
  split at h
  · rename_i v' p hv hp
    simp only [bv,ck] at h;obtain ⟨rfl,rfl⟩:=h;obtain ⟨q',h5,h6⟩:=aEB hr hlk hv;obtain ⟨p1,q2,h1,h2,h3,h4⟩:=TX (live:=live) (e1:=p.1) (s2:=p.2) hE hr hp hs;refine ⟨(t,exOff _ q')::p1,q2,?_,⟨_,_,rfl,aGB h6 _ (KU hv),h2⟩,h3,h4⟩;simp only [wQ];split
    · rename_i esz x hx
      exfalso;rw [hx] at hlk;generalize QP t e=v0 at hlk hv hne;cases v0 with
      |junk=>cases hv
      |nil e' c=>
       have hlk':PV.sl x true []= .sl e' c []:=hlk;injection hlk' with h1 h2;subst h2;exact hne _ _ rfl rfl
      |undef|nul|nilf|int _ _|bool _|str _|bp _ _ _|mp _=>cases (show PV.sl x true []=_ from hlk)
      |sl r l=>cases (show PV.sl x true []=_ from hlk)
      |agg _|tup _|rptr _ _=>obtain ⟨q,hq,_⟩:=hlk;cases hq
      |clo _ _ _=>obtain ⟨q,q2,hq,_⟩:=hlk;cases hq
      |own _ _=>obtain ⟨q,q2,hq,_⟩:=hlk;cases hq
      |pre _ _ _ _=>obtain ⟨q,hq,_⟩:=hlk;cases hq
      |part _ _ _ _ _=>obtain ⟨q,hq,_⟩:=hlk;cases hq
      |pa _ _ _ _ _=>obtain ⟨hq,_⟩:=hlk;cases hq
      |pb _ _ _=>obtain ⟨q,hq,_⟩:=hlk;cases hq
    simp only [h5,h1]
  cases h
def aNL (s:List SB):Prop:= ∀(t:Nat) (cs:List SV),s[t]? =some (.box cs)->sureL cs=true
def RR:SE->Prop
 | []=>True
 |(_,v)::r=>v.sure=true/\RR r
theorem RR.lk: ∀{e:SE},RR e-> ∀t,(QP t e).sure=true
 | [],_,t=>rfl
 |(u,v)::r,h,t=>by
  simp only [QP];cases hb:ce u t with
  |true=>exact h.1
  |false=>exact RR.lk h.2 t
theorem HT {rk:List (Nat×List PT)} {e:SE} {m:List Nat}: ∀{live:List (Nat×Option Nat)} {nx:Nat} {e1:SE} {s2:List SB},DR rk e m nx live=some (e1,s2)->RR e1
 | [],nx,e1,s2,h=>by
  simp only [DR,bv,ck] at h;rw [<- h.1];trivial
 |(t,k)::live,nx,e1,s2,h=>by
  simp only [DR] at h;split at h
  · split at h
    · rename_i p hp
      simp only [bv,ck] at h;obtain ⟨rfl,rfl⟩:=h;exact ⟨rfl,HT (e1:=p.1) (s2:=p.2) hp⟩
    cases h
  split at h
  · rename_i v' p hv hp
    simp only [bv,ck] at h;obtain ⟨rfl,rfl⟩:=h;exact ⟨aAg (KU hv) _,HT (e1:=p.1) (s2:=p.2) hp⟩
  cases h
theorem RS: ∀{l:List SV},sureL l=true-> ∀{n:Nat} {v:SV},nth l n=some v->v.sure=true
 | [],_,_,_,h=>by cases h
 |x::xs,hs,0,v,h=>by injection h with h;subst h;simp only [sureL,bn] at hs;exact hs.1
 |x::xs,hs,n+1,v,h=>by simp only [sureL,bn] at hs;exact RS hs.2 (n:=n) h
theorem RU: ∀{l:List SV},sureL l=true-> ∀(n:Nat) {v:SV},v.sure=true->sureL (l.set n v)=true
 | [],_,n,v,_=>rfl
 |x::xs,hs,0,v,h=>by simp only [sureL,bn] at hs;simp [sureL,h,hs.2]
 |x::xs,hs,n+1,v,h=>by simp only [sureL,bn] at hs;simp [sureL,hs.1,RU hs.2 n h]
theorem RL.set {s:List SB}: ∀{xs:List SV} {ps:List PV},RL s xs ps-> ∀(n:Nat) {v:SV} {p:PV},R s v p->RL s (xs.set n v) (ps.set n p)
 | [],ps,h,n,v,p,_=>by rw [show ps=[] from h];exact RL.nil
 |x::xs,ps,h,0,v,p,hv=>by
  obtain ⟨a,q,rfl,h1,h2⟩:=h.cons_inv;exact RL.cons hv h2
 |x::xs,ps,h,n+1,v,p,hv=>by
  obtain ⟨a,q,rfl,h1,h2⟩:=h.cons_inv;exact RL.cons h1 (RL.set h2 n hv)
structure RSS (st:vK) (p:St):Prop where
 r:GX st p
 s:aNL st.sto
 e:RR st.env
theorem aAh {rk:List (Nat×List PT)} {st:vK} {p:St} (h:RSS st p) (t c esz:Nat):RSS (N7 rk st t c esz) (wR p t c esz):=by
 unfold N7 wR;rw [cM];cases hst:st.sto[t]? with
 |none=>
  have:p.sto[t]? =none:=by
   rw [dw] at hst ⊢;rw [h.r.sto.len];exact hst
  rw [this];exact h
 |some b=>
  obtain ⟨q,h1,h2⟩:=h.r.sto.at_ t b hst;rw [h1];cases b with
  |arr r l=>rw [show q=_ from h2];exact h
  |set l=>rw [show q=_ from h2];exact h
  |tab p l=>rw [show q=_ from h2];exact h
  |dead=>rw [show q=_ from h2];exact h
  |box cs=>
   obtain ⟨pc,rfl,h3⟩:=h2;dsimp only;cases hc:nth cs c with
   |none=>
    have:pc[c]? =none:=by
     rw [cM,dw] at hc;rw [dw,h3.length];exact hc
    rw [this];exact h
   |some v=>
    obtain ⟨pv,h4,h5⟩:=h3.nth hc;rw [h4];have hsure:=RS (h.s t cs hst) hc;have hcs:=h.s t cs hst;have other:(∀e,pv≠ .sl e true [])->(∀e,v≠ .nil e true)->RSS (match some v with
     |some (.nil _ true)=>{st with sto:=st.sto.set t (.box (cs.set c (.own st.sto.length false)))++[.arr (DQ rk esz) []]}
     |_=>st) (match some pv with
     |some (.sl _ true [])=>{p with sto:=p.sto.set t (.box (pc.set c (.own p.sto.length esz 0 0 0 false)))++[.arr esz []]}
     |_=>p):=by
     intro n1 n2;split
     · rename_i e he;injection he with he;exact absurd he (n2 e)
     split
     · rename_i e he;injection he with he;exact absurd he (n1 e)
     exact h
    cases v with
    |junk=>cases hsure
    |nil e' cl=>
     have h5':pv= .sl e' cl []:=h5;subst h5';cases cl with
     |false=>exact other (fun e he=>by cases he) (fun e he=>by cases he)
     |true=>
      dsimp only;have hlt:=(bo.1 hst).1;have hfr:Fr [] st.sto (st.sto.set t (.box (cs.set c (.own st.sto.length false)))++[.arr (DQ rk esz) []]):=fun u x hu=>by
       by_cases hut:t=u
       · subst hut;rw [hst] at hu;injection hu with hu;subst hu;exact .inl ⟨_,by rw [bq (by simpa using hlt),cb];simp [hlt];rfl⟩
       have hul:=(bo.1 hu).1
       have:(st.sto.set t (.box (cs.set c (.own st.sto.length false)))++[.arr (DQ rk esz) []])[u]? =some x:=by
        rw [bq (by simpa using hul),cb];simp [hut,hu]
       cases x with
       |arr r l=>exact .inl ⟨l,this,rfl,fun _=>rfl⟩
       |dead=>exact this
       |box c2=>exact .inl ⟨c2,this⟩
       |_=>trivial
      have hlen:(st.sto.set t (.box (cs.set c (.own st.sto.length false)))).length=st.sto.length:=by simp
      have hown:R (st.sto.set t (.box (cs.set c (.own st.sto.length false)))++[.arr (DQ rk esz) []]) (.own st.sto.length false) (.own p.sto.length esz 0 0 0 false):=by
       refine ⟨esz,0,by rw [h.r.sto.len],.inl ⟨DQ rk esz,[],?_,(BL rk esz).symm,rfl⟩⟩
       rw [bu (by simp)];simp
      refine ⟨⟨eJ.ext hfr h.r.env,⟨by simp [h.r.sto.len],fun u x hu=>?_⟩,h.r.fz,h.r.kn⟩,fun u x hu=>?_,h.e⟩
      · rcases dv u st.sto.length with hul|hul
        · rw [bq (by simpa using hul),cb] at hu
          by_cases hut:t=u
          · subst hut
            simp [hlt] at hu;subst hu;refine ⟨.box (pc.set c (.own p.sto.length esz 0 0 0 false)),?_,_,rfl,RL.set (RL.ext hfr h3) c hown⟩;rw [bq (by simp [h.r.sto.len,hul]),cb]
            simp [h.r.sto.len,hul]
          simp [hut] at hu
          obtain ⟨q,h6,h7⟩:=h.r.sto.at_ u x hu;refine ⟨q,?_,h7.ext hfr⟩;rw [bq (by simp [h.r.sto.len,hul]),cb]
          simp [hut,h6]
        rw [bu (by simpa using hul)] at hu
        simp only [hlen] at hu;have hu0:u-st.sto.length=0:=by
         rcases fo (u-st.sto.length) with h|h
         · exact h
         rw [List.getElem?_eq_none (by simp;omega)] at hu;cases hu
        rw [hu0] at hu;simp at hu;subst hu;refine ⟨.arr esz [],?_,by show _=_;rw [BL];rfl⟩
        rw [bu (by simp [h.r.sto.len];omega)]
        simp [h.r.sto.len,hu0]
      rcases dv u st.sto.length with hul|hul
      · rw [bq (by simpa using hul),cb] at hu
        by_cases hut:t=u
        · subst hut
          simp [hlt] at hu;subst hu;exact RU hcs c rfl
        simp [hut] at hu;exact h.s u x hu
      rw [bu (by simpa using hul)] at hu
      cases hj:u- (st.sto.set t (.box (cs.set c (.own st.sto.length false)))).length with
      |zero=>rw [hj] at hu;simp at hu
      |succ j=>rw [hj] at hu;simp at hu
    |undef|nul|nilf|int _ _|bool _|str _|bp _ _ _|mp _=>exact other (fun e he=>by rw [show pv=_ from h5] at he;cases he) (fun e he=>by cases he)
    |sl r l=>exact other (fun e he=>by rw [show pv=_ from h5] at he;cases he) (fun e he=>by cases he)
    |agg _|tup _|rptr _ _=>exact other (fun e he=>by obtain ⟨q,hq,_⟩:=h5;rw [hq] at he;cases he) (fun e he=>by cases he)
    |clo _ _ _=>exact other (fun e he=>by obtain ⟨q,q2,hq,_⟩:=h5;rw [hq] at he;cases he) (fun e he=>by cases he)
    |own _ _=>exact other (fun e he=>by obtain ⟨q,q2,hq,_⟩:=h5;rw [hq] at he;cases he) (fun e he=>by cases he)
    |pre _ _ _ _|part _ _ _ _ _|pb _ _ _=>exact other (fun e he=>by obtain ⟨q,hq,_⟩:=h5;rw [hq] at he;cases he) (fun e he=>by cases he)
    |pa _ _ _ _ _=>exact other (fun e he=>by obtain ⟨hq,_⟩:=h5;rw [hq] at he;cases he) (fun e he=>by cases he)
theorem TY {p:St} {t c esz:Nat} (h: ∀cs,p.sto[t]?≠some (.box cs)):wR p t c esz=p:=by
 unfold wR;split
 · rename_i cs hcs;exact absurd hcs (h cs)
 rfl
theorem aEC {st:vK} {p:St} (h:RSS st p) {v:SV} {q:PV} (hv:R st.sto v q) (hs:v≠ .junk):(∃t,aEe v=some t/\NB q=some t)\/(aEe v=none/\ ∀t,NB q=some t-> ∀cs,p.sto[t]?≠some (.box cs)):=by
 cases v with
 |junk=>exact absurd rfl hs
 |bp u m off=>
  have hq:q= .ptr u m 0 off:=hv;subst hq;cases off with
  |zero=>exact .inl ⟨u,rfl,rfl⟩
  |succ off=>exact .inr ⟨rfl,fun t ht=>by cases ht⟩
 |pb u i off=>
  obtain ⟨e',hq,hat⟩:=hv;subst hq;refine .inr ⟨rfl,fun t ht cs hcs=>?_⟩
  have:t=u:=by
   unfold NB at ht;split at ht
   · rename_i heq;injection heq with e1;injection ht with ht;rw [<- ht,e1]
   cases ht
  subst this;rcases hat with ⟨r,l,h1,_⟩|h1
  · rw [h.r.sto.arr h1] at hcs;cases hcs
  obtain ⟨q,h2,h3⟩:=h.r.sto.at_ t _ h1
  rw [hcs] at h2;injection h2 with h2;subst h2;cases (show mJ.box cs= .dead from h3)
 |pa u r i a off=>
  obtain ⟨hq,hat⟩:=hv;subst hq;refine .inr ⟨rfl,fun t ht cs hcs=>?_⟩
  have:t=u:=by
   unfold NB at ht;split at ht
   · rename_i heq;injection heq with e1;injection ht with ht;rw [<- ht,e1]
   cases ht
  subst this;rcases hat with ⟨l,h1,_⟩|h1
  · rw [h.r.sto.arr h1] at hcs;cases hcs
  obtain ⟨q,h2,h3⟩:=h.r.sto.at_ t _ h1
  rw [hcs] at h2;injection h2 with h2;subst h2;cases (show mJ.box cs= .dead from h3)
 |undef|nul|nilf|int _ _|bool _|str _|mp _|sl _ _|nil _ _=>exact .inr ⟨rfl,fun t ht=>by rw [show q=_ from hv] at ht;cases ht⟩
 |agg _|tup _|rptr _ _=>exact .inr ⟨rfl,fun t ht=>by obtain ⟨_,rfl,_⟩:=hv;cases ht⟩
 |clo _ _ _=>exact .inr ⟨rfl,fun t ht=>by obtain ⟨_,_,rfl,_⟩:=hv;cases ht⟩
 |own _ _=>exact .inr ⟨rfl,fun t ht=>by obtain ⟨_,_,rfl,_⟩:=hv;cases ht⟩
 |pre _ _ _ _|part _ _ _ _ _=>exact .inr ⟨rfl,fun t ht=>by obtain ⟨_,rfl,_⟩:=hv;cases ht⟩
theorem aOe {st:vK} {p:St} (h:RSS st p) {v:SV} {q:PV} (hv:R st.sto v q) (hs:v.sure=true):(∃t,aGi v=some t/\VG q=some t)\/(aGi v=none/\ ∀t,VG q=some t-> ∀cs,p.sto[t]?≠some (.box cs)):=by
 have hj:v≠ .junk:=fun e=>by subst e;cases hs
 by_cases hc: ∃f a b,v= .clo f a b
 · obtain ⟨f,a,b,rfl⟩:=hc
   obtain ⟨pa,pb,rfl,h1,h2⟩:=hv;cases b with
   |nil=>
    have:pb=[]:=h2
    subst this;exact .inr ⟨rfl,fun t ht=>by cases ht⟩
   |cons y ys=>
    obtain ⟨z,zs,rfl,g1,g2⟩:=h2;exact aEC h g1 (fun e=>by subst e;simp [SV.sure,sureL] at hs)
 have e1:aGi v=aEe v:=by
  cases v with
  |clo f a b=>exact absurd ⟨f,a,b,rfl⟩ hc
  |_=>rfl
 have e2:VG q=NB q:=by
  cases q with
  |clo f a b=>
   exfalso;cases v with
   |junk=>exact hj rfl
   |clo f a b=>exact hc ⟨f,a,b,rfl⟩
   |bp _ _ _|undef|nul|nilf|int _ _|bool _|str _|mp _|sl _ _|nil _ _=>cases (show PV.clo f a b=_ from hv)
   |agg _|tup _|rptr _ _|pre _ _ _ _|part _ _ _ _ _|pb _ _ _=>obtain ⟨_,hq,_⟩:=hv;cases hq
   |own _ _=>obtain ⟨_,_,hq,_⟩:=hv;cases hq
   |pa _ _ _ _ _=>obtain ⟨hq,_⟩:=hv;cases hq
  |_=>rfl
 rw [e1,e2];exact aEC h hv hj
theorem qV {rk:List (Nat×List PT)}: ∀(live:List (Nat×Option Nat)) {st:vK} {p:St},RSS st p->RSS (oT rk live st) (nC live p)
 | [],st,p,h=>h
 |(t,k)::live,st,p,h=>by
  cases k with
  |none=>simp only [oT,nC];exact qV live h
  |some n=>
   simp only [oT,nC];cases hn:cd 1000 n with
   |false=>simp only [cond_false,cf,if_false];exact qV live h
   |true=>
    simp only [cond_true,if_true];have hlk:=h.r.env.lk t;have hsu:=h.e.lk t;rcases aOe h hlk hsu with ⟨u,e1,e2⟩|⟨e1,e2⟩
    · rw [e1,e2]
      exact qV live (aAh h u _ _)
    rw [e1]
    cases hb:VG (lk t p.env) with
    |none=>exact qV live h
    |some u=>
     show RSS (oT rk live st) (nC live (wR p u (n / 1000-1) (n%1000)));rw [TY (e2 u hb)];exact qV live h
theorem WM {e:SE} {pe:zA} (hE:eJ s e pe): ∀{live:List (Nat×Option Nat)},IZ e live=true->N8 e live=live.flatMap fun p=>kX zB (lk p.1 pe)
 | [],_=>rfl
 |(t,k)::live,h=>by
  simp only [IZ,bn] at h;simp only [N8,fx,WM hE h.2];rw [aEz (fun _=>rfl) (hE.lk t) h.1]
theorem aED: ∀{s':List SB} {s:List SB} {ps:cT} (n:Nat),(ps.length=s.length/\ ∀(t:Nat) (b:SB),s[t]? =some b-> ∃q,ps[t]? =some q/\RB s' b q)->N9 s n=true->Z6 s n=(ps.take n).flatMap wP
 |s',[],ps,n,h,_=>by
  have:ps=[]:=d7.1 (by simpa using h.1)
  subst this;cases n<;>simp [Z6]
 |s',b::s,ps,0,h,_=>by simp [Z6]
 |s',b::s,ps,n+1,h,hk=>by
  cases ps with
  |nil=>have:=h.1;simp at this
  |cons q ps=>
   simp only [N9,bn] at hk;obtain ⟨q',h1,h2⟩:=h.2 0 b rfl;simp at h1;subst h1;simp only [Z6,fg,fx,TW h2 hk.1];rw [aED (s':=s') (ps:=ps) n ⟨by simpa using h.1,fun t x hx=>by simpa using h.2 (t+1) x (by simpa using hx)⟩ hk.2]
theorem aBt {s:List SB} {v:SV} {p:PV} (h:R s v p):R s (RM s v) p:=by
 unfold RM;split
 · rename_i t ex
   rw [cM];split
   · rename_i r l hst
     obtain ⟨e,n,rfl,hat⟩:=h;obtain ⟨rfl,rfl⟩:=hat.inv hst;exact ⟨r.length,rfl,.inl ⟨r,l,hst,rfl⟩⟩
   exact h
 exact h
theorem aBu {s:List SB} (c:Nat): ∀{e:SE} {p:zA},eJ s e p->eJ s (aBk s c e) p
 | [],_,h=>h
 |(t,v)::r,_,h=>by
  obtain ⟨q,qs,rfl,h1,h2⟩:=h;simp only [aBk];cases hb:ce t c with
  |true=>exact ⟨q,qs,rfl,aBt h1,h2⟩
  |false=>exact ⟨q,qs,rfl,h1,aBu c h2⟩
theorem KV: ∀(live:List (Nat×Option Nat)) {st:vK} {p:St},GX st p->GX (IY live st) p
 | [],st,p,h=>h
 |(t,k)::r,st,p,h=>by
  simp only [IY];cases hn:cd 1000000 t with
  |true=>exact KV r ⟨aBu _ h.env,h.sto,h.fz,h.kn⟩
  |false=>exact KV r h
theorem WN {rk:List (Nat×List PT)} {live:List (Nat×Option Nat)} {st st1:vK} {p:St} (h:GX st p) (hn:OA rk live st=some st1): ∃p1,NC live p=some p1/\GX st1 p1:=by
 unfold OA at hn;cases hc:(IZ st.env live&&N9 st.sto st.kn) with
 |false=>rw [hc] at hn;cases hn
 |true=>
  rw [hc] at hn;simp only [cond_true] at hn;simp only [bn] at hc;split at hn
  · cases hn
  rename_i m hm
  split at hn
  · rename_i s1 e1 s2 h1 h2
    injection hn with hn;subst hn;have ht:Z6 st.sto st.kn++N8 st.env live=(p.sto.take p.kn).flatMap wP++live.flatMap fun q=>kX zB (lk q.1 p.env):=by
     rw [WM h.env hc.1,aED (s':=st.sto) st.kn ⟨h.sto.len,h.sto.at_⟩ hc.2,h.kn]
    rw [ht] at hm;have hm':=OO h.sto _ _ _ _ hm;have hr:OQ m st.sto (s1++s2):=OQ.of h1;obtain ⟨p1,a1,a2,a3⟩:=KS h.sto hr h1;have hlen:s1.length=m.length:=(EL h1).1;obtain ⟨pe1,q2,b1,b2,b3,b4⟩:=TX h.env hr h2 (fun j b hj=>by rw [<- hlen,bu (by omega)];simpa using hj)
    have hsto:cU (s1++s2) (p1++q2):=⟨by simp [a2,b3],fun t b ht=>by
     rcases dv t s1.length with hl|hl
     · rw [bq hl] at ht
       obtain ⟨q,c1,c2⟩:=a3 t b ht;exact ⟨q,by rw [bq (by omega)];exact c1,c2⟩
     rw [bu hl] at ht
     obtain ⟨q,c1,c2⟩:=b4 _ b ht;exact ⟨q,by rw [bu (by omega),a2];exact c1,c2⟩⟩
    have hs:aNL (s1++s2):=fun t cs ht=>by
     rcases dv t s1.length with hl|hl
     · rw [bq hl] at ht
       obtain ⟨b,c,d1,d2,d3⟩:=(EL h1).2 t (m[t]'(by omega)) (bw (by omega))
       rw [ht] at d3;injection d3 with d3;subst d3;cases b with
       |box x=>
        simp only [Z5] at d2;split at d2
        · rename_i l hl';injection d2 with d2;injection d2 with d2;subst d2;exact renVL_sure hl'
        cases d2
       |arr _ _=>injection d2 with d2;cases d2
       |set _=>injection d2 with d2;cases d2
       |tab _ _=>injection d2 with d2;cases d2
       |dead=>injection d2 with d2;cases d2
     rw [bu hl] at ht
     obtain ⟨r,hr'⟩:=KT h2 _ _ ht;cases hr'
    have hR:RSS {env:=e1,sto:=s1++s2,fz:=D5 st.fz 0 m,kn:=st.kn} {env:=pe1,sto:=p1++q2,fz:=D5 p.fz 0 m,kn:=p.kn}:=
     ⟨⟨b2,hsto,by rw [h.fz],h.kn⟩,hs,HT h2⟩
    refine ⟨_,?_,KV live (qV live hR).r⟩;unfold NC;rw [h.kn] at hm';rw [h.kn];rw [hm'];dsimp only;rw [a1,b1]
  cases hn
theorem aBv {rk:List (Nat×List PT)} {live:List (Nat×Option Nat)} {st st1:vK} {p:St} (h:GX st p) (hn:OB rk live st=some st1): ∃p1,MF live p=some p1/\GX st1 p1:=by
 unfold OB at hn;cases h1:OA rk live st with
 |none=>rw [h1] at hn;cases hn
 |some s=>
  rw [h1] at hn;dsimp only at hn;obtain ⟨p1,h2,h3⟩:=WN h h1;unfold MF;rw [h2];dsimp only;cases ha:(live.any fun p=>p.2.isSome) with
  |true=>
   rw [ha] at hn;simp only [cond_true] at hn;rw [if_pos rfl];exact WN h3 hn
  |false=>
   rw [ha] at hn;injection hn with hn;subst hn;exact ⟨p1,by rw [if_neg (by simp)],h3⟩
mutual
theorem MW: ∀{a b:SV} (q:List D2),DT a b=true->zE a (KP b++q)=(b,q)
 | .undef,.undef,q,_=>rfl
 | .nul,.nul,q,_=>rfl
 | .nilf,.nilf,q,_=>rfl
 | .int k _,.int l n,q,h=>by rw [fU.1 h];rfl
 | .bool _,.bool _,q,_=>rfl
 | .agg a,.agg b,q,h=>by simp only [zE,KP,put_atsL q h]
 | .tup a,.tup b,q,h=>by simp only [zE,KP,put_atsL q h]
 | .sl r _,.sl r' l,q,h=>rfl
 | .nil e c,.nil f d,q,h=>by
  simp only [DT,bn,beq_iff_eq] at h;rw [bm h.1,h.2];rfl
 | .own t x,.own u y,q,h=>by
  simp only [DT,bn,beq_iff_eq] at h;rw [bm h.1,h.2];rfl
 | .pre t _ _ x,.pre u _ _ y,q,h=>by
  simp only [DT,bn,beq_iff_eq] at h;rw [bm h.1,h.2];rfl
 | .part t _ _ _ x,.part u _ _ _ y,q,h=>by
  simp only [DT,bn,beq_iff_eq] at h;rw [bm h.1,h.2];rfl
 | .pb t _ o,.pb u _ p,q,h=>by
  simp only [DT,bn] at h;rw [bm h.1,bm h.2];rfl
 | .bp t n o,.bp u m p,q,h=>by
  simp only [DT,bn] at h;rw [bm h.1.1,bm h.1.2,bm h.2];rfl
 | .rptr a o,.rptr b p,q,h=>by
  simp only [DT,bn] at h;simp only [zE,KP,put_atsL q h.1,bm h.2]
 | .clo f a b,.clo g c d,q,h=>by
  simp only [DT,bn] at h;simp only [zE,KP,cq,put_atsL _ h.1.2,put_atsL q h.2,bm h.1.1]
 | .mp t,.mp u,q,h=>by rw [bm h];rfl
theorem put_atsL: ∀{a b:List SV} (q:List D2),likeL a b=true->putL a (atsL b++q)=(b,q)
 | [],[],q,_=>rfl
 |x::xs,y::ys,q,h=>by
  simp only [likeL,bn] at h;simp only [putL,atsL,cq,MW _ h.1,put_atsL q h.2]
 | [],_::_,_,h=>by cases h
 |_::_,[],_,h=>by cases h
end
theorem aEE: ∀{a b:SB} (q:List D2),aNG a b=true->Z7 a (aEf b++q)=(b,q)
 | .arr r _,.arr r' l,q,h=>rfl
 | .box a,.box b,q,h=>by simp only [Z7,aEf,put_atsL q h]
 | .set _,.set _,q,_=>rfl
 | .tab p _,.tab p' l,q,h=>by obtain rfl:p=p':=PT.same_eq h;rfl
 | .dead,.dead,q,_=>rfl
 | .arr _ _,.box _,_,h| .arr _ _,.set _,_,h| .arr _ _,.dead,_,h| .box _,.arr _ _,_,h| .box _,.set _,_,h| .box _,.dead,_,h| .set _,.arr _ _,_,h| .set _,.box _,_,h| .set _,.dead,_,h| .dead,.arr _ _,_,h| .dead,.box _,_,h| .dead,.set _,_,h
 | .tab _ _,.arr _ _,_,h| .tab _ _,.box _,_,h| .tab _ _,.set _,_,h| .tab _ _,.dead,_,h| .arr _ _,.tab _ _,_,h| .box _,.tab _ _,_,h| .set _,.tab _ _,_,h| .dead,.tab _ _,_,h=>by cases h
theorem JC: ∀{a b:List SB} (q:List D2),OC a b=true->HN a (TP b++q)=(b,q)
 | [],[],q,_=>rfl
 |x::xs,y::ys,q,h=>by
  simp only [OC,bn] at h;simp only [HN,TP,cq,aEE _ h.1,JC q h.2]
 | [],_::_,_,h=>by cases h
 |_::_,[],_,h=>by cases h
theorem WQ: ∀{a b:SE} (q:List D2),aBl a b=true->WC a (aCR b++q)=(b,q)
 | [],[],q,_=>rfl
 |(t,x)::xs,(u,y)::ys,q,h=>by
  simp only [aBl,bn] at h;simp only [WC,aCR,cq,MW _ h.1.2,WQ q h.2,bm h.1.1]
 | [],_::_,_,h=>by cases h
 |_::_,[],_,h=>by cases h
theorem WR: ∀{a b:List Nat},aBm a b=true->a=b
 | [],[],_=>rfl
 |x::xs,y::ys,h=>by
  simp only [aBm,bn] at h;rw [bm h.1,WR h.2]
 | [],_::_,h=>by cases h
 |_::_,[],h=>by cases h
theorem aC0 {a b:vK} (h:OD a b=true):GU a (DS b)=b:=by
 obtain ⟨e1,s1,z1,k1⟩:=a;obtain ⟨e2,s2,z2,k2⟩:=b;simp only [OD,bn] at h;obtain ⟨⟨⟨h1,h2⟩,h3⟩,h4⟩:=h;have hs:=JC [] h2;rw [cu] at hs;simp only [GU,DS,WQ _ h1,hs,WR h3,bm h4]
theorem AK.of_at: ∀{a:AK} {x:D2} {y:a.T},a.of x=some y->a.at y=x
 | .i,.i _,y,h=>by injection h with h;subst h;rfl
 | .b,.b _,y,h=>by injection h with h;subst h;rfl
 | .n,.n _,y,h=>by injection h with h;subst h;rfl
 | .l r,.l q x,y,h=>by obtain ⟨rfl,rfl⟩:=tI h;rfl
 | .s,.s _,y,h=>by injection h with h;subst h;rfl
 | .i,.b _,_,h| .i,.n _,_,h| .i,.l _ _,_,h| .i,.s _,_,h| .b,.i _,_,h| .b,.n _,_,h| .b,.l _ _,_,h| .b,.s _,_,h| .n,.i _,_,h| .n,.b _,_,h| .n,.l _ _,_,h| .n,.s _,_,h
 | .l _,.i _,_,h| .l _,.b _,_,h| .l _,.n _,_,h| .l _,.s _,_,h| .s,.i _,_,h| .s,.b _,_,h| .s,.n _,_,h| .s,.l _ _,_,h=>by cases h
theorem xT: ∀{ks:List AK} {l:List D2} {y:mN ks},wH ks l=some y->pK ks y=l
 | [],[],y,_=>rfl
 | [a],[x],y,h=>by
  have:=AK.of_at (a:=a) h
  simp only [pK,this]
 |a::q::r,x::xs,y,h=>by
  simp only [wH] at h;split at h
  · rename_i u v h1 h2
    injection h with h;subst h;simp only [pK,AK.of_at h1,xT h2]
  cases h
 | [],_::_,_,h=>by cases h
 | [_],[],_,h=>by cases h
 | [_],_::_::_,_,h=>by cases h
 |_::_::_,[],_,h=>by cases h
end
end Go.Vm
/- What is known of functions, and what a call of one comes to. -/
namespace Go.Vm
mutual
def OR:Nat->PV->Option (PV×cT)
 |_,.int k n=>some (.int k n,[])
 |_,.bool b=>some (.bool b,[])
 |nx,.agg cs=>match ownPL nx cs with|some r=>some (.agg r.1,r.2)|none=>none
 |nx,.tup cs=>match ownPL nx cs with|some r=>some (.tup r.1,r.2)|none=>none
 |nx,.sl e false rows=>some (.own nx e 0 rows.length rows.length false,[.arr e rows])
 |_,_=>none
def ownPL:Nat->List PV->Option (List PV×cT)
 |_,[]=>some ([],[])
 |nx,x::xs=>match OR nx x with
  |some a=>match ownPL (nx+a.2.length) xs with
   |some b=>some (a.1::b.1,a.2++b.2)
   |none=>none
  |none=>none
end
def CG (s:List SB) (n:Nat) (l:List SB):Prop:= ∀(j:Nat) (b:SB),l[j]? =some b->s[n+j]? =some b
theorem CG.left {s:List SB} {n:Nat} {l m:List SB} (h:CG s n (l++m)):CG s n l:=fun j b hj=>h j b (by
 rw [bq (bo.1 hj).1];exact hj)
theorem CG.right {s:List SB} {n:Nat} {l m:List SB} (h:CG s n (l++m)):CG s (n+l.length) m:=fun j b hj=>by
 have:=h (l.length+j) b (by rw [bu (by omega)];simpa using hj)
 rwa [Nat.add_assoc]
def RBs (s:List SB) (l:List SB) (q:cT):Prop:=q.length=l.length/\ ∀(j:Nat) (b:SB),l[j]? =some b-> ∃x,q[j]? =some x/\RB s b x
theorem RBs.append {s l m:List SB} {q r:cT} (h:RBs s l q) (k:RBs s m r):RBs s (l++m) (q++r):=by
 refine ⟨by simp [h.1,k.1],fun j b hj=>?_⟩
 rcases dv j l.length with hl|hl
 · rw [bq hl] at hj
   obtain ⟨x,h1,h2⟩:=h.2 j b hj;exact ⟨x,by rw [bq (by rw [h.1];exact hl)];exact h1,h2⟩
 rw [bu hl] at hj
 obtain ⟨x,h1,h2⟩:=k.2 _ b hj;exact ⟨x,by rw [bu (by rw [h.1];exact hl),h.1];exact h1,h2⟩
theorem RBs.nil {s:List SB}:RBs s [] []:=⟨rfl,fun j b h=>by simp at h⟩
theorem RBs.one {s:List SB} {b:SB} {x:mJ} (h:RB s b x):RBs s [b] [x]:=⟨rfl,fun j c hc=>by
 cases j with
 |zero=>simp at hc;subst hc;exact ⟨x,rfl,h⟩
 |succ j=>simp at hc⟩
mutual
theorem aBw: ∀{v:SV} {nx:Nat} {p0 p:PV} {q:cT},xS v=some p0->OR nx p0=some (p,q)-> ∀{s:List SB},CG s nx (EI nx v).2->R s (EI nx v).1 p/\RBs s (EI nx v).2 q
 | .int k n,nx,p0,p,q,h0,h,s,_=>by injection h0 with h0;subst h0;injection h with h;injection h with h1 h2;subst h1 h2;exact ⟨rfl,RBs.nil⟩
 | .bool b,nx,p0,p,q,h0,h,s,_=>by injection h0 with h0;subst h0;injection h with h;injection h with h1 h2;subst h1 h2;exact ⟨rfl,RBs.nil⟩
 | .agg cs,nx,p0,p,q,h0,h,s,hb=>by
  simp only [xS] at h0;split at h0
  · rename_i l hl
    injection h0 with h0;subst h0;simp only [OR] at h;split at h
    · rename_i r hr
      injection h with h;injection h with h1 h2;subst h1 h2;obtain ⟨h3,h4⟩:=ownOfL_R (p:=r.1) (q:=r.2) hl hr hb;exact ⟨⟨r.1,rfl,h3⟩,h4⟩
    cases h
  cases h0
 | .tup cs,nx,p0,p,q,h0,h,s,hb=>by
  simp only [xS] at h0;split at h0
  · rename_i l hl
    injection h0 with h0;subst h0;simp only [OR] at h;split at h
    · rename_i r hr
      injection h with h;injection h with h1 h2;subst h1 h2;obtain ⟨h3,h4⟩:=ownOfL_R (p:=r.1) (q:=r.2) hl hr hb;exact ⟨⟨r.1,rfl,h3⟩,h4⟩
    cases h
  cases h0
 | .sl r l,nx,p0,p,q,h0,h,s,hb=>by
  injection h0 with h0;subst h0;injection h with h;injection h with h1 h2;subst h1 h2;refine ⟨⟨r.length,l.length,by simp,.inl ⟨r,l,hb 0 _ rfl,rfl,rfl⟩⟩,RBs.one rfl⟩
 | .nil e c,nx,p0,p,q,h0,h,s,hb=>by
  injection h0 with h0;subst h0;cases c with
  |true=>simp [OR] at h
  |false=>
   injection h with h;injection h with h1 h2;subst h1 h2;exact ⟨⟨e,0,rfl,.inl ⟨_,[],hb 0 _ rfl,by simp,rfl⟩⟩,RBs.one (by show _=_;simp)⟩
 | .str _,nx,p0,p,q,h0,h,s,_=>by injection h0 with h0;subst h0;cases h
 | .nilf,nx,p0,p,q,h0,h,s,_=>by injection h0 with h0;subst h0;cases h
 | .rptr cs o,nx,p0,p,q,h0,h,s,_=>by
  simp only [xS] at h0;split at h0
  · injection h0 with h0;subst h0;cases h
  cases h0
 | .clo f a b,nx,p0,p,q,h0,h,s,_=>by
  simp only [xS] at h0;split at h0
  · injection h0 with h0;subst h0;cases h
  cases h0
 | .junk,_,_,_,_,h0,_,_,_| .undef,_,_,_,_,h0,_,_,_| .nul,_,_,_,_,h0,_,_,_| .own _ _,_,_,_,_,h0,_,_,_| .pre _ _ _ _,_,_,_,_,h0,_,_,_| .part _ _ _ _ _,_,_,_,_,h0,_,_,_
 | .pa _ _ _ _ _,_,_,_,_,h0,_,_,_| .pb _ _ _,_,_,_,_,h0,_,_,_| .bp _ _ _,_,_,_,_,h0,_,_,_| .mp _,_,_,_,_,h0,_,_,_=>by cases h0
theorem ownOfL_R: ∀{v:List SV} {nx:Nat} {p0 p:List PV} {q:cT},pvL v=some p0->ownPL nx p0=some (p,q)-> ∀{s:List SB},CG s nx (ownOfL nx v).2->RL s (ownOfL nx v).1 p/\RBs s (ownOfL nx v).2 q
 | [],nx,p0,p,q,h0,h,s,_=>by injection h0 with h0;subst h0;injection h with h;injection h with h1 h2;subst h1 h2;exact ⟨rfl,RBs.nil⟩
 |x::xs,nx,p0,p,q,h0,h,s,hb=>by
  obtain ⟨a,as,rfl,h1,h2⟩:=fD.1 h0;simp only [ownPL] at h;split at h
  · rename_i ra hra
    split at h
    · rename_i rb hrb
      injection h with h;injection h with e1 e2;subst e1 e2;simp only [ownOfL] at hb ⊢;obtain ⟨k1,k2⟩:=aBw (p:=ra.1) (q:=ra.2) h1 hra hb.left;rw [k2.1] at hrb;obtain ⟨k3,k4⟩:=ownOfL_R (p:=rb.1) (q:=rb.2) h2 hrb hb.right;exact ⟨RL.cons k1 k3,k2.append k4⟩
    cases h
  cases h
end
mutual
theorem aEF {s:List SB} {ps:cT} {z:List Nat} (hS:cU s ps): ∀{v v':SV} {p:PV} {seen seen':List Nat} (nx:Nat),R s v p->aCQ s z seen v=some (v',seen')-> ∃p0 p' q,xS v'=some p0/\OR nx p0=some (p',q)/\GK ps z nx seen p=some (p',q,seen')
 | .int k n,v',p,seen,seen',nx,h,hx=>by injection hx with hx;injection hx with h1 h2;subst h1 h2;rw [show p=_ from h];exact ⟨_,_,_,rfl,rfl,rfl⟩
 | .bool k,v',p,seen,seen',nx,h,hx=>by injection hx with hx;injection hx with h1 h2;subst h1 h2;rw [show p=_ from h];exact ⟨_,_,_,rfl,rfl,rfl⟩
 | .agg cs,v',p,seen,seen',nx,h,hx=>by
  obtain ⟨q,rfl,h⟩:=h;simp only [aCQ] at hx;split at hx
  · rename_i r hr
    injection hx with hx;injection hx with h1 h2;subst h1 h2;obtain ⟨p0,p',q',h3,h4,h5⟩:=imOVL_R hS (v':=r.1) (seen':=r.2) nx h hr;exact ⟨.agg p0,.agg p',q',by simp only [xS,h3],by simp only [OR,h4],by simp only [GK,h5];rfl⟩
  cases hx
 | .tup cs,v',p,seen,seen',nx,h,hx=>by
  obtain ⟨q,rfl,h⟩:=h;simp only [aCQ] at hx;split at hx
  · rename_i r hr
    injection hx with hx;injection hx with h1 h2;subst h1 h2;obtain ⟨p0,p',q',h3,h4,h5⟩:=imOVL_R hS (v':=r.1) (seen':=r.2) nx h hr;exact ⟨.tup p0,.tup p',q',by simp only [xS,h3],by simp only [OR,h4],by simp only [GK,h5];rfl⟩
  cases hx
 | .nil e c,v',p,seen,seen',nx,h,hx=>by
  cases c with
  |false=>cases hx
  |true=>injection hx with hx;injection hx with h1 h2;subst h1 h2;rw [show p=_ from h];exact ⟨_,_,_,rfl,rfl,rfl⟩
 | .own t ex,v',p,seen,seen',nx,h,hx=>by
  obtain ⟨e,n,rfl,hat⟩:=h;simp only [aCQ,cM] at hx;split at hx
  · rename_i r l hst
    obtain ⟨rfl,rfl⟩:=hat.inv hst;cases hc:(has seen t||has z t) with
    |true=>rw [hc] at hx;cases hx
    |false=>
     rw [hc] at hx;injection hx with hx;injection hx with h1 h2;subst h1 h2;refine ⟨_,_,_,rfl,rfl,?_⟩;simp only [GK,hS.arr hst,hc];simp
  cases hx
 | .junk,_,_,_,_,_,_,hx| .undef,_,_,_,_,_,_,hx| .nul,_,_,_,_,_,_,hx| .nilf,_,_,_,_,_,_,hx| .str _,_,_,_,_,_,_,hx| .sl _ _,_,_,_,_,_,_,hx| .pre _ _ _ _,_,_,_,_,_,_,hx| .part _ _ _ _ _,_,_,_,_,_,_,hx
 | .pa _ _ _ _ _,_,_,_,_,_,_,hx| .pb _ _ _,_,_,_,_,_,_,hx| .bp _ _ _,_,_,_,_,_,_,hx| .rptr _ _,_,_,_,_,_,_,hx| .clo _ _ _,_,_,_,_,_,_,hx| .mp _,_,_,_,_,_,_,hx=>by cases hx
theorem imOVL_R {s:List SB} {ps:cT} {z:List Nat} (hS:cU s ps): ∀{v v':List SV} {p:List PV} {seen seen':List Nat} (nx:Nat),RL s v p->imOVL s z seen v=some (v',seen')-> ∃p0 p' q,pvL v'=some p0/\ownPL nx p0=some (p',q)/\imOL ps z nx seen p=some (p',q,seen')
 | [],v',p,seen,seen',nx,h,hx=>by injection hx with hx;injection hx with h1 h2;subst h1 h2;rw [show p=_ from h];exact ⟨_,_,_,rfl,rfl,rfl⟩
 |x::xs,v',p,seen,seen',nx,h,hx=>by
  obtain ⟨a,as,rfl,h1,h2⟩:=h.cons_inv;simp only [imOVL] at hx;split at hx
  · rename_i r hr
    split at hx
    · rename_i r2 hr2
      injection hx with hx;injection hx with e1 e2;subst e1 e2;obtain ⟨p0,p',q,k1,k2,k3⟩:=aEF hS (v':=r.1) (seen':=r.2) nx h1 hr;obtain ⟨p02,p'2,q2,k4,k5,k6⟩:=imOVL_R hS (v':=r2.1) (seen':=r2.2) (nx+q.length) h2 hr2;exact ⟨p0::p02,p'::p'2,q++q2,fD.2 ⟨_,_,rfl,k1,k4⟩,by simp only [ownPL,k2,k5],by simp only [imOL,k3,k6]⟩
    cases hx
  cases hx
end
mutual
theorem WT {s:List SB}: ∀{v:SV} {p:PV},R s v p->HM v=true->p.noref=true
 | .int _ _,p,h,_| .bool _,p,h,_| .str _,p,h,_=>by rw [show p=_ from h];rfl
 | .agg cs,p,h,hn=>by obtain ⟨q,rfl,h⟩:=h;exact norefSL_R h hn
 | .tup cs,p,h,hn=>by obtain ⟨q,rfl,h⟩:=h;exact norefSL_R h hn
 | .junk,_,_,h| .undef,_,_,h| .nul,_,_,h| .nilf,_,_,h| .sl _ _,_,_,h| .nil _ _,_,_,h| .own _ _,_,_,h| .pre _ _ _ _,_,_,h| .part _ _ _ _ _,_,_,h| .pa _ _ _ _ _,_,_,h| .pb _ _ _,_,_,h| .bp _ _ _,_,_,h| .rptr _ _,_,_,h| .clo _ _ _,_,_,h| .mp _,_,_,h=>by cases h
theorem norefSL_R {s:List SB}: ∀{v:List SV} {p:List PV},RL s v p->norefSL v=true->norefL p=true
 | [],p,h,_=>by rw [show p=_ from h];rfl
 |x::xs,p,h,hn=>by
  obtain ⟨a,as,rfl,h1,h2⟩:=h.cons_inv;simp only [norefSL,bn] at hn;simp only [norefL,WT h1 hn.1,norefSL_R h2 hn.2,cz]
end
mutual
theorem RW {s:List SB} {u:SV}: ∀{v:SV} {p:PV},R s v p->HM v=false->imV s v=some u->p.noref=false
 | .int _ _,p,h,hn,_| .bool _,p,h,hn,_| .str _,p,h,hn,_=>by cases hn
 | .agg cs,p,h,hn,hi=>by
  obtain ⟨q,rfl,h⟩:=h;simp only [imV] at hi;split at hi
  · rename_i l hl;exact yesrefSL_R h hn hl
  cases hi
 | .tup cs,p,h,hn,hi=>by
  obtain ⟨q,rfl,h⟩:=h;simp only [imV] at hi;split at hi
  · rename_i l hl;exact yesrefSL_R h hn hl
  cases hi
 | .sl _ _,p,h,_,_=>by rw [show p=_ from h];rfl
 | .nil _ _,p,h,_,_=>by rw [show p=_ from h];rfl
 | .own _ _,p,h,_,_=>by obtain ⟨e,n,rfl,_⟩:=h;rfl
 | .pre _ _ _ _,p,h,_,_=>by obtain ⟨e,rfl,_⟩:=h;rfl
 | .part _ _ _ _ _,p,h,_,_=>by obtain ⟨e,rfl,_⟩:=h;rfl
 | .junk,_,_,_,h| .undef,_,_,_,h| .nul,_,_,_,h| .nilf,_,_,_,h| .pa _ _ _ _ _,_,_,_,h| .pb _ _ _,_,_,_,h| .bp _ _ _,_,_,_,h| .rptr _ _,_,_,_,h| .clo _ _ _,_,_,_,h| .mp _,_,_,_,h=>by cases h
theorem yesrefSL_R {s:List SB}: ∀{v u:List SV} {p:List PV},RL s v p->norefSL v=false->imVL s v=some u->norefL p=false
 | [],u,p,h,hn,_=>by cases hn
 |x::xs,u,p,h,hn,hi=>by
  obtain ⟨a,as,rfl,h1,h2⟩:=h.cons_inv;simp only [imVL] at hi;split at hi
  · rename_i y ys h3 h4
    simp only [norefSL] at hn;simp only [norefL];cases hx:HM x with
    |false=>rw [RW h1 hx h3];rfl
    |true=>rw [hx] at hn;rw [yesrefSL_R h2 (by simpa using hn) h4];simp
  cases hi
end
mutual
theorem aNM {s:List SB} {ps:cT} (hS:cU s ps): ∀{v u:SV} {p:PV},R s v p->imV s v=some u-> ∃q,FK ps p=some q/\xS u=some q
 | .int k n,u,p,h,hx=>by injection hx with hx;subst hx;rw [show p=_ from h];exact ⟨_,rfl,rfl⟩
 | .bool b,u,p,h,hx=>by injection hx with hx;subst hx;rw [show p=_ from h];exact ⟨_,rfl,rfl⟩
 | .str x,u,p,h,hx=>by injection hx with hx;subst hx;rw [show p=_ from h];exact ⟨_,rfl,rfl⟩
 | .agg cs,u,p,h,hx=>by
  obtain ⟨q,rfl,h⟩:=h;simp only [imV] at hx;split at hx
  · rename_i l hl
    injection hx with hx;subst hx;obtain ⟨q',h1,h2⟩:=imVL_R hS h hl;exact ⟨.agg q',by simp only [FK,h1];rfl,by simp only [xS,h2]⟩
  cases hx
 | .tup cs,u,p,h,hx=>by
  obtain ⟨q,rfl,h⟩:=h;simp only [imV] at hx;split at hx
  · rename_i l hl
    injection hx with hx;subst hx;obtain ⟨q',h1,h2⟩:=imVL_R hS h hl;exact ⟨.tup q',by simp only [FK,h1];rfl,by simp only [xS,h2]⟩
  cases hx
 | .sl r l,u,p,h,hx=>by injection hx with hx;subst hx;rw [show p=_ from h];exact ⟨_,rfl,rfl⟩
 | .nil e c,u,p,h,hx=>by injection hx with hx;subst hx;rw [show p=_ from h];exact ⟨_,rfl,rfl⟩
 | .own t ex,u,p,h,hx=>by
  simp only [imV,cM] at hx;split at hx
  · rename_i r l hst
    injection hx with hx;subst hx;obtain ⟨e,n,rfl,hat⟩:=h;obtain ⟨rfl,rfl⟩:=hat.inv hst;refine ⟨.sl r.length false (l.map (RT.pv r)),?_,rfl⟩;simp only [FK,hS.arr hst,dh];rw [de (by simp)]
  cases hx
 | .pre t len cap ex,u,p,h,hx=>by
  simp only [imV,cM] at hx;split at hx
  · rename_i r l hst
    injection hx with hx;subst hx;obtain ⟨e,rfl,hat⟩:=h
    have:=hat.inv hst
    subst this;refine ⟨.sl r.length false ((l.take len).map (RT.pv r)),?_,rfl⟩;simp only [FK,hS.arr hst,dh,dd]
  cases hx
 | .part t off len cap ex,u,p,h,hx=>by
  simp only [imV,cM] at hx;split at hx
  · rename_i r l hst
    injection hx with hx;subst hx;obtain ⟨e,rfl,hat⟩:=h
    have:=hat.inv hst
    subst this;refine ⟨.sl r.length false (((l.drop off).take len).map (RT.pv r)),?_,rfl⟩;simp only [FK,hS.arr hst,dd,dy]
  cases hx
 | .junk,_,_,_,hx| .undef,_,_,_,hx| .nul,_,_,_,hx| .nilf,_,_,_,hx| .pa _ _ _ _ _,_,_,_,hx| .pb _ _ _,_,_,_,hx| .bp _ _ _,_,_,_,hx| .rptr _ _,_,_,_,hx| .clo _ _ _,_,_,_,hx| .mp _,_,_,_,hx=>by cases hx
theorem imVL_R {s:List SB} {ps:cT} (hS:cU s ps): ∀{v u:List SV} {p:List PV},RL s v p->imVL s v=some u-> ∃q,imFL ps p=some q/\pvL u=some q
 | [],u,p,h,hx=>by injection hx with hx;subst hx;rw [show p=_ from h];exact ⟨_,rfl,rfl⟩
 |x::xs,u,p,h,hx=>by
  obtain ⟨a,as,rfl,h1,h2⟩:=h.cons_inv;simp only [imVL] at hx;split at hx
  · rename_i y ys h3 h4
    injection hx with hx;subst hx;obtain ⟨q,h5,h6⟩:=aNM hS h1 h3;obtain ⟨qs,h7,h8⟩:=imVL_R hS h2 h4;exact ⟨q::qs,by simp only [imFL,h5,h7],fD.2 ⟨_,_,rfl,h6,h8⟩⟩
  cases hx
end
mutual
theorem aEG {s:List SB}: ∀{v:SV} {p:PV},xS v=some p->R s v p
 | .int _ _,p,h| .bool _,p,h| .str _,p,h| .nilf,p,h| .sl _ _,p,h| .nil _ _,p,h=>by injection h with h;exact h.symm
 | .agg cs,p,h=>by
  simp only [xS] at h;split at h
  · rename_i l hl;injection h with h;exact ⟨l,h.symm,pvL_R hl⟩
  cases h
 | .tup cs,p,h=>by
  simp only [xS] at h;split at h
  · rename_i l hl;injection h with h;exact ⟨l,h.symm,pvL_R hl⟩
  cases h
 | .rptr cs o,p,h=>by
  simp only [xS] at h;split at h
  · rename_i l hl;injection h with h;exact ⟨l,h.symm,pvL_R hl⟩
  cases h
 | .clo f a b,p,h=>by
  simp only [xS] at h;split at h
  · rename_i x y h1 h2;injection h with h;exact ⟨x,y,h.symm,pvL_R h1,pvL_R h2⟩
  cases h
 | .junk,_,h| .undef,_,h| .nul,_,h| .own _ _,_,h| .pre _ _ _ _,_,h| .part _ _ _ _ _,_,h| .pa _ _ _ _ _,_,h| .pb _ _ _,_,h| .bp _ _ _,_,h| .mp _,_,h=>by cases h
theorem pvL_R {s:List SB}: ∀{v:List SV} {p:List PV},pvL v=some p->RL s v p
 | [],p,h=>by injection h with h;exact h.symm
 |x::xs,p,h=>by
  obtain ⟨a,as,rfl,h1,h2⟩:=fD.1 h;exact RL.cons (aEG h1) (pvL_R h2)
end
def aNN (kd:Kd) (n:Nat) (tk:List Nat) (v:SV) (r:rO):Prop:=
 match kd with
 | .pure=> ∃p,xS v=some p/\r={v:=p,rd:=tk}
 | .frz=> ∃p,xS v=some p/\r={v:=p,rd:=tk,fr:=tk}
 | .own=> ∃p0 p q,xS v=some p0/\OR n p0=some (p,q)/\r={v:=p,news:=q,rd:=tk}
def aI (F : qG) (f : FuncId) (c : bJ) : Prop :=
  ∀ (a : c.α) (b : c.β) (as args : List PV) (sto : cT) (fz : List Nat), c.fn a = some b -> pvL (c.args.enc a) = some args -> exL sto (D3 sto fF) as = some args ->
    ∃ n r, callPure F (run F n) c.ow f as sto fz = some r /\ aNN c.kd sto.length (toksL (dP sto fF) as) (c.res.enc b) r
def eH.va (c:eH) (a:mN c.ka):List SV:=(putL c.ta (pK c.ka a)).1
def eH.sa (c:eH) (a:mN c.ka):List SB:=(HN c.tb (putL c.ta (pK c.ka a)).2).1
def eH.vb (c:eH) (b:mN c.ko):SV:=(zE c.tv (pK c.ko b)).1
def eH.sb (c:eH) (b:mN c.ko):List SB:=(HN c.to (zE c.tv (pK c.ko b)).2).1
def aEH:SB->SB->Prop
 | .arr r l,.arr q m=>r=q/\m.length=l.length
 | .box _,.box _=>True
 | .set _,.set _=>True
 | .tab _ _,.tab _ _=>True
 | .dead,.dead=>True
 |_,_=>False
def lG (F : qG) (f : FuncId) (c : eH) : Prop :=
  ∀ (a : mN c.ka) (b : mN c.ko) (pa : List PV) (ps : cT), c.fn a = some b -> RL (c.sa a) (c.va a) pa -> cU (c.sa a) ps ->
    ∃ n v s, run F n (.func f pa ps []) = some (.func v s []) /\ jT (c.sa a).length v s = true /\ R (c.sb b) (c.vb b) v /\ cU (c.sb b) (s.take (c.sa a).length) /\ (c.sb b).length = (c.sa a).length /\
      ∀ (t : Nat) (x y : SB), (c.sa a)[t]? = some x -> (c.sb b)[t]? = some y -> aEH x y
def HU (F:qG):List (Nat×bJ)->Prop
 | []=>True
 |(f,c)::r=>aI F f c/\HU F r
def RX (F:qG):List (Nat×eH)->Prop
 | []=>True
 |(f,c)::r=>lG F f c/\RX F r
def JD (F:qG):List (Nat×Cd)->Prop
 | []=>True
 |(f,x)::r=>F f=some x.ent/\JD F r
structure jA (F:qG) (cx:Ctx):Prop where
 con: ∀f c,c∈cx.con f->aI F f c
 fpc: ∀f c,c∈cx.fpc f->lG F f c
 code: ∀f x,cx.code f=some x->F f=some x.ent
theorem HU.mem {F:qG}: ∀{l:List (Nat×bJ)},HU F l-> ∀f c,c∈WH l f->aI F f c
 | [],_,f,c,h=>by cases h
 |(g,d)::r,hl,f,c,h=>by
  simp only [WH] at h;cases hb:ce g f with
  |true=>
   rw [hb] at h
   have:=bm hb
   subst this;simp only [cond_true] at h;rcases h with _|⟨_,h⟩
   · exact hl.1
   exact HU.mem hl.2 _ c h
  |false=>rw [hb] at h;exact HU.mem hl.2 f c h
theorem RX.mem {F:qG}: ∀{l:List (Nat×eH)},RX F l-> ∀f c,c∈WI l f->lG F f c
 | [],_,f,c,h=>by cases h
 |(g,d)::r,hl,f,c,h=>by
  simp only [WI] at h;cases hb:ce g f with
  |true=>
   rw [hb] at h
   have:=bm hb
   subst this;simp only [cond_true] at h;rcases h with _|⟨_,h⟩
   · exact hl.1
   exact RX.mem hl.2 _ c h
  |false=>rw [hb] at h;exact RX.mem hl.2 f c h
theorem JD.mem {F:qG}: ∀{l:List (Nat×Cd)},JD F l-> ∀f x,TS l f=some x->F f=some x.ent
 | [],_,f,c,h=>by cases h
 |(g,d)::r,hl,f,c,h=>by
  simp only [TS] at h;cases hb:ce g f with
  |true=>
   rw [hb] at h
   have:=bm hb
   subst this;injection h with h;subst h;exact hl.1
  |false=>rw [hb] at h;exact JD.mem hl.2 f c h
theorem jA.make {F:qG} {lp:Option Nat} {c:List (Nat×bJ)} {p:List (Nat×eH)} {x:List (Nat×Cd)} {rk:List (Nat×List PT)} (h1:HU F c) (h2:RX F p) (h3:JD F x):jA F (kY lp c p x rk):=
 ⟨h1.mem,h2.mem,h3.mem⟩
section
variable {F : qG} {R' ρ : Type} {w : R' -> ρ} {y : ρ} {s : List SB} {ps : cT} {z : List Nat}
theorem EM {f:FuncId} {m:Bool} {tk:List Nat} {vs:List SV} {k:XRS->iJ R'} (hS:cU s ps) {as args:List PV} (hx:exL ps (D3 ps fF) as=some args) (hv:pvL vs=some args) (htk:tk=toksL (dP ps fF) as):
 ∀{l:List bJ},(∀c∈l,aI F f c)->Z9 f m s tk vs k l ρ w=some y-> ∃sr pr,(∃n,callPure F (run F n) m f as ps z=some pr)/\iZ s ps sr pr/\k (.loc sr) ρ w=some y
 | [],_,h=>by cases h
 |c::l,hl,h=>by
  simp only [Z9] at h;cases hd:c.args.dec vs with
  |none=>rw [hd] at h;exact EM hS hx hv htk (fun c hc=>hl c (ec _ hc)) h
  |some a=>
   rw [hd] at h;cases hmo:(m==c.ow) with
   |false=>
    rw [hmo] at h;exact EM hS hx hv htk (fun c hc=>hl c (ec _ hc)) h
   |true=>
   rw [hmo] at h;obtain ⟨b,hb,h2⟩:=cZ h;have hm:m=c.ow:=by simpa using hmo
   subst hm;have henc:=c.args.law hd hv;obtain ⟨n,r,hr,hres⟩:=hl c (d5 ..) a b as args ps z hb henc hx;cases hkd:c.kd with
   |pure=>
    rw [hkd] at h2 hres;obtain ⟨p,h3,rfl⟩:=hres;exact ⟨_,_,⟨n,hr⟩,by rw [<- htk];exact iZ.val hS (aEG h3),h2⟩
   |frz=>
    rw [hkd] at h2 hres;obtain ⟨p,h3,rfl⟩:=hres;exact ⟨_,_,⟨n,hr⟩,by rw [<- htk];exact iZ.val hS (aEG h3),h2⟩
   |own=>
    rw [hkd] at h2 hres;obtain ⟨p0,p,q,h3,h4,rfl⟩:=hres;rw [hS.len] at h4;have hbh:CG (s++(EI s.length (c.res.enc b)).2) s.length (EI s.length (c.res.enc b)).2:=fun j x hj=>by
     rw [bu (by omega)];simpa using hj
    obtain ⟨k1,k2⟩:=aBw h3 h4 hbh;exact ⟨_,_,⟨n,hr⟩,by rw [<- htk];exact iZ.news hS k2.1 k2.2 k1,h2⟩
end
end Go.Vm
/- A call of a function that works on the blocks that are lent to it. -/
namespace Go.Vm
def wJ {α:Type}:List (Nat×α)->List α->List α
 | [],s=>s
 |(t,b)::r,s=>wJ r (s.set t b)
theorem CH: ∀(l:List (Nat×SB)) (s:List SB),wI l s=wJ l s
 | [],s=>rfl
 |(t,b)::r,s=>by simp only [wI,wJ,I5,CH r]
theorem L1: ∀(l:List (Nat×mJ)) (s:cT),hZ l s=wJ l s
 | [],s=>rfl
 |(t,b)::r,s=>by simp only [hZ,wJ,L1 r]
theorem HV {α:Type}: ∀(l:List (Nat×α)) (s:List α),(wJ l s).length=s.length
 | [],s=>rfl
 |(t,b)::r,s=>by simp [wJ,HV r]
theorem CI {α:Type}: ∀(l:List (Nat×α)) (s:List α) (t:Nat),t∉l.map (·.1)->(wJ l s)[t]? =s[t]?
 | [],s,t,_=>rfl
 |(u,b)::r,s,t,h=>by
  simp only [cy,List.mem_cons,not_or] at h;simp only [wJ];rw [CI r _ t h.2,cb];simp [Ne.symm h.1]
theorem KW {α:Type}: ∀(l:List (Nat×α)) (s:List α) (j t:Nat) (b:α),(l.map (·.1)).Nodup->l[j]? =some (t,b)->t<s.length->(wJ l s)[t]? =some b
 | [],s,j,t,b,_,h,_=>by simp at h
 |(u,c)::r,s,0,t,b,hn,h,ht=>by
  simp at h;obtain ⟨rfl,rfl⟩:=h;simp only [cy,fa] at hn;simp only [wJ];rw [CI r _ u hn.1,cb];simp [ht]
 |(u,c)::r,s,j+1,t,b,hn,h,ht=>by
  simp only [cy,fa] at hn;simp only [wJ];exact KW r _ j t b hn.2 (by simpa using h) (by simpa using ht)
theorem JE: ∀(l:List (Nat×SB)),EJ l=l.map (·.1)
 | []=>rfl
 |(t,b)::r=>by simp [EJ,JE r]
theorem RY (g:Nat->Nat): ∀(tk:List Nat) (s:List SB),s.length=tk.length->(GV g tk s).map (·.1)=tk/\ ∀(j t:Nat) (b:SB),tk[j]? =some t->s[j]? =some b->(GV g tk s)[j]? =some (t,aEi g b)
 | [],s,h=>⟨by simp [GV],fun j t b hj=>by simp at hj⟩
 |t::tk,[],h=>by simp at h
 |t::tk,b::s,h=>by
  obtain ⟨h1,h2⟩:=RY g tk s (by simpa using h)
  refine ⟨by simp [GV,h1],fun j u c hj hc=>?_⟩
  cases j with
  |zero=>simp at hj hc;subst hj hc;rfl
  |succ j=>simp only [GV,di];exact h2 j u c (by simpa using hj) (by simpa using hc)
theorem OS (g:Nat->Nat): ∀(tk:List Nat) (s:cT),tk.length<=s.length->(tD g tk s).map (·.1)=tk/\ ∀(j t:Nat) (b:mJ),tk[j]? =some t->s[j]? =some b->(tD g tk s)[j]? =some (t,GL g b)
 | [],s,h=>⟨by simp [tD],fun j t b hj=>by simp at hj⟩
 |t::tk,[],h=>by simp at h
 |t::tk,b::s,h=>by
  obtain ⟨h1,h2⟩:=OS g tk s (by simpa using h)
  refine ⟨by simp [tD,h1],fun j u c hj hc=>?_⟩
  cases j with
  |zero=>simp at hj hc;subst hj hc;rfl
  |succ j=>simp only [tD,di];exact h2 j u c (by simpa using hj) (by simpa using hc)
theorem RZ: ∀{l:List (Nat×mJ)},(l.map (·.1)).Nodup->BZ l=true
 | [],_=>rfl
 |p::r,h=>by
  simp only [cy,fa] at h;simp only [BZ,bn,df,cm];refine ⟨fun q hq=>?_,RZ h.2⟩
  cases hb:ce q.1 p.1 with
  |false=>rfl
  |true=>exact absurd (fy.2 ⟨q,hq,bm hb⟩) h.1
theorem TZ: ∀(s:List SB),J6 [] s=s
 | []=>rfl
 |b::r=>by
  simp only [J6,TZ r];cases b<;>simp [dgB,dgL_nil]
theorem WU (s:List SB) (r:gX):r.stoOf s=J6 (EJ r.wr) (wI r.wr s)++r.news:=by
 unfold gX.stoOf;split
 · rename_i h;rw [h];simp only [EJ,wI,TZ,pI]
 simp only [pI]
def aOf (g:Nat->Nat) (s s2:List SB):Prop:= ∀(u:Nat) (x:SB),s[u]? =some x->match x with
 | .arr r l=>s2[g u]? =some (.arr r l)
 | .dead=>s2[g u]? =some .dead
 | .box _=> ∃cs,s2[g u]? =some (.box cs)
 |_=>True
mutual
theorem aBx {g:Nat->Nat} {s s2:List SB} (hb:aOf g s s2): ∀{v:SV} {p:PV},R s v p->R s2 (WD g v) (renF g p)
 | .junk,_,_=>trivial
 | .undef,p,h| .nul,p,h| .nilf,p,h| .int _ _,p,h| .bool _,p,h| .str _,p,h| .sl _ _,p,h| .nil _ _,p,h| .bp _ _ _,p,h| .mp _,p,h=>by rw [show p=_ from h];rfl
 | .agg cs,p,h=>by obtain ⟨q,rfl,h⟩:=h;exact ⟨_,rfl,backL_R hb h⟩
 | .tup cs,p,h=>by obtain ⟨q,rfl,h⟩:=h;exact ⟨_,rfl,backL_R hb h⟩
 | .rptr cs o,p,h=>by obtain ⟨q,rfl,h⟩:=h;exact ⟨_,rfl,backL_R hb h⟩
 | .clo f a b,p,h=>by obtain ⟨pa,pb,rfl,h1,h2⟩:=h;exact ⟨_,_,rfl,backL_R hb h1,backL_R hb h2⟩
 | .own t ex,p,h=>by
  obtain ⟨e,n,rfl,hat⟩:=h;refine ⟨e,n,rfl,?_⟩;rcases hat with ⟨r,l,h1,h2,h3⟩|h1
  · exact .inl ⟨r,l,hb t _ h1,h2,h3⟩
  exact .inr (hb t _ h1)
 | .pre t a b c,p,h=>by
  obtain ⟨e,rfl,hat⟩:=h;refine ⟨e,rfl,?_⟩;rcases hat with ⟨r,l,h1,h2⟩|h1|⟨cs,h1,h2⟩
  · exact .inl ⟨r,l,hb t _ h1,h2⟩
  · exact .inr (.inl (hb t _ h1))
  obtain ⟨c2,h3⟩:=hb t _ h1
  exact .inr (.inr ⟨c2,h3,h2⟩)
 | .part t o a b c,p,h=>by
  obtain ⟨e,rfl,hat⟩:=h;refine ⟨e,rfl,?_⟩;rcases hat with ⟨r,l,h1,h2⟩|h1|⟨cs,h1,h2⟩
  · exact .inl ⟨r,l,hb t _ h1,h2⟩
  · exact .inr (.inl (hb t _ h1))
  obtain ⟨c2,h3⟩:=hb t _ h1
  exact .inr (.inr ⟨c2,h3,h2⟩)
 | .pa t r i a o,p,h=>by
  obtain ⟨rfl,hat⟩:=h;refine ⟨_,rfl,?_⟩;rcases hat with ⟨l,h1,h2⟩|h1
  · exact .inl ⟨r,l,hb t _ h1,by rw [h2];rfl⟩
  exact .inr (hb t _ h1)
 | .pb t i o,p,h=>by
  obtain ⟨e,rfl,hat⟩:=h;refine ⟨e,rfl,?_⟩;rcases hat with ⟨r,l,h1,h2⟩|h1
  · exact .inl ⟨r,l,hb t _ h1,h2⟩
  exact .inr (hb t _ h1)
theorem backL_R {g:Nat->Nat} {s s2:List SB} (hb:aOf g s s2): ∀{v:List SV} {p:List PV},RL s v p->RL s2 (backL g v) (renFL g p)
 | [],p,h=>by rw [show p=_ from h];rfl
 |x::xs,p,h=>by
  obtain ⟨a,as,rfl,h1,h2⟩:=h.cons_inv;exact RL.cons (aBx hb h1) (backL_R hb h2)
end
theorem OT: ∀{a b:cT},(∀(t:Nat) (x:mJ),a[t]? =some x-> ∃y,b[t]? =some y/\x.solid=y.solid)->BY a b=true
 | [],b,_=>by cases b<;>rfl
 |x::a,[],h=>by obtain ⟨y,hy,_⟩:=h 0 x rfl;simp at hy
 |x::a,y::b,h=>by
  obtain ⟨y',h1,h2⟩:=h 0 x rfl;simp at h1;subst h1
  have:=OT (a:=a) (b:=b) (fun t x hx=>by simpa using h (t+1) x (by simpa using hx))
  simp only [BY,this,eb,h2];cases y.solid<;>rfl
section
variable {F : qG} {R' ρ : Type} {w : R' -> ρ} {y : ρ} {s : List SB} {ps : cT} {z : List Nat}
theorem aBy {f:FuncId} {tk:List Nat} {vals vs:List SV} {s0:List SB} {k:XRS->iJ R'} (hS:cU s ps) {pas:List PV} (hv:RL s vals pas) (htk:tk=sY (toksL (dP ps fF) pas)) (hz:(tk.all fun t=>!has z t)=true)
 (h1:renVL tk vals=some vs) (h2:QS s tk tk=some s0):
 ∀{l:List eH},(∀c∈l,lG F f c)->fpS f s.length tk vs s0 k l ρ w=some y-> ∃sr pr,(∃n,AG (run F n) f pas ps z=some pr)/\iZ s ps sr pr/\k (.loc sr) ρ w=some y
 | [],_,h=>by cases h
 |c::l,hl,h=>by
  have next:fpS f s.length tk vs s0 k l ρ w=some y-> ∃sr pr,(∃n,AG (run F n) f pas ps z=some pr)/\iZ s ps sr pr/\k (.loc sr) ρ w=some y:=
   fun h=>aBy hS hv htk hz h1 h2 (fun c hc=>hl c (ec _ hc)) h
  simp only [fpS] at h;cases hlk:(likeL c.ta vs&&OC c.tb s0) with
  |false=>rw [hlk] at h;exact next h
  |true=>
   rw [hlk] at h;simp only [cond_true] at h;cases hpo:wH c.ka (atsL vs++TP s0) with
   |none=>rw [hpo] at h;exact next h
   |some a=>
    rw [hpo] at h;obtain ⟨b,hb,h3⟩:=cZ h;simp only [bn] at hlk;have hats:=xT hpo;have hva:c.va a=vs:=by unfold eH.va;rw [hats,put_atsL _ hlk.1]
    have hsa:c.sa a=s0:=by
     unfold eH.sa;rw [hats,put_atsL _ hlk.1]
     have:=JC [] hlk.2
     rw [cu] at this;rw [this]
    have hren:OQ tk s s0:=by have:=OQ.of (l:=[]) h2;rwa [cu] at this
    obtain ⟨pa',a1,a2⟩:=renVL_R hren hv h1;obtain ⟨p0,b1,b2,b3⟩:=KS hS hren h2;have hs0:cU s0 p0:=⟨b2,b3⟩;obtain ⟨hs0l,hs0g⟩:=EL h2;obtain ⟨n,v,sr,r1,r2,r3,r4,r5,r6⟩:=hl c (d5 ..) a b pa' p0 hb (by rw [hva,hsa];exact a2) (by rw [hsa];exact hs0)
    rw [hsa] at r2 r4 r5 r6;have hnd:tk.Nodup:=by rw [htk];exact zL
    have htl: ∀t∈tk,t<s.length:=fun t ht=>by
     obtain ⟨j,hj,he⟩:=ef ht;obtain ⟨x,c',d1,_,_⟩:=hs0g j t (by rw [bw hj,he])
     exact (bo.1 d1).1
    have hsbl:(c.sb b).length=tk.length:=by rw [r5,hs0l]
    have hsrl:tk.length<=sr.length:=by
     have:=r4.len
     rw [dc,hsbl] at this;rw [hs0l] at this;omega
    have htake: ∀j,j<tk.length->(sr.take s0.length)[j]? =sr[j]?:=fun j hj=>bz (by rw [hs0l];exact hj)
    have hfirm:BY p0 sr=true:=OT (fun t x hx=>by
     have htl':t<s0.length:=by have:=(bo.1 hx).1;rw [b2] at this;exact this
     obtain ⟨x0,hx0⟩: ∃x0,s0[t]? =some x0:=⟨s0[t],bw htl'⟩;obtain ⟨q,q1,q2⟩:=b3 t x0 hx0;rw [hx] at q1;injection q1 with q1;subst q1;obtain ⟨y0,hy0⟩: ∃y0,(c.sb b)[t]? =some y0:=⟨(c.sb b)[t]'(by omega),bw (by omega)⟩
     obtain ⟨q',q3,q4⟩:=r4.at_ t y0 hy0;rw [htake t (by omega)] at q3
     refine ⟨q',q3,?_⟩;have hfm:=r6 t x0 y0 hx0 hy0;cases x0 with
     |arr r l=>cases y0 with
      |arr r' l'=>
       obtain ⟨rfl,hll⟩:=hfm;rw [show x=_ from q2,show q'=_ from q4];cases l<;>cases l'<;>simp_all [mJ.solid]
      |_=>exact hfm.elim
     |box cs=>cases y0 with
      |box cs'=>obtain ⟨_,rfl,_⟩:=q2;obtain ⟨_,rfl,_⟩:=q4;rfl
      |_=>exact hfm.elim
     |set l=>cases y0 with
      |set l'=>rw [show x=_ from q2,show q'=_ from q4];rfl
      |_=>exact hfm.elim
     |tab p l=>cases y0 with
      |tab p' l'=>rw [show x=_ from q2,show q'=_ from q4];rfl
      |_=>exact hfm.elim
     |dead=>cases y0 with
      |dead=>rw [show x=_ from q2,show q'=_ from q4]
      |_=>exact hfm.elim)
    let g:=mR tk s.length
    have hg: ∀j t,tk[j]? =some t->g j=t:=fun j t hj=>by show mR tk s.length j=t;unfold mR;rw [hj]
    obtain ⟨w1,w2⟩:=RY g tk (c.sb b) hsbl;obtain ⟨u1,u2⟩:=OS g tk sr hsrl
    let s2:=J6 tk (wI (GV g tk (c.sb b)) s)
    have hin: ∀(j t:Nat) (x:SB),tk[j]? =some t->(c.sb b)[j]? =some x->s2[t]? =some (dgB tk (aEi g x)):=fun j t x hj hx=>by
     show (J6 tk _)[t]? =_;rw [wX,CH,KW _ s j t _ (by rw [w1];exact hnd) (w2 j t x hj hx) (htl t (dt hj))]
     rfl
    have hout: ∀(t:Nat),t∉tk->s2[t]? =(s[t]?).map (dgB tk):=fun t ht=>by
     show (J6 tk _)[t]? =_;rw [wX,CH,CI _ s t (by rw [w1];exact ht)]
    have hmem: ∀t∈tk,∃j,tk[j]? =some t:=fun t ht=>by
     obtain ⟨j,hj,he⟩:=ef ht;exact ⟨j,by rw [bw hj,he]⟩
    have hfr:Fr tk s s2:=fun t x hx=>by
     by_cases ht:t∈tk
     · obtain ⟨j,hj⟩:=hmem t ht
       have hjl:j<tk.length:=(bo.1 hj).1;obtain ⟨x',c',d1,d2,d3⟩:=hs0g j t hj;rw [hx] at d1;injection d1 with d1;subst d1;obtain ⟨y0,hy0⟩: ∃y0,(c.sb b)[j]? =some y0:=⟨(c.sb b)[j]'(by omega),bw (by omega)⟩
       have hfm:=r6 j c' y0 d3 hy0;have hs2:=hin j t y0 hj hy0;cases x with
       |arr r l=>
        injection d2 with d2;subst d2;cases y0 with
        |arr r' l'=>
         obtain ⟨rfl,hll⟩:=hfm;refine .inl ⟨l',hs2,hll,fun hb=>?_⟩
         exfalso
         have:has tk t=true:=by unfold has;rw [gc];exact ⟨t,ht,by simp⟩
         rw [this] at hb;cases hb
        |_=>exact hfm.elim
       |dead=>
        injection d2 with d2;subst d2;cases y0 with
        |dead=>exact hs2
        |_=>exact hfm.elim
       |box cs=>
        simp only [Z5] at d2;split at d2
        · injection d2 with d2;subst d2
          cases y0 with
          |box c2=>exact .inl ⟨_,hs2⟩
          |_=>exact hfm.elim
        cases d2
       |_=>trivial
     have:=hout t ht
     rw [hx] at this;cases x with
     |arr r l=>exact .inl ⟨l,this,rfl,fun _=>rfl⟩
     |dead=>exact this
     |box c2=>exact .inl ⟨_,this⟩
     |_=>trivial
    have hback:aOf g (c.sb b) s2:=fun u x hx=>by
     have hul:u<tk.length:=by have:=(bo.1 hx).1;omega
     have hj:tk[u]? =some tk[u]:=bw hul
     have:=hin u _ x hj hx
     rw [hg u _ hj];cases x with
     |arr r l=>exact this
     |dead=>exact this
     |box cs=>exact ⟨_,this⟩
     |_=>trivial
    have hRes:(∃n,AG (run F n) f pas ps z=some {v:=renF g v,wr:=tD g tk sr}):=by
     refine ⟨n,?_⟩;unfold AG aF8;rw [<- htk,if_pos hz,a1,b1];dsimp only;rw [r1];dsimp only;unfold NE;rw [if_pos hfirm,hS.len]
     have:jT tk.length v sr=true:=by rw [<- hs0l];exact r2
     rw [if_pos this]
    refine ⟨{v:=WD g (c.vb b),wr:=GV g tk (c.sb b)},_,hRes,?_,h3⟩;have hst:gX.stoOf s {v:=WD g (c.vb b),wr:=GV g tk (c.sb b)}=s2:=by
     rw [WU,cu,JE,w1]
    exact {
     rd:=rfl
     fr:=rfl
     wr:=by rw [JE,w1];exact u1
     nw:=RZ (by rw [u1];exact hnd)
     nl:=rfl
     sto:=by
      rw [hst];show cU s2 (hZ (tD g tk sr) ps);rw [L1];refine ⟨by rw [HV,CC,CH,HV,hS.len],fun t x hx=>?_⟩
      by_cases ht:t∈tk
      · obtain ⟨j,hj⟩:=hmem t ht
        have hjl:j<tk.length:=(bo.1 hj).1;obtain ⟨y0,hy0⟩: ∃y0,(c.sb b)[j]? =some y0:=⟨(c.sb b)[j]'(by omega),bw (by omega)⟩
        have hs2:=hin j t y0 hj hy0;rw [hx] at hs2;injection hs2 with hs2;subst hs2;obtain ⟨q',q3,q4⟩:=r4.at_ j y0 hy0;rw [htake j hjl] at q3;refine ⟨GL g q',KW _ ps j t _ (by rw [u1];exact hnd) (u2 j t q' hj q3) (by rw [hS.len];exact htl t ht),?_⟩
        cases y0 with
        |box cs=>
         obtain ⟨pc,rfl,hpc⟩:=q4;exact ⟨_,rfl,RL.fr (Fr.refl tk s2) (backL_R hback hpc)⟩
        |arr r l=>rw [show q'=_ from q4];rfl
        |set l=>rw [show q'=_ from q4];rfl
        |tab p l=>rw [show q'=_ from q4];rfl
        |dead=>rw [show q'=_ from q4];rfl
      rw [hout t ht,c7] at hx
      obtain ⟨x0,hx0,rfl⟩:=hx;obtain ⟨q,q1,q2⟩:=hS.at_ t x0 hx0;exact ⟨q,by rw [CI _ ps t (by rw [u1];exact ht)];exact q1,q2.fr hfr⟩
     v:=by rw [hst];exact aBx hback r3
     fra:=by rw [hst,JE,w1];exact hfr}
end
end Go.Vm
/- What the typed machine makes of a function is what the logical machine runs. -/
namespace Go.Vm
section
variable {F : qG}
theorem WO.shrAny {o:bY} {r:List bY} {st:St} {tr:List Tr} {Q:St->List Tr->Prop} {f:FuncId} {args:List PV}
 (hw:wanted o.guard st.env=some true) (hop: ∀n,DJ F (run F n) st.env st.sto st.fz o.op=gV (run F n) f args st.sto st.fz)
 (h:HC F f args st.sto st.fz fun v s z=>(cd st.sto.length s.length&&st.fz.all (has z))=true/\WO F r {st with env:=kK o.dst v st.env,sto:=s,fz:=z} (aEh::tr) Q):
 WO F (o::r) st tr Q:=by
 obtain ⟨n,v,s,z,hr,hc,hk⟩:=h;refine WO.call (.shr v s z) hw ⟨n,?_⟩ rfl hk;rw [hop];simp only [gV,hr];rw [if_pos hc]
theorem WP.again {live:List (Nat×Option Nat)} {b:mK} {st s1:St} {Q:jI->St->Prop} (h0:MF live st=some s1) (h:WP F b s1 (MR (fun s=>WP F (.loop live b) s Q) Q)):WP F (.loop live b) st Q:=by
 obtain ⟨m,e,s,he,hq⟩:=h;cases e with
 |normal=>
  obtain ⟨k,e',s',he',hq'⟩:=hq;refine ⟨max m k+1,e',s',?_,hq'⟩;simp only [zD] at he' ⊢;rw [nW];simp only [step,h0];rw [vD (vE F (Nat.le_max_left m k)) _ _ _ he];dsimp only;split at he'
  · rename_i e1 s1 hr1
    rw [vE F (Nat.le_max_right m k) _ _ hr1];exact he'
  cases he'
 |exit i=>exact ⟨m+1,.exit i,s,by simp only [zD];rw [nW];simp only [step,h0,he],hq⟩
 |ret=>exact ⟨m+1,.ret,s,by simp only [zD];rw [nW];simp only [step,h0,he],hq⟩
def WV (F : qG) (inl : Inl) : Prop :=
  ∀ (f : FuncId) (args : List SV) (s : List SB) (z : List Nat) (R' : Type) (k : SV -> List SB -> List Nat -> iJ R') (ρ : Type) (w : R' -> ρ) (y : ρ) (pa : List PV) (ps : cT) (Q : R' -> PV -> cT -> List Nat -> Prop),
    RL s args pa -> cU s ps -> inl f args s z R' k ρ w = some y ->
    (∀ v s' z' p ps' ρ' (w' : R' -> ρ') y', R s' v p -> cU s' ps' -> k v s' z' ρ' w' = some y' -> ∃ r, y' = w' r /\ Q r p ps' z') ->
    ∃ r, y = w r /\ HC F f pa ps z (fun p ps' z' => Q r p ps' z')
def aBz:SB->SB->Prop
 | .arr r l,b=>(∃l',b= .arr r l'/\l'.length=l.length)\/b= .dead
 | .dead,b=>b= .dead
 | .box _,b=>(∃cs,b= .box cs)\/b= .dead
 |_,_=>True
theorem JF {R' ρ:Type} {w:R'->ρ} {y:ρ}: ∀{s s':List SB} {k:iJ R'},uE s s' k ρ w=some y->k ρ w=some y/\s.length<=s'.length/\
 ∀(t:Nat) (b:SB),s[t]? =some b-> ∃b',s'[t]? =some b'/\aBz b b'
 | [],s',k,h=>⟨by cases s'<;>exact h,Nat.zero_le _,fun t b ht=>by simp at ht⟩
 |x::xs,[],k,h=>by cases h
 |x::xs,y'::ys,k,h=>by
  have step: ∀(_:uE xs ys k ρ w=some y) (_:aBz x y'),k ρ w=some y/\(x::xs).length<=(y'::ys).length/\ ∀(t:Nat) (b:SB),(x::xs)[t]? =some b-> ∃b',(y'::ys)[t]? =some b'/\aBz b b':=by
   intro h hx;obtain ⟨h1,h2,h3⟩:=JF h;refine ⟨h1,by simpa using h2,fun t b ht=>?_⟩
   cases t with
   |zero=>simp at ht;subst ht;exact ⟨y',rfl,hx⟩
   |succ t=>simpa using h3 t b (by simpa using ht)
  cases x with
  |arr r l=>
   cases y' with
   |arr q m=>
    obtain ⟨hr,h2⟩:=dG (a:=iN (m.length==l.length) (uE xs ys k) aQ) h;obtain ⟨hl,h3⟩:=jV h2
    have:=BJ hr
    subst this;exact step h3 (.inl ⟨m,rfl,by simpa using hl⟩)
   |dead=>exact step h (.inr rfl)
   |_=>cases h
  |dead=>
   cases y' with
   |dead=>exact step h rfl
   |_=>cases h
  |box cs=>
   cases y' with
   |box c2=>exact step h (.inl ⟨c2,rfl⟩)
   |dead=>exact step h (.inr rfl)
   |_=>cases h
  |set l=>exact step h trivial
  |tab p l=>exact step h trivial
theorem aEI {n t:Nat} (h:t<n):has (A7 n) t=true:=by
 induction n with
 |zero=>omega
 |succ n ih=>
  unfold has at ih ⊢;rw [gc] at*;simp only [A7,gg,d6];rcases dv t n with h1|h1
  · obtain ⟨x,h2,h3⟩:=ih h1
    exact ⟨x,.inl h2,h3⟩
  have:t=n:=by omega
  subst this;exact ⟨t,.inr rfl,by simp⟩
theorem aAj {s s':List SB} (h: ∀(t:Nat) (b:SB),s[t]? =some b-> ∃b',s'[t]? =some b'/\aBz b b'):Fr (A7 s.length) s s':=fun t b hb=>by
 obtain ⟨b',h1,h2⟩:=h t b hb;have hlt:=(bo.1 hb).1;cases b with
 |arr r l=>
  rcases h2 with ⟨l',rfl,h3⟩|rfl
  · exact .inl ⟨l',h1,h3,fun hx=>by rw [aEI hlt] at hx;cases hx⟩
  exact .inr h1
 |dead=>rw [show b'= .dead from h2] at h1;exact h1
 |box cs=>
  rcases h2 with ⟨c2,rfl⟩|rfl
  · exact .inl ⟨c2,h1⟩
  exact .inr h1
 |_=>trivial
theorem aUt {s:List SB} {ps:cT} {sr:gX} {pr:rO} (G:iZ s ps sr pr) (hS:cU s ps):(XR.loc pr).tr ps.length=sr.tr s.length:=by
 simp only [XR.tr,gX.tr,G.rd,G.fr,hS.len,<- G.wr,G.nl,gm]
 have:pr.news.isEmpty=sr.news.isEmpty:=by
  have:=G.nl
  cases h1:pr.news<;>cases h2:sr.news<;>simp_all
 rw [this];rfl
theorem aOg {st:vK} {p:St} (h:GX st p) {sr:gX} {pr:rO} (G:iZ st.sto p.sto sr pr) (d:Option Nat):GX (sr.next d st) ((XR.loc pr).next d p):=by
 have hput: ∀{s:List SB} {e:SE} {pe:zA} {v:SV} {q:PV},eJ s e pe->R s v q->eJ s (TR d v e) (kK d q pe):=by
  intro s e pe v q he hv;cases d with
  |none=>exact he
  |some t=>exact ⟨q,pe,rfl,hv,he⟩
 have hs:=WU st.sto sr;unfold gX.next
 split
 · rename_i hw
   rw [hw] at hs;simp only [EJ,wI,TZ] at hs;have hsto:=G.sto;have hv:=G.v;have hfr:=G.fra;rw [hs] at hsto hv hfr;rw [hw] at hfr;exact ⟨by simp only [pI];exact hput (eJ.ext hfr h.env) hv,by simp only [pI];exact hsto,by simp only [XR.next,G.fr,h.fz],h.kn⟩
 have hsto:=G.sto
 have hv:=G.v;have hfr:=G.fra;rw [hs] at hsto hv hfr;exact ⟨by simp only [pI];exact hput (eJ.fr hfr h.env) hv,by simp only [pI];exact hsto,by simp only [XR.next,G.fr,h.fz],h.kn⟩
theorem aUu {s:List SB} {ps:cT} {sr:gX} {pr:rO} (G:iZ s ps sr pr) {z:List Nat} (h:sr.ok z=true):(XR.loc pr).ok z=true:=by
 simp only [XR.ok,G.nw,eb];unfold gX.ok at h;rw [<- G.wr,gm] at h;exact h
section
variable {cx : Ctx} {inl : Inl} {R' : Type}
def aWS (_F:qG) (k:vK->List Tr->iJ R') (Q:R'->St->List Tr->Prop):Prop:=
 ∀st p tr ρ (w:R'->ρ) y,GX st p->k st tr ρ w=some y-> ∃r,y=w r/\Q r p tr
theorem CJ {o:bY} {l:List bY} {st:vK} {p:St} {tr:List Tr} {k:vK->List Tr->iJ R'} {ρ:Type} {w:R'->ρ} {y:ρ} {Q:R'->St->List Tr->Prop}
 (hl: ∀st p tr ρ (w:R'->ρ) y,GX st p->k st tr ρ w=some y-> ∃r,y=w r/\WO F l p tr (Q r)) (h:GX st p) {sr:gX} {pr:rO} (hw:wanted o.guard p.env=some true)
 (hx: ∃n,DJ F (run F n) p.env p.sto p.fz o.op=some (.loc pr)) (G:iZ st.sto p.sto sr pr) (hg:goS o.dst st tr k (.loc sr) ρ w=some y): ∃r,y=w r/\WO F (o::l) p tr (Q r):=by
 unfold goS at hg;dsimp only at hg;obtain ⟨hok,hg⟩:=dG hg;rw [TM] at hg;have hR:=aOg h G o.dst;obtain ⟨r,hr,hwo⟩:=hl _ _ _ _ _ _ hR hg;refine ⟨r,hr,WO.call (.loc pr) hw hx (by rw [h.fz];exact aUu G hok) ?_⟩
 rw [aUt G h.sto];exact hwo
theorem WW (hcx:jA F cx) (hinl:WV F inl) {o:bY} {l:List bY} {st:vK} {p:St} {tr:List Tr} {k:vK->List Tr->iJ R'} {ρ:Type} {w:R'->ρ} {y:ρ} {Q:R'->St->List Tr->Prop}
 (hl: ∀st p tr ρ (w:R'->ρ) y,GX st p->k st tr ρ w=some y-> ∃r,y=w r/\WO F l p tr (Q r)) (h:GX st p) (hw:wanted o.guard p.env=some true)
 (hg:RN cx inl st.env st.sto st.fz o.op (goS o.dst st tr k) ρ w=some y): ∃r,y=w r/\WO F (o::l) p tr (Q r):=by
 have hS:=h.sto;have hE:=h.env;have shr: ∀(f:FuncId) (vals:List SV) (pas:List PV),RL st.sto vals pas->(∀n,DJ F (run F n) p.env p.sto p.fz o.op=gV (run F n) f pas p.sto p.fz)->
  inl f vals st.sto st.fz R' (fun v s' z'=>goS o.dst st tr k (.shr v s' z')) ρ w=some y-> ∃r,y=w r/\WO F (o::l) p tr (Q r):=by
  intro f vals pas hv hop hi;obtain ⟨r,hr,hd⟩:=hinl f vals st.sto st.fz R' _ ρ w y pas p.sto (fun r v s z=>(cd p.sto.length s.length&&p.fz.all (has z))=true/\WO F l {p with env:=kK o.dst v p.env,sto:=s,fz:=z} (aEh::tr) (Q r)) hv hS hi
   (fun v s' z' pv ps' ρ' w' y' hR hS' hk=>by
    unfold goS at hk;dsimp only at hk;rw [TM] at hk;obtain ⟨hk,hlen,hsame⟩:=JF hk;obtain ⟨hz,hk⟩:=dG hk;have hfr:=aAj hsame;have hput:eJ s' (TR o.dst v (dgE (A7 st.sto.length) st.env)) (kK o.dst pv p.env):=by
     cases o.dst with
     |none=>exact eJ.fr hfr hE
     |some t=>exact ⟨pv,p.env,rfl,hR,eJ.fr hfr hE⟩
    have hR':GX {env:=TR o.dst v (dgE (A7 st.sto.length) st.env),sto:=s',fz:=z',kn:=st.kn} {p with env:=kK o.dst pv p.env,sto:=ps',fz:=z'}:=⟨hput,hS',rfl,h.kn⟩;obtain ⟨r,hr,hwo⟩:=hl _ _ _ _ _ _ hR' hk;refine ⟨r,hr,?_,hwo⟩;rw [h.fz,hz,eb,hS.len,hS'.len];simpa using hlen)
  refine ⟨r,hr,WO.shrAny hw hop ?_⟩;rw [h.fz];rw [h.fz] at hd;exact hd
 have loc: ∀{k':gX->iJ R'},pH st.env st.sto st.fz o.op k' ρ w=some y->KM o.op=false->(∀sr,k' sr=goS o.dst st tr k (.loc sr))-> ∃r,y=w r/\WO F (o::l) p tr (Q r):=by
  intro k' hv hc hk;obtain ⟨sr,pr,h1,G,h2⟩:=aGA hE hS (pe:=p.env) hv;rw [hk] at h2;exact CJ hl h hw ⟨0,by rw [TJ hc,h.fz,h1];rfl⟩ G h2
 generalize hop:o.op=op at hg;cases op with
 |call m f args=>
  have hargs:=FV hE args;simp only [RN] at hg;cases m with
  |pur=>
   dsimp only at hg;cases hx:exVL st.sto (nF st.sto fF) (lS st.env args) with
   |none=>rw [hx] at hg;cases hg
   |some vs=>
    rw [hx] at hg;obtain ⟨q,h1,h2⟩:=exVL_R hS (MV hS fF) hargs hx;obtain ⟨sr,pr,⟨n,h3⟩,G,h4⟩:=EM (f:=f) (z:=st.fz) hS h1 h2 (tkExL hS (ON hS fF) hargs hx) (fun c hc=>hcx.con f c hc) hg
    exact CJ hl h hw ⟨n,by rw [hop,h.fz];simp only [DJ,h3];rfl⟩ G h4
  |own=>
   dsimp only at hg;cases hx:exVL st.sto (nF st.sto fF) (lS st.env args) with
   |none=>rw [hx] at hg;cases hg
   |some vs=>
    rw [hx] at hg;obtain ⟨q,h1,h2⟩:=exVL_R hS (MV hS fF) hargs hx;obtain ⟨sr,pr,⟨n,h3⟩,G,h4⟩:=EM (f:=f) (z:=st.fz) hS h1 h2 (tkExL hS (ON hS fF) hargs hx) (fun c hc=>hcx.con f c hc) hg
    exact CJ hl h hw ⟨n,by rw [hop,h.fz];simp only [DJ,h3];rfl⟩ G h4
  |shr=>exact shr f _ _ hargs (fun n=>by rw [hop];rfl) hg
  |fp=>
   dsimp only at hg;cases hx:Z3 st.sto (nF st.sto fF) (lS st.env args) with
   |false=>rw [hx] at hg;cases hg
   |true=>
    rw [hx] at hg;dsimp only at hg;obtain ⟨hz,hg⟩:=dG hg;cases h1:renVL (sY (tkVL (D0 st.sto fF) (lS st.env args))) (lS st.env args) with
    |none=>rw [h1] at hg;cases hg
    |some vs=>
     cases h2:QS st.sto (sY (tkVL (D0 st.sto fF) (lS st.env args))) (sY (tkVL (D0 st.sto fF) (lS st.env args))) with
     |none=>rw [h1,h2] at hg;cases hg
     |some s0=>
      rw [h1,h2] at hg;obtain ⟨sr,pr,⟨n,h3⟩,G,h4⟩:=aBy (f:=f) (z:=st.fz) hS hargs (by rw [aEA hS (ON hS fF) hargs hx]) hz h1 h2 (fun c hc=>hcx.fpc f c hc) hg
      exact CJ hl h hw ⟨n,by rw [hop,h.fz];simp only [DJ,h3];rfl⟩ G h4
 |callv x args=>
  have hargs:=FV hE args;simp only [RN] at hg;have hx:=eC hE x;generalize bZ st.env x=v at hg hx;cases v with
  |clo f a b=>
   dsimp only at hg;obtain ⟨pa,pb,hx,ha,hb⟩:=hx;have hany: ∀{vs:List SV} {q:List PV},RL st.sto vs q->(anyPtr vs=true->q.any ND=true):=by
    intro vs
    induction vs with
    |nil=>intro q _ h;cases h
    |cons v vs ih=>
     intro q hq hp;obtain ⟨a,as,rfl,h1,h2⟩:=hq.cons_inv;simp only [anyPtr,gi] at hp;simp only [gj,gi];rcases hp with hp|hp
     · left
       cases v with
       |own _ _=>obtain ⟨_,_,rfl,_⟩:=h1;rfl
       |pre _ _ _ _=>obtain ⟨_,rfl,_⟩:=h1;rfl
       |part _ _ _ _ _=>obtain ⟨_,rfl,_⟩:=h1;rfl
       |pa _ _ _ _ _=>obtain ⟨rfl,_⟩:=h1;rfl
       |pb _ _ _=>obtain ⟨_,rfl,_⟩:=h1;rfl
       |bp _ _ _=>rw [show a=_ from h1];rfl
       |mp _=>rw [show a=_ from h1];rfl
       |_=>cases hp
     right;exact ih h2 hp
   cases hp:anyPtr (lS st.env args++b) with
   |true=>
    rw [hp] at hg
    have:=hany (hargs.append hb) hp
    exact shr f _ _ ((ha.append hargs).append hb) (fun n=>by rw [hop];simp only [DJ,hx,this,if_true]) hg
   |false=>
    rw [hp] at hg;simp only [cond_false] at hg;cases hxx:exVL st.sto (nF st.sto fF) (a++lS st.env args++b) with
    |none=>rw [hxx] at hg;cases hg
    |some vs=>
     rw [hxx] at hg;have hno: ∀{vs u:List SV} {q:List PV},RL st.sto vs q->anyPtr vs=false->exVL st.sto (nF st.sto fF) vs=some u->q.any ND=false:=by
      intro vs
      induction vs with
      |nil=>intro u q hq _ _;rw [show q=[] from hq];rfl
      |cons v vs ih=>
       intro u q hq hp hu;obtain ⟨a,as,rfl,h1,h2⟩:=hq.cons_inv;simp only [anyPtr,Bool.or_eq_false_iff] at hp;simp only [exVL] at hu;split at hu
       · rename_i y1 y2 e1 e2
         simp only [gj,ih h2 hp.2 e2,Bool.or_false];cases v with
         |agg _|tup _|rptr _ _=>obtain ⟨_,rfl,_⟩:=h1;rfl
         |clo _ _ _=>obtain ⟨_,_,rfl,_⟩:=h1;rfl
         |int _ _|bool _|str _|nilf|sl _ _|nil _ _|undef|nul=>rw [show a=_ from h1];rfl
         |junk=>cases e1
         |own _ _|pre _ _ _ _|part _ _ _ _ _|pa _ _ _ _ _|pb _ _ _|bp _ _ _|mp _=>cases hp.1
       cases hu
     have hsplit: ∃u2,exVL st.sto (nF st.sto fF) (lS st.env args++b)=some u2:=by
      have: ∀(l:List SV) {m u:List SV},exVL st.sto (nF st.sto fF) (l++m)=some u-> ∃u2,exVL st.sto (nF st.sto fF) m=some u2:=by
       intro l
       induction l with
       |nil=>intro m u h;exact ⟨u,h⟩
       |cons x l ih=>
        intro m u h;simp only [ew,exVL] at h;split at h
        · rename_i e1 e2;exact ih e2
        cases h
      rw [cq] at hxx;exact this a hxx
     obtain ⟨u2,hu2⟩:=hsplit;have hno':=hno (hargs.append hb) hp hu2;have hall:=(ha.append hargs).append hb;obtain ⟨q,h1,h2⟩:=exVL_R hS (MV hS fF) hall hxx;obtain ⟨sr,pr,⟨n,h3⟩,G,h4⟩:=EM (f:=f) (z:=st.fz) hS h1 h2 (tkExL hS (ON hS fF) hall hxx) (fun c hc=>hcx.con f c hc) hg
     exact CJ hl h hw ⟨n,by rw [hop,h.fz];simp only [DJ,hx,hno',cf,if_false,h3];rfl⟩ G h4
  |_=>cases hg
 |_=>exact loc (k':=fun r=>goS o.dst st tr k (.loc r)) (by rw [hop];exact hg) (by rw [hop];rfl) (fun _=>rfl)
theorem CK (hcx:jA F cx) (hinl:WV F inl): ∀(ops:List bY) {st:vK} {p:St} {tr:List Tr} {k:vK->List Tr->iJ R'} {ρ:Type} {w:R'->ρ} {y:ρ} {Q:R'->St->List Tr->Prop},
 aWS F k Q->GX st p->tH cx inl ops st tr k ρ w=some y-> ∃r,y=w r/\WO F ops p tr (Q r)
 | [],st,p,tr,k,ρ,w,y,Q,hk,h,he=>by
  obtain ⟨r,hr,hq⟩:=hk st p tr ρ w y h he;exact ⟨r,hr,WO.nil hq⟩
 |o::l,st,p,tr,k,ρ,w,y,Q,hk,h,he=>by
  have hl: ∀st p tr ρ (w:R'->ρ) y,GX st p->tH cx inl l st tr k ρ w=some y-> ∃r,y=w r/\WO F l p tr (Q r):=fun st p tr ρ w y h he=>CK hcx hinl l hk h he
  have setR: ∀{st:vK} {c:Nat} {v:SV},GX st p->R st.sto v (lk c p.env)->GX {st with env:=setS c v st.env} p:=fun h hv=>⟨h.env.setS hv,h.sto,h.fz,h.kn⟩
  have run': ∀{st:vK},GX st p->wanted o.guard p.env=some true->(match o.op with
   | .pick (.t c) a b=>match QP c st.env with
    | .bool x=>iN x (goS o.dst {st with env:=setS c (.bool true) st.env} tr (tH cx inl l · · k) (.loc {v:=bZ st.env a}))
     (goS o.dst {st with env:=setS c (.bool false) st.env} tr (tH cx inl l · · k) (.loc {v:=bZ st.env b}))
    |_=>aQ
   |op=>RN cx inl st.env st.sto st.fz op (goS o.dst st tr (tH cx inl l · · k))) ρ w=some y-> ∃r,y=w r/\WO F (o::l) p tr (Q r):=by
   intro st h hw he;have plain:RN cx inl st.env st.sto st.fz o.op (goS o.dst st tr (tH cx inl l · · k)) ρ w=some y-> ∃r,y=w r/\WO F (o::l) p tr (Q r):=fun he=>WW hcx hinl hl h hw he
   generalize hop:o.op=op at he;cases op with
   |pick c a b=>
    cases c with
    |c v=>exact plain (by rw [hop];exact he)
    |t c=>
     dsimp only at he;generalize hv:QP c st.env=v at he;cases v with
     |bool x=>
      have hx:lk c p.env= .bool x:=by have:=h.env.lk c;rw [hv] at this;exact this
      rcases fV he with ⟨rfl,he⟩|⟨rfl,he⟩
      · have hR:=setR h (c:=c) (v:= .bool true) hx
        exact CJ (o:=o) hl hR hw ⟨0,by rw [hop];simp only [DJ,bN,gE.ev,hx];rfl⟩ (iZ.val hR.sto (eC h.env a)) he
      have hR:=setR h (c:=c) (v:= .bool false) hx
      exact CJ (o:=o) hl hR hw ⟨0,by rw [hop];simp only [DJ,bN,gE.ev,hx];rfl⟩ (iZ.val hR.sto (eC h.env b)) he
     |_=>cases he
   |_=>exact plain (by rw [hop];exact he)
  have skip': ∀{st:vK},GX st p->wanted o.guard p.env=some false->tH cx inl l {st with env:=TR o.dst .nul st.env} (Tr.idle::tr) k ρ w=some y-> ∃r,y=w r/\WO F (o::l) p tr (Q r):=by
   intro st h hw he;have hR:GX {st with env:=TR o.dst .nul st.env} {p with env:=kK o.dst .nul p.env}:=by
    refine ⟨?_,h.sto,h.fz,h.kn⟩;cases o.dst with
    |none=>exact h.env
    |some t=>exact ⟨.nul,p.env,rfl,rfl,h.env⟩
   obtain ⟨r,hr,hwo⟩:=hl _ _ _ _ _ _ hR he;exact ⟨r,hr,WO.skip hw hwo⟩
  simp only [tH] at he;cases hgd:o.guard with
  |none=>
   rw [hgd] at he;exact run' h (by rw [hgd];rfl) he
  |some g=>
   obtain ⟨c,want⟩:=g;rw [hgd] at he;dsimp only at he;generalize hv:QP c st.env=v at he;cases v with
   |bool x=>
    have hx:lk c p.env= .bool x:=by have:=h.env.lk c;rw [hv] at this;exact this
    have hwx: ∀b,x=b->wanted o.guard p.env=some (b==want):=fun b hb=>by rw [hgd];simp only [wanted,hx,hb]
    cases want with
    |true=>
     simp only [cond_true] at he;rcases fV he with ⟨rfl,he⟩|⟨rfl,he⟩
     · exact run' (setR h (v:= .bool true) hx) (hwx true rfl) he
     exact skip' (setR h (v:= .bool false) hx) (hwx false rfl) he
    |false=>
     simp only [cond_false] at he;rcases fV he with ⟨rfl,he⟩|⟨rfl,he⟩
     · exact skip' (setR h (v:= .bool true) hx) (hwx true rfl) he
     exact run' (setR h (v:= .bool false) hx) (hwx false rfl) he
   |nul=>
    have hx:lk c p.env= .nul:=by have:=h.env.lk c;rw [hv] at this;exact this
    exact skip' h (by rw [hgd];simp only [wanted,hx]) he
   |_=>cases he
theorem OU {e:SE}: ∀{keep:List Nat} {k:SE->iJ R'} {ρ:Type} {w:R'->ρ} {y:ρ},WE e keep k ρ w=some y->k (keep.map fun s=>(s,QP s e)) ρ w=some y
 | [],k,ρ,w,y,h=>h
 |s::r,k,ρ,w,y,h=>by
  simp only [WE] at h;rw [TM] at h
  have:=OU h
  exact this
theorem aEJ {s:List SB} {e:SE} {pe:zA} (h:eJ s e pe): ∀(keep:List Nat),eJ s (keep.map fun t=>(t,QP t e)) (keep.map fun t=>(t,lk t pe))
 | []=>rfl
 |t::r=>⟨_,_,rfl,h.lk t,aEJ h r⟩
end
mutual
theorem R0: ∀(v:SV) (q:List D2),zE v (KP v++q)=(v,q)
 | .junk,q| .undef,q| .nul,q| .nilf,q| .int _ _,q| .bool _,q| .str _,q| .sl _ _,q| .nil _ _,q| .own _ _,q| .pre _ _ _ _,q| .part _ _ _ _ _,q| .pa _ _ _ _ _,q| .pb _ _ _,q| .bp _ _ _,q| .mp _,q=>rfl
 | .agg cs,q=>by simp only [zE,KP,put_selfL]
 | .tup cs,q=>by simp only [zE,KP,put_selfL]
 | .rptr cs o,q=>by simp only [zE,KP,put_selfL]
 | .clo f a b,q=>by simp only [zE,KP,cq,put_selfL]
theorem put_selfL: ∀(v:List SV) (q:List D2),putL v (atsL v++q)=(v,q)
 | [],q=>rfl
 |x::xs,q=>by simp only [putL,atsL,cq,R0,put_selfL]
end
theorem R2: ∀(v:List SB) (q:List D2),HN v (TP v++q)=(v,q)
 | [],q=>rfl
 |x::xs,q=>by
  have: ∀q,Z7 x (aEf x++q)=(x,q):=by
   intro q;cases x<;>first|rfl|simp only [Z7,aEf,put_selfL]
  simp only [HN,TP,cq,this,R2]
theorem R3: ∀(v:SE) (q:List D2),WC v (aCR v++q)=(v,q)
 | [],q=>rfl
 |(t,x)::xs,q=>by simp only [WC,aCR,cq,R0,R3]
theorem aAk (st:vK):GU st (DS st)=st:=by
 have hs:=R2 st.sto [];rw [cu] at hs;simp only [GU,DS,R3,hs]
theorem aC1 {cx:Ctx} {inl:Inl} (hcx:jA F cx) (hinl:WV F inl): ∀(c:mK) (R':Type) {st:vK} {p:St} {k:jI->vK->iJ R'} {ρ:Type} {w:R'->ρ} {y:ρ} {Q:R'->jI->St->Prop},
 (∀e st p ρ (w:R'->ρ) y,GX st p->k e st ρ w=some y-> ∃r,y=w r/\Q r e p)->GX st p->I1 cx inl c R' st k ρ w=some y-> ∃r,y=w r/\WP F c p (Q r):=by
 intro c
 induction c with
 |skip=>
  intro R' st p k ρ w y Q hk h he;obtain ⟨r,hr,hq⟩:=hk _ _ _ _ _ _ h he;exact ⟨r,hr,WP.skip hq⟩
 |ret=>
  intro R' st p k ρ w y Q hk h he;obtain ⟨r,hr,hq⟩:=hk _ _ _ _ _ _ h he;exact ⟨r,hr,WP.ret hq⟩
 |exit id=>
  intro R' st p k ρ w y Q hk h he;obtain ⟨r,hr,hq⟩:=hk _ _ _ _ _ _ h he;exact ⟨r,hr,WP.exit hq⟩
 |region d ops keep=>
  intro R' st p k ρ w y Q hk h he;simp only [I1] at he;have fin: ∀st p ρ (w:R'->ρ) y,GX st p->WE st.env keep (fun e=>k .normal {st with env:=e}) ρ w=some y-> ∃r,y=w r/\Q r .normal (vF keep p):=by
   intro st p ρ w y h he
   have:=OU he
   have hR:GX {st with env:=keep.map fun t=>(t,QP t st.env)} (vF keep p):=⟨aEJ h.env keep,h.sto,h.fz,h.kn⟩
   exact hk _ _ _ _ _ _ hR this
  cases d with
  |none=>
   obtain ⟨r,hr,hwo⟩:=CK hcx hinl ops (Q:=fun r s _=>Q r .normal (vF keep s)) (fun st p tr ρ w y h he=>fin st p ρ w y h he) h he
   exact ⟨r,hr,WP.region hwo⟩
  |some bf=>
   obtain ⟨r,hr,hwo⟩:=CK hcx hinl ops (Q:=fun r s t=>wT 0 (t.reverse.zip bf)=true/\Q r .normal (vF keep s)) (fun st p tr ρ w y h he=>by
    dsimp only at he;cases ho:wT 0 (tr.reverse.zip bf) with
    |false=>rw [ho] at he;cases he
    |true=>
     rw [ho] at he;obtain ⟨r,hr,hq⟩:=fin st p ρ w y h he;exact ⟨r,hr,ho,hq⟩) h he
   exact ⟨r,hr,WP.regionD hwo⟩
 |seq a b iha ihb=>
  intro R' st p k ρ w y Q hk h he;simp only [I1] at he;obtain ⟨r,hr,hwp⟩:=iha R' (Q:=fun r=>MR (fun s=>WP F b s (Q r)) (Q r)) (fun e st p ρ w y h he=>by
   cases e with
   |normal=>exact ihb R' hk h he
   |exit i=>exact hk _ _ _ _ _ _ h he
   |ret=>exact hk _ _ _ _ _ _ h he) h he
  exact ⟨r,hr,WP.seq hwp⟩
 |cond c a b iha ihb=>
  intro R' st p k ρ w y Q hk h he;simp only [I1] at he;have hx:=eC h.env c;generalize bZ st.env c=v at he hx;cases v with
  |bool x=>
   rcases fV he with ⟨rfl,he⟩|⟨rfl,he⟩
   · obtain ⟨r,hr,hwp⟩:=iha R' hk h he
     exact ⟨r,hr,WP.condT hx hwp⟩
   obtain ⟨r,hr,hwp⟩:=ihb R' hk h he
   exact ⟨r,hr,WP.condF hx hwp⟩
  |_=>cases he
 |block id b ih=>
  intro R' st p k ρ w y Q hk h he;simp only [I1] at he;obtain ⟨r,hr,hwp⟩:=ih R' (Q:=fun r=>inBlock id (Q r)) (fun e st p ρ w y h he=>by
   cases e with
   |normal=>exact hk _ _ _ _ _ _ h he
   |ret=>exact hk _ _ _ _ _ _ h he
   |exit j=>
    dsimp only at he;cases hj:ce j id with
    |true=>
     rw [hj] at he;obtain ⟨r,hr,hq⟩:=hk _ _ _ _ _ _ h he;have hji:=bm hj;exact ⟨r,hr,by simpa [inBlock,hji] using hq⟩
    |false=>
     rw [hj] at he;obtain ⟨r,hr,hq⟩:=hk _ _ _ _ _ _ h he
     have:j≠id:=by intro e;subst e;simp at hj
     exact ⟨r,hr,by simpa [inBlock,this] using hq⟩) h he
  exact ⟨r,hr,WP.block hwp⟩
 |loop live b ih=>
  intro R' st p k ρ w y Q hk h he;simp only [I1] at he;cases hn:OB cx.rk live st with
  |none=>rw [hn] at he;cases he
  |some st1=>
   rw [hn] at he;dsimp only at he;have ksK_eq: ∀{β:Type 1} (l:List AK) (c:List AK->β),ksK l c=c l:=by
    intro β l;have rK_eq: ∀{β:Type 1} (l:List PT) (c:List PT->β),rK l c=c l:=by
     intro β l
     induction l with
     |nil=>intro c;rfl
     |cons p r ih=>intro c;cases p<;>simp only [rK,ptK,ih]
    induction l with
    |nil=>intro c;rfl
    |cons a r ih=>intro c;cases a<;>simp only [ksK,rK_eq,ih]
   rw [ksK_eq] at he;generalize aN4 (DS st1)=ks at he;cases hp:wH ks (DS st1) with
   |none=>rw [hp] at he;cases he
   |some y0=>
    rw [hp] at he;dsimp only at he;obtain ⟨p1,hp1,hR1⟩:=aBv h hn;have hlike: ∀(st3:vK) (y':mN ks),OD st1 st3=true->wH ks (DS st3)=some y'->GU st1 (pK ks y')=st3:=fun st3 y' h1 h2=>by
     rw [xT h2,aC0 h1]
    obtain ⟨n,hit⟩:=aD8 he;have h0:GX (GU st1 (pK ks y0)) p1:=by rw [xT hp,aAk];exact hR1
    clear he hp hn h hR1
    induction n generalizing y0 p p1 with
    |zero=>cases hit
    |succ n ihn=>
     have body: ∀zr,I1 cx inl b (bR (mN ks) ρ) (GU st1 (pK ks y0)) (fun e st2=>match e with
      | .normal=>match OB cx.rk live st2 with
       |some st3=>bif OD st1 st3 then (match wH ks (DS st3) with
        |some y'=>RJ (.next y')
        |none=>aQ) else aQ
       |none=>aQ
      |e=>fun ρ' w'=>k e st2 ρ' fun r=>w' (.done (w r))) (bR (mN ks) ρ) (fun z=>z)=some zr->
      WP F b p1 (fun e s=>match zr with
       | .next y'=>e= .normal/\ ∃p3,MF live s=some p3/\GX (GU st1 (pK ks y')) p3
       | .done x=>e≠ .normal/\ ∃r,x=w r/\Q r e s):=by
      intro zr hbody;obtain ⟨zr',hzr,hwp⟩:=ih (bR (mN ks) ρ) (Q:=fun zr e s=>match zr with
       | .next y'=>e= .normal/\ ∃p3,MF live s=some p3/\GX (GU st1 (pK ks y')) p3
       | .done x=>e≠ .normal/\ ∃r,x=w r/\Q r e s) (fun e st2 p2 ρ' w' y2 h2 he2=>by
       cases e with
       |normal=>
        dsimp only at he2;cases hn3:OB cx.rk live st2 with
        |none=>rw [hn3] at he2;cases he2
        |some st3=>
         rw [hn3] at he2;obtain ⟨hlk,he2⟩:=dG he2;cases hp3:wH ks (DS st3) with
         |none=>rw [hp3] at he2;cases he2
         |some y3=>
          rw [hp3] at he2;injection he2 with he2;obtain ⟨p3,hp3',hR3⟩:=aBv h2 hn3;exact ⟨.next y3,he2.symm,rfl,p3,hp3',by rw [hlike st3 y3 hlk hp3];exact hR3⟩
       |exit i=>
        obtain ⟨r,hr,hq⟩:=hk _ _ _ _ _ _ h2 he2;exact ⟨.done (w r),hr,(by intro e;cases e),r,rfl,hq⟩
       |ret=>
        obtain ⟨r,hr,hq⟩:=hk _ _ _ _ _ _ h2 he2;exact ⟨.done (w r),hr,(by intro e;cases e),r,rfl,hq⟩) h0 hbody
      subst hzr;exact hwp
     simp only [vI] at hit;split at hit
     · rename_i y' hbody
       obtain ⟨m,e,s,hrun,rfl,p3,hp3,hR3⟩:=body _ hbody;obtain ⟨r,hr,hwp⟩:=ihn y' p3 hp3 hit hR3;exact ⟨r,hr,WP.again hp1 ⟨m,.normal,s,hrun,hwp⟩⟩
     · rename_i x hbody
       injection hit with hit;obtain ⟨m,e,s,hrun,hne,r,hr,hq⟩:=body _ hbody;refine ⟨r,by rw [<- hit];exact hr,WP.again hp1 ⟨m,e,s,hrun,?_⟩⟩
       cases e with
       |normal=>exact absurd rfl hne
       |exit i=>exact hq
       |ret=>exact hq
     cases hit
end
end Go.Vm
/- Contracts from the typed machine. -/
namespace Go.Vm
section
variable {F : qG} {cx : Ctx} {inl : Inl}
theorem WX {s:List SB}: ∀{l:List SV} {q:List PV} (i:Nat),RL s l q->eJ s (aAb i l) (A8 i q)
 | [],q,i,h=>by rw [show q=[] from h];rfl
 |x::xs,q,i,h=>by
  obtain ⟨a,as,rfl,h1,h2⟩:=h.cons_inv;exact ⟨a,A8 (i+1) as,rfl,h1,WX (i+1) h2⟩
theorem aEK {st:vK} {p:St} (h:GX st p) {r:RV} {v:SV} (hr:aAa st r=some v): ∃q,NF p r=some q/\R st.sto v q:=by
 cases r with
 |tmp t=>injection hr with hr;subst hr;exact ⟨_,rfl,h.env.lk t⟩
 |cell t agg=>
  simp only [aAa] at hr;have hlk:=h.env.lk t;split at hr
  · rename_i u n off hv
    rw [hv] at hlk;rw [cM] at hr;split at hr
    · rename_i cs hst
      obtain ⟨q,h1,h2⟩:=h.sto.box hst;obtain ⟨x,h3,h4⟩:=zM h2 hr;refine ⟨x,?_,h4⟩;simp only [NF,show lk t p.env=_ from hlk,sX,h1,c6,if_true,h3];rfl
    cases hr
  · rename_i cs off hv
    rw [hv] at hlk;obtain ⟨q,h1,h2⟩:=hlk;obtain ⟨x,h3,h4⟩:=zM h2 hr;refine ⟨x,?_,h4⟩;simp only [NF,h1,sX,h3];rfl
  cases hr
theorem R4 {st:vK} {p:St} (h:GX st p): ∀{l:List RV} {vs:List SV},FU st l=some vs-> ∃q,rR p l=some q/\RL st.sto vs q
 | [],vs,hr=>by injection hr with hr;subst hr;exact ⟨[],rfl,rfl⟩
 |r::l,vs,hr=>by
  simp only [FU] at hr;split at hr
  · rename_i v vs' h1 h2
    injection hr with hr;subst hr;obtain ⟨q,h3,h4⟩:=aEK h h1;obtain ⟨qs,h5,h6⟩:=R4 h h2;exact ⟨q::qs,by simp only [rR,h3,h5],RL.cons h4 h6⟩
  cases hr
theorem WY {s:List SB} {vs:List SV} {q:List PV} (h:RL s vs q):R s (KQ vs) (vC q):=by
 match vs,q,h with
 | [],q,h=>rw [show q=[] from h];exact ⟨[],rfl,rfl⟩
 | [v],q,h=>
  obtain ⟨a,as,rfl,h1,h2⟩:=h.cons_inv;rw [show as=[] from h2];exact h1
 |v::u::r,q,h=>
  have hall:=h;obtain ⟨a,as,rfl,h1,h2⟩:=h.cons_inv;obtain ⟨b,bs,rfl,h3,h4⟩:=h2.cons_inv;exact ⟨_,rfl,hall⟩
theorem EN (hcx:jA F cx) (hinl:WV F inl) {f:FuncId} {x:aM} (hf:F f=some (.code x)) {R':Type} {args:List SV} {s:List SB} {z:List Nat} {k:SV->List SB->List Nat->iJ R'} {ρ:Type} {w:R'->ρ} {y:ρ} {pa:List PV} {ps:cT}
 {Q:R'->PV->cT->List Nat->Prop} (ha:RL s args pa) (hS:cU s ps) (he:WG cx inl x R' args s z k ρ w=some y)
 (hk: ∀v s' z' p ps' ρ' (w':R'->ρ') y',R s' v p->cU s' ps'->k v s' z' ρ' w'=some y'-> ∃r,y'=w' r/\Q r p ps' z'): ∃r,y=w r/\HC F f pa ps z (fun p ps' z'=>Q r p ps' z'):=by
 unfold WG at he;obtain ⟨hn,he⟩:=dG he;have fin: ∀st p ρ' (w':R'->ρ') y',GX st p->(match FU st x.res with
  |some vs=>k (KQ vs) st.sto st.fz
  |none=>aQ) ρ' w'=some y'-> ∃r,y'=w' r/\ ∃vs,rR p x.res=some vs/\Q r (vC vs) p.sto p.fz:=by
  intro st p ρ' w' y' h he;cases hr:FU st x.res with
  |none=>rw [hr] at he;cases he
  |some vs=>
   rw [hr] at he;obtain ⟨q,h1,h2⟩:=R4 h hr;obtain ⟨r,h3,h4⟩:=hk _ _ _ _ _ _ _ _ (WY h2) h.sto he;exact ⟨r,h3,q,h1,by rw [h.fz];exact h4⟩
 obtain ⟨r,hr,hwp⟩:=aC1 hcx hinl x.code R' (Q:=fun r=>S6 x fun p ps' z'=>Q r p ps' z') (p:={env:=A8 0 pa,sto:=ps,fz:=z,kn:=ps.length}) (fun e st p ρ' w' y' h he=>by
  cases e with
  |normal=>exact fin st p ρ' w' y' h he
  |ret=>exact fin st p ρ' w' y' h he
  |exit i=>cases he) ⟨WX 0 ha,hS,rfl,hS.len⟩ he
 exact ⟨r,hr,HC.of hf (by rw [ha.length];exact hn) hwp⟩
theorem T0 {α:Type} {l m r:List α} {i:Int} (h:TK l i m=some r):0<=i/\i.toNat<=l.length/\m.length=1/\l.length+1<=1048576/\r=l.take i.toNat++m++l.drop i.toNat:=by
 unfold TK at h;split at h
 · rename_i hc
   injection h with h;exact ⟨hc.1,hc.2.1,hc.2.2.1,hc.2.2.2,h.symm⟩
 cases h
theorem aC2 {e:Nat} {args:List SV} {s:List SB} {z:List Nat} {a:aUp} (h:aGm e args s z=some a):
 ∃x u x2 m,args=[.own a.t x,.int .i64 a.i,.own u x2]/\nth s a.t=some (.arr a.r a.l)/\nth s u=some (.arr a.r m)/\a.m=m/\a.r.length=e/\ce a.t u=false/\has z a.t=false:=by
 unfold aGm at h;split at h
 case h_2=>cases h
 split at h
 case h_2=>cases h
 split at h
 case h_2=>cases h
 split at h
 case h_2=>cases h
 rename_i m' hm;cases hc:(ce _ e&&_&&_) with
 |false=>rw [hc] at h;cases h
 |true=>
  rw [hc] at h;injection h with h;subst h;simp only [bn,eh,cm] at hc;obtain ⟨rfl,rfl⟩:=tI hm;exact ⟨_,_,_,_,rfl,by assumption,by assumption,rfl,hc.1.1,hc.1.2,hc.2⟩
theorem aAl {e:Nat} {f:FuncId} (hf:F f=some (.shp (aDF e))) {R':Type} {args:List SV} {s:List SB} {z:List Nat} {k:SV->List SB->List Nat->iJ R'} {ρ:Type} {w:R'->ρ} {y:ρ} {pa:List PV} {ps:cT}
 {Q:R'->PV->cT->List Nat->Prop} (ha:RL s args pa) (hS:cU s ps) (he:aN7 e args s z k ρ w=some y)
 (hk: ∀v s' z' p ps' ρ' (w':R'->ρ') y',R s' v p->cU s' ps'->k v s' z' ρ' w'=some y'-> ∃r,y'=w' r/\Q r p ps' z'): ∃r,y=w r/\HC F f pa ps z (fun p ps' z'=>Q r p ps' z'):=by
 unfold aN7 at he;cases hA:aGm e args s z with
 |none=>rw [hA] at he;cases he
 |some a=>
 rw [hA] at he;dsimp only at he;obtain ⟨l',hl,he⟩:=cZ he;obtain ⟨x,u,x2,m0,rfl,ht,hu,hm,he1,htu,hz⟩:=aC2 hA;obtain ⟨t,q,l,i,m⟩:=a;dsimp only at*;subst hm he1;obtain ⟨i0,il,m1,hle,rfl⟩:=T0 hl;obtain ⟨p0,pr0,rfl,h0,ha⟩:=ha;obtain ⟨p1,pr1,rfl,h1,ha⟩:=ha;obtain ⟨p2,pr2,rfl,h2,ha⟩:=ha;obtain rfl:pr2=[]:=ha;obtain rfl:p1= .int .i64 i:=h1
 have ht':s[t]? =some (.arr q l):=by rw [<- cM];exact ht
 have hu':s[u]? =some (.arr q m):=by rw [<- cM];exact hu
 obtain ⟨e0,n0,rfl,o0⟩:=h0;obtain ⟨e2,n2,rfl,o2⟩:=h2;obtain ⟨rfl,rfl⟩:e0=q.length/\n0=l.length:=by
  rcases o0 with ⟨r1,l1,a,b,c⟩|a
  · rw [ht'] at a;injection a with a;injection a with a1 a2;subst a1;subst a2;exact ⟨b,c⟩
  rw [ht'] at a;cases a
 obtain ⟨rfl,rfl⟩:e2=q.length/\n2=m.length:=by
  rcases o2 with ⟨r1,l1,a,b,c⟩|a
  · rw [hu'] at a;injection a with a;injection a with a1 a2;subst a1;subst a2;exact ⟨b,c⟩
  rw [hu'] at a;cases a
 obtain ⟨b1,hb1,hb1'⟩:=hS.at_ t _ ht';obtain ⟨b2,hb2,hb2'⟩:=hS.at_ u _ hu';have hb1':b1= .arr q.length (l.map (RT.pv q)):=hb1';have hb2':b2= .arr q.length (m.map (RT.pv q)):=hb2';subst hb1' hb2';have hlen:(J6 [t] (s.set t .dead)).length=s.length:=by rw [CC];simp
 obtain ⟨L,hL⟩: ∃L,L=l.take i.toNat++m++l.drop i.toNat:=⟨_,rfl⟩;rw [<- hL] at he;have G:=iZ.put hS (b:= .dead) (q:= .dead) (l:=[.arr q L]) (ql:=[.arr q.length (L.map (RT.pv q))]) (v:= .own s.length false)
  (p:= .own s.length q.length 0 L.length L.length false) (rd:=[]) ht' (.inr rfl) rfl rfl
  (fun j b hj=>by
   cases j with
   |zero=>simp at hj;subst hj;exact ⟨_,rfl,rfl⟩
   |succ j=>simp at hj)
  ⟨q.length,L.length,rfl,.inl ⟨q,L,by rw [<- hlen];exact pL,rfl,rfl⟩⟩
 have hll:L.length=l.length+1:=by
  rw [hL];simp only [ei,dc,gd,m1];omega
 obtain ⟨rr,hr,hq⟩:=hk _ _ _ _ _ _ _ _ G.v G.sto he;refine ⟨rr,hr,1,_,_,_,?_,hq⟩;rw [nW];have hmost:cd (l.length+1) most=true:=by simp [most];omega
 have hbl:cd i.toNat l.length=true:=by simpa using il
 have hLm:L.map (RT.pv q)=(l.map (RT.pv q)).take i.toNat++m.map (RT.pv q)++(l.map (RT.pv q)).drop i.toNat:=by
  rw [hL,dj,dj,dd,dy]
 simp [step,hf,aDF,hb1,hb2,m1,htu,hz,i0,hmost,il,hll,hS.len,hZ,VH,hLm]
theorem aC3 {α:Type} {l m r:List α} (h:aCP l m=some r):1<=l.length+m.length/\l.length+m.length<=1048576/\r=l++m:=by
 unfold aCP at h;split at h
 · rename_i hc
   injection h with h;exact ⟨hc.1,hc.2,h.symm⟩
 cases h
theorem aC4 {args:List SV} {s:List SB} {z:List Nat} {a:aUq} (h:aGn args s z=some a):
 ∃cap x m,args=[.part a.t 0 2 cap x]/\nth s a.t=some (.box [.sl a.r a.l,.sl a.r m])/\a.m=m/\a.r.length=1/\has z a.t=false:=by
 unfold aGn at h;split at h
 case h_2=>cases h
 split at h
 case h_2=>cases h
 split at h
 case h_2=>cases h
 rename_i m' hm;cases hc:(ce _ 1&&ce _ 0&&ce _ 2&&_) with
 |false=>rw [hc] at h;cases h
 |true=>
  rw [hc] at h;injection h with h;subst h;simp only [bn,eh,cm] at hc;obtain ⟨rfl,rfl⟩:=tI hm;obtain ⟨⟨⟨h1,rfl⟩,rfl⟩,h2⟩:=hc;exact ⟨_,_,_,rfl,by assumption,rfl,h1,h2⟩
theorem R5 {r:List PT} (h:r.length=1) (l:List (RT r)):B0 (l.map (RT.pv r))=true:=by
 unfold B0;rw [df];intro x hx;obtain ⟨a,_,rfl⟩:=fy.1 hx
 match r,h with
 | [p],_=>
  show (ce [p.pv a].length 1&&[p.pv a].all PV.plain)=true;cases p<;>rfl
theorem aAm {f:FuncId} (hf:F f=some (.shp S4)) {R':Type} {args:List SV} {s:List SB} {z:List Nat} {k:SV->List SB->List Nat->iJ R'} {ρ:Type} {w:R'->ρ} {y:ρ} {pa:List PV} {ps:cT}
 {Q:R'->PV->cT->List Nat->Prop} (ha:RL s args pa) (hS:cU s ps) (he:aN8 args s z k ρ w=some y)
 (hk: ∀v s' z' p ps' ρ' (w':R'->ρ') y',R s' v p->cU s' ps'->k v s' z' ρ' w'=some y'-> ∃r,y'=w' r/\Q r p ps' z'): ∃r,y=w r/\HC F f pa ps z (fun p ps' z'=>Q r p ps' z'):=by
 unfold aN8 at he;cases hA:aGn args s z with
 |none=>rw [hA] at he;cases he
 |some a=>
 rw [hA] at he;dsimp only at he;obtain ⟨l',hl,he⟩:=cZ he;obtain ⟨cap,x,m0,rfl,ht,hm,he1,hz⟩:=aC4 hA;obtain ⟨t,q,l,m⟩:=a;dsimp only at*;subst hm;obtain ⟨hp,hle,rfl⟩:=aC3 hl;obtain ⟨p0,pr0,rfl,h0,ha⟩:=ha;obtain rfl:pr0=[]:=ha;have ht':s[t]? =some (.box [.sl q l,.sl q m]):=by rw [<- cM];exact ht
 obtain ⟨e0,rfl,o0⟩:=h0;obtain rfl:e0=1:=by
  rcases o0 with ⟨r1,l1,a,b⟩|a|⟨_,a,b⟩
  · rw [ht'] at a;cases a
  · rw [ht'] at a;cases a
  exact b
 obtain ⟨b1,hb1,hb1'⟩:=hS.at_ t _ ht';obtain ⟨ps1,rfl,p1,q1,rfl,hp1,p2,q2,rfl,hp2,rfl⟩:=hb1';have hp1:p1= .sl q.length false (l.map (RT.pv q)):=hp1;have hp2:p2= .sl q.length false (m.map (RT.pv q)):=hp2;subst hp1 hp2;have hlen:(J6 [t] (s.set t .dead)).length=s.length:=by rw [CC];simp
 obtain ⟨L,hL⟩: ∃L,L=l++m:=⟨_,rfl⟩;rw [<- hL] at he;have G:=iZ.put hS (b:= .dead) (q:= .dead) (l:=[.arr q L]) (ql:=[.arr q.length (L.map (RT.pv q))]) (v:= .own s.length false)
  (p:= .own s.length q.length 0 L.length L.length false) (rd:=[]) ht' (.inr rfl) rfl rfl
  (fun j b hj=>by
   cases j with
   |zero=>simp at hj;subst hj;exact ⟨_,rfl,rfl⟩
   |succ j=>simp at hj)
  ⟨q.length,L.length,rfl,.inl ⟨q,L,by rw [<- hlen];exact pL,rfl,rfl⟩⟩
 have hll:L.length=l.length+m.length:=by rw [hL];simp
 obtain ⟨rr,hr,hq⟩:=hk _ _ _ _ _ _ _ _ G.v G.sto he;refine ⟨rr,hr,1,_,_,_,?_,hq⟩;rw [nW];have hmost:cd (l.length+m.length) most=true:=by simp [most];omega
 have hpos:cd 1 (l.length+m.length)=true:=by simpa using hp
 have hLm:L.map (RT.pv q)=l.map (RT.pv q)++m.map (RT.pv q):=by rw [hL,dj]
 have hc:(ce 1 1&&ce 0 0&&ce 2 2&&!has z t&&B0 (l.map (RT.pv q))&&B0 (m.map (RT.pv q))&&cd 1 ((l.map (RT.pv q)).length+(m.map (RT.pv q)).length)&&cd ((l.map (RT.pv q)).length+(m.map (RT.pv q)).length) most&&(ce q.length 1||(l.map (RT.pv q)).isEmpty)&&(ce q.length 1||(m.map (RT.pv q)).isEmpty))=true:=by
  rw [R5 he1,R5 he1,hz,cw,cw,hpos,hmost,he1];rfl
 simp only [step,hf];unfold S4
 dsimp only;rw [hb1];dsimp only;rw [hc];simp [hS.len,hZ,VH,hLm,hll,he1]
theorem WZ: ∀(p:PT) (a:p.T),I0 p (p.pv a)=some a
 | .i k,a=>by
  have:gB k k=true:=fU.2 rfl
  simp [I0,PT.pv,this]
 | .b,a=>rfl
theorem aBA: ∀(r:List PT) (a:RT r),QT r (RT.pv r a)=some a
 | [],a=>rfl
 | [p],a=>WZ p a
 |p::q::r,a=>by
  show (match I0 p (p.pv a.1),QT (q::r) (RT.pv (q::r) a.2) with
   |some a,some b=>some (a,b)
   |_,_=>none)=_
  rw [WZ,aBA (q::r)]
theorem W0 (r:List PT): ∀l:List (RT r),LX r (l.map (RT.pv r))=some l
 | []=>rfl
 |a::l=>by
  show (match QT r (RT.pv r a),LX r (l.map (RT.pv r)) with
   |some a,some l=>some (a::l)
   |_,_=>none)=_
  rw [aBA,W0 r l]
theorem aGD {s:List SB} {g:Option FuncId} {a:List SV} {p:List PV} (h:LY g a=true) (hr:RL s a p):aGj g p=true:=by
 unfold LY at h;split at h
 · obtain rfl:p=[]:=hr
   rfl
 · obtain ⟨p0,pr,rfl,h0,hr⟩:=hr
   obtain rfl:pr=[]:=hr;obtain ⟨x,y,rfl,hx,hy⟩:=h0;obtain rfl:x=[]:=hx;obtain rfl:y=[]:=hy;exact h
 cases h
theorem aC5 {r:List PT} {g:Option FuncId} {args:List SV} {s:List SB} {z:List Nat} {t:Nat} {o:Option Nat} {l:List (RT r)} (h:aGo r g args s z=some (t,o,l)):
 ∃x a,args=x::a/\nth s t=some (.arr r l)/\has z t=false/\LY g a=true/\((o=none/\ ∃ex,x= .own t ex)\/ ∃len cap ex,o=some len/\x= .pre t len cap ex):=by
 unfold aGo at h;split at h
 · split at h
   · split at h
     · rename_i hm
       cases hc:(!has z _&&LY g _) with
       |false=>rw [hc] at h;cases h
       |true=>
        rw [hc] at h;simp only [cond_true,bv,ck] at h;obtain ⟨rfl,rfl,rfl⟩:=h;simp only [bn,cm] at hc;obtain ⟨rfl,rfl⟩:=tI hm;exact ⟨_,_,rfl,by assumption,hc.1,hc.2,.inl ⟨rfl,_,rfl⟩⟩
     cases h
   cases h
 · split at h
   · split at h
     · rename_i hm
       cases hc:(!has z _&&LY g _) with
       |false=>rw [hc] at h;cases h
       |true=>
        rw [hc] at h;simp only [cond_true,bv,ck] at h;obtain ⟨rfl,rfl,rfl⟩:=h;simp only [bn,cm] at hc;obtain ⟨rfl,rfl⟩:=tI hm;exact ⟨_,_,rfl,by assumption,hc.1,hc.2,.inr ⟨_,_,_,rfl,rfl⟩⟩
     cases h
   cases h
 cases h
theorem aAn {α:Type} {f:List α->Option (List α)} {l m:List α} (h:LV f l=some m):l.length<=1048576/\f l=some m/\m.length=l.length:=by
 unfold LV at h;split at h
 · rename_i hl
   split at h
   · rename_i m' hm
     split at h
     · rename_i he
       injection h with h;subst h;exact ⟨hl,hm,he⟩
     cases h
   cases h
 cases h
theorem T1 {α:Type} {f:List α->Option (List α)} {n:Nat} {l m:List α} (h:F0s f n l=some m):n<=l.length/\ ∃m',LV f (l.take n)=some m'/\m=m'++l.drop n:=by
 unfold F0s at h;split at h
 · rename_i hn
   cases hm:LV f (l.take n) with
   |none=>rw [hm] at h;cases h
   |some m'=>
    rw [hm] at h;injection h with h;exact ⟨hn,m',rfl,h.symm⟩
 cases h
theorem aAo {q:Srt} {f:FuncId} (hf:F f=some (.shp (TQ q))) {R':Type} {args:List SV} {s:List SB} {z:List Nat} {k:SV->List SB->List Nat->iJ R'} {ρ:Type} {w:R'->ρ} {y:ρ} {pa:List PV} {ps:cT}
 {Q:R'->PV->cT->List Nat->Prop} (ha:RL s args pa) (hS:cU s ps) (he:aN9 q args s z k ρ w=some y)
 (hk: ∀v s' z' p ps' ρ' (w':R'->ρ') y',R s' v p->cU s' ps'->k v s' z' ρ' w'=some y'-> ∃r,y'=w' r/\Q r p ps' z'): ∃r,y=w r/\HC F f pa ps z (fun p ps' z'=>Q r p ps' z'):=by
 have key: ∀(t len:Nat) (l m':List (RT q.r)) (ex:Bool) (cap:Nat) (pr:List PV) (a:List SV),s[t]? =some (.arr q.r l)->has z t=false->LY q.g a=true->RL s a pr->pa= .own t q.r.length 0 len cap ex::pr->len<=l.length->LV q.fn (l.take len)=some m'->
  k (.tup []) (gX.stoOf s {v:= .tup [],wr:=[(t,.arr q.r (m'++l.drop len))]}) z ρ w=some y-> ∃r,y=w r/\HC F f pa ps z (fun p ps' z'=>Q r p ps' z'):=by
  intro t len l m' ex cap pr a ht hz hg har hpa hlen hso he;subst hpa;obtain ⟨s1,s2,s3⟩:=aAn hso;obtain ⟨b1,hb1,hb1'⟩:=hS.at_ t _ ht;have hb1':b1= .arr q.r.length (l.map (RT.pv q.r)):=hb1';subst hb1';have hll:(l.take len).length=len:=by rw [dc];omega
  have hml:(m'++l.drop len).length=l.length:=by rw [ei,gd,s3,hll];omega
  have G:=iZ.put hS (b:= .arr q.r (m'++l.drop len)) (q:= .arr q.r.length ((m'++l.drop len).map (RT.pv q.r))) (l:=[]) (ql:=[]) (v:= .tup []) (p:= .tup []) (rd:=[]) ht (.inl ⟨_,rfl,hml⟩) rfl rfl
   (fun j b hj=>by simp at hj) ⟨[],rfl,rfl⟩
  obtain ⟨rr,hr,hq⟩:=hk _ _ _ _ _ _ _ _ G.v G.sto he;refine ⟨rr,hr,1,_,_,_,?_,hq⟩;rw [nW];have hg':=aGD hg har;have hrt:LX q.r ((l.map (RT.pv q.r)).take len)=some (l.take len):=by rw [<- dd];exact W0 q.r _
  have hbl:cd len l.length=true:=by simpa using hlen
  have hmo:cd len most=true:=by simp [most];omega
  have hbe:ce m'.length (l.take len).length=true:=by rw [s3];exact c6 _
  simp only [step,hf,TQ,hb1,cw,c6,hbl,hmo,hz,hg',hrt,s2,hbe,dp,eb,if_true,Option.map_some,hZ,VH,dj,dy]
 unfold aN9 at he;cases hA:aGo q.r q.g args s z with
 |none=>rw [hA] at he;cases he
 |some u=>
  obtain ⟨t,o,l⟩:=u;rw [hA] at he;obtain ⟨x,a,rfl,ht,hz,hg,h⟩:=aC5 hA;obtain ⟨p0,pr,rfl,h0,ha⟩:=ha;rw [cM] at ht;rcases h with ⟨rfl,ex,rfl⟩|⟨len,cap,ex,rfl,rfl⟩
  · obtain ⟨m,hm,he⟩:=cZ he
    obtain ⟨e0,n0,rfl,o0⟩:=h0;obtain ⟨rfl,rfl⟩:e0=q.r.length/\n0=l.length:=by
     rcases o0 with ⟨r1,l1,a,b,c⟩|a
     · rw [ht] at a;injection a with a;injection a with a1 a2;subst a1;cases a2;exact ⟨b,c⟩
     rw [ht] at a;cases a
    refine key t l.length l m ex l.length pr a ht hz hg ha rfl (fb _) (by rw [List.take_length];exact hm) ?_
    rw [List.drop_length,cu];exact he
  obtain ⟨m,hm,he⟩:=cZ he
  obtain ⟨e0,rfl,o0⟩:=h0;obtain rfl:e0=q.r.length:=by
   rcases o0 with ⟨r1,l1,a,b⟩|a|⟨_,a,_⟩
   · rw [ht] at a;injection a with a;injection a with a1 a2;subst a1;exact b
   · rw [ht] at a;cases a
   rw [ht] at a;cases a
  obtain ⟨hn,m',hso,rfl⟩:=T1 hm;exact key t len l m' ex cap pr a ht hz hg ha rfl hn hso he
theorem T2 (hcx:jA F cx): ∀n,WV F (aEj cx n)
 |0=>fun f args s z R' k ρ w y pa ps Q _ _ h _=>by cases h
 |n+1=>fun f args s z R' k ρ w y pa ps Q ha hS h hk=>by
  simp only [aEj] at h;cases hx:cx.code f with
  |none=>rw [hx] at h;cases h
  |some x=>
   rw [hx] at h;cases x with
   |code x=>exact EN hcx (T2 hcx n) (hcx.code f _ hx) ha hS h hk
   |ins e=>exact aAl (hcx.code f _ hx) ha hS h hk
   |srt q=>exact aAo (hcx.code f _ hx) ha hS h hk
   |cat=>exact aAm (hcx.code f _ hx) ha hS h hk
def aGE:Kd->Bool->Bool
 | .own,b=>b
 |_,b=>!b
def aEL (kd:Kd) {β:Type} (res:aK β) (b:β) (p:PV) (ps:cT) (z:List Nat):Prop:=
 match kd with
 | .pure=>p.noref=true/\xS (res.enc b)=some p
 | .frz=>p.noref=false/\ ∃q,FK ps p=some q/\xS (res.enc b)=some q
 | .own=> ∀nx,∃p0 p' q seen,GK ps z nx [] p=some (p',q,seen)/\xS (res.enc b)=some p0/\OR nx p0=some (p',q)
mutual
theorem W3 {s:List SB}: ∀{v:SV} {p:PV},R s v p->HM v=true->xS v=some p
 | .int _ _,p,h,_| .bool _,p,h,_| .str _,p,h,_=>by rw [show p=_ from h];rfl
 | .agg cs,p,h,hn=>by obtain ⟨q,rfl,h⟩:=h;simp only [xS,pure_pvL h hn]
 | .tup cs,p,h,hn=>by obtain ⟨q,rfl,h⟩:=h;simp only [xS,pure_pvL h hn]
 | .junk,_,_,h| .undef,_,_,h| .nul,_,_,h| .nilf,_,_,h| .sl _ _,_,_,h| .nil _ _,_,_,h| .own _ _,_,_,h| .pre _ _ _ _,_,_,h| .part _ _ _ _ _,_,_,h| .pa _ _ _ _ _,_,_,h| .pb _ _ _,_,_,h| .bp _ _ _,_,_,h| .rptr _ _,_,_,h| .clo _ _ _,_,_,h| .mp _,_,_,h=>by cases h
theorem pure_pvL {s:List SB}: ∀{v:List SV} {p:List PV},RL s v p->norefSL v=true->pvL v=some p
 | [],p,h,_=>by rw [show p=_ from h];rfl
 |x::xs,p,h,hn=>by
  obtain ⟨a,as,rfl,h1,h2⟩:=h.cons_inv;simp only [norefSL,bn] at hn;exact fD.2 ⟨_,_,rfl,W3 h1 hn.1,pure_pvL h2 hn.2⟩
end
theorem aAp {kd:Kd} {β:Type} {res:aK β} {v:SV} {s:List SB} {z:List Nat} {p:PV} {ps:cT} {ρ:Type} {w:β->ρ} {y:ρ} (hv:R s v p) (hS:cU s ps) (h:aEk kd res v s z ρ w=some y):
 ∃b,y=w b/\aEL kd res b p ps z:=by
 unfold aEk at h;cases kd with
 |pure=>
  dsimp only at h;obtain ⟨h1,h2⟩:=dG h;obtain ⟨b,h3,h4⟩:=bS h2;injection h4 with h4;exact ⟨b,h4.symm,WT hv h1,res.law h3 (W3 hv h1)⟩
 |frz=>
  dsimp only at h;obtain ⟨h1,h2⟩:=xG h;obtain ⟨u,h3,h4⟩:=bS h2;obtain ⟨b,h5,h6⟩:=bS h4;injection h6 with h6;obtain ⟨q,h7,h8⟩:=aNM hS hv h3;exact ⟨b,h6.symm,RW hv h1 h3,q,h7,res.law h5 h8⟩
 |own=>
  dsimp only at h;obtain ⟨u,h3,h4⟩:=bS h;obtain ⟨b,h5,h6⟩:=bS h4;injection h6 with h6;refine ⟨b,h6.symm,fun nx=>?_⟩
  obtain ⟨p0,p',q,h7,h8,h9⟩:=aEF hS (v':=u.1) (seen':=u.2) nx hv h3;exact ⟨p0,p',q,u.2,h9,res.law h5 h7,h8⟩
theorem cU.nil:cU [] []:=⟨rfl,fun t b h=>by simp at h⟩
theorem aI.of {f:FuncId} {x:aM} {α β:Type} {args:aC α} {res:aK β} {kd:Kd} {fn:α->Option β} {ow:Bool} (hf:F f=some (.code x)) (ho:aGE kd ow=true) (hcx:jA F cx)
 (h: ∀a,aNJ cx x args res kd a=fn a):aI F f ⟨args,res,fn,kd,ow⟩:=by
 intro a b as pa sto fz hb hpa hex;have hb:fn a=some b:=hb;rw [<- h a] at hb;obtain ⟨r,hr,n,v,s,z,hrun,hl⟩:=EN hcx (T2 hcx 8) hf (Q:=fun r p ps z=>aEL kd res r p ps z) (pvL_R hpa) cU.nil hb (fun v s' z' p ps' ρ' w' y' hv hS hk=>aAp hv hS hk)
 have hr':b=r:=hr;subst hr';cases kd with
 |pure=>
  obtain ⟨h1,h2⟩:=hl;have how:ow=false:=by simpa [aGE] using ho
  subst how;refine ⟨n,{v:=v,rd:=toksL (dP sto fF) as},?_,v,h2,rfl⟩;simp only [callPure,hex,hf,hrun,cf,if_false,h1,if_true]
 |frz=>
  obtain ⟨h1,q,h2,h3⟩:=hl;have how:ow=false:=by simpa [aGE] using ho
  subst how;refine ⟨n,{v:=q,rd:=toksL (dP sto fF) as,fr:=toksL (dP sto fF) as},?_,q,h3,rfl⟩;simp only [callPure,hex,hf,hrun,cf,if_false,h1,h2]
 |own=>
  have how:ow=true:=ho;subst how;obtain ⟨p0,p',q,seen,h1,h2,h3⟩:=hl sto.length;refine ⟨n,{v:=p',news:=q,rd:=toksL (dP sto fF) as},?_,p0,p',q,h2,h3,rfl⟩;simp only [callPure,hex,hf,hrun,if_true,h1]
theorem W4: ∀(s:List SB) (q:List D2),(HN s q).1.length=s.length
 | [],q=>rfl
 |b::r,q=>by simp only [HN,cp,W4 r]
mutual
theorem R.take {s:List SB} {k:Nat}: ∀{v:SV} {p:PV},R s v p->(∀t∈Z4 zB v,t<k)->R (s.take k) v p
 | .junk,_,_,_=>trivial
 | .undef,_,h,_| .nul,_,h,_| .nilf,_,h,_| .int _ _,_,h,_| .bool _,_,h,_| .str _,_,h,_| .sl _ _,_,h,_| .nil _ _,_,h,_| .bp _ _ _,_,h,_| .mp _,_,h,_=>h
 | .agg cs,_,h,ht=>by obtain ⟨q,rfl,h⟩:=h;exact ⟨q,rfl,RL.takeS h ht⟩
 | .tup cs,_,h,ht=>by obtain ⟨q,rfl,h⟩:=h;exact ⟨q,rfl,RL.takeS h ht⟩
 | .rptr cs o,_,h,ht=>by obtain ⟨q,rfl,h⟩:=h;exact ⟨q,rfl,RL.takeS h ht⟩
 | .clo f a b,_,h,ht=>by
  obtain ⟨pa,pb,rfl,h1,h2⟩:=h;exact ⟨pa,pb,rfl,RL.takeS h1 (fun t h=>ht t (ed _ h)),RL.takeS h2 (fun t h=>ht t (d9 _ h))⟩
 | .own t ex,_,h,ht=>by
  obtain ⟨e,n,rfl,hat⟩:=h;have hk:=ht t (d6.2 rfl);refine ⟨e,n,rfl,?_⟩;rcases hat with ⟨r,l,h1,h2,h3⟩|h1
  · exact .inl ⟨r,l,by rw [bz hk];exact h1,h2,h3⟩
  exact .inr (by rw [bz hk];exact h1)
 | .pre t a b c,_,h,ht=>by
  obtain ⟨e,rfl,hat⟩:=h;have hk:=ht t (d6.2 rfl);refine ⟨e,rfl,?_⟩;rcases hat with ⟨r,l,h1,h2⟩|h1
  · exact .inl ⟨r,l,by rw [bz hk];exact h1,h2⟩
  exact .inr (by rw [bz hk];exact h1)
 | .part t o a b c,_,h,ht=>by
  obtain ⟨e,rfl,hat⟩:=h;have hk:=ht t (d6.2 rfl);refine ⟨e,rfl,?_⟩;rcases hat with ⟨r,l,h1,h2⟩|h1
  · exact .inl ⟨r,l,by rw [bz hk];exact h1,h2⟩
  exact .inr (by rw [bz hk];exact h1)
 | .pa t r i a o,_,h,ht=>by
  obtain ⟨rfl,hat⟩:=h;have hk:=ht t (d5 ..);refine ⟨rfl,?_⟩;rcases hat with ⟨l,h1,h2⟩|h1
  · exact .inl ⟨l,by rw [bz hk];exact h1,h2⟩
  exact .inr (by rw [bz hk];exact h1)
 | .pb t i o,_,h,ht=>by
  obtain ⟨e,rfl,hat⟩:=h;have hk:=ht t (d5 ..);refine ⟨e,rfl,?_⟩;rcases hat with ⟨r,l,h1,h2⟩|h1
  · exact .inl ⟨r,l,by rw [bz hk];exact h1,h2⟩
  exact .inr (by rw [bz hk];exact h1)
theorem RL.takeS {s:List SB} {k:Nat}: ∀{v:List SV} {p:List PV},RL s v p->(∀t∈tkVL zB v,t<k)->RL (s.take k) v p
 | [],_,h,_=>h
 |x::xs,_,h,ht=>by
  obtain ⟨a,as,rfl,h1,h2⟩:=h.cons_inv;exact RL.cons (R.take h1 (fun t h=>ht t (ed _ h))) (RL.takeS h2 (fun t h=>ht t (d9 _ h)))
end
theorem OV {R' ρ:Type} {w:R'->ρ} {y:ρ}: ∀{s s':List SB} {k:iJ R'},I2 s s' k ρ w=some y->k ρ w=some y/\s'.length=s.length/\ ∀(t:Nat) (x z:SB),s[t]? =some x->s'[t]? =some z->aEH x z
 | [],[],k,h=>⟨h,rfl,fun t x z h=>by simp at h⟩
 | [],_::_,k,h=>by cases h
 |_::_,[],k,h=>by cases h
 |x::xs,y'::ys,k,h=>by
  have step: ∀(_:I2 xs ys k ρ w=some y) (_:aEH x y'),k ρ w=some y/\(y'::ys).length=(x::xs).length/\ ∀(t:Nat) (a b:SB),(x::xs)[t]? =some a->(y'::ys)[t]? =some b->aEH a b:=by
   intro h hx;obtain ⟨h1,h2,h3⟩:=OV h;refine ⟨h1,by simpa using h2,fun t a b ha hb=>?_⟩
   cases t with
   |zero=>simp at ha hb;subst ha hb;exact hx
   |succ t=>exact h3 t a b (by simpa using ha) (by simpa using hb)
  cases x with
  |arr r l=>
   cases y' with
   |arr q m=>
    obtain ⟨hr,h2⟩:=dG (a:=iN (m.length==l.length) (I2 xs ys k) aQ) h;obtain ⟨hl,h3⟩:=jV h2;exact step h3 ⟨BJ hr,by simpa using hl⟩
   |_=>cases h
  |dead=>cases y' with
   |dead=>exact step h trivial
   |_=>cases h
  |box cs=>cases y' with
   |box _=>exact step h trivial
   |_=>cases h
  |set l=>cases y' with
   |set _=>exact step h trivial
   |_=>cases h
  |tab p l=>cases y' with
   |tab _ _=>exact step h trivial
   |_=>cases h
theorem OW: ∀{s:List SB},OE s=true-> ∀(t:Nat) (b:SB),s[t]? =some b->FT b=true
 | [],_,t,b,h=>by simp at h
 |x::xs,hs,0,b,h=>by simp only [OE,bn] at hs;simp at h;subst h;exact hs.1
 |x::xs,hs,t+1,b,h=>by simp only [OE,bn] at hs;exact OW hs.2 t b (by simpa using h)
theorem lG.of {f:FuncId} {x:aM} {wd:Bool} {ka ko:List AK} {ta:List SV} {tb to:List SB} {tv:SV} {fn:mN ka->Option (mN ko)} (hf:F f=some (.code x)) (hcx:jA F cx)
 (h: ∀a,aWR wd cx x ka ta tb ko tv to a=fn a):lG F f ⟨ka,ta,tb,ko,tv,to,fn⟩:=by
 intro a b pa ps hb ha hS;rw [show (⟨ka,ta,tb,ko,tv,to,fn⟩:eH).fn a=fn a from rfl,<- h a] at hb;have hlen:(eH.sa ⟨ka,ta,tb,ko,tv,to,fn⟩ a).length=tb.length:=W4 _ _;obtain ⟨r,hr,n,v,s,z,hrun,hz,hq⟩:=EN hcx (T2 hcx 8) hf (Q:=fun (r:mN ko) p ps' z'=>z'=[]/\jT tb.length p ps'=true/\
  R (eH.sb ⟨ka,ta,tb,ko,tv,to,fn⟩ r) (eH.vb ⟨ka,ta,tb,ko,tv,to,fn⟩ r) p/\cU (eH.sb ⟨ka,ta,tb,ko,tv,to,fn⟩ r) (ps'.take tb.length)/\
  (eH.sb ⟨ka,ta,tb,ko,tv,to,fn⟩ r).length=(eH.sa ⟨ka,ta,tb,ko,tv,to,fn⟩ a).length/\
  ∀(t:Nat) (x y:SB),(eH.sa ⟨ka,ta,tb,ko,tv,to,fn⟩ a)[t]? =some x->(eH.sb ⟨ka,ta,tb,ko,tv,to,fn⟩ r)[t]? =some y->aEH x y) ha hS hb (fun v s' z' p ps' ρ' w' y' hv hS' hk=>by
  cases z' with
  |cons _ _=>cases hk
  |nil=>
   dsimp only at hk;obtain ⟨hc,hk⟩:=dG hk;simp only [bn] at hc;obtain ⟨⟨⟨⟨c1,c2⟩,c3⟩,c4⟩,c5⟩:=hc;obtain ⟨hk,f1,f2⟩:=OV hk;obtain ⟨r,hr,hk⟩:=bS hk;injection hk with hk;have hu:R s' (bif wd then RM s' v else v) p:=by
    cases wd with
    |true=>exact aBt hv
    |false=>exact hv
   generalize (bif wd then RM s' v else v)=u at c1 c3 c4 hr hu
   have hats:=xT hr;have hvb:eH.vb ⟨ka,ta,tb,ko,tv,to,fn⟩ r=u:=by
    show (zE tv (pK ko r)).1=u;rw [hats,MW _ c1]
   have hsb:eH.sb ⟨ka,ta,tb,ko,tv,to,fn⟩ r=s'.take tb.length:=by
    show (HN to (zE tv (pK ko r)).2).1=_;rw [hats,MW _ c1]
    have:=JC [] c2
    rw [cu] at this;rw [this]
   have hle:tb.length<=s'.length:=by
    have:=f1
    rw [dc] at this;have h2:(eH.sa ⟨ka,ta,tb,ko,tv,to,fn⟩ a).length=tb.length:=hlen;have h3:min tb.length s'.length=tb.length:=by rw [this];exact h2
    omega
   unfold aNI at c3;rw [df] at c3;have hkv: ∀t∈Z4 zB u,t<tb.length:=fun t ht=>by simpa using c3 t (ed _ ht)
   have hkb: ∀b∈s'.take tb.length,∀t∈N6 b,t<tb.length:=fun b hb t ht=>by simpa using c3 t (d9 _ (ge.2 ⟨b,hb,ht⟩))
   have hsto:cU (s'.take tb.length) (ps'.take tb.length):=⟨by simp [hS'.len],fun t x hx=>by
    have hlt:t<tb.length:=by
     have:=(bo.1 hx).1
     rw [dc] at this;omega
    have hx':=hx;rw [bz hlt] at hx';obtain ⟨q,q1,q2⟩:=hS'.at_ t x hx';refine ⟨q,by rw [bz hlt];exact q1,?_⟩
    cases x with
    |box cs=>
     obtain ⟨pc,rfl,hpc⟩:=q2;exact ⟨pc,rfl,RL.takeS hpc (hkb _ (dt hx))⟩
    |_=>exact q2⟩
   refine ⟨r,hk.symm,rfl,?_,by rw [hvb,hsb];exact R.take hu hkv,by rw [hsb];exact hsto,by rw [hsb];exact f1,by rw [hsb];exact f2⟩
   unfold jT;rw [df];intro t ht;rw [gg] at ht;rcases ht with ht|ht
   · rw [<- aEz (bx:=zB) (fun _=>rfl) hu c4] at ht
     simpa using hkv t ht
   rw [ge] at ht
   obtain ⟨q,hq,ht⟩:=ht;obtain ⟨j,hj,he⟩:=ef hq;have hjl:j<(s'.take tb.length).length:=by rw [<- hsto.len];exact hj
   obtain ⟨x,hx⟩: ∃x,(s'.take tb.length)[j]? =some x:=⟨_,bw hjl⟩;obtain ⟨q',q1,q2⟩:=hsto.at_ j x hx;rw [bw hj,he] at q1;injection q1 with q1;subst q1;rw [<- TW q2 (OW c5 j x hx)] at ht;simpa using hkb x (dt hx) t ht)
 have hr':b=r:=hr;subst hr';subst hz;refine ⟨n,v,s,hrun,?_⟩;rw [hlen];obtain ⟨h1,h2,h3,h4,h5⟩:=hq;exact ⟨h1,h2,h3,by rw [h4,hlen],h5⟩
theorem aAq {f:FuncId} {r:List PT} (hf:F f=some (.prim false (gF r.length))) (l:List (RT r)) (hl:l.length<=1048576) {as:List PV} {sto:cT} {fz:List Nat} (hex:exL sto (D3 sto fF) as=some [.sl r.length false (l.map (RT.pv r))]):
 ∃n x,callPure F (run F n) false f as sto fz=some x/\aNN .own sto.length (toksL (dP sto fF) as) (.sl r l) x:=by
 refine ⟨0,{v:= .own sto.length r.length 0 l.length l.length false,news:=[.arr r.length (l.map (RT.pv r))],rd:=toksL (dP sto fF) as},?_,.sl r.length false (l.map (RT.pv r)),.own sto.length r.length 0 l.length l.length false,[.arr r.length (l.map (RT.pv r))],rfl,by simp only [OR,cw],rfl⟩
 simp only [callPure,hex,hf];cases l with
 |nil=>rfl
 |cons a l=>
  have h2:cd ((l.map (RT.pv r)).length+1) most=true:=by simp [most] at hl ⊢;omega
  simp only [cy,gF,c6,h2,cz,if_true,GK];simp [has]
theorem aI.clone {f:FuncId} {n:Nat} {r:List PT} (hf:F f=some (.prim false (gF n))) (hn:n=r.length):aI F f (bJ.clone r):=by
 intro (a:List (RT r)) (b:List (RT r)) as pa sto fz hb hpa hex;subst hn;have hb:bW a=some b:=hb;obtain ⟨rfl,hl⟩:=HR hb;have hpa':pa=[.sl r.length false (b.map (RT.pv r))]:=by
  have:some [PV.sl r.length false (b.map (RT.pv r))]=some pa:=hpa
  exact (dz this).symm
 subst hpa';exact aAq hf b hl hex
theorem aI.add64 {f:FuncId} (hf:F f=some (.prim false HB)):aI F f bJ.add64:=by
 intro a b as pa sto fz hb hpa hex;obtain ⟨x,y,c⟩:=a;have hb':tJ x y c=some b:=hb;unfold tJ at hb';cases hc:(decide (0<=x)&&decide (0<=y)&&decide (0<=c)&&decide (c<=1)) with
 |false=>rw [hc] at hb';cases hb'
 |true=>
  rw [hc] at hb';injection hb' with hb';subst hb';simp only [bn,decide_eq_true_eq] at hc;obtain ⟨⟨⟨h1,h2⟩,h3⟩,h4⟩:=hc;obtain ⟨x,rfl⟩:=cj h1;obtain ⟨y,rfl⟩:=cj h2;obtain ⟨c,rfl⟩:=cj h3;have hpa':pa=[.int .u64 (.ofNat x),.int .u64 (.ofNat y),.int .u64 (.ofNat c)]:=by
   have:some [PV.int .u64 (x:Int),.int .u64 (y:Int),.int .u64 (c:Int)]=some pa:=hpa
   exact (dz this).symm
  subst hpa';have hcb:cd c 1=true:=by simp;omega
  refine ⟨0,{v:= .tup [.int .u64 (.ofNat ((x+y+c)%18446744073709551616)),.int .u64 (.ofNat ((x+y+c) / 18446744073709551616))],rd:=toksL (dP sto fF) as},?_,_,rfl,rfl⟩;show callPure F (run F 0) false f as sto fz=_;simp only [callPure,hex,hf,HB,hcb,if_true];rfl
theorem lG.zero {f:FuncId} {c:eH} (h: ∀a,c.fn a=none):lG F f c:=fun a b pa ps hb=>by rw [h a] at hb;cases hb
theorem aI.zero {f:FuncId} {c:bJ} (h: ∀a,c.fn a=none):aI F f c:=fun a b as pa sto fz hb=>by rw [h a] at hb;cases hb
end
end Go.Vm
/- What comes in to a law, as typed values; a law from a contract. -/
namespace Go.Vm
open Go.ChangeShapes Go.WideShapes Go.ChangeAt Go.RowKit
def PT.wf:(p:PT)->p.T->Prop
 | .i k,n=>(Lit.int k n).wf=true
 | .b,_=>True
def RT.wf:(r:List PT)->RT r->Prop
 | [],_=>True
 | [p],a=>p.wf a
 |p::q::r,a=>p.wf a.1/\RT.wf (q::r) a.2
def jB (r:List PT) (vs:List SV):Prop:= ∃a:RT r,vs=RT.sv r a/\RT.wf r a
def W5 (r:List PT) (vs:List SV):Prop:= ∃l:List (RT r),vs=[.sl r l]/\ ∀a∈l,RT.wf r a
def aGF:List (List SV->Prop)->List SV->Prop
 | [],vs=>vs=[]
 |K::Ks,vs=> ∃a b,vs=a++b/\K a/\aGF Ks b
theorem jB.cons {p:PT}: ∀{r:List PT} {a b:List SV},jB [p] a->jB r b->jB (p::r) (a++b)
 | [],a,b,⟨x,hx,wx⟩,⟨y,hy,_⟩=>⟨x,by rw [hx,hy];rfl,wx⟩
 |q::r,a,b,⟨x,hx,wx⟩,⟨y,hy,wy⟩=>⟨(x,y),by rw [hx,hy];rfl,wx,wy⟩
theorem jB.split {p q:PT} {r:List PT} {vs:List SV}:jB (p::q::r) vs-> ∃a b,vs=a++b/\jB [p] a/\jB (q::r) b
 |⟨x,hx,wx⟩=>⟨[p.sv x.1],RT.sv (q::r) x.2,hx,⟨x.1,rfl,wx.1⟩,⟨x.2,rfl,wx.2⟩⟩
theorem jB.app: ∀{r s:List PT} {a b:List SV},jB r a->jB s b->jB (r++s) (a++b)
 | [],s,a,b,⟨x,hx,_⟩,h=>by
  have:a=[]:=hx
  subst this;exact h
 | [p],s,a,b,h,k=>jB.cons h k
 |p::q::r,s,a,b,h,k=>by
  obtain ⟨a1,a2,rfl,h1,h2⟩:=jB.split h
  rw [cq];exact jB.cons h1 (jB.app h2 k)
theorem qW: ∀{rs:List (List PT)} {vs:List SV},aGF (rs.map jB) vs->jB rs.flatten vs
 | [],vs,h=>by
  have:vs=[]:=h
  subst this;exact ⟨(),rfl,trivial⟩
 |r::rs,vs,⟨a,b,h1,h2,h3⟩=>by
  subst h1;rw [List.flatten_cons];exact jB.app h2 (qW h3)
def cV (P : Program) (t : TypeId) (K : List SV -> Prop) : Prop :=
  ∀ (H : Type) (enc : TypeId × Value -> H) (w : World) (fuel : Nat) (cs : List Value) (x : DataW H × List MemPlace), DataW.trod enc P w 0 (fun _ => true) true fuel t cs = some x ->
    ∃ vs q, K vs /\ pvL vs = some q /\ VRL (N3 w) hM q cs
section
variable {P : Program}
theorem cV.mono {t:TypeId} {K K':List SV->Prop} (h:cV P t K) (hk: ∀vs,K vs->K' vs):cV P t K':=fun H enc w fuel cs x hx=>by
 obtain ⟨vs,q,h1,h2,h3⟩:=h H enc w fuel cs x hx;exact ⟨vs,q,hk vs h1,h2,h3⟩
theorem cV.int {t:TypeId} {k:IntKind} (ht:P.underlying t=some (.int k)):cV P t (jB [.i k]):=fun H enc w fuel cs x h=>by
 obtain ⟨n,rfl,_,hw⟩:=DataW.trod_int ht h;exact ⟨[.int k n],[.int k n],⟨n,rfl,hw⟩,rfl,.cons _ _ _ _ (.int k n) .nil⟩
theorem cV.bool {t:TypeId} (ht:P.underlying t=some .bool):cV P t (jB [.b]):=fun H enc w fuel cs x h=>by
 obtain ⟨b,rfl,_⟩:=DataW.trod_bool ht h;exact ⟨[.bool b],[.bool b],⟨b,rfl,trivial⟩,rfl,.cons _ _ _ _ (.bool b) .nil⟩
def bE (P:Program):List Field->List (List SV->Prop)->Nat->Prop
 | [],[],_=>True
 |f::fs,K::Ks,off=>f.offset=off/\cV P f.type K/\bE P fs Ks (off+P.cellsOf f.type)
 |_,_,_=>False
theorem bE.nil {off:Nat}:bE P [] [] off:=trivial
theorem bE.cons {f:Field} {fs:List Field} {K:List SV->Prop} {Ks:List (List SV->Prop)} {off:Nat} (h1:f.offset=off) (h2:cV P f.type K) (h3:bE P fs Ks (off+P.cellsOf f.type)):bE P (f::fs) (K::Ks) off:=⟨h1,h2,h3⟩
def EO (P:Program):List Field->Nat
 | []=>0
 |f::fs=>P.cellsOf f.type+EO P fs
theorem OX {im:Im} {loc:dL}: ∀{p:List PV} {vs:List Value} {q:List PV} {us:List Value},VRL im loc p vs->VRL im loc q us->VRL im loc (p++q) (vs++us)
 | [],[],_,_,.nil,h=>h
 |_::_,_::_,_,_,.cons x v xs ws h hs,k=> .cons x v _ _ h (OX hs k)
theorem OY {H:Type} {enc:TypeId×Value->H} {w:World} {n:Nat} {cs:List Value}: ∀{fs:List Field} {Ks:List (List SV->Prop)} {off:Nat},bE P fs Ks off->cs.length=off+EO P fs->
 (∀f∈fs,∃x,DataW.trod enc P w 0 (fun _=>true) true n f.type ((cs.drop f.offset).take (P.cellsOf f.type))=some x)-> ∃vs q,aGF Ks vs/\pvL vs=some q/\VRL (N3 w) hM q (cs.drop off)
 | [],[],off,_,hl,_=>⟨[],[],rfl,rfl,by rw [List.drop_eq_nil_of_le (by simp [EO] at hl;omega)];exact .nil⟩
 |f::fs,K::Ks,off,⟨h1,h2,h3⟩,hl,hx=>by
  obtain ⟨x,hx1⟩:=hx f (by simp)
  obtain ⟨vs,q,k1,k2,k3⟩:=h2 H enc w n _ x hx1;obtain ⟨vs',q',k1',k2',k3'⟩:=OY (n:=n) h3 (by simp only [EO] at hl;omega) (fun g hg=>hx g (by simp [hg]))
  refine ⟨vs++vs',q++q',⟨vs,vs',rfl,k1,k1'⟩,HO k2 k2',?_⟩;rw [h1] at k3
  have:cs.drop off=(cs.drop off).take (P.cellsOf f.type)++cs.drop (off+P.cellsOf f.type):=by
   rw [<- List.drop_drop,List.take_append_drop]
  rw [this];exact OX k3 k3'
 | [],_::_,_,h,_,_=>h.elim
 |_::_,[],_,h,_,_=>h.elim
theorem cV.struct {t:TypeId} {fs:Array Field} {Ks:List (List SV->Prop)} (ht:P.underlying t=some (.struct fs)) (hF:bE P fs.toList Ks 0) (hc:P.cellsOf t=EO P fs.toList):cV P t (aGF Ks):=fun H enc w fuel cs x h=>by
 obtain ⟨xs,n,rfl,_,hl,hxl,hall⟩:=DataW.trod_struct ht h
 have:=OY (P:=P) (enc:=enc) (w:=w) (n:=n) (cs:=cs) hF (by omega) (fun f hf=>by
  obtain ⟨i,hi,he⟩:=List.mem_iff_getElem.1 hf;have hi':i<fs.size:=by simpa using hi
  have hg:fs[i]? =some f:=by rw [Array.getElem?_eq_getElem hi'];simpa using he
  have:=hall i f hg
  rw [bw (by omega)] at this
  exact ⟨_,this⟩)
 rwa [dh] at this
theorem RT.vrl {r:List PT} {a:RT r} {q:List PV} (h:pvL (RT.sv r a)=some q):q=RT.pv r a:=by
 rw [RT.pv_sv] at h;exact (dz h).symm
theorem VRL.nth {im:Im} {loc:dL}: ∀{p:List PV} {vs:List Value},VRL im loc p vs-> ∀(k:Nat) (c:PV),p[k]? =some c-> ∃v,vs[k]? =some v/\VR im loc c v
 |_::_,_::_,.cons x v xs ws h hs,0,c,hc=>by
  simp at hc;subst hc;exact ⟨v,by simp,h⟩
 |_::_,_::_,.cons x v xs ws h hs,k+1,c,hc=>by
  obtain ⟨u,h1,h2⟩:=VRL.nth hs k c (by simpa using hc)
  exact ⟨u,by simpa using h1,h2⟩
theorem cV.slice {t e:TypeId} {r:List PT} (ht:P.underlying t=some (.slice e)) (he:cV P e (jB r)) (hc:P.cellsOf e=r.length) (hr:0<r.length):cV P t (W5 r):=fun H enc w fuel cs x h=>by
 rcases Go.Deep.open_slice ht h with ⟨rfl,_⟩|⟨a,len,cap,m,n,D,Pl,rfl,_,hl,hm,hmm,_,hx⟩
 · exact ⟨[.sl r []],[.sl r.length false []],⟨[],rfl,by simp⟩,rfl,.cons _ _ _ _ (.sl r.length false [] none 0 (fb _) (fun h=>by cases h) (fun h=>absurd rfl h)) .nil⟩
 have hm':len<=m:=by rw [hmm];split<;>omega
 have each: ∀i,i<len-> ∃A:RT r,RT.wf r A/\ ∃cs',w.cells? 0 (a.add (i*r.length)) r.length=some cs'/\VRL (N3 w) hM (RT.pv r A) cs':=by
  intro i hi;obtain ⟨cs',h1,h2⟩:=hx i (by omega)
  obtain ⟨vs,q,⟨A,hA,wA⟩,k2,k3⟩:=he H enc w n cs' _ h2;subst hA;rw [RT.vrl k2] at k3;rw [hc] at h1;exact ⟨A,wA,cs',h1,k3⟩
 have ch: ∃A:Nat->RT r,∀i,i<len->RT.wf r (A i)/\ ∃cs',w.cells? 0 (a.add (i*r.length)) r.length=some cs'/\VRL (N3 w) hM (RT.pv r (A i)) cs':=by
  classical
  refine ⟨fun i=>if h:i<len then (each i h).choose else RT.zero r,fun i hi=>?_⟩
  simp only [dif_pos hi];exact (each i hi).choose_spec
 obtain ⟨A,hA⟩:=ch;refine ⟨[.sl r ((fq len).map A)],[.sl r.length false (((fq len).map A).map (RT.pv r))],⟨_,rfl,fun x hx=>?_⟩,rfl,.cons _ _ _ _ ?_ .nil⟩
 · obtain ⟨i,hi,rfl⟩:=fy.1 hx
   exact (hA i (List.mem_range.1 hi)).1
 have hlen:(((fq len).map A).map (RT.pv r)).length=len:=by simp
 have:=VR.sl (im:=N3 w) (loc:=hM) r.length false (((fq len).map A).map (RT.pv r)) (some a) cap (by rw [hlen];exact hl) (fun h=>by cases h) (fun hne=>by
  have hpos:0<len:=by
   rcases fo len with h|h
   · subst h;exact absurd rfl hne
   exact h
  obtain ⟨_,cs0,h0,_⟩:=hA 0 hpos;obtain ⟨_,hl0,hc0⟩:=ga h0;obtain ⟨b,off,spot⟩:=a;have hspot:spot=none:=by
   have h1:=hc0 0 hr;rw [bw (by omega)] at h1
   simpa [Addr.add] using World.cell?_spot h1
  subst hspot;refine ⟨b,off,rfl,fun i row hrow=>?_⟩
  simp only [List.map_map,List.getElem?_map,c7] at hrow;obtain ⟨j,hj,rfl⟩:=hrow;have hjl:=cW hj
  have:j=i:=by
   rw [List.getElem?_range (by simpa using hjl)] at hj
   exact (dz hj).symm
  subst this;have hjlen:j<len:=by simpa using hjl
  obtain ⟨_,cs',h1,h2⟩:=hA j hjlen;obtain ⟨_,hl1,hc1⟩:=ga h1;refine ⟨RT.pv_len r (A j),fun k c hk=>?_⟩
  obtain ⟨v,hv,hvr⟩:=VRL.nth h2 k c hk;have hkr:k<r.length:=by
   have:=cW hk
   rwa [Function.comp,RT.pv_len] at this
  have cc:=hc1 k hkr;rw [hv] at cc;rw [Go.WideShapes.add_plain,Go.WideShapes.add_plain] at cc;have hpl:c.plain=true:=df.1 (RT.plain r (A j)) c (dt hk);exact ⟨v,hvr.plain hpl,aCM cc⟩)
 rw [hlen] at this;exact this
theorem cV.argS {t:TypeId} {fs:Array Field} {K:List SV->Prop} (h:cV P t K) (ht:P.underlying t=some (.struct fs)) {H:Type} {enc:TypeId×Value->H} {w:World} {base:Nat} {v:Value} {d:DataW H} {p:List MemPlace}
 (hv:Value.okWide P w .any base t v) (hd:DataW.Trod enc P w 0 (fun _=>true) true t v d p): ∃vs q,K vs/\pvL vs=some q/\VR (N3 w) hM (.agg q) v:=by
 obtain ⟨cs,rfl,_⟩:=okWide_struct ht hv;obtain ⟨fuel,hf⟩:=hd;obtain ⟨vs,q,k1,k2,k3⟩:=h H enc w fuel _ _ hf;exact ⟨vs,q,k1,k2,.agg q _ k3⟩
theorem cV.argI {t:TypeId} {k:IntKind} (ht:P.underlying t=some (.int k)) {H:Type} {enc:TypeId×Value->H} {w:World} {base:Nat} {v:Value} {d:DataW H} {p:List MemPlace}
 (hv:Value.okWide P w .any base t v) (hd:DataW.Trod enc P w 0 (fun _=>true) true t v d p): ∃n,(Lit.int k n).wf=true/\VR (N3 w) hM (.int k n) v:=by
 obtain ⟨n,rfl,_,_,hw⟩:=open_int ht hv hd;exact ⟨n,hw,.int k n⟩
theorem T3 {n:Int} (h:(Lit.int .i64 n).wf=true): -9223372036854775808<=n/\n<9223372036854775808:=by
 simp only [Lit.wf,bn,decide_eq_true_eq] at h;have e1:IntKind.i64.min= -9223372036854775808:=by decide
 have e2:IntKind.i64.max=9223372036854775807:=by decide
 rw [e1,e2] at h;omega
end
theorem aI.runA {F:qG} {f:FuncId} {x:aM} {α:Type} {A:aC α} {fn:α->Option Bool} (h:aI F f ⟨A,aK.bool,fn,.pure,false⟩) (hf:F f=some (.code x)) {a:α} (hb:fn a=some true) {ps:List PV} (hp:pvL (A.enc a)=some ps) (hx:exL [] (D3 [] fF) ps=some ps):
 ∃n s z,run F n (.func f ps [] [])=some (.func (.bool true) s z):=by
 obtain ⟨n,r,h1,p,h2,rfl⟩:=h a true ps ps [] [] hb hp hx;have hp':p= .bool true:=(dz h2).symm;subst hp';refine ⟨n,?_⟩;simp only [callPure,hx,hf] at h1;split at h1
 · rename_i v s z hr
   simp only [cf,if_false] at h1;split at h1
   · injection h1 with h1
     injection h1 with h1;subst h1;exact ⟨s,z,hr⟩
   rename_i hn
   split at h1
   · rename_i v' hv
     injection h1 with h1;injection h1 with h1;subst h1;exfalso;cases v with
     |bool b=>exact hn rfl
     |int _ _|str _|sl _ _ _=>injection hv with hv;cases hv
     |agg cs=>simp only [FK,c7] at hv;obtain ⟨_,_,hv⟩:=hv;cases hv
     |tup cs=>simp only [FK,c7] at hv;obtain ⟨_,_,hv⟩:=hv;cases hv
     |own t e off len cap ex=>simp only [FK] at hv;split at hv<;>first|(injection hv with hv;cases hv)|cases hv
     |_=>cases hv
   cases h1
 cases h1
end Go.Vm
