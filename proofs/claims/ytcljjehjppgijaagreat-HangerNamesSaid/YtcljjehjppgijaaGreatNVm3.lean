/- The logical machine, part 3: SvCod, SvRel, SvOps1, SvOps2, SvOps3, SvOps4, SvNorm, SvCall, SvFp, SvRun, SvCon. -/
import Derived.Test.YtcljjehjppgijaaGreatNVm2
open Nat renaming eq_of_beq_eq_true->aa,ble->ap,beq->aq,le_of_ble_eq_true->au,beq_refl->bi,lt_or_ge->cd,zero_add->cj,beq_eq->cv,min_eq_left->db,blt->df,le_of_lt->dm,le_refl->dx,sub_self->d5
open Bool renaming and_eq_true->ac,false_eq_true->ar,not_eq_true'->az,and_self->bh,not_false->bz,and_true->cm,not_true->dj,or_eq_true->d0
open List renaming getElem?_eq_some_iff->ae,getElem?_append_left->af,getElem?_append_right->ag,getElem?_take_of_lt->ai,getElem?_eq_getElem->aj,getElem?_set->am,length_cons->ba,append_nil->bc,length_map->bd,map_cons->be,append_assoc->bg,replicate->bj,length_take->bk,map_take->bm,take_of_length_le->bn,getElem?_cons_succ->bo,all_eq_true->bq,map_append->bu,drop_zero->bw,getElem?_eq_none_iff->ce,map_drop->cf,mem_cons_self->cg,mem_singleton->ch,length_eq_zero_iff->ci,mem_append_right->ck,mem_cons_of_mem->co,mem_of_getElem?->cp,mem_append_left->cq,getElem_of_mem->ct,length_append->cw,getElem?_cons_zero->cz,cons_append->da,nodup_cons->dd,take_succ_cons->dh,all_cons->di,cons_beq_cons->dk,map_set->dl,ext_getElem?->dn,map_nil->dp,flatMap_cons->dq,any_eq_true->du,length_drop->dv,mem_flatMap->dw,all_append->dy,mem_append->dz,any_cons->d4,mem_map->d6,all_map->d7
open Option.some renaming injEq->ah,inj->de
open Int renaming eq_ofNat_of_zero_le->ax,ofNat->bv,le_trans->cu
open Prod.mk renaming injEq->ay
open Option renaming map_eq_some_iff->bl,isSome_iff_exists->cy,getD_none->c6,getD_some->dt
/- The types of arguments and results, as cells. -/
namespace Go.Vm
theorem jN {r q:List PT} {l:List (RT r)} {m:List (RT q)} (h:lN r q l=some m): ∃e:r=q,m=e▸l:=by
 unfold lN at h;split at h
 · rename_i hs
   injection h with h;exact ⟨nP hs,h.symm⟩
 cases h
theorem wB {r q:List PT} {l:List (RT r)} {m:List (RT q)} (h:lN r q l=some m):r=q/\m.map (RT.pv q)=l.map (RT.pv r)/\m.length=l.length:=by
 obtain ⟨rfl,rfl⟩:=jN h;exact ⟨rfl,rfl,rfl⟩
theorem cB {x:SV} {xs:List SV} {ps:List PV}:pvL (x::xs)=some ps↔ ∃p qs,ps=p::qs/\lO x=some p/\pvL xs=some qs:=by
 simp only [pvL];constructor
 · intro h
   split at h
   · rename_i y ys h1 h2
     injection h with h;exact ⟨y,ys,h.symm,h1,h2⟩
   cases h
 rintro ⟨p,qs,rfl,h1,h2⟩
 rw [h1,h2]
theorem BZ: ∀{xs ys:List SV} {p q:List PV},pvL xs=some p->pvL ys=some q->pvL (xs++ys)=some (p++q)
 | [],ys,p,q,h,k=>by simp only [pvL,ah] at h;subst h;exact k
 |x::xs,ys,p,q,h,k=>by
  obtain ⟨a,as,rfl,h1,h2⟩:=cB.1 h;exact cB.2 ⟨a,as++q,rfl,h1,BZ h2 k⟩
theorem PT.of_some: ∀{p:PT} {v:SV} {a:p.T},p.of v=some a->v=p.sv a
 | .i k,.int l n,a,h=>by
  simp only [PT.of] at h;cases hk:cX l k with
  |false=>rw [hk] at h;cases h
  |true=>
   rw [hk] at h;injection h with h;subst h;rw [cS.1 hk];rfl
 | .b,.bool x,a,h=>by injection h with h;subst h;rfl
 | .i k,.bool _,a,h=>by cases h
 | .b,.int _ _,a,h=>by cases h
 | .i _,.junk,a,h| .i _,.undef,a,h| .i _,.nul,a,h| .i _,.nilf,a,h| .i _,.str _,a,h| .i _,.agg _,a,h| .i _,.tup _,a,h| .i _,.sl _ _,a,h| .i _,.nil _ _,a,h| .i _,.own _ _,a,h| .i _,.pre _ _ _ _,a,h| .i _,.part _ _ _ _ _,a,h| .i _,.pa _ _ _ _ _,a,h| .i _,.pb _ _ _,a,h| .i _,.bp _ _ _,a,h| .i _,.rptr _ _,a,h| .i _,.clo _ _ _,a,h| .i _,.mp _,a,h=>by cases h
 | .b,.junk,a,h| .b,.undef,a,h| .b,.nul,a,h| .b,.nilf,a,h| .b,.str _,a,h| .b,.agg _,a,h| .b,.tup _,a,h| .b,.sl _ _,a,h| .b,.nil _ _,a,h| .b,.own _ _,a,h| .b,.pre _ _ _ _,a,h| .b,.part _ _ _ _ _,a,h| .b,.pa _ _ _ _ _,a,h| .b,.pb _ _ _,a,h| .b,.bp _ _ _,a,h| .b,.rptr _ _,a,h| .b,.clo _ _ _,a,h| .b,.mp _,a,h=>by cases h
theorem RT.of_some: ∀{r:List PT} {vs:List SV} {a:RT r},RT.of r vs=some a->vs=RT.sv r a
 | [],[],a,_=>rfl
 | [p],[v],a,h=>by
  have:=PT.of_some (p:=p) h
  rw [this];rfl
 |p::q::r,v::vs,a,h=>by
  simp only [RT.of] at h;split at h
  · rename_i x y h1 h2
    injection h with h;subst h;rw [PT.of_some h1,RT.of_some h2];rfl
  cases h
 | [],_::_,a,h=>by simp [RT.of] at h
 | [p],[],a,h=>by simp [RT.of] at h
 | [p],_::_::_,a,h=>by simp [RT.of] at h
 |_::_::_,[],a,h=>by simp [RT.of] at h
theorem PT.pv_sv (p:PT) (a:p.T):lO (p.sv a)=some (p.pv a):=by cases p<;>rfl
theorem RT.pv_sv: ∀(r:List PT) (a:RT r),pvL (RT.sv r a)=some (RT.pv r a)
 | [],_=>rfl
 | [p],a=>cB.2 ⟨_,_,rfl,PT.pv_sv p a,rfl⟩
 |p::q::r,a=>cB.2 ⟨_,_,rfl,PT.pv_sv p a.1,RT.pv_sv (q::r) a.2⟩
theorem RT.pv_len: ∀(r:List PT) (a:RT r),(RT.pv r a).length=r.length
 | [],_=>rfl
 | [p],a=>rfl
 |p::q::r,a=>by simp [RT.pv,RT.pv_len (q::r) a.2]
theorem RT.sv_len: ∀(r:List PT) (a:RT r),(RT.sv r a).length=r.length
 | [],_=>rfl
 | [p],a=>rfl
 |p::q::r,a=>by simp [RT.sv,RT.sv_len (q::r) a.2]
theorem EA: ∀(n:Nat) {vs:List SV} {ps:List PV},pvL vs=some ps-> ∃p q,ps=p++q/\pvL (vs.take n)=some p/\pvL (vs.drop n)=some q
 |0,vs,ps,h=>⟨[],ps,rfl,by simp [pvL],by simpa using h⟩
 |n+1,[],ps,h=>⟨[],ps,rfl,by simp [pvL],by simpa using h⟩
 |n+1,v::vs,ps,h=>by
  obtain ⟨p,qs,rfl,h1,h2⟩:=cB.1 h;obtain ⟨a,b,rfl,h3,h4⟩:=EA n h2;exact ⟨p::a,b,rfl,by rw [dh];exact cB.2 ⟨p,a,rfl,h1,h3⟩,by simpa using h4⟩
def bG.int (k:IntKind):bG Int where
 enc n:=[.int k n]
 dec vs:=match vs with
  | .int l n::r=>bif cX l k then some (n,r) else none
  |_=>none
 law:=fun {vs a rest ps} h hp=>by
  split at h
  · rename_i l n r
    cases hk:cX l k with
    |false=>rw [hk] at h;cases h
    |true=>
     rw [hk] at h;simp only [cond_true,ah,ay] at h;obtain ⟨rfl,rfl⟩:=h;obtain ⟨p,qs,rfl,h1,h2⟩:=cB.1 hp;rw [cS.1 hk] at h1;exact ⟨[p],qs,rfl,cB.2 ⟨p,[],rfl,h1,rfl⟩,h2⟩
  cases h
def bG.bool:bG Bool where
 enc n:=[.bool n]
 dec vs:=match vs with
  | .bool n::r=>some (n,r)
  |_=>none
 law:=fun {vs a rest ps} h hp=>by
  split at h
  · simp only [ah,ay] at h
    obtain ⟨rfl,rfl⟩:=h;obtain ⟨p,qs,rfl,h1,h2⟩:=cB.1 hp;exact ⟨[p],qs,rfl,cB.2 ⟨p,[],rfl,h1,rfl⟩,h2⟩
  cases h
def LK (r:List PT):SV->Option (List (RT r))
 | .sl q l=>lN q r l
 | .nil e c=>bif aq e r.length&&!c then some [] else none
 |_=>none
theorem EB {r:List PT} {v:SV} {l:List (RT r)} {p:PV} (h:LK r v=some l) (hp:lO v=some p):lO (.sl r l)=some p:=by
 cases v with
 |sl q m=>
  obtain ⟨rfl,h2,_⟩:=wB h;rw [<- hp];simp only [lO,h2]
 |nil e c=>
  simp only [LK] at h;cases hc:(aq e r.length&&!c) with
  |false=>rw [hc] at h;cases h
  |true=>
   rw [hc] at h;injection h with h;subst h;simp only [ac,cv,az] at hc;obtain ⟨rfl,rfl⟩:=hc;rw [<- hp];rfl
 |_=>cases h
def bG.sl (r:List PT):bG (List (RT r)) where
 enc l:=[.sl r l]
 dec vs:=match vs with
  |v::rest=>match LK r v with
   |some l=>some (l,rest)
   |none=>none
  | []=>none
 law:=fun {vs a rest ps} h hp=>by
  split at h
  · split at h
    · rename_i v r' x l hl
      simp only [ah,ay] at h;obtain ⟨rfl,rfl⟩:=h;obtain ⟨p,qs,rfl,h1,h2⟩:=cB.1 hp;exact ⟨[p],qs,rfl,cB.2 ⟨p,[],rfl,EB hl h1,rfl⟩,h2⟩
    cases h
  cases h
def bG.row (r:List PT):bG (RT r) where
 enc:=RT.sv r
 dec vs:=match RT.of r (vs.take r.length) with
  |some a=>some (a,vs.drop r.length)
  |none=>none
 law:=fun {vs a rest ps} h hp=>by
  split at h
  · rename_i x hx
    simp only [ah,ay] at h;obtain ⟨rfl,rfl⟩:=h;obtain ⟨p,q,rfl,h1,h2⟩:=EA r.length hp;rw [RT.of_some hx] at h1;exact ⟨p,q,rfl,h1,h2⟩
  cases h
def bG.prod {α β:Type} (A:bG α) (B:bG β):bG (α×β) where
 enc p:=A.enc p.1++B.enc p.2
 dec vs:=match A.dec vs with
  |some p=>match B.dec p.2 with
   |some q=>some ((p.1,q.1),q.2)
   |none=>none
  |none=>none
 law:=fun {vs a rest ps} h hp=>by
  split at h
  · rename_i p hA
    split at h
    · rename_i q hB
      simp only [ah,ay] at h;obtain ⟨rfl,rfl⟩:=h;obtain ⟨p1,p2,rfl,h1,h2⟩:=A.law (a:=p.1) (rest:=p.2) hA hp;obtain ⟨q1,q2,rfl,h3,h4⟩:=B.law (a:=q.1) (rest:=q.2) hB h2;exact ⟨p1++q1,q2,by simp,BZ h1 h3,h4⟩
    cases h
  cases h
def bG.iso {α β:Type} (A:bG α) (f:α->β) (g:β->α) (h: ∀a,g (f a)=a):bG β where
 enc b:=A.enc (g b)
 dec vs:=match A.dec vs with
  |some p=>some (f p.1,p.2)
  |none=>none
 law:=fun {vs a rest ps} hd hp=>by
  split at hd
  · rename_i p hA
    simp only [ah,ay] at hd;obtain ⟨rfl,rfl⟩:=hd;rw [h];exact A.law hA hp
  cases hd
def aE.int (k:IntKind):aE Int where
 enc n:= .int k n
 dec v:=match v with
  | .int l n=>bif cX l k then some n else none
  |_=>none
 law:=fun {v a p} h hp=>by
  split at h
  · rename_i l n
    cases hk:cX l k with
    |false=>rw [hk] at h;cases h
    |true=>rw [hk] at h;injection h with h;subst h;rw [cS.1 hk] at hp;exact hp
  cases h
def aE.bool:aE Bool where
 enc n:= .bool n
 dec v:=match v with
  | .bool n=>some n
  |_=>none
 law:=fun {v a p} h hp=>by
  split at h
  · injection h with h;subst h;exact hp
  cases h
def aE.sl (r:List PT):aE (List (RT r)) where
 enc l:= .sl r l
 dec:=LK r
 law:=EB
def aE.agg {α:Type} (A:bG α):aE α where
 enc a:= .agg (A.enc a)
 dec v:=match v with
  | .agg cs=>match A.dec cs with
   |some p=>match p.2 with
    | []=>some p.1
    |_=>none
   |none=>none
  |_=>none
 law:=fun {v a p} h hp=>by
  split at h
  · rename_i cs
    split at h
    · rename_i q hA
      obtain ⟨x,rest⟩:=q;dsimp only at h;cases rest with
      |cons _ _=>cases h
      |nil=>
       injection h with h;subst h;simp only [lO] at hp;cases hc:pvL cs with
       |none=>rw [hc] at hp;cases hp
       |some l=>
        rw [hc] at hp;injection hp with hp;subst hp;obtain ⟨p1,p2,rfl,h1,h2⟩:=A.law hA hc;simp only [pvL,ah] at h2;subst h2;simp only [lO,h1,bc]
    cases h
  cases h
def aE.ref {α:Type} (A:bG α):aE α where
 enc a:= .rptr (A.enc a) 0
 dec v:=match v with
  | .rptr cs 0=>match A.dec cs with
   |some p=>match p.2 with
    | []=>some p.1
    |_=>none
   |none=>none
  |_=>none
 law:=fun {v a p} h hp=>by
  split at h
  · rename_i cs
    split at h
    · rename_i q hA
      obtain ⟨x,rest⟩:=q;dsimp only at h;cases rest with
      |cons _ _=>cases h
      |nil=>
       injection h with h;subst h;simp only [lO] at hp;cases hc:pvL cs with
       |none=>rw [hc] at hp;cases hp
       |some l=>
        rw [hc] at hp;injection hp with hp;subst hp;obtain ⟨p1,p2,rfl,h1,h2⟩:=A.law hA hc;simp only [pvL,ah] at h2;subst h2;simp only [lO,h1,bc]
    cases h
  cases h
def aC.nil:aC Unit where
 enc _:=[]
 dec vs:=match vs with
  | []=>some ()
  |_=>none
 law:=fun {vs a ps} h hp=>by
  split at h
  · exact hp
  cases h
def aC.one {α:Type} (A:aE α):aC α where
 enc a:=[A.enc a]
 dec vs:=match vs with
  | [v]=>A.dec v
  |_=>none
 law:=fun {vs a ps} h hp=>by
  split at h
  · obtain ⟨p,qs,rfl,h1,h2⟩:=cB.1 hp
    exact cB.2 ⟨p,qs,rfl,A.law h h1,h2⟩
  cases h
def aC.cons {α β:Type} (A:aE α) (B:aC β):aC (α×β) where
 enc a:=A.enc a.1::B.enc a.2
 dec vs:=match vs with
  |v::r=>match A.dec v with
   |some x=>match B.dec r with
    |some y=>some (x,y)
    |none=>none
   |none=>none
  | []=>none
 law:=fun {vs a ps} h hp=>by
  split at h
  · split at h
    · rename_i x hx
      split at h
      · rename_i y hy
        injection h with h;subst h;obtain ⟨p,qs,rfl,h1,h2⟩:=cB.1 hp;exact cB.2 ⟨p,qs,rfl,A.law hx h1,B.law hy h2⟩
      cases h
    cases h
  cases h
def aE.tup {α:Type} (A:aC α):aE α where
 enc a:= .tup (A.enc a)
 dec v:=match v with
  | .tup vs=>A.dec vs
  |_=>none
 law:=fun {v a p} h hp=>by
  split at h
  · rename_i vs
    simp only [lO] at hp;cases hc:pvL vs with
    |none=>rw [hc] at hp;cases hp
    |some l=>
     rw [hc] at hp;injection hp with hp;subst hp;simp only [lO,A.law h hc]
  cases h
def aE.clo {α:Type} (f:FuncId) (A:aC α):aE α where
 enc a:= .clo f [] (A.enc a)
 dec v:=match v with
  | .clo g [] b=>bif aq g f then A.dec b else none
  |_=>none
 law:=fun {v a p} h hp=>by
  split at h
  · rename_i g b
    cases hg:aq g f with
    |false=>rw [hg] at h;cases h
    |true=>
     rw [hg] at h
     have:=aa hg
     subst this;simp only [lO,pvL] at hp ⊢;cases hc:pvL b with
     |none=>rw [hc] at hp;cases hp
     |some l=>
      rw [hc] at hp;rw [A.law h hc];exact hp
  cases h
def aU.clone (r:List PT):aU:=⟨.one (.sl r),.sl r,bC,.own,false⟩
def lP (a b c:Int):Option (Int×Int):=bif decide (0<=a)&&decide (0<=b)&&decide (0<=c)&&decide (c<=1) then some ((a+b+c)%18446744073709551616,(a+b+c) / 18446744073709551616) else none
def aU.add64:aU:=⟨.cons (.int .u64) (.cons (.int .u64) (.one (.int .u64))),.tup (.cons (.int .u64) (.one (.int .u64))),fun a=>lP a.1 a.2.1 a.2.2,.pure,false⟩
def HP:List (Nat×aU)->FuncId->List aU
 | [],_=>[]
 |(g,c)::r,f=>bif aq g f then c::HP r f else HP r f
def HQ:List (Nat×bV)->FuncId->List bV
 | [],_=>[]
 |(g,c)::r,f=>bif aq g f then c::HQ r f else HQ r f
def F0s:List (Nat×Cd)->FuncId->Option Cd
 | [],_=>none
 |(g,c)::r,f=>bif aq g f then some c else F0s r f
def aN (lp:Option Nat) (c:List (Nat×aU)) (p:List (Nat×bV)) (x:List (Nat×Cd)) (rk:List (Nat×List PT)):OK:=⟨lp,HP c,HQ p,F0s x,rk⟩
end Go.Vm
/- What a typed value says of a value of the logical machine. -/
namespace Go.Vm
def PQ (s:List SB) (t e n:Nat):Prop:=(∃r l,s[t]? =some (.arr r l)/\e=r.length/\n=l.length)\/s[t]? =some .dead
def tJ (s:List SB) (t e:Nat):Prop:=(∃r l,s[t]? =some (.arr r l)/\e=r.length)\/s[t]? =some .dead\/(∃cs,s[t]? =some (.box cs)/\e=1)
def PR (s:List SB) (t:Nat) (r:List PT) (i:Int) (a:RT r):Prop:=(∃l,s[t]? =some (.arr r l)/\aK l i=some a)\/s[t]? =some .dead
def aCm (s:List SB) (t:Nat) (i:Int):Prop:=(∃r l,s[t]? =some (.arr r l)/\(aK l i).isSome=true)\/s[t]? =some .dead
mutual
def R (s:List SB):SV->PV->Prop
 | .junk,_=>True
 | .undef,v=>v= .undef
 | .nul,v=>v= .nul
 | .nilf,v=>v= .nilf
 | .int k n,v=>v= .int k n
 | .bool b,v=>v= .bool b
 | .str x,v=>v= .str x
 | .agg cs,v=> ∃ps,v= .agg ps/\RL s cs ps
 | .tup cs,v=> ∃ps,v= .tup ps/\RL s cs ps
 | .sl r l,v=>v= .sl r.length false (l.map (RT.pv r))
 | .nil e c,v=>v= .sl e c []
 | .own t ex,v=> ∃e n,v= .own t e 0 n n ex/\PQ s t e n
 | .pre t len cap ex,v=> ∃e,v= .own t e 0 len cap ex/\tJ s t e
 | .part t off len cap ex,v=> ∃e,v= .own t e off len cap ex/\tJ s t e
 | .pa t r i a off,v=>v= .ptr t r.length i.toNat off/\PR s t r i a
 | .pb t i off,v=> ∃e,v= .ptr t e i.toNat off/\aCm s t i
 | .bp t n off,v=>v= .ptr t n 0 off
 | .rptr cs off,v=> ∃ps,v= .rptr ps off/\RL s cs ps
 | .clo f a b,v=> ∃pa pb,v= .clo f pa pb/\RL s a pa/\RL s b pb
 | .mp t,v=>v= .mp t
def RL (s:List SB):List SV->List PV->Prop
 | [],ps=>ps=[]
 |x::xs,ps=> ∃p q,ps=p::q/\R s x p/\RL s xs q
end
def mE:List Int->PV
 | [a]=> .int .i64 a
 |l=> .agg (l.map (.int .i64))
def wC (k:List Int):PV×PV:=(mE k,.bool true)
def zZ (p:PT) (a:RT [.i .i64,p]):PV×PV:=(.int .i64 a.1,p.pv a.2)
def RB (s:List SB):SB->fV->Prop
 | .arr r l,b=>b= .arr r.length (l.map (RT.pv r))
 | .box cs,b=> ∃ps,b= .box ps/\RL s cs ps
 | .set l,b=>b= .map (l.map wC)
 | .tab p l,b=>b= .map (l.map (zZ p))
 | .dead,b=>b= .dead
structure bH (s:List SB) (p:bI):Prop where
 len:p.length=s.length
 at_: ∀(t:Nat) (b:SB),s[t]? =some b-> ∃q,p[t]? =some q/\RB s b q
def bX (s:List SB):SE->lZ->Prop
 | [],e=>e=[]
 |(t,v)::r,e=> ∃p q,e=(t,p)::q/\R s v p/\bX s r q
structure tK (st:kG) (p:St):Prop where
 env:bX st.sto st.env p.env
 sto:bH st.sto p.sto
 fz:p.fz=st.fz
 kn:p.kn=st.kn
theorem gX: ∀(s l:List SB),apS s l=s++l
 | [],_=>rfl
 |b::r,l=>by simp [apS,gX r l]
theorem wD: ∀(s:List SB) (t:Nat) (b:SB),PL s t b=s.set t b
 | [],_,_=>by simp [PL]
 |_::_,0,_=>rfl
 |x::r,n+1,b=>by simp [PL,wD r n b]
theorem RL.nil {s:List SB}:RL s [] []:=rfl
theorem RL.cons {s:List SB} {x:SV} {xs:List SV} {p:PV} {q:List PV} (h:R s x p) (k:RL s xs q):RL s (x::xs) (p::q):=⟨p,q,rfl,h,k⟩
theorem RL.cons_inv {s:List SB} {x:SV} {xs:List SV} {ps:List PV} (h:RL s (x::xs) ps): ∃p q,ps=p::q/\R s x p/\RL s xs q:=h
theorem RL.length {s:List SB}: ∀{xs:List SV} {ps:List PV},RL s xs ps->ps.length=xs.length
 | [],ps,h=>by rw [show ps=[] from h];rfl
 |x::xs,ps,h=>by
  obtain ⟨p,q,rfl,_,h2⟩:=h.cons_inv;simp [h2.length]
theorem RL.append {s:List SB}: ∀{xs:List SV} {ps:List PV},RL s xs ps-> ∀{ys:List SV} {qs:List PV},RL s ys qs->RL s (xs++ys) (ps++qs)
 | [],ps,h,_,_,k=>by rw [show ps=[] from h];exact k
 |x::xs,ps,h,_,_,k=>by
  obtain ⟨p,q,rfl,h1,h2⟩:=h.cons_inv;exact RL.cons h1 (h2.append k)
theorem RL.take {s:List SB}: ∀{xs:List SV} {ps:List PV},RL s xs ps-> ∀n,RL s (xs.take n) (ps.take n)
 | [],ps,h,n=>by rw [show ps=[] from h];simp;exact RL.nil
 |x::xs,ps,h,0=>by simp;exact RL.nil
 |x::xs,ps,h,n+1=>by
  obtain ⟨p,q,rfl,h1,h2⟩:=h.cons_inv;exact RL.cons h1 (h2.take n)
theorem RL.drop {s:List SB}: ∀{xs:List SV} {ps:List PV},RL s xs ps-> ∀n,RL s (xs.drop n) (ps.drop n)
 | [],ps,h,n=>by rw [show ps=[] from h];simp;exact RL.nil
 |x::xs,ps,h,0=>h
 |x::xs,ps,h,n+1=>by
  obtain ⟨p,q,rfl,h1,h2⟩:=h.cons_inv;exact h2.drop n
theorem RL.nth {s:List SB}: ∀{xs:List SV} {ps:List PV},RL s xs ps-> ∀{n:Nat} {v:SV},Vm.nth xs n=some v-> ∃p,ps[n]? =some p/\R s v p
 | [],_,_,_,_,e=>by cases e
 |x::xs,ps,h,0,v,e=>by
  obtain ⟨p,q,rfl,h1,_⟩:=h.cons_inv;injection e with e;subst e;exact ⟨p,rfl,h1⟩
 |x::xs,ps,h,n+1,v,e=>by
  obtain ⟨p,q,rfl,_,h2⟩:=h.cons_inv;obtain ⟨p',h3,h4⟩:=h2.nth (n:=n) e;exact ⟨p',by simpa using h3,h4⟩
mutual
theorem KA (s:List SB): ∀v:PV,R s (R8 v) v
 | .undef=>rfl
 | .nul=>rfl
 | .nilf=>rfl
 | .int _ _=>rfl
 | .bool _=>rfl
 | .str _=>rfl
 | .agg cs=>⟨cs,rfl,ofPVL_R s cs⟩
 | .tup cs=>⟨cs,rfl,ofPVL_R s cs⟩
 | .sl e c rows=>by
  cases rows with
  |nil=>exact rfl
  |cons _ _=>trivial
 | .clo f a b=>⟨a,b,rfl,ofPVL_R s a,ofPVL_R s b⟩
 | .own .. =>trivial
 | .ptr .. =>trivial
 | .rptr .. =>trivial
 | .mp _=>trivial
theorem ofPVL_R (s:List SB): ∀l:List PV,RL s (ofPVL l) l
 | []=>rfl
 |x::xs=>RL.cons (KA s x) (ofPVL_R s xs)
end
theorem bX.lk {s:List SB}: ∀{e:SE} {p:lZ},bX s e p-> ∀t,R s (DL t e) (Vm.lk t p)
 | [],p,h,t=>by rw [show p=[] from h];rfl
 |(u,v)::r,p,h,t=>by
  obtain ⟨q,qs,rfl,h1,h2⟩:=h;simp only [DL,Vm.lk];cases hb:aq u t with
  |true=>exact h1
  |false=>exact bX.lk h2 t
theorem bX.setS {s:List SB}: ∀{e:SE} {p:lZ},bX s e p-> ∀{t:Nat} {v:SV},R s v (Vm.lk t p)->bX s (Vm.setS t v e) p
 | [],p,h,t,v,_=>h
 |(u,x)::r,p,h,t,v,hv=>by
  obtain ⟨q,qs,rfl,h1,h2⟩:=h;simp only [Vm.setS];simp only [Vm.lk] at hv;cases hb:aq u t with
  |true=>rw [hb] at hv;exact ⟨q,qs,rfl,hv,h2⟩
  |false=>rw [hb] at hv;exact ⟨q,qs,rfl,h1,bX.setS h2 hv⟩
theorem bR {s:List SB} {e:SE} {p:lZ} (h:bX s e p): ∀x:cP,R s (aZ e x) (x.ev p)
 | .t n=>h.lk n
 | .c v=>KA s v
theorem sH {s:List SB} {e:SE} {p:lZ} (h:bX s e p): ∀l:List cP,RL s (fB e l) (AS p l)
 | []=>rfl
 |x::xs=>RL.cons (bR h x) (sH h xs)
def Fr (bad:List Nat) (s s':List SB):Prop:= ∀(t:Nat) (b:SB),s[t]? =some b->match b with
 | .arr r l=>(∃l',s'[t]? =some (.arr r l')/\l'.length=l.length/\(has bad t=false->l'=l))\/s'[t]? =some .dead
 | .dead=>s'[t]? =some .dead
 | .box _=>(∃cs,s'[t]? =some (.box cs))\/s'[t]? =some .dead
 |_=>True
theorem Fr.refl (bad:List Nat) (s:List SB):Fr bad s s:=fun t b h=>by
 cases b with
 |arr r l=>exact .inl ⟨l,h,rfl,fun _=>rfl⟩
 |dead=>exact h
 |box cs=>exact .inl ⟨cs,h⟩
 |_=>trivial
theorem Fr.app (bad:List Nat) (s l:List SB):Fr bad s (s++l):=fun t b h=>by
 have h':(s++l)[t]? =some b:=by
  have:=(ae.1 h).1
  rw [af this];exact h
 cases b with
 |arr r l=>exact .inl ⟨l,h',rfl,fun _=>rfl⟩
 |dead=>exact h'
 |box cs=>exact .inl ⟨cs,h'⟩
 |_=>trivial
theorem Fr.trans {bad:List Nat} {a b c:List SB} (h:Fr bad a b) (k:Fr bad b c):Fr bad a c:=fun t x hx=>by
 have h1:=h t x hx;cases x with
 |arr r l=>
  rcases h1 with ⟨l',h2,h3,h4⟩|h2
  · have k1:=k t _ h2
    rcases k1 with ⟨l2,k2,k3,k4⟩|k2
    · exact .inl ⟨l2,k2,k3.trans h3,fun hb=>(k4 hb).trans (h4 hb)⟩
    exact .inr k2
  exact .inr (k t _ h2)
 |dead=>exact k t _ h1
 |box cs=>
  rcases h1 with ⟨c2,h2⟩|h2
  · exact k t _ h2
  exact .inr (k t _ h2)
 |_=>trivial
theorem zE {α:Type} {l m:List α} {i:Int} (h:(aK l i).isSome=true) (hl:m.length=l.length):(aK m i).isSome=true:=by
 cases i with
 |ofNat n=>
  simp only [aK] at h ⊢;rw [cy] at h;obtain ⟨a,ha⟩:=h
  have:=(ae.1 ha).1
  rw [aj (by omega)];rfl
 |negSucc n=>simp [aK] at h
mutual
theorem R.fr {bad:List Nat} {s s':List SB} (hf:Fr bad s s'): ∀{v:SV} {p:PV},R s v p->R s' (RW bad v) p
 | .junk,_,_=>trivial
 | .undef,_,h=>h
 | .nul,_,h=>h
 | .nilf,_,h=>h
 | .int _ _,_,h=>h
 | .bool _,_,h=>h
 | .str _,_,h=>h
 | .agg cs,_,h=>by obtain ⟨ps,rfl,h⟩:=h;exact ⟨ps,rfl,RL.fr hf h⟩
 | .tup cs,_,h=>by obtain ⟨ps,rfl,h⟩:=h;exact ⟨ps,rfl,RL.fr hf h⟩
 | .sl _ _,_,h=>h
 | .nil _ _,_,h=>h
 | .own t ex,_,h=>by
  obtain ⟨e,n,rfl,h⟩:=h;refine ⟨e,n,rfl,?_⟩;rcases h with ⟨r,l,h1,h2,h3⟩|h1
  · rcases hf t _ h1 with ⟨l',k1,k2,_⟩|k1
    · exact .inl ⟨r,l',k1,h2,by rw [h3,k2]⟩
    exact .inr k1
  exact .inr (hf t _ h1)
 | .pre t len cap ex,_,h=>by
  obtain ⟨e,rfl,h⟩:=h;refine ⟨e,rfl,?_⟩;rcases h with ⟨r,l,h1,h2⟩|h1|⟨cs,h1,h2⟩
  · rcases hf t _ h1 with ⟨l',k1,_,_⟩|k1
    · exact .inl ⟨r,l',k1,h2⟩
    exact .inr (.inl k1)
  · exact .inr (.inl (hf t _ h1))
  rcases hf t _ h1 with ⟨c2,k1⟩|k1
  · exact .inr (.inr ⟨c2,k1,h2⟩)
  exact .inr (.inl k1)
 | .part t off len cap ex,_,h=>by
  obtain ⟨e,rfl,h⟩:=h;refine ⟨e,rfl,?_⟩;rcases h with ⟨r,l,h1,h2⟩|h1|⟨cs,h1,h2⟩
  · rcases hf t _ h1 with ⟨l',k1,_,_⟩|k1
    · exact .inl ⟨r,l',k1,h2⟩
    exact .inr (.inl k1)
  · exact .inr (.inl (hf t _ h1))
  rcases hf t _ h1 with ⟨c2,k1⟩|k1
  · exact .inr (.inr ⟨c2,k1,h2⟩)
  exact .inr (.inl k1)
 | .pa t r i a off,_,h=>by
  obtain ⟨rfl,h⟩:=h;simp only [RW];cases hb:has bad t with
  |true=>
   refine ⟨_,rfl,?_⟩;rcases h with ⟨l,h1,h2⟩|h1
   · rcases hf t _ h1 with ⟨l',k1,k2,_⟩|k1
     · exact .inl ⟨r,l',k1,zE (by rw [h2];rfl) k2⟩
     exact .inr k1
   exact .inr (hf t _ h1)
  |false=>
   refine ⟨rfl,?_⟩;rcases h with ⟨l,h1,h2⟩|h1
   · rcases hf t _ h1 with ⟨l',k1,_,k3⟩|k1
     · exact .inl ⟨l',k1,by rw [k3 hb];exact h2⟩
     exact .inr k1
   exact .inr (hf t _ h1)
 | .pb t i off,_,h=>by
  obtain ⟨e,rfl,h⟩:=h;refine ⟨e,rfl,?_⟩;rcases h with ⟨r,l,h1,h2⟩|h1
  · rcases hf t _ h1 with ⟨l',k1,k2,_⟩|k1
    · exact .inl ⟨r,l',k1,zE h2 k2⟩
    exact .inr k1
  exact .inr (hf t _ h1)
 | .bp _ _ _,_,h=>h
 | .rptr cs off,_,h=>by obtain ⟨ps,rfl,h⟩:=h;exact ⟨ps,rfl,RL.fr hf h⟩
 | .clo f a b,_,h=>by obtain ⟨pa,pb,rfl,h1,h2⟩:=h;exact ⟨pa,pb,rfl,RL.fr hf h1,RL.fr hf h2⟩
 | .mp _,_,h=>h
theorem RL.fr {bad:List Nat} {s s':List SB} (hf:Fr bad s s'): ∀{v:List SV} {p:List PV},RL s v p->RL s' (dgL bad v) p
 | [],_,h=>h
 |x::xs,_,h=>by
  obtain ⟨p,q,rfl,h1,h2⟩:=h.cons_inv;exact RL.cons (R.fr hf h1) (RL.fr hf h2)
end
mutual
theorem LL: ∀v:SV,RW [] v=v
 | .junk| .undef| .nul| .nilf| .int _ _| .bool _| .str _| .sl _ _| .nil _ _| .own _ _| .pre _ _ _ _| .part _ _ _ _ _| .pb _ _ _| .bp _ _ _| .mp _=>rfl
 | .agg cs=>by simp only [RW,dgL_nil cs]
 | .tup cs=>by simp only [RW,dgL_nil cs]
 | .rptr cs _=>by simp only [RW,dgL_nil cs]
 | .clo _ a b=>by simp only [RW,dgL_nil a,dgL_nil b]
 | .pa t r i a off=>by simp [RW,has]
theorem dgL_nil: ∀v:List SV,dgL [] v=v
 | []=>rfl
 |x::xs=>by simp only [dgL,LL x,dgL_nil xs]
end
theorem R.ext {s s':List SB} (hf:Fr [] s s') {v:SV} {p:PV} (h:R s v p):R s' v p:=by
 have:=R.fr hf h
 rwa [LL] at this
theorem RL.ext {s s':List SB} (hf:Fr [] s s') {v:List SV} {p:List PV} (h:RL s v p):RL s' v p:=by
 have:=RL.fr hf h
 rwa [dgL_nil] at this
theorem RB.fr {bad:List Nat} {s s':List SB} (hf:Fr bad s s') {b:SB} {p:fV} (h:RB s b p):RB s' (SD bad b) p:=by
 cases b with
 |box cs=>obtain ⟨ps,rfl,h⟩:=h;exact ⟨ps,rfl,RL.fr hf h⟩
 |_=>exact h
theorem RB.ext {s s':List SB} (hf:Fr [] s s') {b:SB} {p:fV} (h:RB s b p):RB s' b p:=by
 cases b with
 |box cs=>obtain ⟨ps,rfl,h⟩:=h;exact ⟨ps,rfl,RL.ext hf h⟩
 |_=>exact h
theorem bX.fr {bad:List Nat} {s s':List SB} (hf:Fr bad s s'): ∀{e:SE} {p:lZ},bX s e p->bX s' (dgE bad e) p
 | [],_,h=>h
 |(t,v)::r,_,h=>by
  obtain ⟨p,q,rfl,h1,h2⟩:=h;exact ⟨p,q,rfl,R.fr hf h1,bX.fr hf h2⟩
theorem bX.ext {s s':List SB} (hf:Fr [] s s'): ∀{e:SE} {p:lZ},bX s e p->bX s' e p
 | [],_,h=>h
 |(t,v)::r,_,h=>by
  obtain ⟨p,q,rfl,h1,h2⟩:=h;exact ⟨p,q,rfl,R.ext hf h1,bX.ext hf h2⟩
theorem bH.app {s:List SB} {p:bI} (h:bH s p) {l:List SB} {q:bI} (hl:q.length=l.length) (hb: ∀(j:Nat) (b:SB),l[j]? =some b-> ∃x,q[j]? =some x/\RB (s++l) b x):bH (s++l) (p++q) where
 len:=by simp [h.len,hl]
 at_:=fun t b ht=>by
  rcases cd t s.length with hlt|hge
  · rw [af hlt] at ht
    obtain ⟨x,h1,h2⟩:=h.at_ t b ht;exact ⟨x,by rw [af (by rw [h.len];exact hlt)];exact h1,h2.ext (Fr.app [] s l)⟩
  rw [ag hge] at ht
  obtain ⟨x,h1,h2⟩:=hb _ b ht;exact ⟨x,by rw [ag (by rw [h.len];exact hge),h.len];exact h1,h2⟩
theorem lE (ts:List Nat): ∀(s:List SB) (t:Nat),(xG ts s)[t]? =(s[t]?).map (SD ts)
 | [],t=>by simp [xG]
 |b::r,0=>by simp [xG]
 |b::r,t+1=>by simp [xG,lE ts r t]
theorem oN (ts:List Nat): ∀(s:List SB),(xG ts s).length=s.length
 | []=>rfl
 |b::r=>by simp [xG,oN ts r]
theorem Fr.dg {bad ts:List Nat} {s s':List SB} (h:Fr bad s s'):Fr bad s (xG ts s'):=fun t b hb=>by
 have h1:=h t b hb;cases b with
 |arr r l=>
  rcases h1 with ⟨l',h2,h3,h4⟩|h2
  · exact .inl ⟨l',by rw [lE,h2];rfl,h3,h4⟩
  exact .inr (by rw [lE,h2];rfl)
 |dead=>show (xG ts s')[t]? =_;rw [lE,h1];rfl
 |box cs=>
  rcases h1 with ⟨c2,h2⟩|h2
  · exact .inl ⟨dgL ts c2,by rw [lE,h2];rfl⟩
  exact .inr (by rw [lE,h2];rfl)
 |_=>trivial
theorem EC {s:List SB}: ∀(r:List PT) (a:RT r),RL s (RT.sv r a) (RT.pv r a)
 | [],_=>rfl
 | [p],a=>by refine RL.cons ?_ RL.nil;cases p<;>rfl
 |p::q::r,a=>by refine RL.cons ?_ (EC (q::r) a.2);cases p<;>rfl
theorem sI {s:List SB}: ∀(r:List PT) (a:RT r) {ps:List PV},RL s (RT.sv r a) ps->ps=RT.pv r a
 | [],_,ps,h=>h
 | [p],a,ps,h=>by
  obtain ⟨x,q,rfl,h1,h2⟩:=h.cons_inv;have h2':q=[]:=h2;subst h2';cases p<;>(have h1':=h1;simp only [PT.sv,R] at h1';rw [h1'];rfl)
 |p::q::r,a,ps,h=>by
  obtain ⟨x,qs,rfl,h1,h2⟩:=h.cons_inv;rw [sI (q::r) a.2 h2];cases p<;>(have h1':=h1;simp only [PT.sv,R] at h1';rw [h1'];rfl)
theorem RT.plain: ∀(r:List PT) (a:RT r),(RT.pv r a).all PV.plain=true
 | [],_=>rfl
 | [p],a=>by cases p<;>rfl
 |p::q::r,a=>by
  have:=RT.plain (q::r) a.2
  cases p<;>(simp only [RT.pv,di,this,cm];rfl)
theorem R.cells {s:List SB} {v:SV} {p:PV} (h:R s v p) (hj:v≠ .junk):RL s v.cells p.cells:=by
 cases v with
 |junk=>exact absurd rfl hj
 |agg cs=>obtain ⟨ps,rfl,h⟩:=h;exact h
 |undef=>rw [show p= .undef from h];exact RL.cons rfl RL.nil
 |nul=>rw [show p= .nul from h];exact RL.cons rfl RL.nil
 |nilf=>rw [show p= .nilf from h];exact RL.cons rfl RL.nil
 |int k n=>rw [show p= .int k n from h];exact RL.cons rfl RL.nil
 |bool b=>rw [show p= .bool b from h];exact RL.cons rfl RL.nil
 |str x=>rw [show p= .str x from h];exact RL.cons rfl RL.nil
 |sl r l=>rw [show p=_ from h];exact RL.cons rfl RL.nil
 |nil e c=>rw [show p=_ from h];exact RL.cons rfl RL.nil
 |bp t n o=>rw [show p=_ from h];exact RL.cons rfl RL.nil
 |mp t=>rw [show p=_ from h];exact RL.cons rfl RL.nil
 |tup cs=>obtain ⟨ps,rfl,h⟩:=h;exact RL.cons ⟨ps,rfl,h⟩ RL.nil
 |own t ex=>obtain ⟨e,n,rfl,h⟩:=h;exact RL.cons ⟨e,n,rfl,h⟩ RL.nil
 |pre t a b c=>obtain ⟨e,rfl,h⟩:=h;exact RL.cons ⟨e,rfl,h⟩ RL.nil
 |part t o a b c=>obtain ⟨e,rfl,h⟩:=h;exact RL.cons ⟨e,rfl,h⟩ RL.nil
 |pa t r i a o=>obtain ⟨rfl,h⟩:=h;exact RL.cons ⟨rfl,h⟩ RL.nil
 |pb t i o=>obtain ⟨e,rfl,h⟩:=h;exact RL.cons ⟨e,rfl,h⟩ RL.nil
 |rptr cs o=>obtain ⟨ps,rfl,h⟩:=h;exact RL.cons ⟨ps,rfl,h⟩ RL.nil
 |clo f a b=>obtain ⟨pa,pb,rfl,h⟩:=h;exact RL.cons ⟨pa,pb,rfl,h⟩ RL.nil
theorem R.isOne {s:List SB} {v:SV} {p:PV} (h:R s v p) (ho:v.isOne=true):p.isOne=true:=by
 cases v with
 |junk|undef|nul|agg _|tup _=>cases ho
 |nilf|int _ _|bool _|str _|sl _ _|nil _ _|bp _ _ _|mp _=>rw [show p=_ from h];rfl
 |own t ex=>obtain ⟨e,n,rfl,h⟩:=h;rfl
 |pre t a b c=>obtain ⟨e,rfl,h⟩:=h;rfl
 |part t o a b c=>obtain ⟨e,rfl,h⟩:=h;rfl
 |pa t r i a o=>obtain ⟨rfl,h⟩:=h;rfl
 |pb t i o=>obtain ⟨e,rfl,h⟩:=h;rfl
 |rptr cs o=>obtain ⟨ps,rfl,h⟩:=h;rfl
 |clo f a b=>obtain ⟨pa,pb,rfl,h⟩:=h;rfl
theorem RL.allOne {s:List SB}: ∀{cs:List SV} {ps:List PV},RL s cs ps->Vm.allOne cs=true->ps.all PV.isOne=true
 | [],ps,h,_=>by rw [show ps=[] from h];rfl
 |x::xs,ps,h,ho=>by
  obtain ⟨p,q,rfl,h1,h2⟩:=h.cons_inv;simp only [Vm.allOne,ac] at ho;simp only [di,ac];exact ⟨h1.isOne ho.1,h2.allOne ho.2⟩
theorem R.stored {s:List SB} {v:SV} {p:PV} {w:List SV} (h:R s v p) (hs:v.stored=some w): ∃q,p.stored=some q/\RL s w q:=by
 unfold SV.stored at hs;cases ha:Vm.allOne v.cells with
 |false=>rw [ha] at hs;cases hs
 |true=>
  rw [ha] at hs;injection hs with hs;subst hs;have hj:v≠ .junk:=by intro e;subst e;cases ha
  have hc:=h.cells hj;exact ⟨p.cells,by unfold PV.stored;rw [if_pos (hc.allOne ha)],hc⟩
theorem R.ofRow {s:List SB} {v:SV} {p:PV} {r:List PT} {a:RT r} (h:R s v p) (hr:RT.of r v.cells=some a):p.storedPlain=some (RT.pv r a)/\v.cells.length=r.length:=by
 have hc:=RT.of_some hr;have hl:v.cells.length=r.length:=by rw [hc,RT.sv_len]
 refine ⟨?_,hl⟩;have hj:v≠ .junk:=by
  intro e;subst e;cases r with
  |nil=>simp [SV.cells,RT.of] at hr
  |cons p q=>cases q with
   |nil=>cases p<;>simp [SV.cells,RT.of,PT.of] at hr
   |cons _ _=>simp only [SV.cells,RT.of] at hr;split at hr<;>cases hr<;>(rename_i x y h1 h2;simp at h2)
 have h1:=h.cells hj;rw [hc] at h1;have h2:=sI r a h1;unfold PV.storedPlain;rw [h2,if_pos (RT.plain r a)]
theorem mM {s:List SB} {agg:Option Nat} {off:Nat} {cs:List SV} {ps:List PV} {v:SV} (h:RL s cs ps) (hp:tF agg off cs=some v): ∃p,part agg off ps=some p/\R s v p:=by
 cases agg with
 |none=>
  obtain ⟨p,h1,h2⟩:=h.nth hp;exact ⟨p,h1,h2⟩
 |some n=>
  simp only [tF] at hp;cases hb:ap (off+n) cs.length with
  |false=>rw [hb] at hp;cases hp
  |true=>
   rw [hb] at hp;injection hp with hp;subst hp
   have:off+n<=ps.length:=by rw [h.length];exact au hb
   exact ⟨.agg ((ps.drop off).take n),by simp only [part,if_pos this],_,rfl,(h.drop off).take n⟩
theorem sJ {s:List SB} {off:Nat} {new old:List SV} {pn po:List PV} (h:RL s new pn) (k:RL s old po):RL s (jU off new old) (iR off pn po):=by
 unfold jU iR;rw [h.length];exact ((k.take off).append h).append (k.drop _)
theorem LM {s:List SB} {ps:bI} {v:SV} {p:PV} {r:List PT} {l:List (RT r)} (hs:bH s ps) (h:R s v p) (hc:tG s v=some ⟨r,l⟩):
 iS ps r.length p=some (l.map (RT.pv r))/\eK p=oL v:=by
 cases v with
 |sl q m=>
  have hc':(⟨q,m⟩:Rows)=⟨r,l⟩:=by injection hc
  cases hc';rw [show p=_ from h];refine ⟨?_,rfl⟩;cases l with
  |nil=>rfl
  |cons a l=>simp [iS]
 |own t ex=>
  simp only [tG,bD] at hc;split at hc
  · rename_i q m hst
    have hc':(⟨q,m⟩:Rows)=⟨r,l⟩:=by injection hc
    cases hc';obtain ⟨e,n,rfl,hat⟩:=h;rcases hat with ⟨q',m',h1,rfl,rfl⟩|h1
    · rw [hst] at h1
      injection h1 with h1;cases h1;obtain ⟨b,h2,h3⟩:=hs.at_ t _ hst;rw [show b=_ from h3] at h2;refine ⟨?_,rfl⟩;simp only [iS,bi,if_true,h2,bw];rw [bn (by simp)]
    rw [hst] at h1;cases h1
  cases hc
 |pre t len cap ex=>
  simp only [tG,bD] at hc;split at hc
  · rename_i q m hst
    have hc':(⟨q,m.take len⟩:Rows)=⟨r,l⟩:=by injection hc
    cases hc';obtain ⟨e,rfl,hat⟩:=h;rcases hat with ⟨q',m',h1,rfl⟩|h1|⟨_,h1,_⟩
    · rw [hst] at h1
      injection h1 with h1;cases h1;obtain ⟨b,h2,h3⟩:=hs.at_ t _ hst;rw [show b=_ from h3] at h2;refine ⟨?_,rfl⟩;simp only [iS,bi,if_true,h2];simp
    · rw [hst] at h1;cases h1
    rw [hst] at h1;cases h1
  cases hc
 |part t off len cap ex=>
  simp only [tG,bD] at hc;split at hc
  · rename_i q m hst
    have hc':(⟨q,(m.drop off).take len⟩:Rows)=⟨r,l⟩:=by injection hc
    cases hc';obtain ⟨e,rfl,hat⟩:=h;rcases hat with ⟨q',m',h1,rfl⟩|h1|⟨_,h1,_⟩
    · rw [hst] at h1
      injection h1 with h1;cases h1;obtain ⟨b,h2,h3⟩:=hs.at_ t _ hst;rw [show b=_ from h3] at h2;refine ⟨?_,rfl⟩;simp only [iS,bi,if_true,h2];simp
    · rw [hst] at h1;cases h1
    rw [hst] at h1;cases h1
  cases hc
 |_=>cases hc
end Go.Vm
/- Operation by operation: what the typed machine does, the logical machine does; the easy ones. -/
namespace Go.Vm
structure dQ (s:List SB) (ps:bI) (sr:dA) (pr:iT):Prop where
 rd:pr.rd=sr.rd
 fr:pr.fr=sr.fr
 wr:pr.wr.map (·.1)=qW sr.wr
 nw:oB pr.wr=true
 nl:pr.news.length=sr.news.length
 sto:bH (sr.stoOf s) (GO (dC pr.wr ps) pr.news)
 v:R (sr.stoOf s) sr.v pr.v
 fra:Fr (qW sr.wr) s (sr.stoOf s)
section
variable {s : List SB} {ps : bI}
theorem dQ.val (hS:bH s ps) {v:SV} {p:PV} {rd fr:List Nat} (hv:R s v p):dQ s ps {v,rd,fr} {v:=p,rd,fr} where
 rd:=rfl
 fr:=rfl
 wr:=rfl
 nw:=rfl
 nl:=rfl
 sto:=by simp only [dA.stoOf,gX,bc,dC,GO];exact hS
 v:=by simp only [dA.stoOf,gX,bc];exact hv
 fra:=by simp only [dA.stoOf,gX,bc];exact Fr.refl _ _
theorem dQ.news (hS:bH s ps) {v:SV} {p:PV} {l:List SB} {q:bI} {rd:List Nat} (hl:q.length=l.length) (hb: ∀(j:Nat) (b:SB),l[j]? =some b-> ∃x,q[j]? =some x/\RB (s++l) b x) (hv:R (s++l) v p):
 dQ s ps {v,news:=l,rd} {v:=p,news:=q,rd} where
 rd:=rfl
 fr:=rfl
 wr:=rfl
 nw:=rfl
 nl:=hl
 sto:=by simp only [dA.stoOf,gX,dC,kZ];exact hS.app hl hb
 v:=by simp only [dA.stoOf,gX];exact hv
 fra:=by simp only [dA.stoOf,gX];exact Fr.app _ _ _
theorem dQ.new (hS:bH s ps) {v:SV} {p:PV} {b:SB} {q:fV} {rd:List Nat} (hb:RB (s++[b]) b q) (hv:R (s++[b]) v p):dQ s ps {v,news:=[b],rd} {v:=p,news:=[q],rd}:=
 dQ.news hS rfl (fun j x h=>by
  cases j with
  |zero=>simp at h;subst h;exact ⟨q,rfl,hb⟩
  |succ j=>simp at h) hv
def LN (b0 b:SB):Prop:=
 match b0 with
 | .arr r l=>(∃l',b= .arr r l'/\l'.length=l.length)\/b= .dead
 | .dead=>b= .dead
 | .box _=>(∃cs,b= .box cs)\/b= .dead
 |_=>True
theorem Fr.set {t:Nat} {b0 b:SB} (h0:s[t]? =some b0) (hk:LN b0 b):Fr [t] s (s.set t b):=fun u x hu=>by
 by_cases hut:t=u
 · subst hut
   rw [h0] at hu;injection hu with hu;subst hu;have hlt:=(ae.1 h0).1;have hb:(s.set t b)[t]? =some b:=by simp [hlt]
   cases b0 with
   |arr r l=>
    rcases hk with ⟨l',rfl,hl⟩|rfl
    · exact .inl ⟨l',hb,hl,fun h=>by simp [has] at h⟩
    exact .inr hb
   |dead=>rw [show b= .dead from hk] at hb ⊢;exact hb
   |box cs=>
    rcases hk with ⟨c2,rfl⟩|rfl
    · exact .inl ⟨c2,hb⟩
    exact .inr hb
   |_=>trivial
 have hb:(s.set t b)[u]? =some x:=by rw [am];simp [hut,hu]
 cases x with
 |arr r l=>exact .inl ⟨l,hb,rfl,fun _=>rfl⟩
 |dead=>exact hb
 |box cs=>exact .inl ⟨cs,hb⟩
 |_=>trivial
theorem bH.put (hS:bH s ps) {t:Nat} {b0 b:SB} {q:fV} (h0:s[t]? =some b0) (hk:LN b0 b) (hq:RB (xG [t] (s.set t b)) (SD [t] b) q):bH (xG [t] (s.set t b)) (ps.set t q) where
 len:=by simp [oN,hS.len]
 at_:=fun u x hu=>by
  have hlt:=(ae.1 h0).1;rw [lE] at hu
  by_cases hut:t=u
  · subst hut
    have hb:(s.set t b)[t]? =some b:=by simp [hlt]
    rw [hb] at hu;simp at hu;subst hu;exact ⟨q,by rw [am];simp [hS.len,hlt],hq⟩
  rw [am] at hu
  simp only [hut,if_false,bl] at hu;obtain ⟨y,hy,rfl⟩:=hu;obtain ⟨q',h1,h2⟩:=hS.at_ u y hy;exact ⟨q',by rw [am];simp [hut,h1],h2.fr (Fr.dg (Fr.set h0 hk))⟩
theorem dQ.put (hS:bH s ps) {v:SV} {p:PV} {t:Nat} {b0 b:SB} {q:fV} {l:List SB} {ql:bI} {rd:List Nat} (h0:s[t]? =some b0) (hk:LN b0 b) (hq:RB (xG [t] (s.set t b)) (SD [t] b) q)
 (hl:ql.length=l.length) (hb: ∀(j:Nat) (x:SB),l[j]? =some x-> ∃y,ql[j]? =some y/\RB (xG [t] (s.set t b)++l) x y) (hv:R (xG [t] (s.set t b)++l) v p):
 dQ s ps {v,wr:=[(t,b)],news:=l,rd} {v:=p,wr:=[(t,q)],news:=ql,rd} where
 rd:=rfl
 fr:=rfl
 wr:=rfl
 nw:=rfl
 nl:=hl
 sto:=by
  simp only [dA.stoOf,gX,dC,kZ,qW,kQ,wD];exact (hS.put h0 hk hq).app hl hb
 v:=by simp only [dA.stoOf,gX,qW,kQ,wD];exact hv
 fra:=by
  simp only [dA.stoOf,gX,qW,kQ,wD];exact (Fr.dg (Fr.set h0 hk)).trans (Fr.app _ _ _)
theorem dQ.put0 (hS:bH s ps) {t:Nat} {b0 b:SB} {q:fV} {rd:List Nat} (h0:s[t]? =some b0) (hk:LN b0 b) (hq:RB (xG [t] (s.set t b)) (SD [t] b) q):
 dQ s ps {v:= .undef,wr:=[(t,b)],rd} {v:= .undef,wr:=[(t,q)],rd}:=
 dQ.put hS h0 hk hq rfl (fun j x h=>by simp at h) rfl
end
section
variable {R' ρ : Type} {w : R' -> ρ} {y : ρ}
theorem aV {α:Type} {x:Option α} {k:α->dF R'} (h:gI x k ρ w=some y): ∃a,x=some a/\k a ρ w=some y:=by
 cases x with
 |none=>cases h
 |some a=>exact ⟨a,rfl,h⟩
theorem bJ {α:Type} {x:Option α} {k:α->dF R'} (h:gA x k ρ w=some y): ∃a,x=some a/\k a ρ w=some y:=JY h
theorem cN {c:Bool} {a b:dF R'} (h:dJ c a b ρ w=some y):(c=true/\a ρ w=some y)\/(c=false/\b ρ w=some y):=JZ h
theorem bK {c:Bool} {a:dF R'} (h:(bif c then a else aJ) ρ w=some y):c=true/\a ρ w=some y:=by
 cases c
 · cases h
 exact ⟨rfl,h⟩
theorem lH {c:Bool} {a:dF R'} (h:(bif c then aJ else a) ρ w=some y):c=false/\a ρ w=some y:=by
 cases c
 · exact ⟨rfl,h⟩
 cases h
theorem eA {c:Bool} {a:dF R'} (h:dJ c a aJ ρ w=some y):c=true/\a ρ w=some y:=by
 rcases cN h with ⟨h1,h2⟩|⟨_,h2⟩
 · exact ⟨h1,h2⟩
 cases h2
theorem oO {c:Bool} {a:dF R'} (h:dJ c aJ a ρ w=some y):c=false/\a ρ w=some y:=by
 rcases cN h with ⟨_,h2⟩|⟨h1,h2⟩
 · cases h2
 exact ⟨h1,h2⟩
end
def dO {R':Type} (s:List SB) (ps:bI) (po:Option iT) (k:dA->dF R') (ρ:Type) (w:R'->ρ) (y:ρ):Prop:=
 ∃sr pr,po=some pr/\dQ s ps sr pr/\k sr ρ w=some y
section
variable {R' ρ : Type} {w : R' -> ρ} {y : ρ} {s : List SB} {ps : bI} {e : SE} {pe : lZ} {z : List Nat} {k : dA -> dF R'}
theorem dO.val (hS:bH s ps) {po:Option iT} {v:SV} {p:PV} (h:k {v} ρ w=some y) (hp:po=some {v:=p}) (hv:R s v p):dO s ps po k ρ w y:=
 ⟨_,_,hp,dQ.val hS hv,h⟩
theorem dO.rd (hS:bH s ps) {po:Option iT} {v:SV} {p:PV} {rd:List Nat} (h:k {v,rd} ρ w=some y) (hp:po=some {v:=p,rd}) (hv:R s v p):dO s ps po k ρ w y:=
 ⟨_,_,hp,dQ.val hS hv,h⟩
theorem iC (hE:bX s e pe) {x:cP} {a:IntKind} {n:Int} (h:aZ e x= .int a n):x.ev pe= .int a n:=by
 have:=bR hE x;rw [h] at this;exact this
theorem wE (hE:bX s e pe) {x:cP} {b:Bool} (h:aZ e x= .bool b):x.ev pe= .bool b:=by
 have:=bR hE x;rw [h] at this;exact this
theorem NP (hE:bX s e pe) {x:cP} {v:SV} (h:aZ e x=v):R s v (x.ev pe):=by
 have:=bR hE x;rwa [h] at this
theorem HR (k:IntKind):cX k k=true:=by cases k<;>rfl
theorem KB (hS:bH s ps) {op:BinOp} {a:IntKind} {m n:Int} (h:J0 op a m n (ofV k) ρ w=some y): ∃p,GM op a m n=some p/\dO s ps (some {v:=p}) k ρ w y:=by
 cases op with
 |quo=>
  obtain ⟨h1,h2⟩:=oO h;have hn:n≠0:=by intro e;subst e;cases h1
  exact ⟨_,by simp only [GM,if_neg hn],dO.val hS h2 rfl rfl⟩
 |rem=>
  obtain ⟨h1,h2⟩:=oO h;have hn:n≠0:=by intro e;subst e;cases h1
  exact ⟨_,by simp only [GM,if_neg hn],dO.val hS h2 rfl rfl⟩
 |shl=>cases h
 |shr=>cases h
 |_=>exact ⟨_,rfl,dO.val hS h rfl rfl⟩
theorem SJ (hE:bX s e pe) (hS:bH s ps) {op:BinOp} {a b:cP} (h:gW e s z (.bin op a b) k ρ w=some y):dO s ps (aS pe ps z (.bin op a b)) k ρ w y:=by
 simp only [gW] at h;generalize ha:aZ e a=va at h;cases va with
 |int ka m=>
  generalize hb:aZ e b=vb at h;cases vb with
  |int kb n=>
   have h1:=iC hE ha;have h2:=iC hE hb;have key:(op≠ .shl)->(op≠ .shr)->(bif cX ka kb then J0 op ka m n (ofV k) else aJ) ρ w=some y->dO s ps (aS pe ps z (.bin op a b)) k ρ w y:=by
    intro n1 n2 h;obtain ⟨hk,h⟩:=bK h;obtain ⟨p,hp,hs⟩:=KB hS h
    have:aS pe ps z (.bin op a b)=some {v:=p}:=by
     simp only [aS,h1,h2];cases op<;>first|exact absurd rfl n1|exact absurd rfl n2|(simp only [M1,hk,if_true,hp];rfl)
    rw [this];exact hs
   cases op with
   |shl=>
    obtain ⟨hc,h⟩:=oO h;have hc': ¬n<0:=by simpa using hc
    exact dO.val hS h (by simp only [aS,h1,h2,M1,xH,if_neg hc'];rfl) rfl
   |shr=>
    obtain ⟨hc,h⟩:=oO h;have hc': ¬n<0:=by simpa using hc
    exact dO.val hS h (by simp only [aS,h1,h2,M1,xH,if_neg hc'];rfl) rfl
   |_=>exact key (by intro e;cases e) (by intro e;cases e) h
  |_=>cases h
 |_=>cases h
theorem PS (hE:bX s e pe) (hS:bH s ps) {neg:Bool} {a b:cP} (h:gW e s z (.binb neg a b) k ρ w=some y):dO s ps (aS pe ps z (.binb neg a b)) k ρ w y:=by
 simp only [gW] at h;generalize ha:aZ e a=va at h;cases va with
 |bool x=>
  generalize hb:aZ e b=vb at h;cases vb with
  |bool x'=>
   refine dO.val hS h ?_ rfl;simp only [aS,wE hE ha,wE hE hb];cases neg<;>rfl
  |_=>cases h
 |_=>cases h
theorem PU: ∀{xs ys:List SV} {ps qs:List PV} {r:Bool},RL s xs ps->RL s ys qs->eqS xs ys=some r->bQ ps qs=some r
 | [],[],ps,qs,r,h1,h2,h=>by rw [show ps=[] from h1,show qs=[] from h2];exact h
 |x::xs,b::ys,ps,qs,r,h1,h2,h=>by
  obtain ⟨p,ps,rfl,a1,a2⟩:=h1.cons_inv;obtain ⟨q,qs,rfl,b1,b2⟩:=h2.cons_inv;simp only [eqS] at h;split at h
  · rename_i ka m kb n
    have a1':p= .int ka m:=a1;have b1':q= .int kb n:=b1;subst a1' b1';cases hk:cX ka kb with
    |false=>rw [hk] at h;cases h
    |true=>
     rw [hk] at h;have hc:kL (.int ka m) (.int kb n)=some (m==n):=by simp only [kL,hk,if_true]
     simp only [bQ,hc];cases xs with
     |nil=>
      cases ys with
      |nil=>
       simp only [cond_true,ah] at h;subst h;rw [show ps=[] from a2,show qs=[] from b2];cases m==n<;>rfl
      |cons _ _=>cases h
     |cons x2 xs2=>
      simp only [cond_true] at h;split at h
      · rename_i r' hr
        injection h with h;subst h;rw [PU a2 b2 hr];cases m==n<;>rfl
      cases h
  cases h
 | [],_::_,ps,qs,r,h1,h2,h=>by cases h
 |_::_,[],ps,qs,r,h1,h2,h=>by cases h
theorem SK (hE:bX s e pe) (hS:bH s ps) {n:Nat} {neg:Bool} {a b:cP} (h:gW e s z (.eqc n neg a b) k ρ w=some y):dO s ps (aS pe ps z (.eqc n neg a b)) k ρ w y:=by
 simp only [gW] at h;generalize ha:aZ e a=va at h;cases va with
 |agg xs=>
  generalize hb:aZ e b=vb at h;cases vb with
  |agg ys=>
   obtain ⟨hl,h⟩:=bK h;obtain ⟨r,hr,h⟩:=aV h;obtain ⟨p,hp,h1⟩:=NP hE ha;obtain ⟨q,hq,h2⟩:=NP hE hb;refine dO.val hS h ?_ rfl;simp only [aS,hp,hq,h1.length,h2.length];rw [if_pos hl,PU h1 h2 hr];cases neg<;>rfl
  |_=>cases h
 |_=>cases h
theorem aCn (hE:bX s e pe) (hS:bH s ps) {op:UnOp} {a:cP} (h:gW e s z (.un op a) k ρ w=some y):dO s ps (aS pe ps z (.un op a)) k ρ w y:=by
 simp only [gW] at h;cases op with
 |neg=>
  dsimp only at h;generalize ha:aZ e a=va at h;cases va with
  |int ka n=>exact dO.val hS h (by simp only [aS,iC hE ha];rfl) rfl
  |_=>cases h
 |not=>
  dsimp only at h;generalize ha:aZ e a=va at h;cases va with
  |bool b=>exact dO.val hS h (by simp only [aS,wE hE ha];rfl) rfl
  |_=>cases h
 |_=>cases h
theorem PW (hE:bX s e pe) (hS:bH s ps) {a:IntKind} {x:cP} (h:gW e s z (.conv a x) k ρ w=some y):dO s ps (aS pe ps z (.conv a x)) k ρ w y:=by
 simp only [gW] at h;generalize ha:aZ e x=va at h;cases va with
 |int ka n=>exact dO.val hS h (by simp only [aS,iC hE ha]) rfl
 |_=>cases h
theorem SL (hE:bX s e pe) (hS:bH s ps) {x:cP} (h:gW e s z (.len x) k ρ w=some y):dO s ps (aS pe ps z (.len x)) k ρ w y:=by
 simp only [gW] at h;have hx:=bR hE x;generalize aZ e x=v at h hx;cases v with
 |nil e' c=>exact dO.val hS h (by simp only [aS,show x.ev pe= .sl e' c [] from hx];rfl) rfl
 |pre t len cap ex=>
  obtain ⟨e',hx,_⟩:=hx;exact dO.val hS h (by simp only [aS,hx]) rfl
 |part t off len cap ex=>
  obtain ⟨e',hx,_⟩:=hx;exact dO.val hS h (by simp only [aS,hx]) rfl
 |sl q m=>
  exact dO.val hS h (by simp only [aS,show x.ev pe=_ from hx,bd]) rfl
 |own t ex=>
  obtain ⟨c,hc,h⟩:=aV h;simp only [tG,bD] at hc;split at hc
  · rename_i q m hst
    injection hc with hc;subst hc;obtain ⟨e',n,hx,hat⟩:=hx;rcases hat with ⟨q',m',h1,rfl,rfl⟩|h1
    · rw [hst] at h1;injection h1 with h1;cases h1
      exact dO.val hS h (by simp only [aS,hx]) rfl
    rw [hst] at h1;cases h1
  cases hc
 |_=>obtain ⟨c,hc,h⟩:=aV h;cases hc
theorem wF: ∀{l:List (Nat×Nat×SV)} {pl:List (Nat×Nat×PV)} {cs:List SV} {pc:List PV} {r:List SV},
 (pl.length=l.length/\ ∀(j:Nat) (a:Nat×Nat×SV),l[j]? =some a-> ∃b,pl[j]? =some (a.1,a.2.1,b)/\R s a.2.2 b)->RL s cs pc->oM l cs=some r-> ∃q,iI pl pc=some q/\RL s r q
 | [],pl,cs,pc,r,hl,hc,h=>by
  have:pl=[]:=ci.1 hl.1
  subst this;injection h with h;subst h;exact ⟨pc,rfl,hc⟩
 |(off,sz,v)::l,pl,cs,pc,r,hl,hc,h=>by
  cases pl with
  |nil=>simp at hl
  |cons p pl=>
   obtain ⟨b,h1,h2⟩:=hl.2 0 _ rfl;simp at h1;subst h1;simp only [oM] at h;split at h
   · rename_i w hw
     obtain ⟨q,hq,hqr⟩:=h2.stored hw;cases hcnd:(aq w.length sz&&ap (off+sz) cs.length) with
     |false=>rw [hcnd] at h;cases h
     |true=>
      rw [hcnd] at h;simp only [cond_true] at h;obtain ⟨q2,h3,h4⟩:=wF (pl:=pl) ⟨by simpa using hl.1,fun j a ha=>hl.2 (j+1) a (by simpa using ha)⟩ (sJ hqr hc) h
      refine ⟨q2,?_,h4⟩;simp only [iI,hq,hqr.length,hc.length];rw [if_pos hcnd];exact h3
   cases h
theorem HS (hE:bX s e pe): ∀(l:List (Nat×Nat×cP)),((l.map fun p=>(p.1,p.2.1,p.2.2.ev pe)).length=(qU e l).length/\ ∀(j:Nat) (a:Nat×Nat×SV),(qU e l)[j]? =some a-> ∃b,(l.map fun p=>(p.1,p.2.1,p.2.2.ev pe))[j]? =some (a.1,a.2.1,b)/\R s a.2.2 b)
 | []=>⟨rfl,fun j a h=>by simp [qU] at h⟩
 |p::l=>by
  obtain ⟨h1,h2⟩:=HS hE l;refine ⟨by simp [qU] at h1 ⊢;omega,fun j a h=>?_⟩
  cases j with
  |zero=>simp [qU] at h;subst h;exact ⟨_,rfl,bR hE _⟩
  |succ j=>simp only [qU,bo] at h;obtain ⟨b,h3,h4⟩:=h2 j a h;exact ⟨b,by simpa using h3,h4⟩
theorem NQ (hE:bX s e pe) (hS:bH s ps) {zero:List PV} {parts:List (Nat×Nat×cP)} (h:gW e s z (.build zero parts) k ρ w=some y):dO s ps (aS pe ps z (.build zero parts)) k ρ w y:=by
 simp only [gW] at h;obtain ⟨cs,hc,h⟩:=aV h;obtain ⟨q,hq,hr⟩:=wF (HS hE parts) (ofPVL_R s zero) hc;exact dO.val hS h (by simp only [aS,hq];rfl) ⟨q,rfl,hr⟩
theorem SM (hE:bX s e pe) (hS:bH s ps) {x:cP} (h:gW e s z (.box x) k ρ w=some y):dO s ps (aS pe ps z (.box x)) k ρ w y:=by
 simp only [gW] at h;obtain ⟨cs,hc,h⟩:=aV h;obtain ⟨q,hq,hr⟩:=(bR hE x).stored hc;refine ⟨_,_,?_,dQ.new hS (b:= .box cs) (q:= .box q) (v:= .bp s.length cs.length 0) (p:= .ptr s.length cs.length 0 0) (rd:=[]) ⟨q,rfl,hr.ext (Fr.app _ _ _)⟩ rfl,h⟩;simp only [aS,hq,hS.len,hr.length]
theorem NR (hS:bH s ps) {cells:List PV} (h:gW e s z (.alloc cells) k ρ w=some y):dO s ps (aS pe ps z (.alloc cells)) k ρ w y:=by
 simp only [gW] at h;refine ⟨_,_,?_,dQ.new hS (b:= .box (ofPVL cells)) (q:= .box cells) (v:= .bp s.length cells.length 0) (p:= .ptr s.length cells.length 0 0) (rd:=[]) ⟨cells,rfl,ofPVL_R _ _⟩ rfl,h⟩;simp only [aS,hS.len]
theorem PX (hE:bX s e pe) (hS:bH s ps) {x:cP} (h:gW e s z (.nilc x) k ρ w=some y):dO s ps (aS pe ps z (.nilc x)) k ρ w y:=by
 simp only [gW] at h;have hx:=bR hE x;generalize aZ e x=v at h hx;cases v with
 |pa t r i a o=>exact dO.val hS h (by simp only [aS,hx.1]) ⟨rfl,hx.2⟩
 |pb t i o=>
  obtain ⟨e',h1,h2⟩:=hx;exact dO.val hS h (by simp only [aS,h1]) ⟨e',rfl,h2⟩
 |bp t n o=>exact dO.val hS h (by simp only [aS,show x.ev pe=_ from hx]) rfl
 |rptr c o=>
  obtain ⟨q,h1,h2⟩:=hx;exact dO.val hS h (by simp only [aS,h1]) ⟨q,rfl,h2⟩
 |clo f a b=>
  obtain ⟨pa,pb,h1,h2⟩:=hx;exact dO.val hS h (by simp only [aS,h1]) ⟨pa,pb,rfl,h2⟩
 |_=>cases h
theorem PY (hE:bX s e pe) (hS:bH s ps) {off:Nat} {x:cP} (h:gW e s z (.fadr off x) k ρ w=some y):dO s ps (aS pe ps z (.fadr off x)) k ρ w y:=by
 simp only [gW] at h;have hx:=bR hE x;generalize aZ e x=v at h hx;cases v with
 |pa t r i a o=>exact dO.val hS h (by simp only [aS,hx.1]) ⟨rfl,hx.2⟩
 |pb t i o=>
  obtain ⟨e',h1,h2⟩:=hx;exact dO.val hS h (by simp only [aS,h1]) ⟨e',rfl,h2⟩
 |bp t n o=>exact dO.val hS h (by simp only [aS,show x.ev pe=_ from hx]) rfl
 |rptr c o=>
  obtain ⟨q,h1,h2⟩:=hx;exact dO.val hS h (by simp only [aS,h1]) ⟨q,rfl,h2⟩
 |_=>cases h
theorem SN (hE:bX s e pe) (hS:bH s ps) {agg:Option Nat} {off:Nat} {x:cP} (h:gW e s z (.fld agg off x) k ρ w=some y):dO s ps (aS pe ps z (.fld agg off x)) k ρ w y:=by
 simp only [gW] at h;generalize hv:aZ e x=v at h;cases v with
 |agg cs=>
  obtain ⟨v,h1,h⟩:=aV h;obtain ⟨q,h2,h3⟩:=NP hE hv;obtain ⟨p,h4,h5⟩:=mM h3 h1;exact dO.val hS h (by simp only [aS,h2,h4];rfl) h5
 |_=>cases h
theorem SO (hE:bX s e pe) (hS:bH s ps) {i:Nat} {x:cP} (h:gW e s z (.ext i x) k ρ w=some y):dO s ps (aS pe ps z (.ext i x)) k ρ w y:=by
 simp only [gW] at h;generalize hv:aZ e x=v at h;cases v with
 |tup cs=>
  obtain ⟨v,h1,h⟩:=aV h;obtain ⟨q,h2,h3⟩:=NP hE hv;obtain ⟨p,h4,h5⟩:=h3.nth h1;exact dO.val hS h (by simp only [aS,h2,h4];rfl) h5
 |_=>cases h
theorem SP (hE:bX s e pe) (hS:bH s ps) {f:FuncId} {a b:List cP} (h:gW e s z (.mkf f a b) k ρ w=some y):dO s ps (aS pe ps z (.mkf f a b)) k ρ w y:=by
 simp only [gW] at h;exact dO.val hS h rfl ⟨_,_,rfl,sH hE a,sH hE b⟩
theorem SQ (hS:bH s ps) {m:Option PV} (h:gW e s z (.mkm m) k ρ w=some y):dO s ps (aS pe ps z (.mkm m)) k ρ w y:=by
 simp only [gW] at h;cases m with
 |none=>
  refine ⟨_,_,?_,dQ.new hS (b:= .set []) (q:= .map []) (v:= .mp s.length) (p:= .mp s.length) (rd:=[]) rfl rfl,h⟩;simp only [aS,hS.len]
 |some m=>
  obtain ⟨p,_,h⟩:=aV h;refine ⟨_,_,?_,dQ.new hS (b:= .tab p []) (q:= .map []) (v:= .mp s.length) (p:= .mp s.length) (rd:=[]) rfl rfl,h⟩;simp only [aS,hS.len]
theorem aBX: ∀{l:List SV} {q:List PV} {m:Bool} {a:IntKind} {n:Int} {v:SV},RL s l q->mmS m a n l=some v-> ∃p,mmE m a n q=some p/\R s v p
 | [],q,m,a,n,v,hl,h=>by
  rw [show q=[] from hl];injection h with h;subst h;exact ⟨_,rfl,rfl⟩
 |x::l,q,m,a,n,v,hl,h=>by
  obtain ⟨p,q,rfl,h1,h2⟩:=hl.cons_inv;simp only [mmS] at h;split at h
  · rename_i b c
    have h1':p= .int b c:=h1;subst h1';cases hk:cX a b with
    |true=>
     rw [hk] at h;obtain ⟨p,h3,h4⟩:=aBX h2 h;refine ⟨p,?_,h4⟩;simp only [mmE,hk,if_true];rw [<- h3];cases m<;>rfl
    |false=>rw [hk] at h;cases h
  cases h
theorem aCo (hE:bX s e pe) (hS:bH s ps) {m:Bool} {x:cP} {xs:List cP} (h:gW e s z (.mm m x xs) k ρ w=some y):dO s ps (aS pe ps z (.mm m x xs)) k ρ w y:=by
 simp only [gW] at h;generalize hv:aZ e x=v at h;cases v with
 |int a n=>
  obtain ⟨v,h1,h⟩:=aV h;obtain ⟨p,h2,h3⟩:=aBX (sH hE xs) h1;exact dO.val hS h (by simp only [aS,iC hE hv,h2];rfl) h3
 |_=>cases h
theorem PZ (hE:bX s e pe) (hS:bH s ps) {c a b:cP} (h:gW e s z (.pick c a b) k ρ w=some y):dO s ps (aS pe ps z (.pick c a b)) k ρ w y:=by
 simp only [gW] at h;generalize hv:aZ e c=v at h;cases v with
 |bool x=>
  rcases cN h with ⟨rfl,h⟩|⟨rfl,h⟩
  · exact dO.val hS h (by simp only [aS,wE hE hv]) (bR hE a)
  exact dO.val hS h (by simp only [aS,wE hE hv]) (bR hE b)
 |_=>cases h
end
end Go.Vm
/- Operation by operation, second part: elements, blocks, slices, sets. -/
namespace Go.Vm
section
variable {R' ρ : Type} {w : R' -> ρ} {y : ρ} {s : List SB} {ps : bI} {e : SE} {pe : lZ} {z : List Nat} {k : dA -> dF R'}
theorem bH.arr (hS:bH s ps) {t:Nat} {r:List PT} {l:List (RT r)} (h:s[t]? =some (.arr r l)):ps[t]? =some (.arr r.length (l.map (RT.pv r))):=by
 obtain ⟨q,h1,h2⟩:=hS.at_ t _ h;rw [show q=_ from h2] at h1;exact h1
theorem bH.box (hS:bH s ps) {t:Nat} {cs:List SV} (h:s[t]? =some (.box cs)): ∃q,ps[t]? =some (.box q)/\RL s cs q:=by
 obtain ⟨q,h1,q',rfl,h2⟩:=hS.at_ t _ h;exact ⟨q',h1,h2⟩
theorem bH.set_ (hS:bH s ps) {t:Nat} {l:List (List Int)} (h:s[t]? =some (.set l)):ps[t]? =some (.map (l.map wC)):=by
 obtain ⟨q,h1,h2⟩:=hS.at_ t _ h;rw [show q=_ from h2] at h1;exact h1
theorem bH.tab_ (hS:bH s ps) {t:Nat} {p:PT} {l:List (RT [.i .i64,p])} (h:s[t]? =some (.tab p l)):ps[t]? =some (.map (l.map (zZ p))):=by
 obtain ⟨q,h1,h2⟩:=hS.at_ t _ h;rw [show q=_ from h2] at h1;exact h1
theorem PQ.inv {t e n:Nat} {r:List PT} {l:List (RT r)} (h:PQ s t e n) (hs:s[t]? =some (.arr r l)):e=r.length/\n=l.length:=by
 rcases h with ⟨q,m,h1,rfl,rfl⟩|h1
 · rw [hs] at h1;injection h1 with h1;cases h1;exact ⟨rfl,rfl⟩
 rw [hs] at h1;cases h1
theorem tJ.inv {t e:Nat} {r:List PT} {l:List (RT r)} (h:tJ s t e) (hs:s[t]? =some (.arr r l)):e=r.length:=by
 rcases h with ⟨q,m,h1,rfl⟩|h1|⟨cs,h1,_⟩
 · rw [hs] at h1;injection h1 with h1;cases h1;rfl
 · rw [hs] at h1;cases h1
 rw [hs] at h1;cases h1
theorem PR.inv {t:Nat} {q r:List PT} {i:Int} {a:RT q} {l:List (RT r)} (h:PR s t q i a) (hs:s[t]? =some (.arr r l)): ∃e:q=r,aK l i=some (e▸a):=by
 rcases h with ⟨m,h1,h2⟩|h1
 · rw [hs] at h1;injection h1 with h1;cases h1;exact ⟨rfl,h2⟩
 rw [hs] at h1;cases h1
theorem aCm.inv {t:Nat} {r:List PT} {i:Int} {l:List (RT r)} (h:aCm s t i) (hs:s[t]? =some (.arr r l)):(aK l i).isSome=true:=by
 rcases h with ⟨q,m,h1,h2⟩|h1
 · rw [hs] at h1;injection h1 with h1;cases h1;exact h2
 rw [hs] at h1;cases h1
theorem ED {α:Type} {l:List α} {n:Nat} {i:Int} {a:α} (h:aK (l.take n) i=some a): ∃m:Nat,i=bv m/\m<n/\l[m]? =some a:=by
 obtain ⟨m,rfl,hm⟩:=iM h;have hlt:=(ae.1 hm).1;rw [bk] at hlt;have hmn:m<n:=by omega
 rw [ai hmn] at hm;exact ⟨m,rfl,hmn,hm⟩
theorem P0 (hE:bX s e pe) (hS:bH s ps) {esz:Nat} {x i:cP} (h:gW e s z (.iadr esz x i) k ρ w=some y):dO s ps (aS pe ps z (.iadr esz x i)) k ρ w y:=by
 simp only [gW] at h;generalize hi:aZ e i=vi at h;cases vi with
 |int ki n=>
  have hi:=iC hE hi;have hx:=bR hE x;dsimp only at h;unfold aBQ at h;generalize aZ e x=v at h hx;cases v with
  |sl r l=>
   obtain ⟨he,h⟩:=bK h;obtain ⟨a,ha,hk⟩:=bJ h;obtain ⟨m,rfl,hm⟩:=iM ha;refine dO.val hS (p:= .rptr (RT.pv r a) 0) hk ?_ ⟨_,rfl,EC r a⟩;have hr:(l.map (RT.pv r))[m]? =some (RT.pv r a):=by simp [hm]
   simp only [aS,hi,fH,show x.ev pe=_ from hx,hr,he,if_true]
  |own t ex=>
   simp only [bD] at h;generalize hst:s[t]? =b at h;cases b with
   |none=>cases h
   |some b=>
    cases b with
    |arr r l=>
     obtain ⟨he,h⟩:=bK h;obtain ⟨a,ha,hk⟩:=bJ h;obtain ⟨m,rfl,hm⟩:=iM ha;obtain ⟨e',n',hx,hat⟩:=hx;obtain ⟨rfl,rfl⟩:=hat.inv hst;have hlt:=(ae.1 hm).1;have h1:df m l.length=true:=by simpa using hlt
     refine dO.val hS (p:= .ptr t r.length m 0) hk ?_ ⟨rfl,.inl ⟨l,hst,ha⟩⟩;simp only [aS,hi,fH,hx,h1,he,bh,if_true,cj]
    |_=>cases h
  |pre t len cap ex=>
   simp only [bD] at h;generalize hst:s[t]? =b at h;cases b with
   |none=>cases h
   |some b=>
    cases b with
    |arr r l=>
     obtain ⟨he,h⟩:=bK h;obtain ⟨a,ha,hk⟩:=bJ h;obtain ⟨m,rfl,hlt,hm⟩:=ED ha;obtain ⟨e',hx,hat⟩:=hx
     have:=hat.inv hst
     subst this;have h1:df m len=true:=by simpa using hlt
     refine dO.val hS (p:= .ptr t r.length m 0) hk ?_ ⟨rfl,.inl ⟨l,hst,hm⟩⟩;simp only [aS,hi,fH,hx,h1,he,bh,if_true,cj]
    |_=>cases h
  |part t off len cap ex=>
   simp only [bD] at h;generalize hst:s[t]? =b at h;cases b with
   |none=>cases h
   |some b=>
    cases b with
    |arr r l=>
     obtain ⟨he,h⟩:=bK h;obtain ⟨a,ha,hk⟩:=bJ h;obtain ⟨m,rfl,hlt,hm⟩:=ED ha;rw [List.getElem?_drop] at hm;obtain ⟨e',hx,hat⟩:=hx
     have:=hat.inv hst
     subst this;have h1:df m len=true:=by simpa using hlt
     refine dO.val hS (p:= .ptr t r.length (off+m) 0) hk ?_ ⟨rfl,.inl ⟨l,hst,hm⟩⟩;simp only [aS,hi,fH,hx,h1,he,bh,if_true]
    |_=>cases h
  |_=>cases h
 |_=>cases h
theorem uO {n:Nat} {i:Int} {j:Nat} {f:Nat->dF R'}:HI n i j f ρ w=some y-> ∃m,i=bv m/\j<=m/\m<j+n/\f m ρ w=some y:=by
 induction n generalizing j with
 |zero=>intro h;cases h
 |succ n ih=>
  intro h;rcases cN h with ⟨h1,h2⟩|⟨_,h2⟩
  · exact ⟨j,by simpa using h1,dx _,by omega,h2⟩
  obtain ⟨m,h3,h4,h5,h6⟩:=ih h2
  exact ⟨m,h3,by omega,by omega,h6⟩
theorem NS (hE:bX s e pe) (hS:bH s ps) {n esz:Nat} {p i:cP} (h:gW e s z (.iadra n esz p i) k ρ w=some y):dO s ps (aS pe ps z (.iadra n esz p i)) k ρ w y:=by
 simp only [gW] at h;generalize hi:aZ e i=vi at h;cases vi with
 |int ki j=>
  have hi:=iC hE hi;have hx:=bR hE p;generalize aZ e p=v at h hx;cases v with
  |bp t m o=>
   obtain ⟨j',rfl,_,h2,h⟩:=uO h;have h1:df j' n=true:=by simp;omega
   exact dO.val hS h (by simp only [aS,hi,fH,h1,if_true,show p.ev pe=_ from hx]) rfl
  |rptr c o=>
   obtain ⟨j',rfl,_,h2,h⟩:=uO h;have h1:df j' n=true:=by simp;omega
   obtain ⟨q,hq,hr⟩:=hx;exact dO.val hS h (by simp only [aS,hi,fH,h1,if_true,hq]) ⟨q,rfl,hr⟩
  |_=>cases h
 |_=>cases h
theorem SS (hE:bX s e pe) (hS:bH s ps) {n esz:Nat} {agg:Option Nat} {x i:cP} (h:gW e s z (.idx n esz agg x i) k ρ w=some y):dO s ps (aS pe ps z (.idx n esz agg x i)) k ρ w y:=by
 simp only [gW] at h;generalize hi:aZ e i=vi at h;cases vi with
 |int ki j=>
  have hi:=iC hE hi;generalize hx:aZ e x=v at h;cases v with
  |agg cs=>
   obtain ⟨j',rfl,_,h2,h⟩:=uO h;have h1:df j' n=true:=by simp;omega
   obtain ⟨v,hv,h⟩:=aV h;obtain ⟨q,hq,hr⟩:=NP hE hx;obtain ⟨p,hp,hpr⟩:=mM hr hv;exact dO.val hS h (by simp only [aS,hi,fH,h1,if_true,hq,hp];rfl) hpr
  |_=>cases h
 |_=>cases h
theorem P1 (hE:bX s e pe) (hS:bH s ps) {x i:cP} (h:gW e s z (.sidx x i) k ρ w=some y):dO s ps (aS pe ps z (.sidx x i)) k ρ w y:=by
 simp only [gW] at h;generalize hi:aZ e i=vi at h;cases vi with
 |int ki j=>
  have hi:=iC hE hi;generalize hx:aZ e x=v at h;cases v with
  |str t=>
   obtain ⟨b,hb,h⟩:=bJ h;have hx:=NP hE hx;cases j with
   |negSucc _=>cases hb
   |ofNat m=>
    simp only [aBP,bl] at hb;obtain ⟨c,hc,rfl⟩:=hb;exact dO.val hS h (by simp only [aS,hi,fH,show x.ev pe=_ from hx,hc]) rfl
  |_=>cases h
 |_=>cases h
theorem P2 (hE:bX s e pe) (hS:bH s ps) {agg:Option Nat} {p:cP} (h:gW e s z (.load agg p) k ρ w=some y):dO s ps (aS pe ps z (.load agg p)) k ρ w y:=by
 simp only [gW] at h;have hx:=bR hE p;unfold aBR at h;generalize aZ e p=v at h hx;cases v with
 |bp t n off=>
  simp only [bD] at h;generalize hst:s[t]? =b at h;cases b with
  |none=>cases h
  |some b=>
   cases b with
   |box cs=>
    obtain ⟨v,hv,h⟩:=aV h;obtain ⟨q,h1,h2⟩:=hS.box hst;obtain ⟨u,h3,h4⟩:=mM h2 hv;refine dO.rd hS h ?_ h4;show jG ps agg (p.ev pe)=_;rw [show p.ev pe=_ from hx];simp only [jG,h1,bi,if_true,h3];rfl
   |_=>cases h
 |pa t r i a off=>
  simp only [bD] at h;generalize hst:s[t]? =b at h;cases b with
  |none=>cases h
  |some b=>
   cases b with
   |arr q l=>
    obtain ⟨v,hv,hk⟩:=aV h;obtain ⟨hx,hat⟩:=hx;obtain ⟨rfl,hg⟩:=hat.inv hst;obtain ⟨u,h3,h4⟩:=mM (EC r a) hv;obtain ⟨m,rfl,hm⟩:=iM hg;refine dO.rd hS hk ?_ h4;show jG ps agg (p.ev pe)=_;rw [hx];have hm':(l.map (RT.pv r))[m]? =some (RT.pv r a):=by simp [hm]
    have e1:(bv m).toNat=m:=rfl;simp only [jG,hS.arr hst,e1,hm',h3];rfl
   |_=>cases h
 |pb t i off=>
  simp only [bD] at h;generalize hst:s[t]? =b at h;cases b with
  |none=>cases h
  |some b=>
   cases b with
   |arr r l=>
    obtain ⟨a,ha,h⟩:=bJ h;obtain ⟨v,hv,hk⟩:=aV h;obtain ⟨e',hx,hat⟩:=hx;obtain ⟨u,h3,h4⟩:=mM (EC r a) hv;obtain ⟨m,rfl,hm⟩:=iM ha;refine dO.rd hS hk ?_ h4;show jG ps agg (p.ev pe)=_;rw [hx];have hm':(l.map (RT.pv r))[m]? =some (RT.pv r a):=by simp [hm]
    have e1:(bv m).toNat=m:=rfl;simp only [jG,hS.arr hst,e1,hm',h3];rfl
   |_=>cases h
 |rptr cs off=>
  obtain ⟨v,hv,h⟩:=aV h;obtain ⟨q,hq,hr⟩:=hx;obtain ⟨u,h3,h4⟩:=mM hr hv;refine dO.val hS h ?_ h4;show jG ps agg (p.ev pe)=_;rw [hq];simp only [jG,h3];rfl
 |_=>cases h
theorem FT (hS:bH s ps) {t:Nat} {r:List PT} {l:List (RT r)} (hst:s[t]? =some (.arr r l)) {i:Int} {b:RT r} {rd:List Nat}:
 dQ s ps {v:= .undef,wr:=[(t,.arr r (bM l i b))],rd} {v:= .undef,wr:=[(t,.arr r.length ((l.map (RT.pv r)).set i.toNat (RT.pv r b)))],rd}:=
 dQ.put0 hS hst (.inl ⟨_,rfl,by simp⟩) (by show _=_;simp [bM,dl])
theorem NT (hE:bX s e pe) (hS:bH s ps) {sz:Nat} {p x:cP} (h:gW e s z (.store sz p x) k ρ w=some y):dO s ps (aS pe ps z (.store sz p x)) k ρ w y:=by
 simp only [gW] at h;have hx:=bR hE p;have hv:=bR hE x;unfold PD at h;generalize aZ e p=v at h hx;generalize aZ e x=u at h hv;cases v with
 |bp t n off=>
  simp only [bD] at h;generalize hst:s[t]? =b at h;cases b with
  |none=>cases h
  |some b=>
   cases b with
   |box cs=>
    obtain ⟨w',hw,h⟩:=aV h;obtain ⟨hc,h⟩:=bK h;obtain ⟨q,h1,h2⟩:=hv.stored hw;obtain ⟨b,h3,h4⟩:=hS.box hst;have hfr:=Fr.dg (ts:=[t]) (Fr.set (b:= .box (jU off w' cs)) hst (.inl ⟨_,rfl⟩));refine ⟨_,_,?_,dQ.put0 hS (b:= .box (jU off w' cs)) (q:= .box (iR off q b)) (rd:=[]) hst (.inl ⟨_,rfl⟩) ⟨_,rfl,RL.fr hfr (sJ h2 h4)⟩,h⟩
    show lK ps z sz (x.ev pe) (p.ev pe)=_
    rw [show p.ev pe=_ from hx];simp only [lK,h3,h1,h2.length,h4.length];rw [if_pos (by simpa using hc)]
   |_=>cases h
 |pa t r i a off=>
  simp only [bD] at h;generalize hst:s[t]? =b at h;cases b with
  |none=>cases h
  |some b=>
   cases b with
   |arr q l=>
    obtain ⟨hc,h⟩:=bK h;obtain ⟨a',ha',hk⟩:=aV h;obtain ⟨hx,hat⟩:=hx;obtain ⟨rfl,hg⟩:=hat.inv hst;obtain ⟨m,rfl,hm⟩:=iM hg;refine ⟨_,_,?_,FT hS hst (rd:=[]),hk⟩;show lK ps z sz (x.ev pe) (p.ev pe)=_;rw [hx];have hm':(l.map (RT.pv r))[m]? =some (RT.pv r a):=by simp [hm]
    have e1:(bv m).toNat=m:=rfl;simp only [ac,az] at hc;obtain ⟨⟨c1,c2⟩,c3⟩:=hc;have hj:u≠ .junk:=by
     intro e;subst e
     have:=RT.of_some ha'
     have hq:=congrArg (fun l=>l[off]?) this
     have hle:=au c2;have hsz:sz=1:=by have:=aa c1;simpa [SV.cells] using this.symm
     have hlt:off<r.length:=by omega
     have hl1:off<(RT.sv r a).length:=by rw [RT.sv_len];exact hlt
     simp only [jU,SV.cells] at hq;rw [af (by simp;omega),ag (by simp;omega)] at hq
     simp only [bk,db (dm hl1),d5,cz] at hq
     have: ∀(r:List PT) (b:RT r) (n:Nat),(RT.sv r b)[n]?≠some .junk:=by
      intro r
      induction r with
      |nil=>intro b n h;simp [RT.sv] at h
      |cons p rest ih=>
       intro b n;cases rest with
       |nil=>cases n<;>cases p<;>simp [RT.sv,PT.sv]
       |cons p2 rest2=>cases n with
        |zero=>cases p<;>simp [RT.sv,PT.sv]
        |succ n=>simpa [RT.sv] using ih b.2 n
     exact this r a' off hq.symm
    have hcells:=hv.cells hj;have hrow:=RT.of_some ha';have h5:RL s (RT.sv r a') (iR off (x.ev pe).cells (RT.pv r a)):=by
     rw [<- hrow];exact sJ hcells (EC r a)
    have h6:=sI r a' h5;have hplain:(x.ev pe).storedPlain=some (x.ev pe).cells:=by
     unfold PV.storedPlain;rw [if_pos ?_];have hall:=RT.plain r a';rw [<- h6] at hall;unfold iR at hall;simp only [dy,ac] at hall;exact hall.1.2
    simp only [lK,hS.arr hst,e1,hm',hplain,hcells.length,RT.pv_len];rw [if_pos (by simp [c1,c2,c3])]
    simp only [h6]
   |_=>cases h
 |pb t i off=>
  simp only [bD] at h;generalize hst:s[t]? =b at h;cases b with
  |none=>cases h
  |some b=>
   cases b with
   |arr r l=>
    obtain ⟨hc,h⟩:=bK h;obtain ⟨e',hx,hat⟩:=hx;have hin:=hat.inv hst;rw [cy] at hin;obtain ⟨a0,hg⟩:=hin;obtain ⟨m,rfl,hm⟩:=iM hg;have hm':(l.map (RT.pv r))[m]? =some (RT.pv r a0):=by simp [hm]
    have e1:(bv m).toNat=m:=rfl;simp only [ac,az] at hc;obtain ⟨⟨c1,c2⟩,c3⟩:=hc;cases hsz:aq sz r.length with
    |true=>
     rw [hsz] at h;obtain ⟨a',ha',hk⟩:=aV h;obtain ⟨hp,hl⟩:=hv.ofRow ha';have hszr:=aa hsz;have hoff:off=0:=by have:=au c2;omega
     subst hoff;refine ⟨_,_,?_,FT hS hst (rd:=[]),hk⟩;show lK ps z sz (x.ev pe) (p.ev pe)=_;rw [hx];simp only [lK,hS.arr hst,e1,hm',hp,RT.pv_len];rw [if_pos (by rw [cj,hszr];simp [c3])]
     have:iR 0 (RT.pv r a') (RT.pv r a0)=RT.pv r a':=by
      unfold iR;rw [RT.pv_len,List.drop_of_length_le (by rw [RT.pv_len];omega)];simp
     rw [this]
    |false=>
     rw [hsz] at h;obtain ⟨a,ha,h⟩:=bJ h;obtain ⟨a',ha',hk⟩:=aV h;rw [hg] at ha;injection ha with ha;subst ha;refine ⟨_,_,?_,FT hS hst (rd:=[]),hk⟩;show lK ps z sz (x.ev pe) (p.ev pe)=_;rw [hx];have hj:u≠ .junk:=by
      intro e;subst e
      have:=RT.of_some ha'
      have hq:=congrArg (fun l=>l[off]?) this
      have hle:=au c2;have hsz:sz=1:=by have:=aa c1;simpa [SV.cells] using this.symm
      have hlt:off<r.length:=by omega
      have hl1:off<(RT.sv r a0).length:=by rw [RT.sv_len];exact hlt
      simp only [jU,SV.cells] at hq;rw [af (by simp;omega),ag (by simp;omega)] at hq
      simp only [bk,db (dm hl1),d5,cz] at hq
      have: ∀(r:List PT) (b:RT r) (n:Nat),(RT.sv r b)[n]?≠some .junk:=by
       intro r
       induction r with
       |nil=>intro b n h;simp [RT.sv] at h
       |cons p rest ih=>
        intro b n;cases rest with
        |nil=>cases n<;>cases p<;>simp [RT.sv,PT.sv]
        |cons p2 rest2=>cases n with
         |zero=>cases p<;>simp [RT.sv,PT.sv]
         |succ n=>simpa [RT.sv] using ih b.2 n
      exact this r a' off hq.symm
     have hcells:=hv.cells hj;have hrow:=RT.of_some ha';have h5:RL s (RT.sv r a') (iR off (x.ev pe).cells (RT.pv r a0)):=by
      rw [<- hrow];exact sJ hcells (EC r a0)
     have h6:=sI r a' h5;have hplain:(x.ev pe).storedPlain=some (x.ev pe).cells:=by
      unfold PV.storedPlain;rw [if_pos ?_];have hall:=RT.plain r a';rw [<- h6] at hall;unfold iR at hall;simp only [dy,ac] at hall;exact hall.1.2
     simp only [lK,hS.arr hst,e1,hm',hplain,hcells.length,RT.pv_len];rw [if_pos (by simp [c1,c2,c3])]
     simp only [h6]
   |_=>cases h
 |_=>cases h
end
end Go.Vm
/- Operation by operation, third part: slices, new blocks, append, sets; all of them together. -/
namespace Go.Vm
section
variable {R' ρ : Type} {w : R' -> ρ} {y : ρ} {s : List SB} {ps : bI} {e : SE} {pe : lZ} {z : List Nat} {k : dA -> dF R'}
def B0 (pe:lZ) (o:Option cP):Option (Option Nat):=match o with|none=>some none|some a=>(fH (a.ev pe)).map some
theorem nQ (hE:bX s e pe) {o:Option cP} {d a:Int} {n:Nat} (h:xZ e d o=some a) (hd:d=bv n) (h0:0<=a): ∃b,B0 pe o=some b/\b.getD n=a.toNat:=by
 cases o with
 |none=>
  injection h with h;subst h hd;exact ⟨none,rfl,rfl⟩
 |some x=>
  simp only [xZ] at h;split at h
  · rename_i ka m hx
    injection h with h;subst h;obtain ⟨b,rfl⟩:=ax h0;refine ⟨some b,?_,rfl⟩;simp only [B0,iC hE hx];rfl
  cases h
theorem uP {esz:Nat} {x:cP} {lo hi mx:Option cP} {l h m:Option Nat} {v:PV} (he:nE esz (x.ev pe)=true) (h1:B0 pe lo=some l) (h2:B0 pe hi=some h) (h3:B0 pe mx=some m) (hv:kM (x.ev pe) l h m=some v):
 aS pe ps z (.slc esz x lo hi mx)=some {v:=v}:=by
 have e:aS pe ps z (.slc esz x lo hi mx)=(match B0 pe lo,B0 pe hi,B0 pe mx with|some l,some h,some m=>(kM (x.ev pe) l h m).map fun v=>({v}:iT)|_,_,_=>none):=by
  simp only [aS,he,dj,ar,if_false];rfl
 rw [e,h1,h2,h3];simp only [hv];rfl
theorem B1 {α:Type} {l r:List α} {lo hi:Int} (h:fO l lo hi=some r): ∃a b:Nat,lo=bv a/\hi=bv b/\a<=b/\b<=l.length/\r=(l.drop a).take (b-a):=by
 unfold fO at h;split at h
 · rename_i hc
   obtain ⟨a,rfl⟩:=ax hc.1;obtain ⟨b,rfl⟩:=ax (cu hc.1 hc.2.1);injection h with h;exact ⟨a,b,rfl,rfl,by omega,by omega,by rw [<- h];simp⟩
 cases h
theorem FU (hE:bX s e pe) (hS:bH s ps) {esz t off len cap:Nat} {ex:Bool} {x:cP} {lo hi mx:Option cP} (hx:x.ev pe= .own t esz off len cap ex) (hat:tJ s t esz) (h:J1 e t off len cap ex lo hi mx k ρ w=some y):
 dO s ps (aS pe ps z (.slc esz x lo hi mx)) k ρ w y:=by
 unfold J1 at h;obtain ⟨a,ha,h⟩:=aV h;obtain ⟨b,hb,h⟩:=aV h;have he:nE esz (x.ev pe)=true:=by rw [hx];simp [nE]
 cases mx with
 |none=>
  obtain ⟨hc,h⟩:=eA h;simp only [ac,decide_eq_true_eq] at hc;obtain ⟨⟨c1,c2⟩,c3⟩:=hc;obtain ⟨l,h1,h2⟩:=nQ hE (n:=0) ha rfl c1;obtain ⟨u,h3,h4⟩:=nQ hE (n:=len) hb rfl (cu c1 c2);refine dO.val hS h (uP he h1 h3 (m:=none) rfl ?_) ⟨esz,rfl,hat⟩;rw [hx];have c4:(ap a.toNat b.toNat&&ap b.toNat cap)=true:=by
   have c3':b<=(cap:Int):=c3
   simp;omega
  simp only [kM,h2,h4,c4,if_true]
 |some mo=>
  dsimp only at h;generalize hm:aZ e mo=vm at h;cases vm with
  |int km c=>
   obtain ⟨hc,h⟩:=eA h;simp only [ac,decide_eq_true_eq] at hc;obtain ⟨⟨⟨c1,c2⟩,c3⟩,c4⟩:=hc;obtain ⟨l,h1,h2⟩:=nQ hE (n:=0) ha rfl c1;obtain ⟨u,h3,h4⟩:=nQ hE (n:=len) hb rfl (cu c1 c2);have hc0:0<=c:=cu (cu c1 c2) c3;obtain ⟨c,rfl⟩:=ax hc0
   refine dO.val hS h (uP he h1 h3 (m:=some c) (by simp only [B0,iC hE hm];rfl) ?_) ⟨esz,rfl,hat⟩
   rw [hx];have c5:(ap a.toNat b.toNat&&ap b.toNat c&&ap c cap)=true:=by
    have c4':(c:Int)<=(cap:Int):=c4
    simp;omega
   simp only [kM,h2,h4,c5,if_true];rfl
  |_=>cases h
theorem ST (hE:bX s e pe) (hS:bH s ps) {esz:Nat} {x:cP} {lo hi mx:Option cP} (h:gW e s z (.slc esz x lo hi mx) k ρ w=some y):dO s ps (aS pe ps z (.slc esz x lo hi mx)) k ρ w y:=by
 simp only [gW] at h;have hx:=bR hE x;unfold aGR at h;generalize aZ e x=v at h hx;cases v with
 |sl r l=>
  cases mx with
  |some _=>cases h
  |none=>
   dsimp only at h;obtain ⟨he,h⟩:=bK h;have he:=aa he;obtain ⟨a,ha,h⟩:=aV h;obtain ⟨b,hb,h⟩:=aV h;obtain ⟨m,hm,hk⟩:=bJ h;obtain ⟨n1,n2,rfl,rfl,c1,c2,rfl⟩:=B1 hm;obtain ⟨u1,h1,h2⟩:=nQ hE (n:=0) ha rfl (by simp)
   obtain ⟨u2,h3,h4⟩:=nQ hE (n:=l.length) hb rfl (by simp)
   have hx':x.ev pe= .sl r.length false (l.map (RT.pv r)):=hx;subst he;refine dO.val hS (p:= .sl r.length false ((((l.drop n1).take (n2-n1))).map (RT.pv r))) hk (uP (m:=none) (by rw [hx'];simp [nE]) h1 h3 rfl ?_) rfl
   rw [hx'];have h2':u1.getD 0=n1:=by rw [h2];rfl
   have h4':u2.getD (l.map (RT.pv r)).length=n2:=by rw [bd,h4];rfl
   have c3:(ap n1 n2&&ap n2 (l.map (RT.pv r)).length)=true:=by simp [c1,c2]
   simp only [kM,h2',h4',c3,if_true,Bool.false_and,bm,cf]
 |own t ex=>
  simp only [bD] at h;generalize hst:s[t]? =b at h;cases b with
  |none=>cases h
  |some b=>
   cases b with
   |arr r l=>
    dsimp only at h;obtain ⟨he,hk⟩:=bK h;have he:=aa he;obtain ⟨e',n',hx,hat⟩:=hx;obtain ⟨rfl,rfl⟩:=hat.inv hst;subst he;have hesz:tJ s t r.length:= .inl ⟨r,l,hst,rfl⟩;have gen:J1 e t 0 l.length l.length ex lo hi mx k ρ w=some y->dO s ps (aS pe ps z (.slc r.length x lo hi mx)) k ρ w y:=fun h=>FU hE hS hx hesz h
    have he:nE r.length (x.ev pe)=true:=by rw [hx];simp [nE]
    cases mx with
    |some m=>cases lo<;>cases hi<;>exact gen hk
    |none=>
     cases lo with
     |some _=>cases hi<;>exact gen hk
     |none=>
      cases hi with
      |none=>
       refine dO.val hS hk (uP (l:=none) (h:=none) (m:=none) he rfl rfl rfl ?_) ⟨r.length,l.length,rfl,hat⟩;rw [hx];simp [kM]
      |some ho=>
       dsimp only at hk;generalize hh:aZ e ho=vh at hk;cases vh with
       |int kh b=>
        obtain ⟨m,hm,hk⟩:=bJ hk;obtain ⟨n1,n2,h0,rfl,c1,c2,rfl⟩:=B1 hm;refine dO.val hS hk (uP (l:=none) (h:=some n2) (m:=none) he rfl (by simp only [B0,iC hE hh];rfl) rfl ?_) ⟨r.length,rfl,hesz⟩
        rw [hx];have c3:(ap 0 n2&&ap n2 l.length)=true:=by simp [c2]
        simp only [kM,c6,dt,c3,if_true];rfl
       |_=>cases hk
   |_=>cases h
 |pre t len cap ex=>
  simp only [bD] at h;generalize hst:s[t]? =b at h;cases b with
  |none=>cases h
  |some b=>
   cases b with
   |arr r l=>
    dsimp only at h;obtain ⟨he,hk⟩:=bK h;have he:=aa he;obtain ⟨e',hx,hat⟩:=hx
    have:=hat.inv hst
    subst this;subst he;have gen:J1 e t 0 len cap ex lo hi mx k ρ w=some y->dO s ps (aS pe ps z (.slc r.length x lo hi mx)) k ρ w y:=fun h=>FU hE hS hx hat h
    have he:nE r.length (x.ev pe)=true:=by rw [hx];simp [nE]
    cases mx with
    |some m=>cases lo<;>cases hi<;>exact gen hk
    |none=>
     cases lo with
     |some _=>cases hi<;>exact gen hk
     |none=>
      cases hi with
      |none=>
       obtain ⟨hlc,hk⟩:=eA hk;refine dO.val hS hk (uP (l:=none) (h:=none) (m:=none) he rfl rfl rfl ?_) ⟨r.length,rfl,hat⟩;rw [hx];have c3:(ap 0 len&&ap len cap)=true:=by simp [hlc]
       simp only [kM,c6,c3,if_true];simp
      |some ho=>
       dsimp only at hk;generalize hh:aZ e ho=vh at hk;cases vh with
       |int kh b=>
        obtain ⟨hc,hk⟩:=eA hk;simp only [ac,decide_eq_true_eq] at hc;obtain ⟨c1,c2⟩:=hc;obtain ⟨b,rfl⟩:=ax c1;refine dO.val hS hk (uP (l:=none) (h:=some b) (m:=none) he rfl (by simp only [B0,iC hE hh];rfl) rfl ?_) ⟨r.length,rfl,hat⟩
        rw [hx];have c3:(ap 0 b&&ap b cap)=true:=by
         have c2':(b:Int)<=(cap:Int):=c2
         simp;omega
        simp only [kM,c6,dt,c3,if_true];rfl
       |_=>cases hk
   |_=>cases h
 |part t off len cap ex=>
  simp only [bD] at h;generalize hst:s[t]? =b at h;cases b with
  |none=>cases h
  |some b=>
   cases b with
   |arr r l=>
    dsimp only at h;obtain ⟨he,hk⟩:=bK h;have he:=aa he;obtain ⟨e',hx,hat⟩:=hx
    have:=hat.inv hst
    subst this;subst he;exact FU hE hS hx hat hk
   |_=>cases h
 |_=>cases h
theorem hM {b:SB}:(s++[b])[s.length]? =some b:=by simp
theorem SU: ∀{v:PV} {p:PT},PC v=some p->p.pv p.zero=v
 | .int k n,p,h=>by
  simp only [PC] at h;split at h
  · injection h with h;subst h;rfl
  cases h
 | .bool b,p,h=>by
  simp only [PC] at h;split at h
  · injection h with h;subst h;rfl
  cases h
 | .undef,_,h| .nul,_,h| .str _,_,h| .agg _,_,h| .tup _,_,h| .sl _ _ _,_,h| .own _ _ _ _ _ _,_,h| .ptr _ _ _ _,_,h| .rptr _ _,_,h| .mp _,_,h| .clo _ _ _,_,h| .nilf,_,h=>by cases h
theorem wG : ∀ {l : List PV} {r : List PT}, BN l = some r -> RT.pv r (RT.zero r) = l
  | [], r, h => by injection h with h; subst h; rfl
  | v :: vs, r, h => by
    simp only [BN] at h
    split at h
    · rename_i p q h1 h2
      injection h with h; subst h
      have e1 := SU h1
      have e2 := wG h2
      cases q with
      | nil =>
        have : vs = [] := by
          cases vs with
          | nil => rfl
          | cons a b => simp only [RT.pv] at e2; cases e2
        subst this
        show [p.pv p.zero] = _
        rw [e1]
      | cons p2 q2 =>
        show p.pv p.zero :: RT.pv (p2 :: q2) (RT.zero (p2 :: q2)) = _
        rw [e1, e2]
    cases h
theorem SW (hE:bX s e pe) (hS:bH s ps) {esz:Nat} {zero:iQ} {l c:cP} (h:gW e s z (.mks esz zero l c) k ρ w=some y):dO s ps (aS pe ps z (.mks esz zero l c)) k ρ w y:=by
 simp only [gW] at h;generalize hl:aZ e l=vl at h;cases vl with
 |int kl n=>
  generalize hc:aZ e c=vc at h;cases vc with
  |int kc m=>
   obtain ⟨hnm,h1⟩:=eA h;obtain ⟨r,hr,h2⟩:=aV h1;obtain ⟨he,h3⟩:=bK h2;obtain ⟨x,hx,hk⟩:=bJ h3;have hnm:n=m:=by simpa using hnm
   subst hnm;have he:=aa he;subst he;unfold qR at hx;split at hx
   · rename_i hc2
     injection hx with hx;subst hx;obtain ⟨a,rfl⟩:=ax hc2.1;have h1:(ap a a&&ap a gP)=true:=by simp [gP];omega
     refine ⟨_,_,?_,dQ.new hS (b:= .arr r (bj (bv a).toNat (RT.zero r))) (q:= .arr r.length (bj a zero)) (v:= .own s.length true) (p:= .own s.length r.length 0 a a true) (rd:=[]) ?_ ?_,hk⟩
     · have e1:fH (.int kl (a:Int))=some a:=rfl
       have e2:fH (.int kc (a:Int))=some a:=rfl;simp only [aS,iC hE hl,iC hE hc,e1,e2];rw [if_pos h1,hS.len]
     · show _=_
       simp [wG hr]
     exact ⟨r.length,a,rfl,.inl ⟨r,_,hM,rfl,by simp⟩⟩
   cases hx
  |_=>cases h
 |_=>cases h
def oP {α:Type}:List α->List (Nat×α)->List α
 |l,[]=>l
 |l,(i,a)::r=>oP (l.set i a) r
theorem B2 {α : Type} : ∀ (q : List (Nat × α)) (l : List α) (i : Nat), (oP l q)[i]? = (l[i]?).map fun z => zC i z q
  | [], l, i => by simp [oP, zC]
  | (j, a) :: q, l, i => by
    simp only [oP, zC]
    rw [B2 q (l.set j a) i, am]
    by_cases hji : j = i
    · subst hji
      cases hl : l[j]? with
      | none =>
        have : ¬ j < l.length := by intro h; rw [aj h] at hl; cases hl
        simp [this]
      | some z =>
        have : j < l.length := (ae.1 hl).1
        simp [this]
    have : aq j i = false := by
      cases hb : aq j i with
      | false => rfl
      | true => exact absurd (aa hb) hji
    simp [hji, this]
theorem HT {α:Type} (f:Nat->α): ∀(n i j:Nat),(FN f i n)[j]? =if j<n then some (f (i+j)) else none
 |0,i,j=>by simp [FN]
 |n+1,i,0=>by simp [FN]
 |n+1,i,j+1=>by
  simp only [FN,bo];rw [HT f n (i+1) j,show i+1+j=i+(j+1) by omega]
  by_cases h:j<n
  · simp [h]
  simp [h]
theorem B3 {α:Type} (z:α) (n:Nat) (q:List (Nat×α)):oP (bj n z) q=FN (fun i=>zC i z q) 0 n:=by
 apply dn;intro i;rw [B2,HT]
 by_cases h:i<n
 · simp [h]
 simp [h]
theorem B4 (hE:bX s e pe) {r:List PT} {n:Nat}: ∀{parts:List (Nat×cP)} {q:List (Nat×RT r)} {l:List (RT r)},LA r e n parts=some q->l.length=n->
 jZ (parts.map fun p=>(p.1,p.2.ev pe)) (l.map (RT.pv r)) r.length=some ((oP l q).map (RT.pv r))
 | [],q,l,h,hl=>by injection h with h;subst h;rfl
 |p::parts,q,l,h,hl=>by
  simp only [LA] at h;split at h
  · rename_i a q' h1 h2
    cases hb:df p.1 n with
    |false=>rw [hb] at h;cases h
    |true=>
     rw [hb] at h;injection h with h;subst h;have hp:=((bR hE p.2).ofRow h1).1;simp only [be,jZ,hp,RT.pv_len,bd,hl,hb,bi,bh,if_true,oP];rw [<- dl];exact B4 hE h2 (by simp [hl])
  cases h
theorem NU (hE:bX s e pe) (hS:bH s ps) {esz n:Nat} {zero:iQ} {parts:List (Nat×cP)} (h:gW e s z (.mkrow esz n zero parts) k ρ w=some y):dO s ps (aS pe ps z (.mkrow esz n zero parts)) k ρ w y:=by
 simp only [gW] at h;obtain ⟨r,hr,h1⟩:=aV h;obtain ⟨he,h2⟩:=bK h1;obtain ⟨q,hq,hk⟩:=aV h2;have he:=aa he;subst he;have hf:=B4 hE (l:=bj n (RT.zero r)) hq (by simp)
 rw [B3] at hf;have hz:(bj n (RT.zero r)).map (RT.pv r)=bj n zero:=by simp [wG hr]
 rw [hz] at hf;refine ⟨_,_,?_,dQ.new hS (b:= .arr r (FN (fun i=>zC i (RT.zero r) q) 0 n)) (q:= .arr r.length ((FN (fun i=>zC i (RT.zero r) q) 0 n).map (RT.pv r))) (v:= .own s.length true) (p:= .own s.length r.length 0 n n true) (rd:=[]) rfl ?_,hk⟩
 · simp only [aS,hf,hS.len]
   rfl
 refine ⟨r.length,n,rfl,.inl ⟨r,_,hM,rfl,?_⟩⟩
 rw [<- B3]
 have: ∀(q:List (Nat×RT r)) (l:List (RT r)),(oP l q).length=l.length:=by
  intro q
  induction q with
  |nil=>intro l;rfl
  |cons p q ih=>intro l;simp [oP,ih]
 rw [this];simp
theorem LO: ∀{cs:List SV} {q:List PV} {l:List Int},RL s cs q->LB cs=some l->q=l.map (.int .i64)
 | [],q,l,h,hi=>by injection hi with hi;subst hi;exact h
 |x::xs,q,l,h,hi=>by
  obtain ⟨p,q,rfl,h1,h2⟩:=h.cons_inv;simp only [LB] at hi;split at hi
  · rename_i n l' hx
    injection hi with hi;subst hi;rw [show p= .int .i64 n from h1,LO h2 hx];rfl
  cases hi
theorem P3 {v:SV} {p:PV} {n:Option Nat} {l:List Int} (h:R s v p) (hk:SA n v=some l):p=mE l/\eY n (mE l)=true/\(mE l).storedPlain=some (mE l).cells/\(mE l).cells=l.map (.int .i64)/\(n=none->l.length=1)/\(∀m,n=some m->l.length=m/\m≠1):=by
 cases n with
 |none=>
  cases v with
  |int kk a=>
   cases kk with
   |i64=>
    injection hk with hk;subst hk;exact ⟨h,rfl,rfl,rfl,fun _=>rfl,fun m hm=>by cases hm⟩
   |_=>cases hk
  |_=>cases hk
 |some m=>
  cases v with
  |agg cs=>
   simp only [SA] at hk;cases hc:(aq cs.length m&&!Nat.beq m 1) with
   |false=>rw [hc] at hk;cases hk
   |true=>
    rw [hc] at hk;simp only [cond_true] at hk;simp only [ac,cv,az] at hc;obtain ⟨c1,c2⟩:=hc;obtain ⟨q,rfl,hq⟩:=h;have hq':=LO hq hk;have hlen:l.length=m:=by have:=hq.length;rw [hq'] at this;simp at this;omega
    have hm1:m≠1:=by intro e;subst e;cases c2
    have hkl:mE l= .agg (l.map (.int .i64)):=by
     unfold mE;split
     · simp at hlen;omega
     rfl
    refine ⟨by rw [hkl,hq'],by rw [hkl];simp [eY,hlen],?_,by rw [hkl];rfl,(fun h=>(by cases h)),fun m' hm=>by injection hm with hm;subst hm;exact ⟨hlen,hm1⟩⟩
    rw [hkl];unfold PV.storedPlain;rw [if_pos];simp [PV.cells,PV.plain]
  |_=>cases hk
theorem oQ: ∀(a b:List Int),a.length=b.length->bQ (a.map (.int .i64)) (b.map (.int .i64))=some (a==b)
 | [],[],_=>rfl
 |x::a,y::b,h=>by
  have ih:=oQ a b (by simpa using h)
  simp only [be,bQ,kL,HR,if_true];cases hxy:x==y with
  |true=>simp only [ih];simp [dk,hxy]
  |false=>simp [dk,hxy]
 | [],_::_,h=>by simp at h
 |_::_,[],h=>by simp at h
theorem yD {n : Option Nat} {a : List Int} (ha : (mE a).cells = a.map (.int .i64)) (hn : (n = none -> a.length = 1) /\ (∀ m, n = some m -> a.length = m /\ m ≠ 1)) : ∀ (l : List (List Int)) (i : Nat), (∀ r, cO n (mE a) (l.map wC) i = some r -> (match r with | none => HH l a = false | some j => i <= j /\ HH l a = true /\ l[j - i]? = some a))
  | [], i, r, h => by
    simp only [dp, cO, ah] at h
    subst h; rfl
  | b :: l, i, r, h => by
    simp only [be, wC, cO] at h
    split at h
    · rename_i hk
      have hb : (mE b).cells = b.map (.int .i64) /\ a.length = b.length := by
        cases n with
        | none =>
          have hl := hn.1 rfl
          unfold mE at hk ⊢
          split at hk
          · exact ⟨rfl, by simpa using hl⟩
          cases hk
        | some m =>
          obtain ⟨hl, hm⟩ := hn.2 m rfl
          unfold mE at hk ⊢
          split at hk
          · cases hk
          simp only [eY, bd, cv] at hk
          exact ⟨rfl, by omega⟩
      rw [ha, hb.1, oQ a b hb.2] at h
      cases hab : a == b with
      | true =>
        rw [hab] at h
        injection h with h; subst h
        have : a = b := by simpa using hab
        subst this
        exact ⟨dx _, by simp [HH], by simp⟩
      | false =>
        rw [hab] at h
        have := yD ha hn l (i + 1) r h
        cases r with
        | none => simpa [HH, hab] using this
        | some j =>
          obtain ⟨h1, h2, h3⟩ := this
          refine ⟨by omega, by simp only [HH] at h2; simp [HH, h2], ?_⟩
          rw [show j - i = (j - (i + 1)) + 1 by omega]; simpa using h3
    cases h
theorem wH {n:Option Nat} {a:List Int} (ha:(mE a).cells=a.map (.int .i64)) (hn:(n=none->a.length=1)/\(∀m,n=some m->a.length=m/\m≠1)) {l:List (List Int)} (hl:l.all (fun b=>eY n (mE b))=true): ∀i,∃r,cO n (mE a) (l.map wC) i=some r:=by
 induction l with
 |nil=>intro i;exact ⟨none,rfl⟩
 |cons b l ih=>
  intro i;simp only [di,ac] at hl;obtain ⟨r,hr⟩:=ih hl.2 (i+1);simp only [be,wC,cO,hl.1,if_true];have hb:(mE b).cells=b.map (.int .i64)/\a.length=b.length:=by
   have hk:=hl.1;cases n with
   |none=>
    have hl':=hn.1 rfl;unfold mE at hk ⊢;split at hk
    · exact ⟨rfl,by simpa using hl'⟩
    cases hk
   |some m=>
    obtain ⟨hl',hm⟩:=hn.2 m rfl;unfold mE at hk ⊢;split at hk
    · cases hk
    simp only [eY,bd,cv] at hk
    exact ⟨rfl,by omega⟩
  rw [ha,hb.1,oQ a b hb.2];cases hab:a==b with
  |true=>exact ⟨some i,rfl⟩
  |false=>exact ⟨r,hr⟩
theorem zF {n:Option Nat} {a:List Int} (hn:(n=none->a.length=1)/\(∀m,n=some m->a.length=m/\m≠1)) {l:List (List Int)} (hl: ∀b∈l,b.length=a.length):l.all (fun b=>eY n (mE b))=true:=by
 rw [bq];intro b hb;have hlen:=hl b hb;cases n with
 |none=>
  have h1:=hn.1 rfl;rw [h1] at hlen
  match b,hlen with
  | [x],_=>rfl
 |some m=>
  obtain ⟨h1,h2⟩:=hn.2 m rfl;unfold mE;split
  · rename_i x;simp at hlen;omega
  simp [eY];omega
theorem wI {a:List Int} {l:List (List Int)} (h:qS a l=true): ∀b∈l,b.length=a.length:=by
 intro b hb;exact aa (bq.1 h b hb)
theorem PT.of_R {s:List SB} {p:PT} {v:SV} {q:PV} {a:p.T} (h:R s v q) (ho:p.of v=some a):q=p.pv a:=by
 cases p with
 |i k=>
  cases v with
  |int l n=>
   simp only [PT.of] at ho;cases hk:cX l k with
   |false=>rw [hk] at ho;cases ho
   |true=>
    rw [hk] at ho;obtain rfl:=cS.1 hk;injection ho with ho;subst ho;exact h
  |_=>cases ho
 |b=>
  cases v with
  |bool x=>
   injection ho with ho;subst ho;exact h
  |_=>cases ho
theorem B5 {β:Type} (g:Int×β->PV×PV) (hg: ∀x,(g x).1= .int .i64 x.1) (k:Int): ∀(l:List (Int×β)) (i:Nat),
 (∃j x,cO none (.int .i64 k) (l.map g) i=some (some (i+j))/\l[j]? =some x/\(∀z,qT z l k=x.2)/\ ∀a,tD l k a=l.set j (k,a))\/
 (cO none (.int .i64 k) (l.map g) i=some none/\(∀z,qT z l k=z)/\ ∀a,tD l k a=l++[(k,a)])
 | [],i=> .inr ⟨rfl,fun _=>rfl,fun _=>rfl⟩
 |x::l,i=>by
  have hk:eY none (g x).1=true:=by rw [hg];rfl
  have he:bQ (PV.int .i64 k).cells (g x).1.cells=some (k==x.1):=by
   rw [hg];show bQ [.int .i64 k] [.int .i64 x.1]=_;simp only [bQ,kL,cX,if_true];cases k==x.1<;>rfl
  have hf:cO none (.int .i64 k) ((x::l).map g) i=(match some (k==x.1) with
   |some true=>some (some i)
   |some false=>cO none (.int .i64 k) (l.map g) (i+1)
   |none=>none):=by
   rw [be];show (if eY none (g x).1 then _ else none)=_
   rw [if_pos hk,he];cases k==x.1<;>rfl
  cases hb:k==x.1 with
  |true=>
   rw [hb] at hf;exact .inl ⟨0,x,hf,rfl,fun z=>by simp only [qT,hb,cond_true],fun a=>by simp only [tD,hb,cond_true,List.set_cons_zero]⟩
  |false=>
   rw [hb] at hf;rcases B5 g hg k l (i+1) with ⟨j,y,h1,h2,h3,h4⟩|⟨h1,h2,h3⟩
   · refine .inl ⟨j+1,y,?_,by simpa using h2,fun z=>?_,fun a=>?_⟩
     · rw [hf];show cO none (.int .i64 k) (l.map g) (i+1)=_
       rw [h1,show i+1+j=i+(j+1) by omega]
     · simp only [qT,hb,cond_false,h3]
     simp only [tD,hb,cond_false,h4,List.set_cons_succ]
   exact .inr ⟨hf.trans h1,fun z=>by simp only [qT,hb,cond_false,h2],fun a=>by simp only [tD,hb,cond_false,h3,da]⟩
theorem B6 (p:PT) (k:Int) (l:List (RT [.i .i64,p])):
 (∃(j:Nat) (x:RT [.i .i64,p]),cO none (.int .i64 k) (l.map (zZ p)) 0=some (some j)/\l[j]? =some x/\(∀z,p.get z l k=x.2)/\ ∀a,p.put l k a=l.set j (k,a))\/
 (cO none (.int .i64 k) (l.map (zZ p)) 0=some none/\(∀z,p.get z l k=z)/\ ∀a,p.put l k a=l++[(k,a)]):=by
 cases p with
 |i d=>
  rcases B5 (β:=Int) (zZ (.i d)) (fun _=>rfl) k l 0 with ⟨j,x,h1,h2,h3,h4⟩|h
  · exact .inl ⟨j,x,by rw [h1,cj],h2,h3,h4⟩
  exact .inr h
 |b=>
  rcases B5 (β:=Bool) (zZ .b) (fun _=>rfl) k l 0 with ⟨j,x,h1,h2,h3,h4⟩|h
  · exact .inl ⟨j,x,by rw [h1,cj],h2,h3,h4⟩
  exact .inr h
theorem PT.sv_R {s:List SB} (p:PT) (a:p.T):R s (p.sv a) (p.pv a):=by cases p<;>rfl
theorem PT.pv_plain (p:PT) (a:p.T):(p.pv a).storedPlain=some [p.pv a]:=by cases p<;>rfl
theorem KC (hE:bX s e pe) (hS:bH s ps) {n:Option Nat} {zero:PV} {ok:Bool} {m q:cP} (h:gW e s z (.lookup n zero ok m q) k ρ w=some y):dO s ps (aS pe ps z (.lookup n zero ok m q)) k ρ w y:=by
 simp only [gW] at h;have hx:=bR hE m;generalize aZ e m=v at h hx;cases v with
 |mp t=>
  simp only [bD] at h;generalize hst:s[t]? =b at h;cases b with
  |none=>cases h
  |some b=>
   cases b with
   |set l=>
    dsimp only at h;unfold LD at h;cases zero with
    |bool b=>
     cases b with
     |true=>cases h
     |false=>
      cases ok with
      |true=>cases h
      |false=>
       obtain ⟨a,ha,h1⟩:=aV h;obtain ⟨b,hb,hk⟩:=bJ h1;obtain ⟨k1,k2,k3,k4,k5⟩:=P3 (bR hE q) ha;unfold R6 at hb;cases hlk:qS a l with
       |false=>rw [hlk] at hb;cases hb
       |true=>
        rw [hlk] at hb;injection hb with hb;subst hb;obtain ⟨r,hr⟩:=wH k4 k5 (zF k5 (wI hlk)) 0;have hf:=yD k4 k5 l 0 r hr;refine dO.rd hS hk ?_ rfl;show mF ps n (.bool false) false (m.ev pe) (q.ev pe)=_;rw [show m.ev pe=_ from hx,k1];simp only [mF,hS.set_ hst,k2,if_true,hr];cases r with
        |none=>simp only at hf;simp [hf]
        |some j=>
         obtain ⟨_,h2,h3⟩:=hf
         have:(l.map wC)[j]? =some (wC a):=by simp at h3;simp [h3]
         simp [this,h2,wC]
    |_=>cases h
   |tab p l=>
    dsimp only at h;unfold LE at h;cases n with
    |some _=>cases h
    |none=>
     cases ok with
     |true=>cases h
     |false=>
      have hq:=bR hE q;generalize aZ e q=u at h hq;cases u with
      |int d a=>
       cases d with
       |i64=>
        obtain ⟨zv,hz,hk⟩:=aV h;have hzero:=PT.of_R (KA s zero) hz;refine dO.rd hS hk ?_ (PT.sv_R p _);show mF ps none zero false (m.ev pe) (q.ev pe)=_;rw [show m.ev pe=_ from hx,show q.ev pe=_ from hq];rcases B6 p a l with ⟨j,x,h1,h2,h3,_⟩|⟨h1,h2,_⟩
        · have h5:(l.map (zZ p))[j]? =some (zZ p x):=by simp [h2]
          simp only [mF,hS.tab_ hst,eY,if_true,h1,h5,h3,zZ,ar,if_false]
        simp only [mF,hS.tab_ hst,eY,if_true,h1,h2,hzero,ar,if_false]
       |_=>cases h
      |_=>cases h
   |_=>cases h
 |_=>cases h
theorem P4 (hE:bX s e pe) (hS:bH s ps) {n:Option Nat} {m q x:cP} (h:gW e s z (.mapu n m q x) k ρ w=some y):dO s ps (aS pe ps z (.mapu n m q x)) k ρ w y:=by
 simp only [gW] at h;have hx:=bR hE m;generalize aZ e m=v at h hx;cases v with
 |mp t=>
  simp only [bD] at h;generalize hst:s[t]? =b at h;cases b with
  |none=>cases h
  |some b=>
   cases b with
   |set l=>
    obtain ⟨hz,h0⟩:=lH h;unfold PF at h0;have hv:=bR hE x;generalize aZ e x=u at h0 hv;cases u with
    |bool b=>
     cases b with
     |false=>cases h0
     |true=>
      obtain ⟨a,ha,h1⟩:=aV h0;obtain ⟨b,hb,hk⟩:=bJ h1;obtain ⟨k1,k2,k3,k4,k5⟩:=P3 (bR hE q) ha;unfold R7 at hb;cases hlk:qS a l with
      |false=>rw [hlk] at hb;cases hb
      |true=>
       rw [hlk] at hb;injection hb with hb;subst hb;obtain ⟨r,hr⟩:=wH k4 k5 (zF k5 (wI hlk)) 0;have hf:=yD k4 k5 l 0 r hr;refine ⟨_,_,?_,dQ.put0 hS (b:= .set (PB l a)) (q:= .map ((PB l a).map wC)) (rd:=[]) hst trivial rfl,hk⟩;show yV ps z n (m.ev pe) (q.ev pe) (x.ev pe)=_;rw [show m.ev pe=_ from hx,k1,show x.ev pe= .bool true from hv]
       have p2:(PV.bool true).storedPlain=some [.bool true]:=rfl;simp only [yV,hS.set_ hst,k2,hz,bz,bh,if_true,k3,p2,hr];cases r with
       |none=>simp only at hf;simp [PB,hf,wC]
       |some j=>
        obtain ⟨_,h2,h3⟩:=hf;have h5:l[j]? =some a:=by simpa using h3
        have:(l.map wC).set j (mE a,.bool true)=l.map wC:=by
         apply dn;intro i;rw [am];split
         · rename_i hij
           subst hij;have hlt:=(ae.1 h5).1;have h6:l[j]=a:=(ae.1 h5).2;simp [hlt,h6,wC]
         rfl
        simp [PB,h2,this]
    |_=>cases h0
   |tab p l=>
    obtain ⟨hz,h0⟩:=lH h;unfold PG at h0;cases n with
    |some _=>cases h0
    |none=>
     have hq:=bR hE q;generalize aZ e q=u at h0 hq;cases u with
     |int d a=>
      cases d with
      |i64=>
       obtain ⟨xv,hxv,hk⟩:=aV h0;have hval:=PT.of_R (bR hE x) hxv;refine ⟨_,_,?_,dQ.put0 hS (b:= .tab p (p.put l a xv)) (q:= .map ((p.put l a xv).map (zZ p))) (rd:=[]) hst trivial rfl,hk⟩;show yV ps z none (m.ev pe) (q.ev pe) (x.ev pe)=_;rw [show m.ev pe=_ from hx,show q.ev pe=_ from hq,hval];have p1:(PV.int .i64 a).storedPlain=some [.int .i64 a]:=rfl
       rcases B6 p a l with ⟨j,x,h1,_,_,h3⟩|⟨h1,_,h3⟩
       · simp only [yV,hS.tab_ hst,eY,hz,bz,bh,if_true,p1,PT.pv_plain,h1,h3,dl,zZ]
       simp only [yV,hS.tab_ hst,eY,hz,bz,bh,if_true,p1,PT.pv_plain,h1,h3,bu,be,dp,zZ]
      |_=>cases h0
     |_=>cases h0
   |_=>cases h
 |_=>cases h
theorem tJ.fr' {s s':List SB} {bad:List Nat} {t e:Nat} (h:tJ s t e) (hf:Fr bad s s'):tJ s' t e:=by
 rcases h with ⟨r,l,h1,h2⟩|h1|⟨cs,h1,h2⟩
 · rcases hf t _ h1 with ⟨l',k1,_,_⟩|k1
   · exact .inl ⟨r,l',k1,h2⟩
   exact .inr (.inl k1)
 · exact .inr (.inl (hf t _ h1))
 rcases hf t _ h1 with ⟨c2,k1⟩|k1
 · exact .inr (.inr ⟨c2,k1,h2⟩)
 exact .inr (.inl k1)
theorem uQ {α:Type} {l r:List α} (h:bC l=some r):r=l/\l.length<=1048576:=by
 unfold bC at h;split at h
 · injection h with h;exact ⟨h.symm,by assumption⟩
 cases h
theorem qX {α:Type} {l m r:List α} (h:bE l m=some r):r=l++m/\l.length+m.length<=1048576:=by
 unfold bE at h;split at h
 · injection h with h;exact ⟨h.symm,by assumption⟩
 cases h
theorem mN: ∀(m l:List iQ) (n:Nat),n+m.length<=l.length->fZ n m l=dP l n m
 | [],l,n,h=>by simp [fZ,dP]
 |a::m,l,n,h=>by
  simp only [ba] at h;rw [fZ,mN m (l.set n a) (n+1) (by simp;omega)]
  unfold dP;rw [List.take_set,List.drop_set];have hn:n<l.length:=by omega
  have h1: ¬(n+1+m.length<=n):=by omega
  rw [if_pos (by omega)]
  have:(l.take (n+1)).set n a=l.take n++[a]:=by
   rw [List.take_succ_eq_append_getElem hn,List.set_append_right _ _ (by simp;omega)]
   simp [db (dm hn)]
  rw [this];simp only [bg,da,List.nil_append,ba];rw [show n+1+m.length=n+(m.length+1) by omega]
theorem B7 {α β:Type} (f:α->β) (l m:List α) (n:Nat):(dP l n m).map f=dP (l.map f) n (m.map f):=by
 simp [dP,bm,cf]
theorem wJ {α:Type} (l m:List α) (n:Nat) (h:n+m.length<=l.length):(dP l n m).length=l.length:=by
 simp [dP];omega
theorem KD (hE:bX s e pe) (hS:bH s ps) {esz:Nat} {x yy:cP} (h:gW e s z (.append esz x yy) k ρ w=some y):dO s ps (aS pe ps z (.append esz x yy)) k ρ w y:=by
 simp only [gW] at h;have hx:=bR hE x;have hyv:=bR hE yy;unfold LC at h;generalize aZ e yy=vy at h hyv;cases hc:tG s vy with
 |none=>rw [hc] at h;cases h
 |some cc=>
  obtain ⟨q,m⟩:=cc;rw [hc] at h;dsimp only at h;obtain ⟨he,h⟩:=bK h;have he:=aa he;obtain ⟨hro,htk⟩:=LM hS hyv hc;rw [he] at hro;have pe_app:aS pe ps z (.append esz x yy)=eL ps z esz (x.ev pe) (yy.ev pe):=rfl;generalize aZ e x=v at h hx;cases v with
  |nil e' c=>
   dsimp only at h;obtain ⟨hcl,h⟩:=bK h;obtain ⟨m',hm',hk⟩:=bJ h;obtain ⟨rfl,hle⟩:=uQ hm';refine ⟨_,_,?_,dQ.new hS (b:= .arr q m') (q:= .arr esz (m'.map (RT.pv q))) (v:= .own s.length false) (p:= .own s.length esz 0 m'.length m'.length false) (rd:=oL vy) (by rw [<- he];rfl) ⟨esz,m'.length,rfl,.inl ⟨q,m',hM,he.symm,rfl⟩⟩,hk⟩
   rw [pe_app];have hcl':c=true:=hcl;subst hcl';rw [show x.ev pe= .sl e' true [] from hx];unfold eL;rw [hro];cases m' with
   |nil=>simp [hS.len,htk]
   |cons a m'=>
    have h2:ap ((a::m').length) gP=true:=by simp [gP] at hle ⊢;omega
    simp only [ba] at h2;simp [hS.len,htk,h2]
  |own t ex=>
   dsimp only at h;simp only [bD] at h;generalize hst:s[t]? =b at h;cases b with
   |none=>cases h
   |some b=>
    cases b with
    |arr r l=>
     dsimp only at h;cases hca:lN q r m with
     |none=>rw [hca] at h;cases h
     |some m2=>
      rw [hca] at h;dsimp only at h;obtain ⟨rfl,hmp,hml⟩:=wB hca;obtain ⟨e',n',hx,hat⟩:=hx;obtain ⟨rfl,rfl⟩:=hat.inv hst;rw [<- hmp] at hro;have harr:=hS.arr hst;cases ex with
      |true=>
       dsimp only at h;rcases cN h with ⟨hl,h⟩|⟨hl,h⟩
       · obtain ⟨m',hm',hk⟩:=bJ h
         obtain ⟨rfl,hle⟩:=uQ hm';have hl:l=[]:=by simpa using hl
         subst hl;refine ⟨_,_,?_,dQ.new hS (b:= .arr q m') (q:= .arr q.length (m'.map (RT.pv q))) (v:= .own s.length false) (p:= .own s.length q.length 0 m'.length m'.length false) (rd:=t::oL vy) rfl ⟨q.length,m'.length,rfl,.inl ⟨q,m',hM,rfl,rfl⟩⟩,hk⟩;rw [pe_app,hx];unfold eL;rw [hro];subst he;cases m' with
         |nil=>simp [hS.len,htk]
         |cons a m'=>
          have h2:ap ((a::m').length) gP=true:=by simp [gP] at hle ⊢;omega
          simp only [ba] at h2;simp [hS.len,htk,h2,harr]
       have hl:l≠[]:=by intro e;subst e;cases hl
       have hl0:l.length≠0:=by intro e;exact hl (ci.1 e)
       have hb0:aq l.length 0=false:=by
        cases hb:aq l.length 0 with
        |false=>rfl
        |true=>exact absurd (aa hb) hl0
       rcases cN h with ⟨hm,h⟩|⟨hm,h⟩
       · have hm:m2=[]:=by simpa using hm
         subst hm;refine dO.rd hS h ?_ ⟨_,_,rfl,hat⟩;rw [pe_app,hx];unfold eL;rw [hro];simp [hb0,htk]
       obtain ⟨l',hl',hk⟩:=bJ h
       obtain ⟨rfl,hle⟩:=qX hl';refine ⟨_,_,?_,dQ.new hS (b:= .arr q (l++m2)) (q:= .arr q.length ((l++m2).map (RT.pv q))) (v:= .own s.length false) (p:= .own s.length q.length 0 (l++m2).length (l++m2).length false) (rd:=t::oL vy) rfl ⟨q.length,(l++m2).length,rfl,.inl ⟨q,l++m2,hM,rfl,rfl⟩⟩,hk⟩;rw [pe_app,hx];unfold eL;rw [hro];subst he;cases m2 with
       |nil=>cases hm
       |cons a m2=>
        have h2:ap (l.length+(a::m2).length) gP=true:=by simp [gP] at hle ⊢;omega
        have h3:ap (l.length+(m2.length+1)) l.length=false:=by
         cases hb:ap (l.length+(m2.length+1)) l.length with
         |false=>rfl
         |true=>have:=au hb;omega
        simp only [ba] at h2;simp [hS.len,htk,h2,h3,harr,bn]
      |false=>
       dsimp only at h;rcases cN h with ⟨hm,h⟩|⟨hm,h⟩
       · have hm:m2=[]:=by simpa using hm
         subst hm;refine dO.rd hS h ?_ ⟨_,_,rfl,hat⟩;rw [pe_app,hx];unfold eL;rw [hro];simp [htk]
       obtain ⟨hz,h⟩:=lH h
       obtain ⟨l',hl',hk⟩:=bJ h;obtain ⟨rfl,hle⟩:=qX hl';have hlen:(xG [t] (s.set t .dead)).length=s.length:=by rw [oN];simp
       refine ⟨_,_,?_,dQ.put hS (b:= .dead) (q:= .dead) (l:=[.arr q (l++m2)]) (ql:=[.arr q.length ((l++m2).map (RT.pv q))]) (v:= .own s.length false) (p:= .own s.length q.length 0 (l++m2).length (l++m2).length false) (rd:=oL vy) hst (.inr rfl) rfl rfl
        (fun j b hj=>by
         cases j with
         |zero=>simp at hj;subst hj;exact ⟨_,rfl,rfl⟩
         |succ j=>simp at hj)
        ⟨q.length,(l++m2).length,rfl,.inl ⟨q,l++m2,by rw [<- hlen];exact hM,rfl,rfl⟩⟩,hk⟩
       rw [pe_app,hx];unfold eL;rw [hro];subst he;cases m2 with
       |nil=>cases hm
       |cons a m2=>
        have h2:ap (l.length+(a::m2).length) gP=true:=by simp [gP] at hle ⊢;omega
        have h3:ap (l.length+(m2.length+1)) l.length=false:=by
         cases hb:ap (l.length+(m2.length+1)) l.length with
         |false=>rfl
         |true=>have:=au hb;omega
        simp only [ba] at h2;simp [hS.len,htk,h2,h3,harr,hz,bn]
    |_=>cases h
  |pre t len cap ex=>
   dsimp only at h;simp only [bD] at h;generalize hst:s[t]? =b at h;cases b with
   |none=>cases h
   |some b=>
    cases b with
    |arr r l=>
     dsimp only at h;cases hca:lN q r m with
     |none=>rw [hca] at h;cases h
     |some m2=>
      rw [hca] at h;dsimp only at h;obtain ⟨rfl,hmp,hml⟩:=wB hca;obtain ⟨e',hx,hat⟩:=hx
      have:=hat.inv hst
      subst this;rw [<- hmp] at hro;have harr:=hS.arr hst;obtain ⟨hex,h⟩:=lH h;subst hex;rcases cN h with ⟨hm,h⟩|⟨hm,h⟩
      · have hm:m2=[]:=by simpa using hm
        subst hm;refine dO.rd hS h ?_ ⟨_,rfl,hat⟩;rw [pe_app,hx];unfold eL;rw [hro];simp [htk]
      rcases cN h with ⟨c1,h⟩|⟨c1,h⟩
      · obtain ⟨hc2,hk⟩:=eA h
        simp only [ac,az] at hc2;obtain ⟨c2,c3⟩:=hc2;have c2':=au c2
        refine ⟨_,_,?_,dQ.put hS (b:= .arr q (dP l len m2)) (q:= .arr q.length ((dP l len m2).map (RT.pv q))) (l:=[]) (ql:=[]) (v:= .pre t (len+m2.length) cap false) (p:= .own t q.length 0 (len+m2.length) cap false) (rd:=oL vy) hst (.inl ⟨_,rfl,wJ _ _ _ c2'⟩) rfl rfl
         (fun j b hj=>by simp at hj) ⟨q.length,rfl,?_⟩,hk⟩
        · rw [pe_app,hx]
          unfold eL;rw [hro];subst he;have hsr:fZ (0+len) (m2.map (RT.pv q)) (l.map (RT.pv q))=(dP l len m2).map (RT.pv q):=by
           rw [mN _ _ _ (by simp;omega),B7,cj]
          cases m2 with
          |nil=>cases hm
          |cons a m2=>
           simp only [ba] at c1;simp only [be] at hsr ⊢;simp only [harr,bi,dj,ar,if_false,ba,bd,c1,if_true,c3,hsr,htk]
        have:=tJ.fr' (s:=s) (s':=xG [t] (s.set t (.arr q (dP l len m2)))++[]) hat ((Fr.dg (ts:=[t]) (Fr.set hst (.inl ⟨_,rfl,wJ _ _ _ c2'⟩))).trans (Fr.app [t] _ []))
        exact this
      obtain ⟨hz0,h⟩:=lH h
      have hz:has z t=false:=by
       cases hh:has z t with
       |false=>rfl
       |true=>rw [hh] at hz0;cases hz0
      obtain ⟨l',hl',h⟩:=bJ h;obtain ⟨hll,hk⟩:=eA h;obtain ⟨hl'e,hle⟩:=qX hl';subst hl'e;have hll':=au hll;have htl:(l.take len).length=len:=by rw [bk];omega
      rw [htl] at hle;have hlen:(xG [t] (s.set t .dead)).length=s.length:=by rw [oN];simp
      have hal:(l.take len++m2).length=len+m2.length:=by rw [cw,htl]
      refine ⟨_,_,?_,dQ.put hS (b:= .dead) (q:= .dead) (l:=[.arr q (l.take len++m2)]) (ql:=[.arr q.length ((l.take len++m2).map (RT.pv q))]) (v:= .own s.length false) (p:= .own s.length q.length 0 (l.take len++m2).length (l.take len++m2).length false) (rd:=oL vy) hst (.inr rfl) rfl rfl
       (fun j b hj=>by
        cases j with
        |zero=>simp at hj;subst hj;exact ⟨_,rfl,rfl⟩
        |succ j=>simp at hj)
       ⟨q.length,(l.take len++m2).length,rfl,.inl ⟨q,l.take len++m2,by rw [<- hlen];exact hM,rfl,rfl⟩⟩,hk⟩
      rw [pe_app,hx];unfold eL;rw [hro];subst he;cases m2 with
      |nil=>cases hm
      |cons a m2=>
       have h2:ap (len+(m2.length+1)) gP=true:=by simp [gP] at hle ⊢;omega
       simp only [ba] at c1 hal;simp only [be,ba,bd,harr,bi,dj,ar,if_false,c1,h2,hz,hS.len,htk,hal,bw,bu,bm]
    |_=>cases h
  |_=>cases h
end
end Go.Vm
/- Operation by operation: all of them. -/
namespace Go.Vm
section
variable {R' ρ : Type} {w : R' -> ρ} {y : ρ} {s : List SB} {ps : bI} {e : SE} {pe : lZ} {z : List Nat} {k : dA -> dF R'}
theorem NV (hE:bX s e pe) (hS:bH s ps) {esz:Nat} {zero:iQ} {x:cP} (h:gW e s z (.clear esz zero x) k ρ w=some y):dO s ps (aS pe ps z (.clear esz zero x)) k ρ w y:=by
 simp only [gW] at h;have hx:=bR hE x;unfold PE at h;generalize aZ e x=v at h hx;cases v with
 |part t off len cap ex=>
  simp only [bD] at h;generalize hst:s[t]? =b at h;cases b with
  |none=>cases h
  |some b=>
   cases b with
   |arr r l=>
    dsimp only at h;cases hq:BN zero with
    |none=>rw [hq] at h;cases h
    |some q=>
     rw [hq] at h;dsimp only at h;obtain ⟨hc,h1⟩:=bK h;simp only [ac] at hc;obtain ⟨hqr,he⟩:=hc;have hqr:=nP hqr;have he:=aa he;obtain ⟨e',hx,hat⟩:=hx
     have:=hat.inv hst
     subst this;subst hqr;subst he;rcases cN h1 with ⟨hl,hk⟩|⟨hl,hk⟩
     · have hl:=aa hl
       subst hl;exact dO.val hS hk (by simp only [aS,hx]) rfl
     obtain ⟨hc2,hk⟩:=eA hk
     simp only [ac,az] at hc2;obtain ⟨c1,c2⟩:=hc2;have c1':=au c1;have hlen:=wJ l (bj len (RT.zero q)) off (by simpa using c1')
     refine ⟨_,_,?_,dQ.put0 hS (b:= .arr q (dP l off (bj len (RT.zero q)))) (q:= .arr q.length ((dP l off (bj len (RT.zero q))).map (RT.pv q))) (rd:=[]) hst (.inl ⟨_,rfl,hlen⟩) rfl,hk⟩;cases len with
     |zero=>cases hl
     |succ len=>
      have hsr:fZ off (bj (len+1) zero) (l.map (RT.pv q))=(dP l off (bj (len+1) (RT.zero q))).map (RT.pv q):=by
       rw [B7,mN _ _ _ (by simpa using c1')]
       simp [wG hq]
      simp only [aS,hx,hS.arr hst,bi,c2,bz,bh,if_true,hsr]
   |_=>cases h
 |_=>cases h
theorem uR (hS:bH s ps) {t off len cap:Nat} {ex:Bool} {r:List PT} {l:List (RT r)} {x yy:cP} {vy:SV} (hst:s[t]? =some (.arr r l)) (hx:x.ev pe= .own t r.length off len cap ex) (hyv:R s vy (yy.ev pe))
 (h:BO s z t r l off len vy k ρ w=some y):dO s ps (aS pe ps z (.copy r.length x yy)) k ρ w y:=by
 unfold BO at h;cases hc:tG s vy with
 |none=>rw [hc] at h;cases h
 |some cc=>
  obtain ⟨q,m⟩:=cc;rw [hc] at h;dsimp only at h;cases hca:lN q r m with
  |none=>rw [hca] at h;cases h
  |some m2=>
   rw [hca] at h;dsimp only at h;obtain ⟨hqr,hmp,hml⟩:=wB hca;subst hqr;obtain ⟨hro,htk⟩:=LM hS hyv hc;rw [<- hmp] at hro;have htake:(m2.map (RT.pv q)).take len=(m2.take len).map (RT.pv q):=by rw [bm]
   generalize m2.take len=mm at h htake;rcases cN h with ⟨hm,hk⟩|⟨hm,hk⟩
   · have hm:mm=[]:=by simpa using hm
     subst hm;refine dO.rd hS hk ?_ rfl;simp only [aS,hro,hx,htake,dp,htk]
   obtain ⟨hc2,hk⟩:=eA hk
   simp only [ac,az] at hc2;obtain ⟨c1,c2⟩:=hc2;have c1':=au c1;have hlen:=wJ l mm off c1'
   refine ⟨_,_,?_,dQ.put hS (b:= .arr q (dP l off mm)) (q:= .arr q.length ((dP l off mm).map (RT.pv q))) (l:=[]) (ql:=[]) (v:= .int .i64 (.ofNat mm.length)) (p:= .int .i64 (.ofNat mm.length)) (rd:=oL vy) hst (.inl ⟨_,rfl,hlen⟩) rfl rfl (fun j b hj=>by simp at hj) rfl,hk⟩
   have hsr:fZ off (mm.map (RT.pv q)) (l.map (RT.pv q))=(dP l off mm).map (RT.pv q):=by
    rw [B7,mN _ _ _ (by simpa using c1')]
   cases mm with
   |nil=>cases hm
   |cons a mm=>
    simp only [be] at hsr htake;simp only [aS,hro,hx,htake,hS.arr hst,bi,c2,bz,bh,if_true,hsr,htk,bd,ba]
theorem P5 (hE:bX s e pe) (hS:bH s ps) {esz:Nat} {x yy:cP} (h:gW e s z (.copy esz x yy) k ρ w=some y):dO s ps (aS pe ps z (.copy esz x yy)) k ρ w y:=by
 simp only [gW] at h;have hx:=bR hE x;have hyv:=bR hE yy;unfold aBS at h;generalize aZ e yy=vy at h hyv;generalize aZ e x=v at h hx;cases v with
 |own t ex=>
  simp only [bD] at h;generalize hst:s[t]? =b at h;cases b with
  |none=>cases h
  |some b=>
   cases b with
   |arr r l=>
    obtain ⟨he,hk⟩:=bK h;have he:=aa he;subst he;obtain ⟨e',n',hx,hat⟩:=hx;obtain ⟨rfl,rfl⟩:=hat.inv hst;exact uR hS hst hx hyv hk
   |_=>cases h
 |pre t len cap ex=>
  simp only [bD] at h;generalize hst:s[t]? =b at h;cases b with
  |none=>cases h
  |some b=>
   cases b with
   |arr r l=>
    obtain ⟨he,hk⟩:=bK h;have he:=aa he;subst he;obtain ⟨e',hx,hat⟩:=hx
    have:=hat.inv hst
    subst this;exact uR hS hst hx hyv hk
   |_=>cases h
 |part t off len cap ex=>
  simp only [bD] at h;generalize hst:s[t]? =b at h;cases b with
  |none=>cases h
  |some b=>
   cases b with
   |arr r l=>
    obtain ⟨he,hk⟩:=bK h;have he:=aa he;subst he;obtain ⟨e',hx,hat⟩:=hx
    have:=hat.inv hst
    subst this;exact uR hS hst hx hyv hk
   |_=>cases h
 |_=>cases h
theorem NW (hE:bX s e pe) (hS:bH s ps) {x1 x2:cP} (h:gW e s z (.mkbox x1 x2) k ρ w=some y):dO s ps (aS pe ps z (.mkbox x1 x2)) k ρ w y:=by
 simp only [gW] at h;have hx:=bR hE x1;have hy:=bR hE x2;generalize aZ e x1=v at h hx;generalize aZ e x2=u at h hy;cases v with
 |sl r l=>
  cases u with
  |sl q m=>
   have hx:x1.ev pe= .sl r.length false (l.map (RT.pv r)):=hx;have hy:x2.ev pe= .sl q.length false (m.map (RT.pv q)):=hy
   refine ⟨_,_,?_,dQ.new hS (b:= .box [.sl r l,.sl q m]) (q:= .box [.sl r.length false (l.map (RT.pv r)),.sl q.length false (m.map (RT.pv q))]) (v:= .part s.length 0 2 2 true) (p:= .own s.length 1 0 2 2 true) (rd:=[]) ⟨_,rfl,_,_,rfl,rfl,_,_,rfl,rfl,rfl⟩ ⟨1,rfl,.inr (.inr ⟨_,hM,rfl⟩)⟩,h⟩;simp only [aS,hx,hy,hS.len];rfl
  |_=>cases h
 |_=>cases h
theorem SX (hE:bX s e pe) (hS:bH s ps) {op:fX} (h:gW e s z op k ρ w=some y):dO s ps (aS pe ps z op) k ρ w y:=by
 cases op with
 |mov x=>exact dO.val hS h rfl (bR hE x)
 |pick c a b=>exact PZ hE hS h
 |bin op a b=>exact SJ hE hS h
 |binb n a b=>exact PS hE hS h
 |eqc n g a b=>exact SK hE hS h
 |un op a=>exact aCn hE hS h
 |conv a x=>exact PW hE hS h
 |len x=>exact SL hE hS h
 |lenc n=>exact dO.val hS h rfl rfl
 |box x=>exact SM hE hS h
 |alloc c=>exact NR hS h
 |build z p=>exact NQ hE hS h
 |mkrow a b c d=>exact NU hE hS h
 |mkbox a b=>exact NW hE hS h
 |load a p=>exact P2 hE hS h
 |store a p x=>exact NT hE hS h
 |nilc x=>exact PX hE hS h
 |fadr o x=>exact PY hE hS h
 |fld a o x=>exact SN hE hS h
 |iadr a x i=>exact P0 hE hS h
 |iadra n a x i=>exact NS hE hS h
 |idx n a g x i=>exact SS hE hS h
 |sidx x i=>exact P1 hE hS h
 |slc a x l h' m=>exact ST hE hS h
 |mks a z l c=>exact SW hE hS h
 |mkf f a b=>exact SP hE hS h
 |mkm m=>exact SQ hS h
 |lookup n z o m q=>exact KC hE hS h
 |mapu n m q x=>exact P4 hE hS h
 |ext i x=>exact SO hE hS h
 |append a x b=>exact KD hE hS h
 |copy a x b=>exact P5 hE hS h
 |clear a z x=>exact NV hE hS h
 |mm m x xs=>exact aCo hE hS h
 |call m f a=>cases h
 |callv x a=>cases h
 |bad=>cases h
mutual
theorem aGW {bx:Nat->Option (List SV)} {pbx:Nat->Option (List PV)} (hS:bH s ps) (hb: ∀t l,bx t=some l-> ∃q,pbx t=some q/\pvL l=some q): ∀{v u:SV} {p:PV},R s v p->D7 s bx v=some u-> ∃q,xI ps pbx p=some q/\lO u=some q
 | .int k n,u,p,h,hx=>by injection hx with hx;subst hx;rw [show p=_ from h];exact ⟨_,rfl,rfl⟩
 | .bool b,u,p,h,hx=>by injection hx with hx;subst hx;rw [show p=_ from h];exact ⟨_,rfl,rfl⟩
 | .str x,u,p,h,hx=>by injection hx with hx;subst hx;rw [show p=_ from h];exact ⟨_,rfl,rfl⟩
 | .nilf,u,p,h,hx=>by injection hx with hx;subst hx;rw [show p=_ from h];exact ⟨_,rfl,rfl⟩
 | .agg cs,u,p,h,hx=>by
  obtain ⟨q,rfl,h⟩:=h;simp only [D7] at hx;split at hx
  · rename_i l hl
    injection hx with hx;subst hx;obtain ⟨q',h1,h2⟩:=exVL_R hS hb h hl;exact ⟨.agg q',by simp only [xI,h1];rfl,by simp only [lO,h2]⟩
  cases hx
 | .tup cs,u,p,h,hx=>by
  obtain ⟨q,rfl,h⟩:=h;simp only [D7] at hx;split at hx
  · rename_i l hl
    injection hx with hx;subst hx;obtain ⟨q',h1,h2⟩:=exVL_R hS hb h hl;exact ⟨.tup q',by simp only [xI,h1];rfl,by simp only [lO,h2]⟩
  cases hx
 | .sl r l,u,p,h,hx=>by injection hx with hx;subst hx;rw [show p=_ from h];exact ⟨_,rfl,rfl⟩
 | .nil e c,u,p,h,hx=>by injection hx with hx;subst hx;rw [show p=_ from h];exact ⟨_,rfl,rfl⟩
 | .own t ex,u,p,h,hx=>by
  simp only [D7,bD] at hx;split at hx
  · rename_i r l hst
    injection hx with hx;subst hx;obtain ⟨e,n,rfl,hat⟩:=h;obtain ⟨rfl,rfl⟩:=hat.inv hst;refine ⟨.sl r.length false (l.map (RT.pv r)),?_,rfl⟩;simp only [xI,hS.arr hst,bw];rw [bn (by simp)]
  cases hx
 | .pre t len cap ex,u,p,h,hx=>by
  simp only [D7,bD] at hx;split at hx
  · rename_i r l hst
    injection hx with hx;subst hx;obtain ⟨e,rfl,hat⟩:=h
    have:=hat.inv hst
    subst this;refine ⟨.sl r.length false ((l.take len).map (RT.pv r)),?_,rfl⟩;simp only [xI,hS.arr hst,bw,bm]
  cases hx
 | .part t off len cap ex,u,p,h,hx=>by
  simp only [D7,bD] at hx;split at hx
  · rename_i r l hst
    injection hx with hx;subst hx;obtain ⟨e,rfl,hat⟩:=h
    have:=hat.inv hst
    subst this;refine ⟨.sl r.length false (((l.drop off).take len).map (RT.pv r)),?_,rfl⟩;simp only [xI,hS.arr hst,bm,cf]
  cases hx
 | .pa t r i a off,u,p,h,hx=>by
  simp only [D7,bD] at hx;split at hx
  · rename_i q l hst
    injection hx with hx;subst hx;obtain ⟨rfl,hat⟩:=h;obtain ⟨rfl,hg⟩:=hat.inv hst;obtain ⟨m,rfl,hm⟩:=iM hg;refine ⟨.rptr (RT.pv r a) off,?_,by simp only [lO,RT.pv_sv]⟩
    have hm':(l.map (RT.pv r))[m]? =some (RT.pv r a):=by simp [hm]
    have e1:(bv m).toNat=m:=rfl;simp only [xI,hS.arr hst,e1,hm'];rfl
  cases hx
 | .bp t n off,u,p,h,hx=>by
  simp only [D7,bD] at hx;split at hx
  · rename_i cs hst
    split at hx
    · rename_i l hl
      injection hx with hx;subst hx;rw [show p=_ from h];obtain ⟨q,h1,h2⟩:=hb t l hl;obtain ⟨c,h3,_⟩:=hS.box hst;refine ⟨.rptr q off,?_,by simp only [lO,h2]⟩
      simp only [xI,h3,bi,if_true,h1];rfl
    cases hx
  cases hx
 | .rptr cs off,u,p,h,hx=>by
  obtain ⟨q,rfl,h⟩:=h;simp only [D7] at hx;split at hx
  · rename_i l hl
    injection hx with hx;subst hx;obtain ⟨q',h1,h2⟩:=exVL_R hS hb h hl;exact ⟨.rptr q' off,by simp only [xI,h1];rfl,by simp only [lO,h2]⟩
  cases hx
 | .clo f a b,u,p,h,hx=>by
  obtain ⟨pa,pb,rfl,h1,h2⟩:=h;simp only [D7] at hx;split at hx
  · rename_i x y' h3 h4
    injection hx with hx;subst hx;obtain ⟨qa,h5,h6⟩:=exVL_R hS hb h1 h3;obtain ⟨qb,h7,h8⟩:=exVL_R hS hb h2 h4;exact ⟨.clo f qa qb,by simp only [xI,h5,h7],by simp only [lO,h6,h8]⟩
  cases hx
 | .junk,_,_,_,hx| .undef,_,_,_,hx| .nul,_,_,_,hx| .pb _ _ _,_,_,_,hx| .mp _,_,_,_,hx=>by cases hx
theorem exVL_R {bx:Nat->Option (List SV)} {pbx:Nat->Option (List PV)} (hS:bH s ps) (hb: ∀t l,bx t=some l-> ∃q,pbx t=some q/\pvL l=some q): ∀{v u:List SV} {p:List PV},RL s v p->exVL s bx v=some u-> ∃q,exL ps pbx p=some q/\pvL u=some q
 | [],u,p,h,hx=>by injection hx with hx;subst hx;rw [show p=_ from h];exact ⟨_,rfl,rfl⟩
 |x::xs,u,p,h,hx=>by
  obtain ⟨q,qs,rfl,h1,h2⟩:=h.cons_inv;simp only [exVL] at hx;split at hx
  · rename_i y' ys h3 h4
    injection hx with hx;subst hx;obtain ⟨a,h5,h6⟩:=aGW hS hb h1 h3;obtain ⟨as,h7,h8⟩:=exVL_R hS hb h2 h4;exact ⟨a::as,by simp only [exL,h5,h7],cB.2 ⟨a,as,rfl,h6,h8⟩⟩
  cases hx
end
theorem AM (hS:bH s ps): ∀(n t:Nat) (l:List SV),fS s n t=some l-> ∃q,sM ps n t=some q/\pvL l=some q
 |0,t,l,h=>by cases h
 |n+1,t,l,h=>by
  simp only [fS,bD] at h;split at h
  · rename_i cs hst
    obtain ⟨q,h1,h2⟩:=hS.box hst;obtain ⟨u,h3,h4⟩:=exVL_R hS (AM hS n) h2 h;exact ⟨u,by simp only [sM,h1,h3],h4⟩
  cases h
mutual
theorem P6 {bx pbx:Nat->List Nat} (hb: ∀t,bx t=pbx t): ∀{v:SV} {p:PV},R s v p->v.sure=true->J3 bx v=eR pbx p
 | .junk,_,_,h=>by cases h
 | .undef,p,h,_| .nul,p,h,_| .nilf,p,h,_| .int _ _,p,h,_| .bool _,p,h,_| .str _,p,h,_| .sl _ _,p,h,_| .nil _ _,p,h,_=>by rw [show p=_ from h];rfl
 | .agg cs,p,h,hs=>by obtain ⟨q,rfl,h⟩:=h;exact tkVL_R hb h hs
 | .tup cs,p,h,hs=>by obtain ⟨q,rfl,h⟩:=h;exact tkVL_R hb h hs
 | .own t ex,p,h,_=>by obtain ⟨e,n,rfl,_⟩:=h;rfl
 | .pre t a b c,p,h,_=>by obtain ⟨e,rfl,_⟩:=h;rfl
 | .part t o a b c,p,h,_=>by obtain ⟨e,rfl,_⟩:=h;rfl
 | .pa t r i a o,p,h,_=>by obtain ⟨rfl,_⟩:=h;simp only [J3,eR,hb]
 | .pb t i o,p,h,_=>by obtain ⟨e,rfl,_⟩:=h;simp only [J3,eR,hb]
 | .bp t n o,p,h,_=>by rw [show p=_ from h];simp only [J3,eR,hb]
 | .rptr cs o,p,h,hs=>by obtain ⟨q,rfl,h⟩:=h;exact tkVL_R hb h hs
 | .mp t,p,h,_=>by rw [show p=_ from h];rfl
 | .clo f a b,p,h,hs=>by
  obtain ⟨pa,pb,rfl,h1,h2⟩:=h;simp only [SV.sure,ac] at hs;simp only [J3,eR,tkVL_R hb h1 hs.1,tkVL_R hb h2 hs.2]
theorem tkVL_R {bx pbx:Nat->List Nat} (hb: ∀t,bx t=pbx t): ∀{v:List SV} {p:List PV},RL s v p->sureL v=true->tkVL bx v=toksL pbx p
 | [],p,h,_=>by rw [show p=_ from h];rfl
 |x::xs,p,h,hs=>by
  obtain ⟨q,qs,rfl,h1,h2⟩:=h.cons_inv;simp only [sureL,ac] at hs;simp only [tkVL,toksL,P6 hb h1 hs.1,tkVL_R hb h2 hs.2]
end
end
end Go.Vm
/- The head of a loop: what the typed machine keeps there, the logical machine keeps there. -/
namespace Go.Vm
section
variable {s : List SB} {ps : bI}
mutual
theorem aGX {n:Nat} (hS:bH s ps) (hB: ∀t l,fS s n t=some l->qB s n t=bN ps n t): ∀{v u:SV} {p:PV},R s v p->D7 s (fS s n) v=some u->J3 (qB s n) v=eR (bN ps n) p
 | .int _ _,_,p,h,_| .bool _,_,p,h,_| .str _,_,p,h,_| .nilf,_,p,h,_| .sl _ _,_,p,h,_| .nil _ _,_,p,h,_=>by rw [show p=_ from h];rfl
 | .agg cs,u,p,h,hx=>by
  obtain ⟨q,rfl,h⟩:=h;simp only [D7] at hx;split at hx
  · rename_i l hl;exact tkExL hS hB h hl
  cases hx
 | .tup cs,u,p,h,hx=>by
  obtain ⟨q,rfl,h⟩:=h;simp only [D7] at hx;split at hx
  · rename_i l hl;exact tkExL hS hB h hl
  cases hx
 | .own t ex,_,p,h,_=>by obtain ⟨e,n,rfl,_⟩:=h;rfl
 | .pre t a b c,_,p,h,_=>by obtain ⟨e,rfl,_⟩:=h;rfl
 | .part t o a b c,_,p,h,_=>by obtain ⟨e,rfl,_⟩:=h;rfl
 | .pa t r i a o,_,p,h,hx=>by
  obtain ⟨rfl,hat⟩:=h;simp only [D7,bD] at hx;split at hx
  · rename_i q l hst
    simp only [J3,eR];cases n with
    |zero=>rfl
    |succ n=>simp only [qB,bN,bD,hst,hS.arr hst]
  cases hx
 | .bp t m o,u,p,h,hx=>by
  rw [show p=_ from h];simp only [D7,bD] at hx;split at hx
  · split at hx
    · rename_i l hl
      simp only [J3,eR,hB t l hl]
    cases hx
  cases hx
 | .rptr cs o,u,p,h,hx=>by
  obtain ⟨q,rfl,h⟩:=h;simp only [D7] at hx;split at hx
  · rename_i l hl;exact tkExL hS hB h hl
  cases hx
 | .clo f a b,u,p,h,hx=>by
  obtain ⟨pa,pb,rfl,h1,h2⟩:=h;simp only [D7] at hx;split at hx
  · rename_i x y h3 h4
    simp only [J3,eR,tkExL hS hB h1 h3,tkExL hS hB h2 h4]
  cases hx
 | .junk,_,_,_,hx| .undef,_,_,_,hx| .nul,_,_,_,hx| .pb _ _ _,_,_,_,hx| .mp _,_,_,_,hx=>by cases hx
theorem tkExL {n:Nat} (hS:bH s ps) (hB: ∀t l,fS s n t=some l->qB s n t=bN ps n t): ∀{v u:List SV} {p:List PV},RL s v p->exVL s (fS s n) v=some u->tkVL (qB s n) v=toksL (bN ps n) p
 | [],_,p,h,_=>by rw [show p=_ from h];rfl
 |x::xs,u,p,h,hx=>by
  obtain ⟨q,qs,rfl,h1,h2⟩:=h.cons_inv;simp only [exVL] at hx;split at hx
  · rename_i a b h3 h4
    simp only [tkVL,toksL,aGX hS hB h1 h3,tkExL hS hB h2 h4]
  cases hx
end
theorem P7 {n:Nat} (hS:bH s ps) (hB: ∀t l,fS s n t=some l->qB s n t=bN ps n t): ∀{v:List SV} {p:List PV},RL s v p->J2 s (fS s n) v=true->tkVL (qB s n) v=toksL (bN ps n) p
 | [],p,h,_=>by rw [show p=[] from h];rfl
 |x::xs,p,h,hx=>by
  obtain ⟨a,as,rfl,h1,h2⟩:=h.cons_inv;have other: ∀u,D7 s (fS s n) x=some u->J2 s (fS s n) xs=true->tkVL (qB s n) (x::xs)=toksL (bN ps n) (a::as):=fun u h3 h4=>by
   simp only [tkVL,toksL,aGX hS hB h1 h3,P7 hS hB h2 h4]
  unfold J2 at hx;split at hx
  · rename_i t
    rw [show a= .mp t from h1];simp only [tkVL,toksL,J3,eR,P7 hS hB h2 hx]
  split at hx
  · rename_i u h3
    exact other u h3 hx
  cases hx
theorem B8 (hS:bH s ps): ∀(n t:Nat) (l:List SV),fS s n t=some l->qB s n t=bN ps n t
 |0,t,l,h=>rfl
 |n+1,t,l,h=>by
  simp only [fS,bD] at h;split at h
  · rename_i cs hst
    obtain ⟨q,h1,h2⟩:=hS.box hst;simp only [qB,bN,bD,hst,h1];exact tkExL hS (B8 hS n) h2 h
  cases h
theorem FV {b:SB} {q:fV} (h:RB s b q) (hs:sF b=true):BP b=kW q:=by
 cases b with
 |box cs=>obtain ⟨c,rfl,h⟩:=h;exact tkVL_R (fun _=>rfl) h hs
 |arr r l=>rw [show q=_ from h];rfl
 |set l=>rw [show q=_ from h];rfl
 |tab p l=>rw [show q=_ from h];rfl
 |dead=>rw [show q=_ from h];rfl
theorem B9 (hS:bH s ps): ∀(n:Nat) (ts seen m:List Nat),yA s n ts seen=some m->vJ ps n ts seen=some m
 |n,[],seen,m,h=>by
  cases n<;>(simp only [yA] at h;exact h)
 |0,_::_,_,_,h=>by cases h
 |n+1,t::ts,seen,m,h=>by
  simp only [yA,bD] at h;simp only [vJ];cases hh:has seen t with
  |true=>rw [hh] at h;simp only [cond_true] at h;simp only [if_true];exact B9 hS n ts seen m h
  |false=>
   rw [hh] at h;simp only [cond_false] at h;simp only [ar,if_false];split at h
   · rename_i b hst
     obtain ⟨q,h1,h2⟩:=hS.at_ t b hst;cases hb:sF b with
     |false=>rw [hb] at h;cases h
     |true=>
      rw [hb] at h;simp only [cond_true] at h;rw [h1,FV h2 hb] at*;exact B9 hS n _ _ m h
   cases h
theorem CA: ∀{t u:Nat} {m:List Nat},kA t m=some u->m[u]? =some t
 |t,u,[],h=>by cases h
 |t,u,x::m,h=>by
  simp only [kA] at h;cases hb:aq x t with
  |true=>rw [hb] at h;simp at h;subst h;simp [aa hb]
  |false=>
   rw [hb] at h;simp only [ar,if_false,bl] at h;obtain ⟨v,hv,rfl⟩:=h;simpa using CA hv
def CB (m:List Nat) (s s':List SB):Prop:= ∀(t u:Nat) (b:SB),kA t m=some u->s[t]? =some b->match b with
 | .arr r l=>s'[u]? =some (.arr r l)
 | .dead=>s'[u]? =some .dead
 | .box _=> ∃cs,s'[u]? =some (.box cs)
 |_=>True
mutual
theorem P8 {m:List Nat} {s':List SB} (hr:CB m s s'): ∀{v u:SV} {p:PV},R s v p->kH m v=some u-> ∃q,vK m p=some q/\R s' u q
 | .junk,_,_,_,hx=>by cases hx
 | .undef,u,p,h,hx| .nul,u,p,h,hx| .nilf,u,p,h,hx| .int _ _,u,p,h,hx| .bool _,u,p,h,hx| .str _,u,p,h,hx| .sl _ _,u,p,h,hx| .nil _ _,u,p,h,hx=>by
  injection hx with hx;subst hx;rw [show p=_ from h];exact ⟨_,rfl,rfl⟩
 | .agg cs,u,p,h,hx=>by
  obtain ⟨q,rfl,h⟩:=h;simp only [kH] at hx;split at hx
  · rename_i l hl
    injection hx with hx;subst hx;obtain ⟨q',h1,h2⟩:=renVL_R hr h hl;exact ⟨.agg q',by simp only [vK,h1];rfl,q',rfl,h2⟩
  cases hx
 | .tup cs,u,p,h,hx=>by
  obtain ⟨q,rfl,h⟩:=h;simp only [kH] at hx;split at hx
  · rename_i l hl
    injection hx with hx;subst hx;obtain ⟨q',h1,h2⟩:=renVL_R hr h hl;exact ⟨.tup q',by simp only [vK,h1];rfl,q',rfl,h2⟩
  cases hx
 | .own t ex,u,p,h,hx=>by
  obtain ⟨e,n,rfl,hat⟩:=h;simp only [kH] at hx;split at hx
  · rename_i v hv
    injection hx with hx;subst hx;refine ⟨.own v e 0 n n ex,by simp only [vK,hv];rfl,e,n,rfl,?_⟩
    rcases hat with ⟨r,l,h1,h2,h3⟩|h1
    · exact .inl ⟨r,l,hr t v _ hv h1,h2,h3⟩
    exact .inr (hr t v _ hv h1)
  cases hx
 | .pre t len cap ex,u,p,h,hx=>by
  obtain ⟨e,rfl,hat⟩:=h;simp only [kH] at hx;split at hx
  · rename_i v hv
    injection hx with hx;subst hx;refine ⟨.own v e 0 len cap ex,by simp only [vK,hv];rfl,e,rfl,?_⟩
    rcases hat with ⟨r,l,h1,h2⟩|h1|⟨cs,h1,h2⟩
    · exact .inl ⟨r,l,hr t v _ hv h1,h2⟩
    · exact .inr (.inl (hr t v _ hv h1))
    obtain ⟨c2,h3⟩:=hr t v _ hv h1
    exact .inr (.inr ⟨c2,h3,h2⟩)
  cases hx
 | .part t off len cap ex,u,p,h,hx=>by
  obtain ⟨e,rfl,hat⟩:=h;simp only [kH] at hx;split at hx
  · rename_i v hv
    injection hx with hx;subst hx;refine ⟨.own v e off len cap ex,by simp only [vK,hv];rfl,e,rfl,?_⟩
    rcases hat with ⟨r,l,h1,h2⟩|h1|⟨cs,h1,h2⟩
    · exact .inl ⟨r,l,hr t v _ hv h1,h2⟩
    · exact .inr (.inl (hr t v _ hv h1))
    obtain ⟨c2,h3⟩:=hr t v _ hv h1
    exact .inr (.inr ⟨c2,h3,h2⟩)
  cases hx
 | .pa t r i a off,u,p,h,hx=>by
  obtain ⟨rfl,hat⟩:=h;simp only [kH] at hx;split at hx
  · rename_i v hv
    injection hx with hx;subst hx;refine ⟨.ptr v r.length i.toNat off,by simp only [vK,hv];rfl,r.length,rfl,?_⟩
    rcases hat with ⟨l,h1,h2⟩|h1
    · exact .inl ⟨r,l,hr t v _ hv h1,by rw [h2];rfl⟩
    exact .inr (hr t v _ hv h1)
  cases hx
 | .pb t i off,u,p,h,hx=>by
  obtain ⟨e,rfl,hat⟩:=h;simp only [kH] at hx;split at hx
  · rename_i v hv
    injection hx with hx;subst hx;refine ⟨.ptr v e i.toNat off,by simp only [vK,hv];rfl,e,rfl,?_⟩
    rcases hat with ⟨r,l,h1,h2⟩|h1
    · exact .inl ⟨r,l,hr t v _ hv h1,h2⟩
    exact .inr (hr t v _ hv h1)
  cases hx
 | .bp t n off,u,p,h,hx=>by
  rw [show p=_ from h];simp only [kH] at hx;split at hx
  · rename_i v hv
    injection hx with hx;subst hx;exact ⟨.ptr v n 0 off,by simp only [vK,hv];rfl,rfl⟩
  cases hx
 | .rptr cs off,u,p,h,hx=>by
  obtain ⟨q,rfl,h⟩:=h;simp only [kH] at hx;split at hx
  · rename_i l hl
    injection hx with hx;subst hx;obtain ⟨q',h1,h2⟩:=renVL_R hr h hl;exact ⟨.rptr q' off,by simp only [vK,h1];rfl,q',rfl,h2⟩
  cases hx
 | .mp t,u,p,h,hx=>by
  rw [show p=_ from h];simp only [kH] at hx;split at hx
  · rename_i v hv
    injection hx with hx;subst hx;exact ⟨.mp v,by simp only [vK,hv];rfl,rfl⟩
  cases hx
 | .clo f a b,u,p,h,hx=>by
  obtain ⟨pa,pb,rfl,h1,h2⟩:=h;simp only [kH] at hx;split at hx
  · rename_i x y h3 h4
    injection hx with hx;subst hx;obtain ⟨qa,h5,h6⟩:=renVL_R hr h1 h3;obtain ⟨qb,h7,h8⟩:=renVL_R hr h2 h4;exact ⟨.clo f qa qb,by simp only [vK,h5,h7],qa,qb,rfl,h6,h8⟩
  cases hx
theorem renVL_R {m:List Nat} {s':List SB} (hr:CB m s s'): ∀{v u:List SV} {p:List PV},RL s v p->renVL m v=some u-> ∃q,renL m p=some q/\RL s' u q
 | [],u,p,h,hx=>by injection hx with hx;subst hx;rw [show p=_ from h];exact ⟨_,rfl,rfl⟩
 |x::xs,u,p,h,hx=>by
  obtain ⟨q,qs,rfl,h1,h2⟩:=h.cons_inv;simp only [renVL] at hx;split at hx
  · rename_i a b h3 h4
    injection hx with hx;subst hx;obtain ⟨a',h5,h6⟩:=P8 hr h1 h3;obtain ⟨b',h7,h8⟩:=renVL_R hr h2 h4;exact ⟨a'::b',by simp only [renL,h5,h7],RL.cons h6 h8⟩
  cases hx
end
theorem aCp {m:List Nat} {s':List SB} (hr:CB m s s') {b c:SB} {q:fV} (h:RB s b q) (hx:J4 m b=some c): ∃q',iU m q=some q'/\RB s' c q':=by
 cases b with
 |box cs=>
  obtain ⟨p,rfl,h⟩:=h;simp only [J4] at hx;split at hx
  · rename_i l hl
    injection hx with hx;subst hx;obtain ⟨q',h1,h2⟩:=renVL_R hr h hl;exact ⟨.box q',by simp only [iU,h1];rfl,q',rfl,h2⟩
  cases hx
 |arr r l=>injection hx with hx;subst hx;rw [show q=_ from h];exact ⟨_,rfl,rfl⟩
 |set l=>injection hx with hx;subst hx;rw [show q=_ from h];exact ⟨_,rfl,rfl⟩
 |tab p l=>injection hx with hx;subst hx;rw [show q=_ from h];exact ⟨_,rfl,rfl⟩
 |dead=>injection hx with hx;subst hx;rw [show q=_ from h];exact ⟨_,rfl,rfl⟩
theorem qY {m:List Nat}: ∀{ts:List Nat} {s1:List SB},DO s m ts=some s1->s1.length=ts.length/\ ∀(j t:Nat),ts[j]? =some t-> ∃b c,s[t]? =some b/\J4 m b=some c/\s1[j]? =some c
 | [],s1,h=>by injection h with h;subst h;exact ⟨rfl,fun j t h=>by simp at h⟩
 |t::ts,s1,h=>by
  simp only [DO,bD] at h;split at h
  · rename_i b hb
    split at h
    · rename_i c r hc hr
      injection h with h;subst h;obtain ⟨h1,h2⟩:=qY hr;refine ⟨by simp [h1],fun j u hj=>?_⟩
      cases j with
      |zero=>simp at hj;subst hj;exact ⟨b,c,hb,hc,rfl⟩
      |succ j=>simpa using h2 j u (by simpa using hj)
    cases h
  cases h
theorem yE (hS:bH s ps) {m:List Nat} {s':List SB} (hr:CB m s s'): ∀{ts:List Nat} {s1:List SB},DO s m ts=some s1-> ∃p1,qE ps m ts=some p1/\p1.length=s1.length/\ ∀(j:Nat) (b:SB),s1[j]? =some b-> ∃q,p1[j]? =some q/\RB s' b q
 | [],s1,h=>by injection h with h;subst h;exact ⟨[],rfl,rfl,fun j b h=>by simp at h⟩
 |t::ts,s1,h=>by
  simp only [DO,bD] at h;split at h
  · rename_i b hb
    split at h
    · rename_i c r hc hr'
      injection h with h;subst h;obtain ⟨q,h1,h2⟩:=hS.at_ t b hb;obtain ⟨q',h3,h4⟩:=aCp hr h2 hc;obtain ⟨p1,h5,h6,h7⟩:=yE hS hr hr';refine ⟨q'::p1,by simp only [qE,h1,h3,h5],by simp [h6],fun j x hj=>?_⟩
      cases j with
      |zero=>simp at hj;subst hj;exact ⟨q',rfl,h4⟩
      |succ j=>simpa using h7 j x (by simpa using hj)
    cases h
  cases h
theorem CB.of {m:List Nat} {s1 l:List SB} (h:DO s m m=some s1):CB m s (s1++l):=fun t u b hu hb=>by
 have hm:=CA hu;obtain ⟨h1,h2⟩:=qY h;obtain ⟨b',c,h3,h4,h5⟩:=h2 u t hm;rw [hb] at h3;injection h3 with h3;subst h3;have hlt:=(ae.1 h5).1;cases b with
 |arr r l'=>injection h4 with h4;subst h4;rw [af hlt];exact h5
 |dead=>injection h4 with h4;subst h4;rw [af hlt];exact h5
 |box cs=>
  simp only [J4] at h4;split at h4
  · injection h4 with h4;subst h4;exact ⟨_,by rw [af hlt];exact h5⟩
  cases h4
 |_=>trivial
theorem nR: ∀(rk:List (Nat×List PT)) (n:Nat),(pU rk n).length=n
 | [],n=>by simp [pU]
 |(m,r)::q,n=>by
  simp only [pU];cases hc:(aq m n&&aq r.length n) with
  |true=>simp only [ac] at hc;exact aa hc.2
  |false=>exact nR q n
theorem yF {rk:List (Nat×List PT)} {e:SE} {m:List Nat}: ∀{live:List (Nat×Option Nat)} {nx:Nat} {e1:SE} {s2:List SB},pV rk e m nx live=some (e1,s2)-> ∀(j:Nat) (b:SB),s2[j]? =some b-> ∃r,b= .arr r []
 | [],nx,e1,s2,h,j,b,hj=>by
  simp only [pV,ah,ay] at h;rw [<- h.2] at hj;simp at hj
 |(t,k)::live,nx,e1,s2,h,j,b,hj=>by
  simp only [pV] at h;split at h
  · split at h
    · rename_i p hp
      simp only [ah,ay] at h;obtain ⟨rfl,rfl⟩:=h;cases j with
      |zero=>simp at hj;exact ⟨_,hj.symm⟩
      |succ j=>exact yF (e1:=p.1) (s2:=p.2) hp j b (by simpa using hj)
    cases h
  split at h
  · rename_i v' p hv hp
    simp only [ah,ay] at h;obtain ⟨rfl,rfl⟩:=h;exact yF (e1:=p.1) (s2:=p.2) hp j b hj
  cases h
mutual
theorem yG {m:List Nat}: ∀{v u:SV},kH m v=some u->u.sure=true
 | .junk,_,h=>by cases h
 | .undef,u,h| .nul,u,h| .nilf,u,h| .int _ _,u,h| .bool _,u,h| .str _,u,h| .sl _ _,u,h| .nil _ _,u,h=>by injection h with h;subst h;rfl
 | .agg cs,u,h=>by
  simp only [kH] at h;split at h
  · rename_i l hl;injection h with h;subst h;exact renVL_sure hl
  cases h
 | .tup cs,u,h=>by
  simp only [kH] at h;split at h
  · rename_i l hl;injection h with h;subst h;exact renVL_sure hl
  cases h
 | .rptr cs _,u,h=>by
  simp only [kH] at h;split at h
  · rename_i l hl;injection h with h;subst h;exact renVL_sure hl
  cases h
 | .own _ _,u,h=>by simp only [kH] at h;split at h<;>first|(injection h with h;subst h;rfl)|cases h
 | .pre _ _ _ _,u,h=>by simp only [kH] at h;split at h<;>first|(injection h with h;subst h;rfl)|cases h
 | .part _ _ _ _ _,u,h=>by simp only [kH] at h;split at h<;>first|(injection h with h;subst h;rfl)|cases h
 | .pa _ _ _ _ _,u,h=>by simp only [kH] at h;split at h<;>first|(injection h with h;subst h;rfl)|cases h
 | .pb _ _ _,u,h=>by simp only [kH] at h;split at h<;>first|(injection h with h;subst h;rfl)|cases h
 | .bp _ _ _,u,h=>by simp only [kH] at h;split at h<;>first|(injection h with h;subst h;rfl)|cases h
 | .mp _,u,h=>by simp only [kH] at h;split at h<;>first|(injection h with h;subst h;rfl)|cases h
 | .clo f a b,u,h=>by
  simp only [kH] at h;split at h
  · rename_i x y h1 h2
    injection h with h;subst h;simp only [SV.sure,renVL_sure h1,renVL_sure h2,bh]
  cases h
theorem renVL_sure {m:List Nat}: ∀{v u:List SV},renVL m v=some u->sureL u=true
 | [],u,h=>by injection h with h;subst h;rfl
 |x::xs,u,h=>by
  simp only [renVL] at h;split at h
  · rename_i a b h1 h2
    injection h with h;subst h;simp only [sureL,yG h1,renVL_sure h2,bh]
  cases h
end
theorem SY {s:List SB} {v:SV} {p:PV} (h:R s v p): ∀k:Option Nat,v.sure=true->R s (FO k v) (exOff k p)
 |none,_=>h
 |some _,hs=>by
  cases v with
  |own t ex=>obtain ⟨e,n,rfl,h⟩:=h;exact ⟨e,n,rfl,h⟩
  |pre t l c ex=>obtain ⟨e,rfl,h⟩:=h;exact ⟨e,rfl,h⟩
  |part t o l c ex=>obtain ⟨e,rfl,h⟩:=h;exact ⟨e,rfl,h⟩
  |junk=>cases hs
  |undef|nul|nilf|int _ _|bool _|str _|bp _ _ _|mp _|sl _ _|nil _ _=>rw [show p=_ from h];rfl
  |agg _|tup _|rptr _ _=>obtain ⟨q,rfl,h⟩:=h;exact ⟨q,rfl,h⟩
  |clo _ _ _=>obtain ⟨q,q2,rfl,h⟩:=h;exact ⟨q,q2,rfl,h⟩
  |pa _ _ _ _ _=>obtain ⟨rfl,h⟩:=h;exact ⟨rfl,h⟩
  |pb _ _ _=>obtain ⟨q,rfl,h⟩:=h;exact ⟨q,rfl,h⟩
theorem KE {v:SV} (h:v.sure=true) (k:Option Nat):(FO k v).sure=true:=by
 unfold FO;split<;>first|rfl|exact h
theorem FW {rk:List (Nat×List PT)} {e:SE} {pe:lZ} (hE:bX s e pe) {m:List Nat} {s':List SB} (hr:CB m s s'): ∀{live:List (Nat×Option Nat)} {nx:Nat} {e1:SE} {s2:List SB},pV rk e m nx live=some (e1,s2)->(∀(j:Nat) (b:SB),s2[j]? =some b->s'[nx+j]? =some b)->
 ∃p1 q2,kX pe m nx live=some (p1,q2)/\bX s' e1 p1/\q2.length=s2.length/\ ∀(j:Nat) (b:SB),s2[j]? =some b-> ∃q,q2[j]? =some q/\RB s' b q
 | [],nx,e1,s2,h,_=>by
  simp only [pV,ah,ay] at h;obtain ⟨rfl,rfl⟩:=h;exact ⟨[],[],rfl,rfl,rfl,fun j b h=>by simp at h⟩
 |(t,k)::live,nx,e1,s2,h,hs=>by
  have hlk:=hE.lk t;simp only [pV] at h;split at h
  · rename_i kk esz en hv
    split at h
    · rename_i p hp
      simp only [ah,ay] at h;obtain ⟨rfl,rfl⟩:=h;rw [hv] at hlk;obtain ⟨p1,q2,h1,h2,h3,h4⟩:=FW (live:=live) (nx:=nx+1) (e1:=p.1) (s2:=p.2) hE hr hp (fun j b hj=>by
       have:=hs (j+1) b (by simpa using hj)
       rw [show nx+1+j=nx+(j+1) by omega];exact this)
      refine ⟨(t,.own nx esz 0 0 0 false)::p1,.arr esz []::q2,?_,⟨_,_,rfl,⟨esz,0,rfl,.inl ⟨pU rk esz,[],by simpa using hs 0 _ rfl,(nR rk esz).symm,rfl⟩⟩,h2⟩,by simp [h3],fun j b hj=>?_⟩
      · have hlk':lk t pe= .sl en true []:=hlk
        simp only [kX,hlk',h1];rfl
      cases j with
      |zero=>simp at hj;subst hj;exact ⟨_,rfl,by show _=_;rw [nR];rfl⟩
      |succ j=>simpa using h4 j b (by simpa using hj)
    cases h
  rename_i hne
  split at h
  · rename_i v' p hv hp
    simp only [ah,ay] at h;obtain ⟨rfl,rfl⟩:=h;obtain ⟨q',h5,h6⟩:=P8 hr hlk hv;obtain ⟨p1,q2,h1,h2,h3,h4⟩:=FW (live:=live) (e1:=p.1) (s2:=p.2) hE hr hp hs;refine ⟨(t,exOff _ q')::p1,q2,?_,⟨_,_,rfl,SY h6 _ (yG hv),h2⟩,h3,h4⟩;simp only [kX];split
    · rename_i esz x hx
      exfalso;rw [hx] at hlk;generalize DL t e=v0 at hlk hv hne;cases v0 with
      |junk=>cases hv
      |nil e' c=>
       have hlk':PV.sl x true []= .sl e' c []:=hlk;injection hlk' with h1 h2;subst h2;exact hne _ _ rfl rfl
      |undef|nul|nilf|int _ _|bool _|str _|bp _ _ _|mp _=>cases (show PV.sl x true []=_ from hlk)
      |sl r l=>cases (show PV.sl x true []=_ from hlk)
      |agg _|tup _|rptr _ _=>obtain ⟨q,hq,_⟩:=hlk;cases hq
      |clo _ _ _=>obtain ⟨q,q2,hq,_⟩:=hlk;cases hq
      |own _ _=>obtain ⟨q,q2,hq,_⟩:=hlk;cases hq
      |pre _ _ _ _=>obtain ⟨q,hq,_⟩:=hlk;cases hq
      |part _ _ _ _ _=>obtain ⟨q,hq,_⟩:=hlk;cases hq
      |pa _ _ _ _ _=>obtain ⟨hq,_⟩:=hlk;cases hq
      |pb _ _ _=>obtain ⟨q,hq,_⟩:=hlk;cases hq
    simp only [h5,h1]
  cases h
def aBY (s:List SB):Prop:= ∀(t:Nat) (cs:List SV),s[t]? =some (.box cs)->sureL cs=true
def EE:SE->Prop
 | []=>True
 |(_,v)::r=>v.sure=true/\EE r
theorem EE.lk: ∀{e:SE},EE e-> ∀t,(DL t e).sure=true
 | [],_,t=>rfl
 |(u,v)::r,h,t=>by
  simp only [DL];cases hb:aq u t with
  |true=>exact h.1
  |false=>exact EE.lk h.2 t
theorem uT {rk:List (Nat×List PT)} {e:SE} {m:List Nat}: ∀{live:List (Nat×Option Nat)} {nx:Nat} {e1:SE} {s2:List SB},pV rk e m nx live=some (e1,s2)->EE e1
 | [],nx,e1,s2,h=>by
  simp only [pV,ah,ay] at h;rw [<- h.1];trivial
 |(t,k)::live,nx,e1,s2,h=>by
  simp only [pV] at h;split at h
  · split at h
    · rename_i p hp
      simp only [ah,ay] at h;obtain ⟨rfl,rfl⟩:=h;exact ⟨rfl,uT (e1:=p.1) (s2:=p.2) hp⟩
    cases h
  split at h
  · rename_i v' p hv hp
    simp only [ah,ay] at h;obtain ⟨rfl,rfl⟩:=h;exact ⟨KE (yG hv) _,uT (e1:=p.1) (s2:=p.2) hp⟩
  cases h
theorem EF: ∀{l:List SV},sureL l=true-> ∀{n:Nat} {v:SV},nth l n=some v->v.sure=true
 | [],_,_,_,h=>by cases h
 |x::xs,hs,0,v,h=>by injection h with h;subst h;simp only [sureL,ac] at hs;exact hs.1
 |x::xs,hs,n+1,v,h=>by simp only [sureL,ac] at hs;exact EF hs.2 (n:=n) h
theorem EG: ∀{l:List SV},sureL l=true-> ∀(n:Nat) {v:SV},v.sure=true->sureL (l.set n v)=true
 | [],_,n,v,_=>rfl
 |x::xs,hs,0,v,h=>by simp only [sureL,ac] at hs;simp [sureL,h,hs.2]
 |x::xs,hs,n+1,v,h=>by simp only [sureL,ac] at hs;simp [sureL,hs.1,EG hs.2 n h]
theorem RL.set {s:List SB}: ∀{xs:List SV} {ps:List PV},RL s xs ps-> ∀(n:Nat) {v:SV} {p:PV},R s v p->RL s (xs.set n v) (ps.set n p)
 | [],ps,h,n,v,p,_=>by rw [show ps=[] from h];exact RL.nil
 |x::xs,ps,h,0,v,p,hv=>by
  obtain ⟨a,q,rfl,h1,h2⟩:=h.cons_inv;exact RL.cons hv h2
 |x::xs,ps,h,n+1,v,p,hv=>by
  obtain ⟨a,q,rfl,h1,h2⟩:=h.cons_inv;exact RL.cons h1 (RL.set h2 n hv)
structure SZ (st:kG) (p:St):Prop where
 r:tK st p
 s:aBY st.sto
 e:EE st.env
theorem KF {rk:List (Nat×List PT)} {st:kG} {p:St} (h:SZ st p) (t c esz:Nat):SZ (BQ rk st t c esz) (kY p t c esz):=by
 unfold BQ kY;rw [bD];cases hst:st.sto[t]? with
 |none=>
  have:p.sto[t]? =none:=by
   rw [ce] at hst ⊢;rw [h.r.sto.len];exact hst
  rw [this];exact h
 |some b=>
  obtain ⟨q,h1,h2⟩:=h.r.sto.at_ t b hst;rw [h1];cases b with
  |arr r l=>rw [show q=_ from h2];exact h
  |set l=>rw [show q=_ from h2];exact h
  |tab p l=>rw [show q=_ from h2];exact h
  |dead=>rw [show q=_ from h2];exact h
  |box cs=>
   obtain ⟨pc,rfl,h3⟩:=h2;dsimp only;cases hc:nth cs c with
   |none=>
    have:pc[c]? =none:=by
     rw [bD,ce] at hc;rw [ce,h3.length];exact hc
    rw [this];exact h
   |some v=>
    obtain ⟨pv,h4,h5⟩:=h3.nth hc;rw [h4];have hsure:=EF (h.s t cs hst) hc;have hcs:=h.s t cs hst;have other:(∀e,pv≠ .sl e true [])->(∀e,v≠ .nil e true)->SZ (match some v with
     |some (.nil _ true)=>{st with sto:=st.sto.set t (.box (cs.set c (.own st.sto.length false)))++[.arr (pU rk esz) []]}
     |_=>st) (match some pv with
     |some (.sl _ true [])=>{p with sto:=p.sto.set t (.box (pc.set c (.own p.sto.length esz 0 0 0 false)))++[.arr esz []]}
     |_=>p):=by
     intro n1 n2;split
     · rename_i e he;injection he with he;exact absurd he (n2 e)
     split
     · rename_i e he;injection he with he;exact absurd he (n1 e)
     exact h
    cases v with
    |junk=>cases hsure
    |nil e' cl=>
     have h5':pv= .sl e' cl []:=h5;subst h5';cases cl with
     |false=>exact other (fun e he=>by cases he) (fun e he=>by cases he)
     |true=>
      dsimp only;have hlt:=(ae.1 hst).1;have hfr:Fr [] st.sto (st.sto.set t (.box (cs.set c (.own st.sto.length false)))++[.arr (pU rk esz) []]):=fun u x hu=>by
       by_cases hut:t=u
       · subst hut;rw [hst] at hu;injection hu with hu;subst hu;exact .inl ⟨_,by rw [af (by simpa using hlt),am];simp [hlt];rfl⟩
       have hul:=(ae.1 hu).1
       have:(st.sto.set t (.box (cs.set c (.own st.sto.length false)))++[.arr (pU rk esz) []])[u]? =some x:=by
        rw [af (by simpa using hul),am];simp [hut,hu]
       cases x with
       |arr r l=>exact .inl ⟨l,this,rfl,fun _=>rfl⟩
       |dead=>exact this
       |box c2=>exact .inl ⟨c2,this⟩
       |_=>trivial
      have hlen:(st.sto.set t (.box (cs.set c (.own st.sto.length false)))).length=st.sto.length:=by simp
      have hown:R (st.sto.set t (.box (cs.set c (.own st.sto.length false)))++[.arr (pU rk esz) []]) (.own st.sto.length false) (.own p.sto.length esz 0 0 0 false):=by
       refine ⟨esz,0,by rw [h.r.sto.len],.inl ⟨pU rk esz,[],?_,(nR rk esz).symm,rfl⟩⟩
       rw [ag (by simp)];simp
      refine ⟨⟨bX.ext hfr h.r.env,⟨by simp [h.r.sto.len],fun u x hu=>?_⟩,h.r.fz,h.r.kn⟩,fun u x hu=>?_,h.e⟩
      · rcases cd u st.sto.length with hul|hul
        · rw [af (by simpa using hul),am] at hu
          by_cases hut:t=u
          · subst hut
            simp [hlt] at hu;subst hu;refine ⟨.box (pc.set c (.own p.sto.length esz 0 0 0 false)),?_,_,rfl,RL.set (RL.ext hfr h3) c hown⟩;rw [af (by simp [h.r.sto.len,hul]),am]
            simp [h.r.sto.len,hul]
          simp [hut] at hu
          obtain ⟨q,h6,h7⟩:=h.r.sto.at_ u x hu;refine ⟨q,?_,h7.ext hfr⟩;rw [af (by simp [h.r.sto.len,hul]),am]
          simp [hut,h6]
        rw [ag (by simpa using hul)] at hu
        simp only [hlen] at hu;have hu0:u-st.sto.length=0:=by
         rcases Nat.eq_zero_or_pos (u-st.sto.length) with h|h
         · exact h
         rw [List.getElem?_eq_none (by simp;omega)] at hu;cases hu
        rw [hu0] at hu;simp at hu;subst hu;refine ⟨.arr esz [],?_,by show _=_;rw [nR];rfl⟩
        rw [ag (by simp [h.r.sto.len];omega)]
        simp [h.r.sto.len,hu0]
      rcases cd u st.sto.length with hul|hul
      · rw [af (by simpa using hul),am] at hu
        by_cases hut:t=u
        · subst hut
          simp [hlt] at hu;subst hu;exact EG hcs c rfl
        simp [hut] at hu;exact h.s u x hu
      rw [ag (by simpa using hul)] at hu
      cases hj:u- (st.sto.set t (.box (cs.set c (.own st.sto.length false)))).length with
      |zero=>rw [hj] at hu;simp at hu
      |succ j=>rw [hj] at hu;simp at hu
    |undef|nul|nilf|int _ _|bool _|str _|bp _ _ _|mp _=>exact other (fun e he=>by rw [show pv=_ from h5] at he;cases he) (fun e he=>by cases he)
    |sl r l=>exact other (fun e he=>by rw [show pv=_ from h5] at he;cases he) (fun e he=>by cases he)
    |agg _|tup _|rptr _ _=>exact other (fun e he=>by obtain ⟨q,hq,_⟩:=h5;rw [hq] at he;cases he) (fun e he=>by cases he)
    |clo _ _ _=>exact other (fun e he=>by obtain ⟨q,q2,hq,_⟩:=h5;rw [hq] at he;cases he) (fun e he=>by cases he)
    |own _ _=>exact other (fun e he=>by obtain ⟨q,q2,hq,_⟩:=h5;rw [hq] at he;cases he) (fun e he=>by cases he)
    |pre _ _ _ _|part _ _ _ _ _|pb _ _ _=>exact other (fun e he=>by obtain ⟨q,hq,_⟩:=h5;rw [hq] at he;cases he) (fun e he=>by cases he)
    |pa _ _ _ _ _=>exact other (fun e he=>by obtain ⟨hq,_⟩:=h5;rw [hq] at he;cases he) (fun e he=>by cases he)
theorem FX {p:St} {t c esz:Nat} (h: ∀cs,p.sto[t]?≠some (.box cs)):kY p t c esz=p:=by
 unfold kY;split
 · rename_i cs hcs;exact absurd hcs (h cs)
 rfl
theorem P9 {st:kG} {p:St} (h:SZ st p) {v:SV} {q:PV} (hv:R st.sto v q) (hs:v≠ .junk):(∃t,PI v=some t/\AT q=some t)\/(PI v=none/\ ∀t,AT q=some t-> ∀cs,p.sto[t]?≠some (.box cs)):=by
 cases v with
 |junk=>exact absurd rfl hs
 |bp u m off=>
  have hq:q= .ptr u m 0 off:=hv;subst hq;cases off with
  |zero=>exact .inl ⟨u,rfl,rfl⟩
  |succ off=>exact .inr ⟨rfl,fun t ht=>by cases ht⟩
 |pb u i off=>
  obtain ⟨e',hq,hat⟩:=hv;subst hq;refine .inr ⟨rfl,fun t ht cs hcs=>?_⟩
  have:t=u:=by
   unfold AT at ht;split at ht
   · rename_i heq;injection heq with e1;injection ht with ht;rw [<- ht,e1]
   cases ht
  subst this;rcases hat with ⟨r,l,h1,_⟩|h1
  · rw [h.r.sto.arr h1] at hcs;cases hcs
  obtain ⟨q,h2,h3⟩:=h.r.sto.at_ t _ h1
  rw [hcs] at h2;injection h2 with h2;subst h2;cases (show fV.box cs= .dead from h3)
 |pa u r i a off=>
  obtain ⟨hq,hat⟩:=hv;subst hq;refine .inr ⟨rfl,fun t ht cs hcs=>?_⟩
  have:t=u:=by
   unfold AT at ht;split at ht
   · rename_i heq;injection heq with e1;injection ht with ht;rw [<- ht,e1]
   cases ht
  subst this;rcases hat with ⟨l,h1,_⟩|h1
  · rw [h.r.sto.arr h1] at hcs;cases hcs
  obtain ⟨q,h2,h3⟩:=h.r.sto.at_ t _ h1
  rw [hcs] at h2;injection h2 with h2;subst h2;cases (show fV.box cs= .dead from h3)
 |undef|nul|nilf|int _ _|bool _|str _|mp _|sl _ _|nil _ _=>exact .inr ⟨rfl,fun t ht=>by rw [show q=_ from hv] at ht;cases ht⟩
 |agg _|tup _|rptr _ _=>exact .inr ⟨rfl,fun t ht=>by obtain ⟨_,rfl,_⟩:=hv;cases ht⟩
 |clo _ _ _=>exact .inr ⟨rfl,fun t ht=>by obtain ⟨_,_,rfl,_⟩:=hv;cases ht⟩
 |own _ _=>exact .inr ⟨rfl,fun t ht=>by obtain ⟨_,_,rfl,_⟩:=hv;cases ht⟩
 |pre _ _ _ _|part _ _ _ _ _=>exact .inr ⟨rfl,fun t ht=>by obtain ⟨_,rfl,_⟩:=hv;cases ht⟩
theorem aCq {st:kG} {p:St} (h:SZ st p) {v:SV} {q:PV} (hv:R st.sto v q) (hs:v.sure=true):(∃t,SC v=some t/\GN q=some t)\/(SC v=none/\ ∀t,GN q=some t-> ∀cs,p.sto[t]?≠some (.box cs)):=by
 have hj:v≠ .junk:=fun e=>by subst e;cases hs
 by_cases hc: ∃f a b,v= .clo f a b
 · obtain ⟨f,a,b,rfl⟩:=hc
   obtain ⟨pa,pb,rfl,h1,h2⟩:=hv;cases b with
   |nil=>
    have:pb=[]:=h2
    subst this;exact .inr ⟨rfl,fun t ht=>by cases ht⟩
   |cons y ys=>
    obtain ⟨z,zs,rfl,g1,g2⟩:=h2;exact P9 h g1 (fun e=>by subst e;simp [SV.sure,sureL] at hs)
 have e1:SC v=PI v:=by
  cases v with
  |clo f a b=>exact absurd ⟨f,a,b,rfl⟩ hc
  |_=>rfl
 have e2:GN q=AT q:=by
  cases q with
  |clo f a b=>
   exfalso;cases v with
   |junk=>exact hj rfl
   |clo f a b=>exact hc ⟨f,a,b,rfl⟩
   |bp _ _ _|undef|nul|nilf|int _ _|bool _|str _|mp _|sl _ _|nil _ _=>cases (show PV.clo f a b=_ from hv)
   |agg _|tup _|rptr _ _|pre _ _ _ _|part _ _ _ _ _|pb _ _ _=>obtain ⟨_,hq,_⟩:=hv;cases hq
   |own _ _=>obtain ⟨_,_,hq,_⟩:=hv;cases hq
   |pa _ _ _ _ _=>obtain ⟨hq,_⟩:=hv;cases hq
  |_=>rfl
 rw [e1,e2];exact P9 h hv hj
theorem iN {rk:List (Nat×List PT)}: ∀(live:List (Nat×Option Nat)) {st:kG} {p:St},SZ st p->SZ (gQ rk live st) (fP live p)
 | [],st,p,h=>h
 |(t,k)::live,st,p,h=>by
  cases k with
  |none=>simp only [gQ,fP];exact iN live h
  |some n=>
   simp only [gQ,fP];cases hn:ap 1000 n with
   |false=>simp only [cond_false,ar,if_false];exact iN live h
   |true=>
    simp only [cond_true,if_true];have hlk:=h.r.env.lk t;have hsu:=h.e.lk t;rcases aCq h hlk hsu with ⟨u,e1,e2⟩|⟨e1,e2⟩
    · rw [e1,e2]
      exact iN live (KF h u _ _)
    rw [e1]
    cases hb:GN (lk t p.env) with
    |none=>exact iN live h
    |some u=>
     show SZ (gQ rk live st) (fP live (kY p u (n / 1000-1) (n%1000)));rw [FX (e2 u hb)];exact iN live h
theorem HU {e:SE} {pe:lZ} (hE:bX s e pe): ∀{live:List (Nat×Option Nat)},vY e live=true->BS e live=live.flatMap fun p=>eR mA (lk p.1 pe)
 | [],_=>rfl
 |(t,k)::live,h=>by
  simp only [vY,ac] at h;simp only [BS,dq,HU hE h.2];rw [P6 (fun _=>rfl) (hE.lk t) h.1]
theorem QA: ∀{s':List SB} {s:List SB} {ps:bI} (n:Nat),(ps.length=s.length/\ ∀(t:Nat) (b:SB),s[t]? =some b-> ∃q,ps[t]? =some q/\RB s' b q)->BT s n=true->J5 s n=(ps.take n).flatMap kW
 |s',[],ps,n,h,_=>by
  have:ps=[]:=ci.1 (by simpa using h.1)
  subst this;cases n<;>simp [J5]
 |s',b::s,ps,0,h,_=>by simp [J5]
 |s',b::s,ps,n+1,h,hk=>by
  cases ps with
  |nil=>have:=h.1;simp at this
  |cons q ps=>
   simp only [BT,ac] at hk;obtain ⟨q',h1,h2⟩:=h.2 0 b rfl;simp at h1;subst h1;simp only [J5,dh,dq,FV h2 hk.1];rw [QA (s':=s') (ps:=ps) n ⟨by simpa using h.1,fun t x hx=>by simpa using h.2 (t+1) x (by simpa using hx)⟩ hk.2]
theorem LQ {s:List SB} {v:SV} {p:PV} (h:R s v p):R s (D8 s v) p:=by
 unfold D8;split
 · rename_i t ex
   rw [bD];split
   · rename_i r l hst
     obtain ⟨e,n,rfl,hat⟩:=h;obtain ⟨rfl,rfl⟩:=hat.inv hst;exact ⟨r.length,rfl,.inl ⟨r,l,hst,rfl⟩⟩
   exact h
 exact h
theorem LR {s:List SB} (c:Nat): ∀{e:SE} {p:lZ},bX s e p->bX s (LF s c e) p
 | [],_,h=>h
 |(t,v)::r,_,h=>by
  obtain ⟨q,qs,rfl,h1,h2⟩:=h;simp only [LF];cases hb:aq t c with
  |true=>exact ⟨q,qs,rfl,LQ h1,h2⟩
  |false=>exact ⟨q,qs,rfl,h1,LR c h2⟩
theorem yH: ∀(live:List (Nat×Option Nat)) {st:kG} {p:St},tK st p->tK (vX live st) p
 | [],st,p,h=>h
 |(t,k)::r,st,p,h=>by
  simp only [vX];cases hn:ap 1000000 t with
  |true=>exact yH r ⟨LR _ h.env,h.sto,h.fz,h.kn⟩
  |false=>exact yH r h
theorem HV {rk:List (Nat×List PT)} {live:List (Nat×Option Nat)} {st st1:kG} {p:St} (h:tK st p) (hn:BU rk live st=some st1): ∃p1,AU live p=some p1/\tK st1 p1:=by
 unfold BU at hn;cases hc:(vY st.env live&&BT st.sto st.kn) with
 |false=>rw [hc] at hn;cases hn
 |true=>
  rw [hc] at hn;simp only [cond_true] at hn;simp only [ac] at hc;split at hn
  · cases hn
  rename_i m hm
  split at hn
  · rename_i s1 e1 s2 h1 h2
    injection hn with hn;subst hn;have ht:J5 st.sto st.kn++BS st.env live=(p.sto.take p.kn).flatMap kW++live.flatMap fun q=>eR mA (lk q.1 p.env):=by
     rw [HU h.env hc.1,QA (s':=st.sto) st.kn ⟨h.sto.len,h.sto.at_⟩ hc.2,h.kn]
    rw [ht] at hm;have hm':=B9 h.sto _ _ _ _ hm;have hr:CB m st.sto (s1++s2):=CB.of h1;obtain ⟨p1,a1,a2,a3⟩:=yE h.sto hr h1;have hlen:s1.length=m.length:=(qY h1).1;obtain ⟨pe1,q2,b1,b2,b3,b4⟩:=FW h.env hr h2 (fun j b hj=>by rw [<- hlen,ag (by omega)];simpa using hj)
    have hsto:bH (s1++s2) (p1++q2):=⟨by simp [a2,b3],fun t b ht=>by
     rcases cd t s1.length with hl|hl
     · rw [af hl] at ht
       obtain ⟨q,c1,c2⟩:=a3 t b ht;exact ⟨q,by rw [af (by omega)];exact c1,c2⟩
     rw [ag hl] at ht
     obtain ⟨q,c1,c2⟩:=b4 _ b ht;exact ⟨q,by rw [ag (by omega),a2];exact c1,c2⟩⟩
    have hs:aBY (s1++s2):=fun t cs ht=>by
     rcases cd t s1.length with hl|hl
     · rw [af hl] at ht
       obtain ⟨b,c,d1,d2,d3⟩:=(qY h1).2 t (m[t]'(by omega)) (aj (by omega))
       rw [ht] at d3;injection d3 with d3;subst d3;cases b with
       |box x=>
        simp only [J4] at d2;split at d2
        · rename_i l hl';injection d2 with d2;injection d2 with d2;subst d2;exact renVL_sure hl'
        cases d2
       |arr _ _=>injection d2 with d2;cases d2
       |set _=>injection d2 with d2;cases d2
       |tab _ _=>injection d2 with d2;cases d2
       |dead=>injection d2 with d2;cases d2
     rw [ag hl] at ht
     obtain ⟨r,hr'⟩:=yF h2 _ _ ht;cases hr'
    have hR:SZ {env:=e1,sto:=s1++s2,fz:=qF st.fz 0 m,kn:=st.kn} {env:=pe1,sto:=p1++q2,fz:=qF p.fz 0 m,kn:=p.kn}:=
     ⟨⟨b2,hsto,by rw [h.fz],h.kn⟩,hs,uT h2⟩
    refine ⟨_,?_,yH live (iN live hR).r⟩;unfold AU;rw [h.kn] at hm';rw [h.kn];rw [hm'];dsimp only;rw [a1,b1]
  cases hn
theorem LS {rk:List (Nat×List PT)} {live:List (Nat×Option Nat)} {st st1:kG} {p:St} (h:tK st p) (hn:BV rk live st=some st1): ∃p1,zX live p=some p1/\tK st1 p1:=by
 unfold BV at hn;cases h1:BU rk live st with
 |none=>rw [h1] at hn;cases hn
 |some s=>
  rw [h1] at hn;dsimp only at hn;obtain ⟨p1,h2,h3⟩:=HV h h1;unfold zX;rw [h2];dsimp only;cases ha:(live.any fun p=>p.2.isSome) with
  |true=>
   rw [ha] at hn;simp only [cond_true] at hn;rw [if_pos rfl];exact HV h3 hn
  |false=>
   rw [ha] at hn;injection hn with hn;subst hn;exact ⟨p1,by rw [if_neg (by simp)],h3⟩
mutual
theorem AN: ∀{a b:SV} (q:List qD),pX a b=true->mD a (yB b++q)=(b,q)
 | .undef,.undef,q,_=>rfl
 | .nul,.nul,q,_=>rfl
 | .nilf,.nilf,q,_=>rfl
 | .int k _,.int l n,q,h=>by rw [cS.1 h];rfl
 | .bool _,.bool _,q,_=>rfl
 | .agg a,.agg b,q,h=>by simp only [mD,yB,put_atsL q h]
 | .tup a,.tup b,q,h=>by simp only [mD,yB,put_atsL q h]
 | .sl r _,.sl r' l,q,h=>rfl
 | .nil e c,.nil f d,q,h=>by
  simp only [pX,ac,beq_iff_eq] at h;rw [aa h.1,h.2];rfl
 | .own t x,.own u y,q,h=>by
  simp only [pX,ac,beq_iff_eq] at h;rw [aa h.1,h.2];rfl
 | .pre t _ _ x,.pre u _ _ y,q,h=>by
  simp only [pX,ac,beq_iff_eq] at h;rw [aa h.1,h.2];rfl
 | .part t _ _ _ x,.part u _ _ _ y,q,h=>by
  simp only [pX,ac,beq_iff_eq] at h;rw [aa h.1,h.2];rfl
 | .pb t _ o,.pb u _ p,q,h=>by
  simp only [pX,ac] at h;rw [aa h.1,aa h.2];rfl
 | .bp t n o,.bp u m p,q,h=>by
  simp only [pX,ac] at h;rw [aa h.1.1,aa h.1.2,aa h.2];rfl
 | .rptr a o,.rptr b p,q,h=>by
  simp only [pX,ac] at h;simp only [mD,yB,put_atsL q h.1,aa h.2]
 | .clo f a b,.clo g c d,q,h=>by
  simp only [pX,ac] at h;simp only [mD,yB,bg,put_atsL _ h.1.2,put_atsL q h.2,aa h.1.1]
 | .mp t,.mp u,q,h=>by rw [aa h];rfl
theorem put_atsL: ∀{a b:List SV} (q:List qD),likeL a b=true->putL a (atsL b++q)=(b,q)
 | [],[],q,_=>rfl
 |x::xs,y::ys,q,h=>by
  simp only [likeL,ac] at h;simp only [putL,atsL,bg,AN _ h.1,put_atsL q h.2]
 | [],_::_,_,h=>by cases h
 |_::_,[],_,h=>by cases h
end
theorem QB: ∀{a b:SB} (q:List qD),aBT a b=true->J6 a (PJ b++q)=(b,q)
 | .arr r _,.arr r' l,q,h=>rfl
 | .box a,.box b,q,h=>by simp only [J6,PJ,put_atsL q h]
 | .set _,.set _,q,_=>rfl
 | .tab p _,.tab p' l,q,h=>by obtain rfl:p=p':=PT.same_eq h;rfl
 | .dead,.dead,q,_=>rfl
 | .arr _ _,.box _,_,h| .arr _ _,.set _,_,h| .arr _ _,.dead,_,h| .box _,.arr _ _,_,h| .box _,.set _,_,h| .box _,.dead,_,h| .set _,.arr _ _,_,h| .set _,.box _,_,h| .set _,.dead,_,h| .dead,.arr _ _,_,h| .dead,.box _,_,h| .dead,.set _,_,h
 | .tab _ _,.arr _ _,_,h| .tab _ _,.box _,_,h| .tab _ _,.set _,_,h| .tab _ _,.dead,_,h| .arr _ _,.tab _ _,_,h| .box _,.tab _ _,_,h| .set _,.tab _ _,_,h| .dead,.tab _ _,_,h=>by cases h
theorem wK: ∀{a b:List SB} (q:List qD),BW a b=true->uN a (FP b++q)=(b,q)
 | [],[],q,_=>rfl
 |x::xs,y::ys,q,h=>by
  simp only [BW,ac] at h;simp only [uN,FP,bg,QB _ h.1,wK q h.2]
 | [],_::_,_,h=>by cases h
 |_::_,[],_,h=>by cases h
theorem HW: ∀{a b:SE} (q:List qD),LG a b=true->HJ a (NO b++q)=(b,q)
 | [],[],q,_=>rfl
 |(t,x)::xs,(u,y)::ys,q,h=>by
  simp only [LG,ac] at h;simp only [HJ,NO,bg,AN _ h.1.2,HW q h.2,aa h.1.1]
 | [],_::_,_,h=>by cases h
 |_::_,[],_,h=>by cases h
theorem HX: ∀{a b:List Nat},LH a b=true->a=b
 | [],[],_=>rfl
 |x::xs,y::ys,h=>by
  simp only [LH,ac] at h;rw [aa h.1,HX h.2]
 | [],_::_,h=>by cases h
 |_::_,[],h=>by cases h
theorem NX {a b:kG} (h:BX a b=true):tH a (pW b)=b:=by
 obtain ⟨e1,s1,z1,k1⟩:=a;obtain ⟨e2,s2,z2,k2⟩:=b;simp only [BX,ac] at h;obtain ⟨⟨⟨h1,h2⟩,h3⟩,h4⟩:=h;have hs:=wK [] h2;rw [bc] at hs;simp only [tH,pW,HW _ h1,hs,HX h3,aa h4]
theorem AK.of_at: ∀{a:AK} {x:qD} {y:a.T},a.of x=some y->a.at y=x
 | .i,.i _,y,h=>by injection h with h;subst h;rfl
 | .b,.b _,y,h=>by injection h with h;subst h;rfl
 | .n,.n _,y,h=>by injection h with h;subst h;rfl
 | .l r,.l q x,y,h=>by obtain ⟨rfl,rfl⟩:=jN h;rfl
 | .s,.s _,y,h=>by injection h with h;subst h;rfl
 | .i,.b _,_,h| .i,.n _,_,h| .i,.l _ _,_,h| .i,.s _,_,h| .b,.i _,_,h| .b,.n _,_,h| .b,.l _ _,_,h| .b,.s _,_,h| .n,.i _,_,h| .n,.b _,_,h| .n,.l _ _,_,h| .n,.s _,_,h
 | .l _,.i _,_,h| .l _,.b _,_,h| .l _,.n _,_,h| .l _,.s _,_,h| .s,.i _,_,h| .s,.b _,_,h| .s,.n _,_,h| .s,.l _ _,_,h=>by cases h
theorem lQ: ∀{ks:List AK} {l:List qD} {y:fJ ks},kP ks l=some y->hJ ks y=l
 | [],[],y,_=>rfl
 | [a],[x],y,h=>by
  have:=AK.of_at (a:=a) h
  simp only [hJ,this]
 |a::q::r,x::xs,y,h=>by
  simp only [kP] at h;split at h
  · rename_i u v h1 h2
    injection h with h;subst h;simp only [hJ,AK.of_at h1,lQ h2]
  cases h
 | [],_::_,_,h=>by cases h
 | [_],[],_,h=>by cases h
 | [_],_::_::_,_,h=>by cases h
 |_::_::_,[],_,h=>by cases h
end
end Go.Vm
/- What is known of functions, and what a call of one comes to. -/
namespace Go.Vm
mutual
def CC:Nat->PV->Option (PV×bI)
 |_,.int k n=>some (.int k n,[])
 |_,.bool b=>some (.bool b,[])
 |nx,.agg cs=>match ownPL nx cs with|some r=>some (.agg r.1,r.2)|none=>none
 |nx,.tup cs=>match ownPL nx cs with|some r=>some (.tup r.1,r.2)|none=>none
 |nx,.sl e false rows=>some (.own nx e 0 rows.length rows.length false,[.arr e rows])
 |_,_=>none
def ownPL:Nat->List PV->Option (List PV×bI)
 |_,[]=>some ([],[])
 |nx,x::xs=>match CC nx x with
  |some a=>match ownPL (nx+a.2.length) xs with
   |some b=>some (a.1::b.1,a.2++b.2)
   |none=>none
  |none=>none
end
def oR (s:List SB) (n:Nat) (l:List SB):Prop:= ∀(j:Nat) (b:SB),l[j]? =some b->s[n+j]? =some b
theorem oR.left {s:List SB} {n:Nat} {l m:List SB} (h:oR s n (l++m)):oR s n l:=fun j b hj=>h j b (by
 rw [af (ae.1 hj).1];exact hj)
theorem oR.right {s:List SB} {n:Nat} {l m:List SB} (h:oR s n (l++m)):oR s (n+l.length) m:=fun j b hj=>by
 have:=h (l.length+j) b (by rw [ag (by omega)];simpa using hj)
 rwa [Nat.add_assoc]
def KG (s:List SB) (l:List SB) (q:bI):Prop:=q.length=l.length/\ ∀(j:Nat) (b:SB),l[j]? =some b-> ∃x,q[j]? =some x/\RB s b x
theorem KG.append {s l m:List SB} {q r:bI} (h:KG s l q) (k:KG s m r):KG s (l++m) (q++r):=by
 refine ⟨by simp [h.1,k.1],fun j b hj=>?_⟩
 rcases cd j l.length with hl|hl
 · rw [af hl] at hj
   obtain ⟨x,h1,h2⟩:=h.2 j b hj;exact ⟨x,by rw [af (by rw [h.1];exact hl)];exact h1,h2⟩
 rw [ag hl] at hj
 obtain ⟨x,h1,h2⟩:=k.2 _ b hj;exact ⟨x,by rw [ag (by rw [h.1];exact hl),h.1];exact h1,h2⟩
theorem KG.nil {s:List SB}:KG s [] []:=⟨rfl,fun j b h=>by simp at h⟩
theorem KG.one {s:List SB} {b:SB} {x:fV} (h:RB s b x):KG s [b] [x]:=⟨rfl,fun j c hc=>by
 cases j with
 |zero=>simp at hc;subst hc;exact ⟨x,rfl,h⟩
 |succ j=>simp at hc⟩
mutual
theorem LT: ∀{v:SV} {nx:Nat} {p0 p:PV} {q:bI},lO v=some p0->CC nx p0=some (p,q)-> ∀{s:List SB},oR s nx (qV nx v).2->R s (qV nx v).1 p/\KG s (qV nx v).2 q
 | .int k n,nx,p0,p,q,h0,h,s,_=>by injection h0 with h0;subst h0;injection h with h;injection h with h1 h2;subst h1 h2;exact ⟨rfl,KG.nil⟩
 | .bool b,nx,p0,p,q,h0,h,s,_=>by injection h0 with h0;subst h0;injection h with h;injection h with h1 h2;subst h1 h2;exact ⟨rfl,KG.nil⟩
 | .agg cs,nx,p0,p,q,h0,h,s,hb=>by
  simp only [lO] at h0;split at h0
  · rename_i l hl
    injection h0 with h0;subst h0;simp only [CC] at h;split at h
    · rename_i r hr
      injection h with h;injection h with h1 h2;subst h1 h2;obtain ⟨h3,h4⟩:=ownOfL_R (p:=r.1) (q:=r.2) hl hr hb;exact ⟨⟨r.1,rfl,h3⟩,h4⟩
    cases h
  cases h0
 | .tup cs,nx,p0,p,q,h0,h,s,hb=>by
  simp only [lO] at h0;split at h0
  · rename_i l hl
    injection h0 with h0;subst h0;simp only [CC] at h;split at h
    · rename_i r hr
      injection h with h;injection h with h1 h2;subst h1 h2;obtain ⟨h3,h4⟩:=ownOfL_R (p:=r.1) (q:=r.2) hl hr hb;exact ⟨⟨r.1,rfl,h3⟩,h4⟩
    cases h
  cases h0
 | .sl r l,nx,p0,p,q,h0,h,s,hb=>by
  injection h0 with h0;subst h0;injection h with h;injection h with h1 h2;subst h1 h2;refine ⟨⟨r.length,l.length,by simp,.inl ⟨r,l,hb 0 _ rfl,rfl,rfl⟩⟩,KG.one rfl⟩
 | .nil e c,nx,p0,p,q,h0,h,s,hb=>by
  injection h0 with h0;subst h0;cases c with
  |true=>simp [CC] at h
  |false=>
   injection h with h;injection h with h1 h2;subst h1 h2;exact ⟨⟨e,0,rfl,.inl ⟨_,[],hb 0 _ rfl,by simp,rfl⟩⟩,KG.one (by show _=_;simp)⟩
 | .str _,nx,p0,p,q,h0,h,s,_=>by injection h0 with h0;subst h0;cases h
 | .nilf,nx,p0,p,q,h0,h,s,_=>by injection h0 with h0;subst h0;cases h
 | .rptr cs o,nx,p0,p,q,h0,h,s,_=>by
  simp only [lO] at h0;split at h0
  · injection h0 with h0;subst h0;cases h
  cases h0
 | .clo f a b,nx,p0,p,q,h0,h,s,_=>by
  simp only [lO] at h0;split at h0
  · injection h0 with h0;subst h0;cases h
  cases h0
 | .junk,_,_,_,_,h0,_,_,_| .undef,_,_,_,_,h0,_,_,_| .nul,_,_,_,_,h0,_,_,_| .own _ _,_,_,_,_,h0,_,_,_| .pre _ _ _ _,_,_,_,_,h0,_,_,_| .part _ _ _ _ _,_,_,_,_,h0,_,_,_
 | .pa _ _ _ _ _,_,_,_,_,h0,_,_,_| .pb _ _ _,_,_,_,_,h0,_,_,_| .bp _ _ _,_,_,_,_,h0,_,_,_| .mp _,_,_,_,_,h0,_,_,_=>by cases h0
theorem ownOfL_R: ∀{v:List SV} {nx:Nat} {p0 p:List PV} {q:bI},pvL v=some p0->ownPL nx p0=some (p,q)-> ∀{s:List SB},oR s nx (ownOfL nx v).2->RL s (ownOfL nx v).1 p/\KG s (ownOfL nx v).2 q
 | [],nx,p0,p,q,h0,h,s,_=>by injection h0 with h0;subst h0;injection h with h;injection h with h1 h2;subst h1 h2;exact ⟨rfl,KG.nil⟩
 |x::xs,nx,p0,p,q,h0,h,s,hb=>by
  obtain ⟨a,as,rfl,h1,h2⟩:=cB.1 h0;simp only [ownPL] at h;split at h
  · rename_i ra hra
    split at h
    · rename_i rb hrb
      injection h with h;injection h with e1 e2;subst e1 e2;simp only [ownOfL] at hb ⊢;obtain ⟨k1,k2⟩:=LT (p:=ra.1) (q:=ra.2) h1 hra hb.left;rw [k2.1] at hrb;obtain ⟨k3,k4⟩:=ownOfL_R (p:=rb.1) (q:=rb.2) h2 hrb hb.right;exact ⟨RL.cons k1 k3,k2.append k4⟩
    cases h
  cases h
end
mutual
theorem QC {s:List SB} {ps:bI} {z:List Nat} (hS:bH s ps): ∀{v v':SV} {p:PV} {seen seen':List Nat} (nx:Nat),R s v p->NN s z seen v=some (v',seen')-> ∃p0 p' q,lO v'=some p0/\CC nx p0=some (p',q)/\sV ps z nx seen p=some (p',q,seen')
 | .int k n,v',p,seen,seen',nx,h,hx=>by injection hx with hx;injection hx with h1 h2;subst h1 h2;rw [show p=_ from h];exact ⟨_,_,_,rfl,rfl,rfl⟩
 | .bool k,v',p,seen,seen',nx,h,hx=>by injection hx with hx;injection hx with h1 h2;subst h1 h2;rw [show p=_ from h];exact ⟨_,_,_,rfl,rfl,rfl⟩
 | .agg cs,v',p,seen,seen',nx,h,hx=>by
  obtain ⟨q,rfl,h⟩:=h;simp only [NN] at hx;split at hx
  · rename_i r hr
    injection hx with hx;injection hx with h1 h2;subst h1 h2;obtain ⟨p0,p',q',h3,h4,h5⟩:=imOVL_R hS (v':=r.1) (seen':=r.2) nx h hr;exact ⟨.agg p0,.agg p',q',by simp only [lO,h3],by simp only [CC,h4],by simp only [sV,h5];rfl⟩
  cases hx
 | .tup cs,v',p,seen,seen',nx,h,hx=>by
  obtain ⟨q,rfl,h⟩:=h;simp only [NN] at hx;split at hx
  · rename_i r hr
    injection hx with hx;injection hx with h1 h2;subst h1 h2;obtain ⟨p0,p',q',h3,h4,h5⟩:=imOVL_R hS (v':=r.1) (seen':=r.2) nx h hr;exact ⟨.tup p0,.tup p',q',by simp only [lO,h3],by simp only [CC,h4],by simp only [sV,h5];rfl⟩
  cases hx
 | .nil e c,v',p,seen,seen',nx,h,hx=>by
  cases c with
  |false=>cases hx
  |true=>injection hx with hx;injection hx with h1 h2;subst h1 h2;rw [show p=_ from h];exact ⟨_,_,_,rfl,rfl,rfl⟩
 | .own t ex,v',p,seen,seen',nx,h,hx=>by
  obtain ⟨e,n,rfl,hat⟩:=h;simp only [NN,bD] at hx;split at hx
  · rename_i r l hst
    obtain ⟨rfl,rfl⟩:=hat.inv hst;cases hc:(has seen t||has z t) with
    |true=>rw [hc] at hx;cases hx
    |false=>
     rw [hc] at hx;injection hx with hx;injection hx with h1 h2;subst h1 h2;refine ⟨_,_,_,rfl,rfl,?_⟩;simp only [sV,hS.arr hst,hc];simp
  cases hx
 | .junk,_,_,_,_,_,_,hx| .undef,_,_,_,_,_,_,hx| .nul,_,_,_,_,_,_,hx| .nilf,_,_,_,_,_,_,hx| .str _,_,_,_,_,_,_,hx| .sl _ _,_,_,_,_,_,_,hx| .pre _ _ _ _,_,_,_,_,_,_,hx| .part _ _ _ _ _,_,_,_,_,_,_,hx
 | .pa _ _ _ _ _,_,_,_,_,_,_,hx| .pb _ _ _,_,_,_,_,_,_,hx| .bp _ _ _,_,_,_,_,_,_,hx| .rptr _ _,_,_,_,_,_,_,hx| .clo _ _ _,_,_,_,_,_,_,hx| .mp _,_,_,_,_,_,_,hx=>by cases hx
theorem imOVL_R {s:List SB} {ps:bI} {z:List Nat} (hS:bH s ps): ∀{v v':List SV} {p:List PV} {seen seen':List Nat} (nx:Nat),RL s v p->imOVL s z seen v=some (v',seen')-> ∃p0 p' q,pvL v'=some p0/\ownPL nx p0=some (p',q)/\imOL ps z nx seen p=some (p',q,seen')
 | [],v',p,seen,seen',nx,h,hx=>by injection hx with hx;injection hx with h1 h2;subst h1 h2;rw [show p=_ from h];exact ⟨_,_,_,rfl,rfl,rfl⟩
 |x::xs,v',p,seen,seen',nx,h,hx=>by
  obtain ⟨a,as,rfl,h1,h2⟩:=h.cons_inv;simp only [imOVL] at hx;split at hx
  · rename_i r hr
    split at hx
    · rename_i r2 hr2
      injection hx with hx;injection hx with e1 e2;subst e1 e2;obtain ⟨p0,p',q,k1,k2,k3⟩:=QC hS (v':=r.1) (seen':=r.2) nx h1 hr;obtain ⟨p02,p'2,q2,k4,k5,k6⟩:=imOVL_R hS (v':=r2.1) (seen':=r2.2) (nx+q.length) h2 hr2;exact ⟨p0::p02,p'::p'2,q++q2,cB.2 ⟨_,_,rfl,k1,k4⟩,by simp only [ownPL,k2,k5],by simp only [imOL,k3,k6]⟩
    cases hx
  cases hx
end
mutual
theorem HY {s:List SB}: ∀{v:SV} {p:PV},R s v p->uM v=true->p.noref=true
 | .int _ _,p,h,_| .bool _,p,h,_| .str _,p,h,_=>by rw [show p=_ from h];rfl
 | .agg cs,p,h,hn=>by obtain ⟨q,rfl,h⟩:=h;exact norefSL_R h hn
 | .tup cs,p,h,hn=>by obtain ⟨q,rfl,h⟩:=h;exact norefSL_R h hn
 | .junk,_,_,h| .undef,_,_,h| .nul,_,_,h| .nilf,_,_,h| .sl _ _,_,_,h| .nil _ _,_,_,h| .own _ _,_,_,h| .pre _ _ _ _,_,_,h| .part _ _ _ _ _,_,_,h| .pa _ _ _ _ _,_,_,h| .pb _ _ _,_,_,h| .bp _ _ _,_,_,h| .rptr _ _,_,_,h| .clo _ _ _,_,_,h| .mp _,_,_,h=>by cases h
theorem norefSL_R {s:List SB}: ∀{v:List SV} {p:List PV},RL s v p->norefSL v=true->norefL p=true
 | [],p,h,_=>by rw [show p=_ from h];rfl
 |x::xs,p,h,hn=>by
  obtain ⟨a,as,rfl,h1,h2⟩:=h.cons_inv;simp only [norefSL,ac] at hn;simp only [norefL,HY h1 hn.1,norefSL_R h2 hn.2,bh]
end
mutual
theorem EH {s:List SB} {u:SV}: ∀{v:SV} {p:PV},R s v p->uM v=false->PH s v=some u->p.noref=false
 | .int _ _,p,h,hn,_| .bool _,p,h,hn,_| .str _,p,h,hn,_=>by cases hn
 | .agg cs,p,h,hn,hi=>by
  obtain ⟨q,rfl,h⟩:=h;simp only [PH] at hi;split at hi
  · rename_i l hl;exact yesrefSL_R h hn hl
  cases hi
 | .tup cs,p,h,hn,hi=>by
  obtain ⟨q,rfl,h⟩:=h;simp only [PH] at hi;split at hi
  · rename_i l hl;exact yesrefSL_R h hn hl
  cases hi
 | .sl _ _,p,h,_,_=>by rw [show p=_ from h];rfl
 | .nil _ _,p,h,_,_=>by rw [show p=_ from h];rfl
 | .own _ _,p,h,_,_=>by obtain ⟨e,n,rfl,_⟩:=h;rfl
 | .pre _ _ _ _,p,h,_,_=>by obtain ⟨e,rfl,_⟩:=h;rfl
 | .part _ _ _ _ _,p,h,_,_=>by obtain ⟨e,rfl,_⟩:=h;rfl
 | .junk,_,_,_,h| .undef,_,_,_,h| .nul,_,_,_,h| .nilf,_,_,_,h| .pa _ _ _ _ _,_,_,_,h| .pb _ _ _,_,_,_,h| .bp _ _ _,_,_,_,h| .rptr _ _,_,_,_,h| .clo _ _ _,_,_,_,h| .mp _,_,_,_,h=>by cases h
theorem yesrefSL_R {s:List SB}: ∀{v u:List SV} {p:List PV},RL s v p->norefSL v=false->imVL s v=some u->norefL p=false
 | [],u,p,h,hn,_=>by cases hn
 |x::xs,u,p,h,hn,hi=>by
  obtain ⟨a,as,rfl,h1,h2⟩:=h.cons_inv;simp only [imVL] at hi;split at hi
  · rename_i y ys h3 h4
    simp only [norefSL] at hn;simp only [norefL];cases hx:uM x with
    |false=>rw [EH h1 hx h3];rfl
    |true=>rw [hx] at hn;rw [yesrefSL_R h2 (by simpa using hn) h4];simp
  cases hi
end
mutual
theorem aBZ {s:List SB} {ps:bI} (hS:bH s ps): ∀{v u:SV} {p:PV},R s v p->PH s v=some u-> ∃q,rZ ps p=some q/\lO u=some q
 | .int k n,u,p,h,hx=>by injection hx with hx;subst hx;rw [show p=_ from h];exact ⟨_,rfl,rfl⟩
 | .bool b,u,p,h,hx=>by injection hx with hx;subst hx;rw [show p=_ from h];exact ⟨_,rfl,rfl⟩
 | .str x,u,p,h,hx=>by injection hx with hx;subst hx;rw [show p=_ from h];exact ⟨_,rfl,rfl⟩
 | .agg cs,u,p,h,hx=>by
  obtain ⟨q,rfl,h⟩:=h;simp only [PH] at hx;split at hx
  · rename_i l hl
    injection hx with hx;subst hx;obtain ⟨q',h1,h2⟩:=imVL_R hS h hl;exact ⟨.agg q',by simp only [rZ,h1];rfl,by simp only [lO,h2]⟩
  cases hx
 | .tup cs,u,p,h,hx=>by
  obtain ⟨q,rfl,h⟩:=h;simp only [PH] at hx;split at hx
  · rename_i l hl
    injection hx with hx;subst hx;obtain ⟨q',h1,h2⟩:=imVL_R hS h hl;exact ⟨.tup q',by simp only [rZ,h1];rfl,by simp only [lO,h2]⟩
  cases hx
 | .sl r l,u,p,h,hx=>by injection hx with hx;subst hx;rw [show p=_ from h];exact ⟨_,rfl,rfl⟩
 | .nil e c,u,p,h,hx=>by injection hx with hx;subst hx;rw [show p=_ from h];exact ⟨_,rfl,rfl⟩
 | .own t ex,u,p,h,hx=>by
  simp only [PH,bD] at hx;split at hx
  · rename_i r l hst
    injection hx with hx;subst hx;obtain ⟨e,n,rfl,hat⟩:=h;obtain ⟨rfl,rfl⟩:=hat.inv hst;refine ⟨.sl r.length false (l.map (RT.pv r)),?_,rfl⟩;simp only [rZ,hS.arr hst,bw];rw [bn (by simp)]
  cases hx
 | .pre t len cap ex,u,p,h,hx=>by
  simp only [PH,bD] at hx;split at hx
  · rename_i r l hst
    injection hx with hx;subst hx;obtain ⟨e,rfl,hat⟩:=h
    have:=hat.inv hst
    subst this;refine ⟨.sl r.length false ((l.take len).map (RT.pv r)),?_,rfl⟩;simp only [rZ,hS.arr hst,bw,bm]
  cases hx
 | .part t off len cap ex,u,p,h,hx=>by
  simp only [PH,bD] at hx;split at hx
  · rename_i r l hst
    injection hx with hx;subst hx;obtain ⟨e,rfl,hat⟩:=h
    have:=hat.inv hst
    subst this;refine ⟨.sl r.length false (((l.drop off).take len).map (RT.pv r)),?_,rfl⟩;simp only [rZ,hS.arr hst,bm,cf]
  cases hx
 | .junk,_,_,_,hx| .undef,_,_,_,hx| .nul,_,_,_,hx| .nilf,_,_,_,hx| .pa _ _ _ _ _,_,_,_,hx| .pb _ _ _,_,_,_,hx| .bp _ _ _,_,_,_,hx| .rptr _ _,_,_,_,hx| .clo _ _ _,_,_,_,hx| .mp _,_,_,_,hx=>by cases hx
theorem imVL_R {s:List SB} {ps:bI} (hS:bH s ps): ∀{v u:List SV} {p:List PV},RL s v p->imVL s v=some u-> ∃q,imFL ps p=some q/\pvL u=some q
 | [],u,p,h,hx=>by injection hx with hx;subst hx;rw [show p=_ from h];exact ⟨_,rfl,rfl⟩
 |x::xs,u,p,h,hx=>by
  obtain ⟨a,as,rfl,h1,h2⟩:=h.cons_inv;simp only [imVL] at hx;split at hx
  · rename_i y ys h3 h4
    injection hx with hx;subst hx;obtain ⟨q,h5,h6⟩:=aBZ hS h1 h3;obtain ⟨qs,h7,h8⟩:=imVL_R hS h2 h4;exact ⟨q::qs,by simp only [imFL,h5,h7],cB.2 ⟨_,_,rfl,h6,h8⟩⟩
  cases hx
end
mutual
theorem QD {s:List SB}: ∀{v:SV} {p:PV},lO v=some p->R s v p
 | .int _ _,p,h| .bool _,p,h| .str _,p,h| .nilf,p,h| .sl _ _,p,h| .nil _ _,p,h=>by injection h with h;exact h.symm
 | .agg cs,p,h=>by
  simp only [lO] at h;split at h
  · rename_i l hl;injection h with h;exact ⟨l,h.symm,pvL_R hl⟩
  cases h
 | .tup cs,p,h=>by
  simp only [lO] at h;split at h
  · rename_i l hl;injection h with h;exact ⟨l,h.symm,pvL_R hl⟩
  cases h
 | .rptr cs o,p,h=>by
  simp only [lO] at h;split at h
  · rename_i l hl;injection h with h;exact ⟨l,h.symm,pvL_R hl⟩
  cases h
 | .clo f a b,p,h=>by
  simp only [lO] at h;split at h
  · rename_i x y h1 h2;injection h with h;exact ⟨x,y,h.symm,pvL_R h1,pvL_R h2⟩
  cases h
 | .junk,_,h| .undef,_,h| .nul,_,h| .own _ _,_,h| .pre _ _ _ _,_,h| .part _ _ _ _ _,_,h| .pa _ _ _ _ _,_,h| .pb _ _ _,_,h| .bp _ _ _,_,h| .mp _,_,h=>by cases h
theorem pvL_R {s:List SB}: ∀{v:List SV} {p:List PV},pvL v=some p->RL s v p
 | [],p,h=>by injection h with h;exact h.symm
 |x::xs,p,h=>by
  obtain ⟨a,as,rfl,h1,h2⟩:=cB.1 h;exact RL.cons (QD h1) (pvL_R h2)
end
def aB0 (kd:Kd) (n:Nat) (tk:List Nat) (v:SV) (r:iT):Prop:=
 match kd with
 | .pure=> ∃p,lO v=some p/\r={v:=p,rd:=tk}
 | .frz=> ∃p,lO v=some p/\r={v:=p,rd:=tk,fr:=tk}
 | .own=> ∃p0 p q,lO v=some p0/\CC n p0=some (p,q)/\r={v:=p,news:=q,rd:=tk}
def aB (F : iH) (f : FuncId) (c : aU) : Prop :=
  ∀ (a : c.α) (b : c.β) (as args : List PV) (sto : bI) (fz : List Nat), c.fn a = some b -> pvL (c.args.enc a) = some args -> exL sto (sM sto cE) as = some args ->
    ∃ n r, callPure F (run F n) c.ow f as sto fz = some r /\ aB0 c.kd sto.length (toksL (bN sto cE) as) (c.res.enc b) r
def bV.va (c:bV) (a:fJ c.ka):List SV:=(putL c.ta (hJ c.ka a)).1
def bV.sa (c:bV) (a:fJ c.ka):List SB:=(uN c.tb (putL c.ta (hJ c.ka a)).2).1
def bV.vb (c:bV) (b:fJ c.ko):SV:=(mD c.tv (hJ c.ko b)).1
def bV.sb (c:bV) (b:fJ c.ko):List SB:=(uN c.to (mD c.tv (hJ c.ko b)).2).1
def QE:SB->SB->Prop
 | .arr r l,.arr q m=>r=q/\m.length=l.length
 | .box _,.box _=>True
 | .set _,.set _=>True
 | .tab _ _,.tab _ _=>True
 | .dead,.dead=>True
 |_,_=>False
def eE (F : iH) (f : FuncId) (c : bV) : Prop :=
  ∀ (a : fJ c.ka) (b : fJ c.ko) (pa : List PV) (ps : bI), c.fn a = some b -> RL (c.sa a) (c.va a) pa -> bH (c.sa a) ps ->
    ∃ n v s, run F n (.func f pa ps []) = some (.func v s []) /\ dZ (c.sa a).length v s = true /\ R (c.sb b) (c.vb b) v /\ bH (c.sb b) (s.take (c.sa a).length) /\ (c.sb b).length = (c.sa a).length /\
      ∀ (t : Nat) (x y : SB), (c.sa a)[t]? = some x -> (c.sb b)[t]? = some y -> QE x y
def uU (F:iH):List (Nat×aU)->Prop
 | []=>True
 |(f,c)::r=>aB F f c/\uU F r
def EI (F:iH):List (Nat×bV)->Prop
 | []=>True
 |(f,c)::r=>eE F f c/\EI F r
def wL (F:iH):List (Nat×Cd)->Prop
 | []=>True
 |(f,x)::r=>F f=some x.ent/\wL F r
structure aM (F:iH) (cx:OK):Prop where
 con: ∀f c,c∈cx.con f->aB F f c
 fpc: ∀f c,c∈cx.fpc f->eE F f c
 code: ∀f x,cx.code f=some x->F f=some x.ent
theorem uU.mem {F:iH}: ∀{l:List (Nat×aU)},uU F l-> ∀f c,c∈HP l f->aB F f c
 | [],_,f,c,h=>by cases h
 |(g,d)::r,hl,f,c,h=>by
  simp only [HP] at h;cases hb:aq g f with
  |true=>
   rw [hb] at h
   have:=aa hb
   subst this;simp only [cond_true] at h;rcases h with _|⟨_,h⟩
   · exact hl.1
   exact uU.mem hl.2 _ c h
  |false=>rw [hb] at h;exact uU.mem hl.2 f c h
theorem EI.mem {F:iH}: ∀{l:List (Nat×bV)},EI F l-> ∀f c,c∈HQ l f->eE F f c
 | [],_,f,c,h=>by cases h
 |(g,d)::r,hl,f,c,h=>by
  simp only [HQ] at h;cases hb:aq g f with
  |true=>
   rw [hb] at h
   have:=aa hb
   subst this;simp only [cond_true] at h;rcases h with _|⟨_,h⟩
   · exact hl.1
   exact EI.mem hl.2 _ c h
  |false=>rw [hb] at h;exact EI.mem hl.2 f c h
theorem wL.mem {F:iH}: ∀{l:List (Nat×Cd)},wL F l-> ∀f x,F0s l f=some x->F f=some x.ent
 | [],_,f,c,h=>by cases h
 |(g,d)::r,hl,f,c,h=>by
  simp only [F0s] at h;cases hb:aq g f with
  |true=>
   rw [hb] at h
   have:=aa hb
   subst this;injection h with h;subst h;exact hl.1
  |false=>rw [hb] at h;exact wL.mem hl.2 f c h
theorem aM.make {F:iH} {lp:Option Nat} {c:List (Nat×aU)} {p:List (Nat×bV)} {x:List (Nat×Cd)} {rk:List (Nat×List PT)} (h1:uU F c) (h2:EI F p) (h3:wL F x):aM F (aN lp c p x rk):=
 ⟨h1.mem,h2.mem,h3.mem⟩
section
variable {F : iH} {R' ρ : Type} {w : R' -> ρ} {y : ρ} {s : List SB} {ps : bI} {z : List Nat}
theorem qZ {f:FuncId} {m:Bool} {tk:List Nat} {vs:List SV} {k:XRS->dF R'} (hS:bH s ps) {as args:List PV} (hx:exL ps (sM ps cE) as=some args) (hv:pvL vs=some args) (htk:tk=toksL (bN ps cE) as):
 ∀{l:List aU},(∀c∈l,aB F f c)->J7 f m s tk vs k l ρ w=some y-> ∃sr pr,(∃n,callPure F (run F n) m f as ps z=some pr)/\dQ s ps sr pr/\k (.loc sr) ρ w=some y
 | [],_,h=>by cases h
 |c::l,hl,h=>by
  simp only [J7] at h;cases hd:c.args.dec vs with
  |none=>rw [hd] at h;exact qZ hS hx hv htk (fun c hc=>hl c (co _ hc)) h
  |some a=>
   rw [hd] at h;cases hmo:(m==c.ow) with
   |false=>
    rw [hmo] at h;exact qZ hS hx hv htk (fun c hc=>hl c (co _ hc)) h
   |true=>
   rw [hmo] at h;obtain ⟨b,hb,h2⟩:=bJ h;have hm:m=c.ow:=by simpa using hmo
   subst hm;have henc:=c.args.law hd hv;obtain ⟨n,r,hr,hres⟩:=hl c (cg ..) a b as args ps z hb henc hx;cases hkd:c.kd with
   |pure=>
    rw [hkd] at h2 hres;obtain ⟨p,h3,rfl⟩:=hres;exact ⟨_,_,⟨n,hr⟩,by rw [<- htk];exact dQ.val hS (QD h3),h2⟩
   |frz=>
    rw [hkd] at h2 hres;obtain ⟨p,h3,rfl⟩:=hres;exact ⟨_,_,⟨n,hr⟩,by rw [<- htk];exact dQ.val hS (QD h3),h2⟩
   |own=>
    rw [hkd] at h2 hres;obtain ⟨p0,p,q,h3,h4,rfl⟩:=hres;rw [hS.len] at h4;have hbh:oR (s++(qV s.length (c.res.enc b)).2) s.length (qV s.length (c.res.enc b)).2:=fun j x hj=>by
     rw [ag (by omega)];simpa using hj
    obtain ⟨k1,k2⟩:=LT h3 h4 hbh;exact ⟨_,_,⟨n,hr⟩,by rw [<- htk];exact dQ.news hS k2.1 k2.2 k1,h2⟩
end
end Go.Vm
/- A call of a function that works on the blocks that are lent to it. -/
namespace Go.Vm
def kR {α:Type}:List (Nat×α)->List α->List α
 | [],s=>s
 |(t,b)::r,s=>kR r (s.set t b)
theorem oS: ∀(l:List (Nat×SB)) (s:List SB),kQ l s=kR l s
 | [],s=>rfl
 |(t,b)::r,s=>by simp only [kQ,kR,wD,oS r]
theorem zG: ∀(l:List (Nat×fV)) (s:bI),dC l s=kR l s
 | [],s=>rfl
 |(t,b)::r,s=>by simp only [dC,kR,zG r]
theorem uV {α:Type}: ∀(l:List (Nat×α)) (s:List α),(kR l s).length=s.length
 | [],s=>rfl
 |(t,b)::r,s=>by simp [kR,uV r]
theorem oT {α:Type}: ∀(l:List (Nat×α)) (s:List α) (t:Nat),t∉l.map (·.1)->(kR l s)[t]? =s[t]?
 | [],s,t,_=>rfl
 |(u,b)::r,s,t,h=>by
  simp only [be,List.mem_cons,not_or] at h;simp only [kR];rw [oT r _ t h.2,am];simp [Ne.symm h.1]
theorem yI {α:Type}: ∀(l:List (Nat×α)) (s:List α) (j t:Nat) (b:α),(l.map (·.1)).Nodup->l[j]? =some (t,b)->t<s.length->(kR l s)[t]? =some b
 | [],s,j,t,b,_,h,_=>by simp at h
 |(u,c)::r,s,0,t,b,hn,h,ht=>by
  simp at h;obtain ⟨rfl,rfl⟩:=h;simp only [be,dd] at hn;simp only [kR];rw [oT r _ u hn.1,am];simp [ht]
 |(u,c)::r,s,j+1,t,b,hn,h,ht=>by
  simp only [be,dd] at hn;simp only [kR];exact yI r _ j t b hn.2 (by simpa using h) (by simpa using ht)
theorem wM: ∀(l:List (Nat×SB)),qW l=l.map (·.1)
 | []=>rfl
 |(t,b)::r=>by simp [qW,wM r]
theorem EJ (g:Nat->Nat): ∀(tk:List Nat) (s:List SB),s.length=tk.length->(tI g tk s).map (·.1)=tk/\ ∀(j t:Nat) (b:SB),tk[j]? =some t->s[j]? =some b->(tI g tk s)[j]? =some (t,PN g b)
 | [],s,h=>⟨by simp [tI],fun j t b hj=>by simp at hj⟩
 |t::tk,[],h=>by simp at h
 |t::tk,b::s,h=>by
  obtain ⟨h1,h2⟩:=EJ g tk s (by simpa using h)
  refine ⟨by simp [tI,h1],fun j u c hj hc=>?_⟩
  cases j with
  |zero=>simp at hj hc;subst hj hc;rfl
  |succ j=>simp only [tI,bo];exact h2 j u c (by simpa using hj) (by simpa using hc)
theorem CD (g:Nat->Nat): ∀(tk:List Nat) (s:bI),tk.length<=s.length->(jJ g tk s).map (·.1)=tk/\ ∀(j t:Nat) (b:fV),tk[j]? =some t->s[j]? =some b->(jJ g tk s)[j]? =some (t,sW g b)
 | [],s,h=>⟨by simp [jJ],fun j t b hj=>by simp at hj⟩
 |t::tk,[],h=>by simp at h
 |t::tk,b::s,h=>by
  obtain ⟨h1,h2⟩:=CD g tk s (by simpa using h)
  refine ⟨by simp [jJ,h1],fun j u c hj hc=>?_⟩
  cases j with
  |zero=>simp at hj hc;subst hj hc;rfl
  |succ j=>simp only [jJ,bo];exact h2 j u c (by simpa using hj) (by simpa using hc)
theorem EK: ∀{l:List (Nat×fV)},(l.map (·.1)).Nodup->oB l=true
 | [],_=>rfl
 |p::r,h=>by
  simp only [be,dd] at h;simp only [oB,ac,bq,az];refine ⟨fun q hq=>?_,EK h.2⟩
  cases hb:aq q.1 p.1 with
  |false=>rfl
  |true=>exact absurd (d6.2 ⟨q,hq,aa hb⟩) h.1
theorem FY: ∀(s:List SB),xG [] s=s
 | []=>rfl
 |b::r=>by
  simp only [xG,FY r];cases b<;>simp [SD,dgL_nil]
theorem HZ (s:List SB) (r:dA):r.stoOf s=xG (qW r.wr) (kQ r.wr s)++r.news:=by
 unfold dA.stoOf;split
 · rename_i h;rw [h];simp only [qW,kQ,FY,gX]
 simp only [gX]
def aCr (g:Nat->Nat) (s s2:List SB):Prop:= ∀(u:Nat) (x:SB),s[u]? =some x->match x with
 | .arr r l=>s2[g u]? =some (.arr r l)
 | .dead=>s2[g u]? =some .dead
 | .box _=> ∃cs,s2[g u]? =some (.box cs)
 |_=>True
mutual
theorem LU {g:Nat->Nat} {s s2:List SB} (hb:aCr g s s2): ∀{v:SV} {p:PV},R s v p->R s2 (HM g v) (renF g p)
 | .junk,_,_=>trivial
 | .undef,p,h| .nul,p,h| .nilf,p,h| .int _ _,p,h| .bool _,p,h| .str _,p,h| .sl _ _,p,h| .nil _ _,p,h| .bp _ _ _,p,h| .mp _,p,h=>by rw [show p=_ from h];rfl
 | .agg cs,p,h=>by obtain ⟨q,rfl,h⟩:=h;exact ⟨_,rfl,backL_R hb h⟩
 | .tup cs,p,h=>by obtain ⟨q,rfl,h⟩:=h;exact ⟨_,rfl,backL_R hb h⟩
 | .rptr cs o,p,h=>by obtain ⟨q,rfl,h⟩:=h;exact ⟨_,rfl,backL_R hb h⟩
 | .clo f a b,p,h=>by obtain ⟨pa,pb,rfl,h1,h2⟩:=h;exact ⟨_,_,rfl,backL_R hb h1,backL_R hb h2⟩
 | .own t ex,p,h=>by
  obtain ⟨e,n,rfl,hat⟩:=h;refine ⟨e,n,rfl,?_⟩;rcases hat with ⟨r,l,h1,h2,h3⟩|h1
  · exact .inl ⟨r,l,hb t _ h1,h2,h3⟩
  exact .inr (hb t _ h1)
 | .pre t a b c,p,h=>by
  obtain ⟨e,rfl,hat⟩:=h;refine ⟨e,rfl,?_⟩;rcases hat with ⟨r,l,h1,h2⟩|h1|⟨cs,h1,h2⟩
  · exact .inl ⟨r,l,hb t _ h1,h2⟩
  · exact .inr (.inl (hb t _ h1))
  obtain ⟨c2,h3⟩:=hb t _ h1
  exact .inr (.inr ⟨c2,h3,h2⟩)
 | .part t o a b c,p,h=>by
  obtain ⟨e,rfl,hat⟩:=h;refine ⟨e,rfl,?_⟩;rcases hat with ⟨r,l,h1,h2⟩|h1|⟨cs,h1,h2⟩
  · exact .inl ⟨r,l,hb t _ h1,h2⟩
  · exact .inr (.inl (hb t _ h1))
  obtain ⟨c2,h3⟩:=hb t _ h1
  exact .inr (.inr ⟨c2,h3,h2⟩)
 | .pa t r i a o,p,h=>by
  obtain ⟨rfl,hat⟩:=h;refine ⟨_,rfl,?_⟩;rcases hat with ⟨l,h1,h2⟩|h1
  · exact .inl ⟨r,l,hb t _ h1,by rw [h2];rfl⟩
  exact .inr (hb t _ h1)
 | .pb t i o,p,h=>by
  obtain ⟨e,rfl,hat⟩:=h;refine ⟨e,rfl,?_⟩;rcases hat with ⟨r,l,h1,h2⟩|h1
  · exact .inl ⟨r,l,hb t _ h1,h2⟩
  exact .inr (hb t _ h1)
theorem backL_R {g:Nat->Nat} {s s2:List SB} (hb:aCr g s s2): ∀{v:List SV} {p:List PV},RL s v p->RL s2 (backL g v) (renFL g p)
 | [],p,h=>by rw [show p=_ from h];rfl
 |x::xs,p,h=>by
  obtain ⟨a,as,rfl,h1,h2⟩:=h.cons_inv;exact RL.cons (LU hb h1) (backL_R hb h2)
end
theorem CE: ∀{a b:bI},(∀(t:Nat) (x:fV),a[t]? =some x-> ∃y,b[t]? =some y/\x.solid=y.solid)->oA a b=true
 | [],b,_=>by cases b<;>rfl
 |x::a,[],h=>by obtain ⟨y,hy,_⟩:=h 0 x rfl;simp at hy
 |x::a,y::b,h=>by
  obtain ⟨y',h1,h2⟩:=h 0 x rfl;simp at h1;subst h1
  have:=CE (a:=a) (b:=b) (fun t x hx=>by simpa using h (t+1) x (by simpa using hx))
  simp only [oA,this,cm,h2];cases y.solid<;>rfl
section
variable {F : iH} {R' ρ : Type} {w : R' -> ρ} {y : ρ} {s : List SB} {ps : bI} {z : List Nat}
theorem LV {f:FuncId} {tk:List Nat} {vals vs:List SV} {s0:List SB} {k:XRS->dF R'} (hS:bH s ps) {pas:List PV} (hv:RL s vals pas) (htk:tk=jH (toksL (bN ps cE) pas)) (hz:(tk.all fun t=>!has z t)=true)
 (h1:renVL tk vals=some vs) (h2:DO s tk tk=some s0):
 ∀{l:List bV},(∀c∈l,eE F f c)->fpS f s.length tk vs s0 k l ρ w=some y-> ∃sr pr,(∃n,mT (run F n) f pas ps z=some pr)/\dQ s ps sr pr/\k (.loc sr) ρ w=some y
 | [],_,h=>by cases h
 |c::l,hl,h=>by
  have next:fpS f s.length tk vs s0 k l ρ w=some y-> ∃sr pr,(∃n,mT (run F n) f pas ps z=some pr)/\dQ s ps sr pr/\k (.loc sr) ρ w=some y:=
   fun h=>LV hS hv htk hz h1 h2 (fun c hc=>hl c (co _ hc)) h
  simp only [fpS] at h;cases hlk:(likeL c.ta vs&&BW c.tb s0) with
  |false=>rw [hlk] at h;exact next h
  |true=>
   rw [hlk] at h;simp only [cond_true] at h;cases hpo:kP c.ka (atsL vs++FP s0) with
   |none=>rw [hpo] at h;exact next h
   |some a=>
    rw [hpo] at h;obtain ⟨b,hb,h3⟩:=bJ h;simp only [ac] at hlk;have hats:=lQ hpo;have hva:c.va a=vs:=by unfold bV.va;rw [hats,put_atsL _ hlk.1]
    have hsa:c.sa a=s0:=by
     unfold bV.sa;rw [hats,put_atsL _ hlk.1]
     have:=wK [] hlk.2
     rw [bc] at this;rw [this]
    have hren:CB tk s s0:=by have:=CB.of (l:=[]) h2;rwa [bc] at this
    obtain ⟨pa',a1,a2⟩:=renVL_R hren hv h1;obtain ⟨p0,b1,b2,b3⟩:=yE hS hren h2;have hs0:bH s0 p0:=⟨b2,b3⟩;obtain ⟨hs0l,hs0g⟩:=qY h2;obtain ⟨n,v,sr,r1,r2,r3,r4,r5,r6⟩:=hl c (cg ..) a b pa' p0 hb (by rw [hva,hsa];exact a2) (by rw [hsa];exact hs0)
    rw [hsa] at r2 r4 r5 r6;have hnd:tk.Nodup:=by rw [htk];exact mL
    have htl: ∀t∈tk,t<s.length:=fun t ht=>by
     obtain ⟨j,hj,he⟩:=ct ht;obtain ⟨x,c',d1,_,_⟩:=hs0g j t (by rw [aj hj,he])
     exact (ae.1 d1).1
    have hsbl:(c.sb b).length=tk.length:=by rw [r5,hs0l]
    have hsrl:tk.length<=sr.length:=by
     have:=r4.len
     rw [bk,hsbl] at this;rw [hs0l] at this;omega
    have htake: ∀j,j<tk.length->(sr.take s0.length)[j]? =sr[j]?:=fun j hj=>ai (by rw [hs0l];exact hj)
    have hfirm:oA p0 sr=true:=CE (fun t x hx=>by
     have htl':t<s0.length:=by have:=(ae.1 hx).1;rw [b2] at this;exact this
     obtain ⟨x0,hx0⟩: ∃x0,s0[t]? =some x0:=⟨s0[t],aj htl'⟩;obtain ⟨q,q1,q2⟩:=b3 t x0 hx0;rw [hx] at q1;injection q1 with q1;subst q1;obtain ⟨y0,hy0⟩: ∃y0,(c.sb b)[t]? =some y0:=⟨(c.sb b)[t]'(by omega),aj (by omega)⟩
     obtain ⟨q',q3,q4⟩:=r4.at_ t y0 hy0;rw [htake t (by omega)] at q3
     refine ⟨q',q3,?_⟩;have hfm:=r6 t x0 y0 hx0 hy0;cases x0 with
     |arr r l=>cases y0 with
      |arr r' l'=>
       obtain ⟨rfl,hll⟩:=hfm;rw [show x=_ from q2,show q'=_ from q4];cases l<;>cases l'<;>simp_all [fV.solid]
      |_=>exact hfm.elim
     |box cs=>cases y0 with
      |box cs'=>obtain ⟨_,rfl,_⟩:=q2;obtain ⟨_,rfl,_⟩:=q4;rfl
      |_=>exact hfm.elim
     |set l=>cases y0 with
      |set l'=>rw [show x=_ from q2,show q'=_ from q4];rfl
      |_=>exact hfm.elim
     |tab p l=>cases y0 with
      |tab p' l'=>rw [show x=_ from q2,show q'=_ from q4];rfl
      |_=>exact hfm.elim
     |dead=>cases y0 with
      |dead=>rw [show x=_ from q2,show q'=_ from q4]
      |_=>exact hfm.elim)
    let g:=fM tk s.length
    have hg: ∀j t,tk[j]? =some t->g j=t:=fun j t hj=>by show fM tk s.length j=t;unfold fM;rw [hj]
    obtain ⟨w1,w2⟩:=EJ g tk (c.sb b) hsbl;obtain ⟨u1,u2⟩:=CD g tk sr hsrl
    let s2:=xG tk (kQ (tI g tk (c.sb b)) s)
    have hin: ∀(j t:Nat) (x:SB),tk[j]? =some t->(c.sb b)[j]? =some x->s2[t]? =some (SD tk (PN g x)):=fun j t x hj hx=>by
     show (xG tk _)[t]? =_;rw [lE,oS,yI _ s j t _ (by rw [w1];exact hnd) (w2 j t x hj hx) (htl t (cp hj))]
     rfl
    have hout: ∀(t:Nat),t∉tk->s2[t]? =(s[t]?).map (SD tk):=fun t ht=>by
     show (xG tk _)[t]? =_;rw [lE,oS,oT _ s t (by rw [w1];exact ht)]
    have hmem: ∀t∈tk,∃j,tk[j]? =some t:=fun t ht=>by
     obtain ⟨j,hj,he⟩:=ct ht;exact ⟨j,by rw [aj hj,he]⟩
    have hfr:Fr tk s s2:=fun t x hx=>by
     by_cases ht:t∈tk
     · obtain ⟨j,hj⟩:=hmem t ht
       have hjl:j<tk.length:=(ae.1 hj).1;obtain ⟨x',c',d1,d2,d3⟩:=hs0g j t hj;rw [hx] at d1;injection d1 with d1;subst d1;obtain ⟨y0,hy0⟩: ∃y0,(c.sb b)[j]? =some y0:=⟨(c.sb b)[j]'(by omega),aj (by omega)⟩
       have hfm:=r6 j c' y0 d3 hy0;have hs2:=hin j t y0 hj hy0;cases x with
       |arr r l=>
        injection d2 with d2;subst d2;cases y0 with
        |arr r' l'=>
         obtain ⟨rfl,hll⟩:=hfm;refine .inl ⟨l',hs2,hll,fun hb=>?_⟩
         exfalso
         have:has tk t=true:=by unfold has;rw [du];exact ⟨t,ht,by simp⟩
         rw [this] at hb;cases hb
        |_=>exact hfm.elim
       |dead=>
        injection d2 with d2;subst d2;cases y0 with
        |dead=>exact hs2
        |_=>exact hfm.elim
       |box cs=>
        simp only [J4] at d2;split at d2
        · injection d2 with d2;subst d2
          cases y0 with
          |box c2=>exact .inl ⟨_,hs2⟩
          |_=>exact hfm.elim
        cases d2
       |_=>trivial
     have:=hout t ht
     rw [hx] at this;cases x with
     |arr r l=>exact .inl ⟨l,this,rfl,fun _=>rfl⟩
     |dead=>exact this
     |box c2=>exact .inl ⟨_,this⟩
     |_=>trivial
    have hback:aCr g (c.sb b) s2:=fun u x hx=>by
     have hul:u<tk.length:=by have:=(ae.1 hx).1;omega
     have hj:tk[u]? =some tk[u]:=aj hul
     have:=hin u _ x hj hx
     rw [hg u _ hj];cases x with
     |arr r l=>exact this
     |dead=>exact this
     |box cs=>exact ⟨_,this⟩
     |_=>trivial
    have hRes:(∃n,mT (run F n) f pas ps z=some {v:=renF g v,wr:=jJ g tk sr}):=by
     refine ⟨n,?_⟩;unfold mT RY;rw [<- htk,if_pos hz,a1,b1];dsimp only;rw [r1];dsimp only;unfold AW;rw [if_pos hfirm,hS.len]
     have:dZ tk.length v sr=true:=by rw [<- hs0l];exact r2
     rw [if_pos this]
    refine ⟨{v:=HM g (c.vb b),wr:=tI g tk (c.sb b)},_,hRes,?_,h3⟩;have hst:dA.stoOf s {v:=HM g (c.vb b),wr:=tI g tk (c.sb b)}=s2:=by
     rw [HZ,bc,wM,w1]
    exact {
     rd:=rfl
     fr:=rfl
     wr:=by rw [wM,w1];exact u1
     nw:=EK (by rw [u1];exact hnd)
     nl:=rfl
     sto:=by
      rw [hst];show bH s2 (dC (jJ g tk sr) ps);rw [zG];refine ⟨by rw [uV,oN,oS,uV,hS.len],fun t x hx=>?_⟩
      by_cases ht:t∈tk
      · obtain ⟨j,hj⟩:=hmem t ht
        have hjl:j<tk.length:=(ae.1 hj).1;obtain ⟨y0,hy0⟩: ∃y0,(c.sb b)[j]? =some y0:=⟨(c.sb b)[j]'(by omega),aj (by omega)⟩
        have hs2:=hin j t y0 hj hy0;rw [hx] at hs2;injection hs2 with hs2;subst hs2;obtain ⟨q',q3,q4⟩:=r4.at_ j y0 hy0;rw [htake j hjl] at q3;refine ⟨sW g q',yI _ ps j t _ (by rw [u1];exact hnd) (u2 j t q' hj q3) (by rw [hS.len];exact htl t ht),?_⟩
        cases y0 with
        |box cs=>
         obtain ⟨pc,rfl,hpc⟩:=q4;exact ⟨_,rfl,RL.fr (Fr.refl tk s2) (backL_R hback hpc)⟩
        |arr r l=>rw [show q'=_ from q4];rfl
        |set l=>rw [show q'=_ from q4];rfl
        |tab p l=>rw [show q'=_ from q4];rfl
        |dead=>rw [show q'=_ from q4];rfl
      rw [hout t ht,bl] at hx
      obtain ⟨x0,hx0,rfl⟩:=hx;obtain ⟨q,q1,q2⟩:=hS.at_ t x0 hx0;exact ⟨q,by rw [oT _ ps t (by rw [u1];exact ht)];exact q1,q2.fr hfr⟩
     v:=by rw [hst];exact LU hback r3
     fra:=by rw [hst,wM,w1];exact hfr}
end
end Go.Vm
/- What the typed machine makes of a function is what the logical machine runs. -/
namespace Go.Vm
section
variable {F : iH}
theorem WO.shrAny {o:aY} {r:List aY} {st:St} {tr:List Tr} {Q:St->List Tr->Prop} {f:FuncId} {args:List PV}
 (hw:wanted o.guard st.env=some true) (hop: ∀n,pM F (run F n) st.env st.sto st.fz o.op=cZ (run F n) f args st.sto st.fz)
 (h:uD F f args st.sto st.fz fun v s z=>(ap st.sto.length s.length&&st.fz.all (has z))=true/\WO F r {st with env:=eI o.dst v st.env,sto:=s,fz:=z} (PM::tr) Q):
 WO F (o::r) st tr Q:=by
 obtain ⟨n,v,s,z,hr,hc,hk⟩:=h;refine WO.call (.shr v s z) hw ⟨n,?_⟩ rfl hk;rw [hop];simp only [cZ,hr];rw [if_pos hc]
theorem WP.again {live:List (Nat×Option Nat)} {b:fG} {st s1:St} {Q:dV->St->Prop} (h0:zX live st=some s1) (h:WP F b s1 (AG (fun s=>WP F (.loop live b) s Q) Q)):WP F (.loop live b) st Q:=by
 obtain ⟨m,e,s,he,hq⟩:=h;cases e with
 |normal=>
  obtain ⟨k,e',s',he',hq'⟩:=hq;refine ⟨max m k+1,e',s',?_,hq'⟩;simp only [mC] at he' ⊢;rw [gF];simp only [step,h0];rw [kC (kD F (Nat.le_max_left m k)) _ _ _ he];dsimp only;split at he'
  · rename_i e1 s1 hr1
    rw [kD F (Nat.le_max_right m k) _ _ hr1];exact he'
  cases he'
 |exit i=>exact ⟨m+1,.exit i,s,by simp only [mC];rw [gF];simp only [step,h0,he],hq⟩
 |ret=>exact ⟨m+1,.ret,s,by simp only [mC];rw [gF];simp only [step,h0,he],hq⟩
def IA (F : iH) (inl : SF) : Prop :=
  ∀ (f : FuncId) (args : List SV) (s : List SB) (z : List Nat) (R' : Type) (k : SV -> List SB -> List Nat -> dF R') (ρ : Type) (w : R' -> ρ) (y : ρ) (pa : List PV) (ps : bI) (Q : R' -> PV -> bI -> List Nat -> Prop),
    RL s args pa -> bH s ps -> inl f args s z R' k ρ w = some y ->
    (∀ v s' z' p ps' ρ' (w' : R' -> ρ') y', R s' v p -> bH s' ps' -> k v s' z' ρ' w' = some y' -> ∃ r, y' = w' r /\ Q r p ps' z') ->
    ∃ r, y = w r /\ uD F f pa ps z (fun p ps' z' => Q r p ps' z')
def LW:SB->SB->Prop
 | .arr r l,b=>(∃l',b= .arr r l'/\l'.length=l.length)\/b= .dead
 | .dead,b=>b= .dead
 | .box _,b=>(∃cs,b= .box cs)\/b= .dead
 |_,_=>True
theorem wN {R' ρ:Type} {w:R'->ρ} {y:ρ}: ∀{s s':List SB} {k:dF R'},jV s s' k ρ w=some y->k ρ w=some y/\s.length<=s'.length/\
 ∀(t:Nat) (b:SB),s[t]? =some b-> ∃b',s'[t]? =some b'/\LW b b'
 | [],s',k,h=>⟨by cases s'<;>exact h,Nat.zero_le _,fun t b ht=>by simp at ht⟩
 |x::xs,[],k,h=>by cases h
 |x::xs,y'::ys,k,h=>by
  have step: ∀(_:jV xs ys k ρ w=some y) (_:LW x y'),k ρ w=some y/\(x::xs).length<=(y'::ys).length/\ ∀(t:Nat) (b:SB),(x::xs)[t]? =some b-> ∃b',(y'::ys)[t]? =some b'/\LW b b':=by
   intro h hx;obtain ⟨h1,h2,h3⟩:=wN h;refine ⟨h1,by simpa using h2,fun t b ht=>?_⟩
   cases t with
   |zero=>simp at ht;subst ht;exact ⟨y',rfl,hx⟩
   |succ t=>simpa using h3 t b (by simpa using ht)
  cases x with
  |arr r l=>
   cases y' with
   |arr q m=>
    obtain ⟨hr,h2⟩:=bK (a:=dJ (m.length==l.length) (jV xs ys k) aJ) h;obtain ⟨hl,h3⟩:=eA h2
    have:=nP hr
    subst this;exact step h3 (.inl ⟨m,rfl,by simpa using hl⟩)
   |dead=>exact step h (.inr rfl)
   |_=>cases h
  |dead=>
   cases y' with
   |dead=>exact step h rfl
   |_=>cases h
  |box cs=>
   cases y' with
   |box c2=>exact step h (.inl ⟨c2,rfl⟩)
   |dead=>exact step h (.inr rfl)
   |_=>cases h
  |set l=>exact step h trivial
  |tab p l=>exact step h trivial
theorem QF {n t:Nat} (h:t<n):has (nF n) t=true:=by
 induction n with
 |zero=>omega
 |succ n ih=>
  unfold has at ih ⊢;rw [du] at*;simp only [nF,dz,ch];rcases cd t n with h1|h1
  · obtain ⟨x,h2,h3⟩:=ih h1
    exact ⟨x,.inl h2,h3⟩
  have:t=n:=by omega
  subst this;exact ⟨t,.inr rfl,by simp⟩
theorem KH {s s':List SB} (h: ∀(t:Nat) (b:SB),s[t]? =some b-> ∃b',s'[t]? =some b'/\LW b b'):Fr (nF s.length) s s':=fun t b hb=>by
 obtain ⟨b',h1,h2⟩:=h t b hb;have hlt:=(ae.1 hb).1;cases b with
 |arr r l=>
  rcases h2 with ⟨l',rfl,h3⟩|rfl
  · exact .inl ⟨l',h1,h3,fun hx=>by rw [QF hlt] at hx;cases hx⟩
  exact .inr h1
 |dead=>rw [show b'= .dead from h2] at h1;exact h1
 |box cs=>
  rcases h2 with ⟨c2,rfl⟩|rfl
  · exact .inl ⟨c2,h1⟩
  exact .inr h1
 |_=>trivial
theorem aGY {s:List SB} {ps:bI} {sr:dA} {pr:iT} (G:dQ s ps sr pr) (hS:bH s ps):(XR.loc pr).tr ps.length=sr.tr s.length:=by
 simp only [XR.tr,dA.tr,G.rd,G.fr,hS.len,<- G.wr,G.nl,d7]
 have:pr.news.isEmpty=sr.news.isEmpty:=by
  have:=G.nl
  cases h1:pr.news<;>cases h2:sr.news<;>simp_all
 rw [this];rfl
theorem aCs {st:kG} {p:St} (h:tK st p) {sr:dA} {pr:iT} (G:dQ st.sto p.sto sr pr) (d:Option Nat):tK (sr.next d st) ((XR.loc pr).next d p):=by
 have hput: ∀{s:List SB} {e:SE} {pe:lZ} {v:SV} {q:PV},bX s e pe->R s v q->bX s (FQ d v e) (eI d q pe):=by
  intro s e pe v q he hv;cases d with
  |none=>exact he
  |some t=>exact ⟨q,pe,rfl,hv,he⟩
 have hs:=HZ st.sto sr;unfold dA.next
 split
 · rename_i hw
   rw [hw] at hs;simp only [qW,kQ,FY] at hs;have hsto:=G.sto;have hv:=G.v;have hfr:=G.fra;rw [hs] at hsto hv hfr;rw [hw] at hfr;exact ⟨by simp only [gX];exact hput (bX.ext hfr h.env) hv,by simp only [gX];exact hsto,by simp only [XR.next,G.fr,h.fz],h.kn⟩
 have hsto:=G.sto
 have hv:=G.v;have hfr:=G.fra;rw [hs] at hsto hv hfr;exact ⟨by simp only [gX];exact hput (bX.fr hfr h.env) hv,by simp only [gX];exact hsto,by simp only [XR.next,G.fr,h.fz],h.kn⟩
theorem aGZ {s:List SB} {ps:bI} {sr:dA} {pr:iT} (G:dQ s ps sr pr) {z:List Nat} (h:sr.ok z=true):(XR.loc pr).ok z=true:=by
 simp only [XR.ok,G.nw,cm];unfold dA.ok at h;rw [<- G.wr,d7] at h;exact h
section
variable {cx : OK} {inl : SF} {R' : Type}
def aIH (_F:iH) (k:kG->List Tr->dF R') (Q:R'->St->List Tr->Prop):Prop:=
 ∀st p tr ρ (w:R'->ρ) y,tK st p->k st tr ρ w=some y-> ∃r,y=w r/\Q r p tr
theorem oU {o:aY} {l:List aY} {st:kG} {p:St} {tr:List Tr} {k:kG->List Tr->dF R'} {ρ:Type} {w:R'->ρ} {y:ρ} {Q:R'->St->List Tr->Prop}
 (hl: ∀st p tr ρ (w:R'->ρ) y,tK st p->k st tr ρ w=some y-> ∃r,y=w r/\WO F l p tr (Q r)) (h:tK st p) {sr:dA} {pr:iT} (hw:wanted o.guard p.env=some true)
 (hx: ∃n,pM F (run F n) p.env p.sto p.fz o.op=some (.loc pr)) (G:dQ st.sto p.sto sr pr) (hg:LJ o.dst st tr k (.loc sr) ρ w=some y): ∃r,y=w r/\WO F (o::l) p tr (Q r):=by
 unfold LJ at hg;dsimp only at hg;obtain ⟨hok,hg⟩:=bK hg;rw [FM] at hg;have hR:=aCs h G o.dst;obtain ⟨r,hr,hwo⟩:=hl _ _ _ _ _ _ hR hg;refine ⟨r,hr,WO.call (.loc pr) hw hx (by rw [h.fz];exact aGZ G hok) ?_⟩
 rw [aGY G h.sto];exact hwo
theorem IB (hcx:aM F cx) (hinl:IA F inl) {o:aY} {l:List aY} {st:kG} {p:St} {tr:List Tr} {k:kG->List Tr->dF R'} {ρ:Type} {w:R'->ρ} {y:ρ} {Q:R'->St->List Tr->Prop}
 (hl: ∀st p tr ρ (w:R'->ρ) y,tK st p->k st tr ρ w=some y-> ∃r,y=w r/\WO F l p tr (Q r)) (h:tK st p) (hw:wanted o.guard p.env=some true)
 (hg:D9 cx inl st.env st.sto st.fz o.op (LJ o.dst st tr k) ρ w=some y): ∃r,y=w r/\WO F (o::l) p tr (Q r):=by
 have hS:=h.sto;have hE:=h.env;have shr: ∀(f:FuncId) (vals:List SV) (pas:List PV),RL st.sto vals pas->(∀n,pM F (run F n) p.env p.sto p.fz o.op=cZ (run F n) f pas p.sto p.fz)->
  inl f vals st.sto st.fz R' (fun v s' z'=>LJ o.dst st tr k (.shr v s' z')) ρ w=some y-> ∃r,y=w r/\WO F (o::l) p tr (Q r):=by
  intro f vals pas hv hop hi;obtain ⟨r,hr,hd⟩:=hinl f vals st.sto st.fz R' _ ρ w y pas p.sto (fun r v s z=>(ap p.sto.length s.length&&p.fz.all (has z))=true/\WO F l {p with env:=eI o.dst v p.env,sto:=s,fz:=z} (PM::tr) (Q r)) hv hS hi
   (fun v s' z' pv ps' ρ' w' y' hR hS' hk=>by
    unfold LJ at hk;dsimp only at hk;rw [FM] at hk;obtain ⟨hk,hlen,hsame⟩:=wN hk;obtain ⟨hz,hk⟩:=bK hk;have hfr:=KH hsame;have hput:bX s' (FQ o.dst v (dgE (nF st.sto.length) st.env)) (eI o.dst pv p.env):=by
     cases o.dst with
     |none=>exact bX.fr hfr hE
     |some t=>exact ⟨pv,p.env,rfl,hR,bX.fr hfr hE⟩
    have hR':tK {env:=FQ o.dst v (dgE (nF st.sto.length) st.env),sto:=s',fz:=z',kn:=st.kn} {p with env:=eI o.dst pv p.env,sto:=ps',fz:=z'}:=⟨hput,hS',rfl,h.kn⟩;obtain ⟨r,hr,hwo⟩:=hl _ _ _ _ _ _ hR' hk;refine ⟨r,hr,?_,hwo⟩;rw [h.fz,hz,cm,hS.len,hS'.len];simpa using hlen)
  refine ⟨r,hr,WO.shrAny hw hop ?_⟩;rw [h.fz];rw [h.fz] at hd;exact hd
 have loc: ∀{k':dA->dF R'},gW st.env st.sto st.fz o.op k' ρ w=some y->xY o.op=false->(∀sr,k' sr=LJ o.dst st tr k (.loc sr))-> ∃r,y=w r/\WO F (o::l) p tr (Q r):=by
  intro k' hv hc hk;obtain ⟨sr,pr,h1,G,h2⟩:=SX hE hS (pe:=p.env) hv;rw [hk] at h2;exact oU hl h hw ⟨0,by rw [FK hc,h.fz,h1];rfl⟩ G h2
 generalize hop:o.op=op at hg;cases op with
 |call m f args=>
  have hargs:=sH hE args;simp only [D9] at hg;cases m with
  |pur=>
   dsimp only at hg;cases hx:exVL st.sto (fS st.sto cE) (fB st.env args) with
   |none=>rw [hx] at hg;cases hg
   |some vs=>
    rw [hx] at hg;obtain ⟨q,h1,h2⟩:=exVL_R hS (AM hS cE) hargs hx;obtain ⟨sr,pr,⟨n,h3⟩,G,h4⟩:=qZ (f:=f) (z:=st.fz) hS h1 h2 (tkExL hS (B8 hS cE) hargs hx) (fun c hc=>hcx.con f c hc) hg
    exact oU hl h hw ⟨n,by rw [hop,h.fz];simp only [pM,h3];rfl⟩ G h4
  |own=>
   dsimp only at hg;cases hx:exVL st.sto (fS st.sto cE) (fB st.env args) with
   |none=>rw [hx] at hg;cases hg
   |some vs=>
    rw [hx] at hg;obtain ⟨q,h1,h2⟩:=exVL_R hS (AM hS cE) hargs hx;obtain ⟨sr,pr,⟨n,h3⟩,G,h4⟩:=qZ (f:=f) (z:=st.fz) hS h1 h2 (tkExL hS (B8 hS cE) hargs hx) (fun c hc=>hcx.con f c hc) hg
    exact oU hl h hw ⟨n,by rw [hop,h.fz];simp only [pM,h3];rfl⟩ G h4
  |shr=>exact shr f _ _ hargs (fun n=>by rw [hop];rfl) hg
  |fp=>
   dsimp only at hg;cases hx:J2 st.sto (fS st.sto cE) (fB st.env args) with
   |false=>rw [hx] at hg;cases hg
   |true=>
    rw [hx] at hg;dsimp only at hg;obtain ⟨hz,hg⟩:=bK hg;cases h1:renVL (jH (tkVL (qB st.sto cE) (fB st.env args))) (fB st.env args) with
    |none=>rw [h1] at hg;cases hg
    |some vs=>
     cases h2:DO st.sto (jH (tkVL (qB st.sto cE) (fB st.env args))) (jH (tkVL (qB st.sto cE) (fB st.env args))) with
     |none=>rw [h1,h2] at hg;cases hg
     |some s0=>
      rw [h1,h2] at hg;obtain ⟨sr,pr,⟨n,h3⟩,G,h4⟩:=LV (f:=f) (z:=st.fz) hS hargs (by rw [P7 hS (B8 hS cE) hargs hx]) hz h1 h2 (fun c hc=>hcx.fpc f c hc) hg
      exact oU hl h hw ⟨n,by rw [hop,h.fz];simp only [pM,h3];rfl⟩ G h4
 |callv x args=>
  have hargs:=sH hE args;simp only [D9] at hg;have hx:=bR hE x;generalize aZ st.env x=v at hg hx;cases v with
  |clo f a b=>
   dsimp only at hg;obtain ⟨pa,pb,hx,ha,hb⟩:=hx;have hany: ∀{vs:List SV} {q:List PV},RL st.sto vs q->(anyPtr vs=true->q.any AV=true):=by
    intro vs
    induction vs with
    |nil=>intro q _ h;cases h
    |cons v vs ih=>
     intro q hq hp;obtain ⟨a,as,rfl,h1,h2⟩:=hq.cons_inv;simp only [anyPtr,d0] at hp;simp only [d4,d0];rcases hp with hp|hp
     · left
       cases v with
       |own _ _=>obtain ⟨_,_,rfl,_⟩:=h1;rfl
       |pre _ _ _ _=>obtain ⟨_,rfl,_⟩:=h1;rfl
       |part _ _ _ _ _=>obtain ⟨_,rfl,_⟩:=h1;rfl
       |pa _ _ _ _ _=>obtain ⟨rfl,_⟩:=h1;rfl
       |pb _ _ _=>obtain ⟨_,rfl,_⟩:=h1;rfl
       |bp _ _ _=>rw [show a=_ from h1];rfl
       |mp _=>rw [show a=_ from h1];rfl
       |_=>cases hp
     right;exact ih h2 hp
   cases hp:anyPtr (fB st.env args++b) with
   |true=>
    rw [hp] at hg
    have:=hany (hargs.append hb) hp
    exact shr f _ _ ((ha.append hargs).append hb) (fun n=>by rw [hop];simp only [pM,hx,this,if_true]) hg
   |false=>
    rw [hp] at hg;simp only [cond_false] at hg;cases hxx:exVL st.sto (fS st.sto cE) (a++fB st.env args++b) with
    |none=>rw [hxx] at hg;cases hg
    |some vs=>
     rw [hxx] at hg;have hno: ∀{vs u:List SV} {q:List PV},RL st.sto vs q->anyPtr vs=false->exVL st.sto (fS st.sto cE) vs=some u->q.any AV=false:=by
      intro vs
      induction vs with
      |nil=>intro u q hq _ _;rw [show q=[] from hq];rfl
      |cons v vs ih=>
       intro u q hq hp hu;obtain ⟨a,as,rfl,h1,h2⟩:=hq.cons_inv;simp only [anyPtr,Bool.or_eq_false_iff] at hp;simp only [exVL] at hu;split at hu
       · rename_i y1 y2 e1 e2
         simp only [d4,ih h2 hp.2 e2,Bool.or_false];cases v with
         |agg _|tup _|rptr _ _=>obtain ⟨_,rfl,_⟩:=h1;rfl
         |clo _ _ _=>obtain ⟨_,_,rfl,_⟩:=h1;rfl
         |int _ _|bool _|str _|nilf|sl _ _|nil _ _|undef|nul=>rw [show a=_ from h1];rfl
         |junk=>cases e1
         |own _ _|pre _ _ _ _|part _ _ _ _ _|pa _ _ _ _ _|pb _ _ _|bp _ _ _|mp _=>cases hp.1
       cases hu
     have hsplit: ∃u2,exVL st.sto (fS st.sto cE) (fB st.env args++b)=some u2:=by
      have: ∀(l:List SV) {m u:List SV},exVL st.sto (fS st.sto cE) (l++m)=some u-> ∃u2,exVL st.sto (fS st.sto cE) m=some u2:=by
       intro l
       induction l with
       |nil=>intro m u h;exact ⟨u,h⟩
       |cons x l ih=>
        intro m u h;simp only [da,exVL] at h;split at h
        · rename_i e1 e2;exact ih e2
        cases h
      rw [bg] at hxx;exact this a hxx
     obtain ⟨u2,hu2⟩:=hsplit;have hno':=hno (hargs.append hb) hp hu2;have hall:=(ha.append hargs).append hb;obtain ⟨q,h1,h2⟩:=exVL_R hS (AM hS cE) hall hxx;obtain ⟨sr,pr,⟨n,h3⟩,G,h4⟩:=qZ (f:=f) (z:=st.fz) hS h1 h2 (tkExL hS (B8 hS cE) hall hxx) (fun c hc=>hcx.con f c hc) hg
     exact oU hl h hw ⟨n,by rw [hop,h.fz];simp only [pM,hx,hno',ar,if_false,h3];rfl⟩ G h4
  |_=>cases hg
 |_=>exact loc (k':=fun r=>LJ o.dst st tr k (.loc r)) (by rw [hop];exact hg) (by rw [hop];rfl) (fun _=>rfl)
theorem oV (hcx:aM F cx) (hinl:IA F inl): ∀(ops:List aY) {st:kG} {p:St} {tr:List Tr} {k:kG->List Tr->dF R'} {ρ:Type} {w:R'->ρ} {y:ρ} {Q:R'->St->List Tr->Prop},
 aIH F k Q->tK st p->jM cx inl ops st tr k ρ w=some y-> ∃r,y=w r/\WO F ops p tr (Q r)
 | [],st,p,tr,k,ρ,w,y,Q,hk,h,he=>by
  obtain ⟨r,hr,hq⟩:=hk st p tr ρ w y h he;exact ⟨r,hr,WO.nil hq⟩
 |o::l,st,p,tr,k,ρ,w,y,Q,hk,h,he=>by
  have hl: ∀st p tr ρ (w:R'->ρ) y,tK st p->jM cx inl l st tr k ρ w=some y-> ∃r,y=w r/\WO F l p tr (Q r):=fun st p tr ρ w y h he=>oV hcx hinl l hk h he
  have setR: ∀{st:kG} {c:Nat} {v:SV},tK st p->R st.sto v (lk c p.env)->tK {st with env:=setS c v st.env} p:=fun h hv=>⟨h.env.setS hv,h.sto,h.fz,h.kn⟩
  have run': ∀{st:kG},tK st p->wanted o.guard p.env=some true->(match o.op with
   | .pick (.t c) a b=>match DL c st.env with
    | .bool x=>dJ x (LJ o.dst {st with env:=setS c (.bool true) st.env} tr (jM cx inl l · · k) (.loc {v:=aZ st.env a}))
     (LJ o.dst {st with env:=setS c (.bool false) st.env} tr (jM cx inl l · · k) (.loc {v:=aZ st.env b}))
    |_=>aJ
   |op=>D9 cx inl st.env st.sto st.fz op (LJ o.dst st tr (jM cx inl l · · k))) ρ w=some y-> ∃r,y=w r/\WO F (o::l) p tr (Q r):=by
   intro st h hw he;have plain:D9 cx inl st.env st.sto st.fz o.op (LJ o.dst st tr (jM cx inl l · · k)) ρ w=some y-> ∃r,y=w r/\WO F (o::l) p tr (Q r):=fun he=>IB hcx hinl hl h hw he
   generalize hop:o.op=op at he;cases op with
   |pick c a b=>
    cases c with
    |c v=>exact plain (by rw [hop];exact he)
    |t c=>
     dsimp only at he;generalize hv:DL c st.env=v at he;cases v with
     |bool x=>
      have hx:lk c p.env= .bool x:=by have:=h.env.lk c;rw [hv] at this;exact this
      rcases cN he with ⟨rfl,he⟩|⟨rfl,he⟩
      · have hR:=setR h (c:=c) (v:= .bool true) hx
        exact oU (o:=o) hl hR hw ⟨0,by rw [hop];simp only [pM,aS,cP.ev,hx];rfl⟩ (dQ.val hR.sto (bR h.env a)) he
      have hR:=setR h (c:=c) (v:= .bool false) hx
      exact oU (o:=o) hl hR hw ⟨0,by rw [hop];simp only [pM,aS,cP.ev,hx];rfl⟩ (dQ.val hR.sto (bR h.env b)) he
     |_=>cases he
   |_=>exact plain (by rw [hop];exact he)
  have skip': ∀{st:kG},tK st p->wanted o.guard p.env=some false->jM cx inl l {st with env:=FQ o.dst .nul st.env} (Tr.idle::tr) k ρ w=some y-> ∃r,y=w r/\WO F (o::l) p tr (Q r):=by
   intro st h hw he;have hR:tK {st with env:=FQ o.dst .nul st.env} {p with env:=eI o.dst .nul p.env}:=by
    refine ⟨?_,h.sto,h.fz,h.kn⟩;cases o.dst with
    |none=>exact h.env
    |some t=>exact ⟨.nul,p.env,rfl,rfl,h.env⟩
   obtain ⟨r,hr,hwo⟩:=hl _ _ _ _ _ _ hR he;exact ⟨r,hr,WO.skip hw hwo⟩
  simp only [jM] at he;cases hgd:o.guard with
  |none=>
   rw [hgd] at he;exact run' h (by rw [hgd];rfl) he
  |some g=>
   obtain ⟨c,want⟩:=g;rw [hgd] at he;dsimp only at he;generalize hv:DL c st.env=v at he;cases v with
   |bool x=>
    have hx:lk c p.env= .bool x:=by have:=h.env.lk c;rw [hv] at this;exact this
    have hwx: ∀b,x=b->wanted o.guard p.env=some (b==want):=fun b hb=>by rw [hgd];simp only [wanted,hx,hb]
    cases want with
    |true=>
     simp only [cond_true] at he;rcases cN he with ⟨rfl,he⟩|⟨rfl,he⟩
     · exact run' (setR h (v:= .bool true) hx) (hwx true rfl) he
     exact skip' (setR h (v:= .bool false) hx) (hwx false rfl) he
    |false=>
     simp only [cond_false] at he;rcases cN he with ⟨rfl,he⟩|⟨rfl,he⟩
     · exact skip' (setR h (v:= .bool true) hx) (hwx true rfl) he
     exact run' (setR h (v:= .bool false) hx) (hwx false rfl) he
   |nul=>
    have hx:lk c p.env= .nul:=by have:=h.env.lk c;rw [hv] at this;exact this
    exact skip' h (by rw [hgd];simp only [wanted,hx]) he
   |_=>cases he
theorem CF {e:SE}: ∀{keep:List Nat} {k:SE->dF R'} {ρ:Type} {w:R'->ρ} {y:ρ},HN e keep k ρ w=some y->k (keep.map fun s=>(s,DL s e)) ρ w=some y
 | [],k,ρ,w,y,h=>h
 |s::r,k,ρ,w,y,h=>by
  simp only [HN] at h;rw [FM] at h
  have:=CF h
  exact this
theorem QG {s:List SB} {e:SE} {pe:lZ} (h:bX s e pe): ∀(keep:List Nat),bX s (keep.map fun t=>(t,DL t e)) (keep.map fun t=>(t,lk t pe))
 | []=>rfl
 |t::r=>⟨_,_,rfl,h.lk t,QG h r⟩
end
mutual
theorem EL: ∀(v:SV) (q:List qD),mD v (yB v++q)=(v,q)
 | .junk,q| .undef,q| .nul,q| .nilf,q| .int _ _,q| .bool _,q| .str _,q| .sl _ _,q| .nil _ _,q| .own _ _,q| .pre _ _ _ _,q| .part _ _ _ _ _,q| .pa _ _ _ _ _,q| .pb _ _ _,q| .bp _ _ _,q| .mp _,q=>rfl
 | .agg cs,q=>by simp only [mD,yB,put_selfL]
 | .tup cs,q=>by simp only [mD,yB,put_selfL]
 | .rptr cs o,q=>by simp only [mD,yB,put_selfL]
 | .clo f a b,q=>by simp only [mD,yB,bg,put_selfL]
theorem put_selfL: ∀(v:List SV) (q:List qD),putL v (atsL v++q)=(v,q)
 | [],q=>rfl
 |x::xs,q=>by simp only [putL,atsL,bg,EL,put_selfL]
end
theorem EM: ∀(v:List SB) (q:List qD),uN v (FP v++q)=(v,q)
 | [],q=>rfl
 |x::xs,q=>by
  have: ∀q,J6 x (PJ x++q)=(x,q):=by
   intro q;cases x<;>first|rfl|simp only [J6,PJ,put_selfL]
  simp only [uN,FP,bg,this,EM]
theorem EN: ∀(v:SE) (q:List qD),HJ v (NO v++q)=(v,q)
 | [],q=>rfl
 |(t,x)::xs,q=>by simp only [HJ,NO,bg,EL,EN]
theorem KI (st:kG):tH st (pW st)=st:=by
 have hs:=EM st.sto [];rw [bc] at hs;simp only [tH,pW,EN,hs]
theorem NY {cx:OK} {inl:SF} (hcx:aM F cx) (hinl:IA F inl): ∀(c:fG) (R':Type) {st:kG} {p:St} {k:dV->kG->dF R'} {ρ:Type} {w:R'->ρ} {y:ρ} {Q:R'->dV->St->Prop},
 (∀e st p ρ (w:R'->ρ) y,tK st p->k e st ρ w=some y-> ∃r,y=w r/\Q r e p)->tK st p->vZ cx inl c R' st k ρ w=some y-> ∃r,y=w r/\WP F c p (Q r):=by
 intro c
 induction c with
 |skip=>
  intro R' st p k ρ w y Q hk h he;obtain ⟨r,hr,hq⟩:=hk _ _ _ _ _ _ h he;exact ⟨r,hr,WP.skip hq⟩
 |ret=>
  intro R' st p k ρ w y Q hk h he;obtain ⟨r,hr,hq⟩:=hk _ _ _ _ _ _ h he;exact ⟨r,hr,WP.ret hq⟩
 |exit id=>
  intro R' st p k ρ w y Q hk h he;obtain ⟨r,hr,hq⟩:=hk _ _ _ _ _ _ h he;exact ⟨r,hr,WP.exit hq⟩
 |region d ops keep=>
  intro R' st p k ρ w y Q hk h he;simp only [vZ] at he;have fin: ∀st p ρ (w:R'->ρ) y,tK st p->HN st.env keep (fun e=>k .normal {st with env:=e}) ρ w=some y-> ∃r,y=w r/\Q r .normal (kE keep p):=by
   intro st p ρ w y h he
   have:=CF he
   have hR:tK {st with env:=keep.map fun t=>(t,DL t st.env)} (kE keep p):=⟨QG h.env keep,h.sto,h.fz,h.kn⟩
   exact hk _ _ _ _ _ _ hR this
  cases d with
  |none=>
   obtain ⟨r,hr,hwo⟩:=oV hcx hinl ops (Q:=fun r s _=>Q r .normal (kE keep s)) (fun st p tr ρ w y h he=>fin st p ρ w y h he) h he
   exact ⟨r,hr,WP.region hwo⟩
  |some bf=>
   obtain ⟨r,hr,hwo⟩:=oV hcx hinl ops (Q:=fun r s t=>lA 0 (t.reverse.zip bf)=true/\Q r .normal (kE keep s)) (fun st p tr ρ w y h he=>by
    dsimp only at he;cases ho:lA 0 (tr.reverse.zip bf) with
    |false=>rw [ho] at he;cases he
    |true=>
     rw [ho] at he;obtain ⟨r,hr,hq⟩:=fin st p ρ w y h he;exact ⟨r,hr,ho,hq⟩) h he
   exact ⟨r,hr,WP.regionD hwo⟩
 |seq a b iha ihb=>
  intro R' st p k ρ w y Q hk h he;simp only [vZ] at he;obtain ⟨r,hr,hwp⟩:=iha R' (Q:=fun r=>AG (fun s=>WP F b s (Q r)) (Q r)) (fun e st p ρ w y h he=>by
   cases e with
   |normal=>exact ihb R' hk h he
   |exit i=>exact hk _ _ _ _ _ _ h he
   |ret=>exact hk _ _ _ _ _ _ h he) h he
  exact ⟨r,hr,WP.seq hwp⟩
 |cond c a b iha ihb=>
  intro R' st p k ρ w y Q hk h he;simp only [vZ] at he;have hx:=bR h.env c;generalize aZ st.env c=v at he hx;cases v with
  |bool x=>
   rcases cN he with ⟨rfl,he⟩|⟨rfl,he⟩
   · obtain ⟨r,hr,hwp⟩:=iha R' hk h he
     exact ⟨r,hr,WP.condT hx hwp⟩
   obtain ⟨r,hr,hwp⟩:=ihb R' hk h he
   exact ⟨r,hr,WP.condF hx hwp⟩
  |_=>cases he
 |block id b ih=>
  intro R' st p k ρ w y Q hk h he;simp only [vZ] at he;obtain ⟨r,hr,hwp⟩:=ih R' (Q:=fun r=>inBlock id (Q r)) (fun e st p ρ w y h he=>by
   cases e with
   |normal=>exact hk _ _ _ _ _ _ h he
   |ret=>exact hk _ _ _ _ _ _ h he
   |exit j=>
    dsimp only at he;cases hj:aq j id with
    |true=>
     rw [hj] at he;obtain ⟨r,hr,hq⟩:=hk _ _ _ _ _ _ h he;have hji:=aa hj;exact ⟨r,hr,by simpa [inBlock,hji] using hq⟩
    |false=>
     rw [hj] at he;obtain ⟨r,hr,hq⟩:=hk _ _ _ _ _ _ h he
     have:j≠id:=by intro e;subst e;simp at hj
     exact ⟨r,hr,by simpa [inBlock,this] using hq⟩) h he
  exact ⟨r,hr,WP.block hwp⟩
 |loop live b ih=>
  intro R' st p k ρ w y Q hk h he;simp only [vZ] at he;cases hn:BV cx.rk live st with
  |none=>rw [hn] at he;cases he
  |some st1=>
   rw [hn] at he;dsimp only at he;have ksK_eq: ∀{β:Type 1} (l:List AK) (c:List AK->β),ksK l c=c l:=by
    intro β l;have rK_eq: ∀{β:Type 1} (l:List PT) (c:List PT->β),rK l c=c l:=by
     intro β l
     induction l with
     |nil=>intro c;rfl
     |cons p r ih=>intro c;cases p<;>simp only [rK,ptK,ih]
    induction l with
    |nil=>intro c;rfl
    |cons a r ih=>intro c;cases a<;>simp only [ksK,rK_eq,ih]
   rw [ksK_eq] at he;generalize aCg (pW st1)=ks at he;cases hp:kP ks (pW st1) with
   |none=>rw [hp] at he;cases he
   |some y0=>
    rw [hp] at he;dsimp only at he;obtain ⟨p1,hp1,hR1⟩:=LS h hn;have hlike: ∀(st3:kG) (y':fJ ks),BX st1 st3=true->kP ks (pW st3)=some y'->tH st1 (hJ ks y')=st3:=fun st3 y' h1 h2=>by
     rw [lQ h2,NX h1]
    obtain ⟨n,hit⟩:=PA he;have h0:tK (tH st1 (hJ ks y0)) p1:=by rw [lQ hp,KI];exact hR1
    clear he hp hn h hR1
    induction n generalizing y0 p p1 with
    |zero=>cases hit
    |succ n ihn=>
     have body: ∀zr,vZ cx inl b (bB (fJ ks) ρ) (tH st1 (hJ ks y0)) (fun e st2=>match e with
      | .normal=>match BV cx.rk live st2 with
       |some st3=>bif BX st1 st3 then (match kP ks (pW st3) with
        |some y'=>D6 (.next y')
        |none=>aJ) else aJ
       |none=>aJ
      |e=>fun ρ' w'=>k e st2 ρ' fun r=>w' (.done (w r))) (bB (fJ ks) ρ) (fun z=>z)=some zr->
      WP F b p1 (fun e s=>match zr with
       | .next y'=>e= .normal/\ ∃p3,zX live s=some p3/\tK (tH st1 (hJ ks y')) p3
       | .done x=>e≠ .normal/\ ∃r,x=w r/\Q r e s):=by
      intro zr hbody;obtain ⟨zr',hzr,hwp⟩:=ih (bB (fJ ks) ρ) (Q:=fun zr e s=>match zr with
       | .next y'=>e= .normal/\ ∃p3,zX live s=some p3/\tK (tH st1 (hJ ks y')) p3
       | .done x=>e≠ .normal/\ ∃r,x=w r/\Q r e s) (fun e st2 p2 ρ' w' y2 h2 he2=>by
       cases e with
       |normal=>
        dsimp only at he2;cases hn3:BV cx.rk live st2 with
        |none=>rw [hn3] at he2;cases he2
        |some st3=>
         rw [hn3] at he2;obtain ⟨hlk,he2⟩:=bK he2;cases hp3:kP ks (pW st3) with
         |none=>rw [hp3] at he2;cases he2
         |some y3=>
          rw [hp3] at he2;injection he2 with he2;obtain ⟨p3,hp3',hR3⟩:=LS h2 hn3;exact ⟨.next y3,he2.symm,rfl,p3,hp3',by rw [hlike st3 y3 hlk hp3];exact hR3⟩
       |exit i=>
        obtain ⟨r,hr,hq⟩:=hk _ _ _ _ _ _ h2 he2;exact ⟨.done (w r),hr,(by intro e;cases e),r,rfl,hq⟩
       |ret=>
        obtain ⟨r,hr,hq⟩:=hk _ _ _ _ _ _ h2 he2;exact ⟨.done (w r),hr,(by intro e;cases e),r,rfl,hq⟩) h0 hbody
      subst hzr;exact hwp
     simp only [jI] at hit;split at hit
     · rename_i y' hbody
       obtain ⟨m,e,s,hrun,rfl,p3,hp3,hR3⟩:=body _ hbody;obtain ⟨r,hr,hwp⟩:=ihn y' p3 hp3 hit hR3;exact ⟨r,hr,WP.again hp1 ⟨m,.normal,s,hrun,hwp⟩⟩
     · rename_i x hbody
       injection hit with hit;obtain ⟨m,e,s,hrun,hne,r,hr,hq⟩:=body _ hbody;refine ⟨r,by rw [<- hit];exact hr,WP.again hp1 ⟨m,e,s,hrun,?_⟩⟩
       cases e with
       |normal=>exact absurd rfl hne
       |exit i=>exact hq
       |ret=>exact hq
     cases hit
end
end Go.Vm
/- Contracts from the typed machine. -/
namespace Go.Vm
section
variable {F : iH} {cx : OK} {inl : SF}
theorem IC {s:List SB}: ∀{l:List SV} {q:List PV} (i:Nat),RL s l q->bX s (J9 i l) (nG i q)
 | [],q,i,h=>by rw [show q=[] from h];rfl
 |x::xs,q,i,h=>by
  obtain ⟨a,as,rfl,h1,h2⟩:=h.cons_inv;exact ⟨a,nG (i+1) as,rfl,h1,IC (i+1) h2⟩
theorem QH {st:kG} {p:St} (h:tK st p) {r:RV} {v:SV} (hr:J8 st r=some v): ∃q,AX p r=some q/\R st.sto v q:=by
 cases r with
 |tmp t=>injection hr with hr;subst hr;exact ⟨_,rfl,h.env.lk t⟩
 |cell t agg=>
  simp only [J8] at hr;have hlk:=h.env.lk t;split at hr
  · rename_i u n off hv
    rw [hv] at hlk;rw [bD] at hr;split at hr
    · rename_i cs hst
      obtain ⟨q,h1,h2⟩:=h.sto.box hst;obtain ⟨x,h3,h4⟩:=mM h2 hr;refine ⟨x,?_,h4⟩;simp only [AX,show lk t p.env=_ from hlk,jG,h1,bi,if_true,h3];rfl
    cases hr
  · rename_i cs off hv
    rw [hv] at hlk;obtain ⟨q,h1,h2⟩:=hlk;obtain ⟨x,h3,h4⟩:=mM h2 hr;refine ⟨x,?_,h4⟩;simp only [AX,h1,jG,h3];rfl
  cases hr
theorem EO {st:kG} {p:St} (h:tK st p): ∀{l:List RV} {vs:List SV},sG st l=some vs-> ∃q,iV p l=some q/\RL st.sto vs q
 | [],vs,hr=>by injection hr with hr;subst hr;exact ⟨[],rfl,rfl⟩
 |r::l,vs,hr=>by
  simp only [sG] at hr;split at hr
  · rename_i v vs' h1 h2
    injection hr with hr;subst hr;obtain ⟨q,h3,h4⟩:=QH h h1;obtain ⟨qs,h5,h6⟩:=EO h h2;exact ⟨q::qs,by simp only [iV,h3,h5],RL.cons h4 h6⟩
  cases hr
theorem ID {s:List SB} {vs:List SV} {q:List PV} (h:RL s vs q):R s (yC vs) (kB q):=by
 match vs,q,h with
 | [],q,h=>rw [show q=[] from h];exact ⟨[],rfl,rfl⟩
 | [v],q,h=>
  obtain ⟨a,as,rfl,h1,h2⟩:=h.cons_inv;rw [show as=[] from h2];exact h1
 |v::u::r,q,h=>
  have hall:=h;obtain ⟨a,as,rfl,h1,h2⟩:=h.cons_inv;obtain ⟨b,bs,rfl,h3,h4⟩:=h2.cons_inv;exact ⟨_,rfl,hall⟩
theorem rA (hcx:aM F cx) (hinl:IA F inl) {f:FuncId} {x:aG} (hf:F f=some (.code x)) {R':Type} {args:List SV} {s:List SB} {z:List Nat} {k:SV->List SB->List Nat->dF R'} {ρ:Type} {w:R'->ρ} {y:ρ} {pa:List PV} {ps:bI}
 {Q:R'->PV->bI->List Nat->Prop} (ha:RL s args pa) (hS:bH s ps) (he:HO cx inl x R' args s z k ρ w=some y)
 (hk: ∀v s' z' p ps' ρ' (w':R'->ρ') y',R s' v p->bH s' ps'->k v s' z' ρ' w'=some y'-> ∃r,y'=w' r/\Q r p ps' z'): ∃r,y=w r/\uD F f pa ps z (fun p ps' z'=>Q r p ps' z'):=by
 unfold HO at he;obtain ⟨hn,he⟩:=bK he;have fin: ∀st p ρ' (w':R'->ρ') y',tK st p->(match sG st x.res with
  |some vs=>k (yC vs) st.sto st.fz
  |none=>aJ) ρ' w'=some y'-> ∃r,y'=w' r/\ ∃vs,iV p x.res=some vs/\Q r (kB vs) p.sto p.fz:=by
  intro st p ρ' w' y' h he;cases hr:sG st x.res with
  |none=>rw [hr] at he;cases he
  |some vs=>
   rw [hr] at he;obtain ⟨q,h1,h2⟩:=EO h hr;obtain ⟨r,h3,h4⟩:=hk _ _ _ _ _ _ _ _ (ID h2) h.sto he;exact ⟨r,h3,q,h1,by rw [h.fz];exact h4⟩
 obtain ⟨r,hr,hwp⟩:=NY hcx hinl x.code R' (Q:=fun r=>E7 x fun p ps' z'=>Q r p ps' z') (p:={env:=nG 0 pa,sto:=ps,fz:=z,kn:=ps.length}) (fun e st p ρ' w' y' h he=>by
  cases e with
  |normal=>exact fin st p ρ' w' y' h he
  |ret=>exact fin st p ρ' w' y' h he
  |exit i=>cases he) ⟨IC 0 ha,hS,rfl,hS.len⟩ he
 exact ⟨r,hr,uD.of hf (by rw [ha.length];exact hn) hwp⟩
theorem FZ {α:Type} {l m r:List α} {i:Int} (h:AL l i m=some r):0<=i/\i.toNat<=l.length/\m.length=1/\l.length+1<=1048576/\r=l.take i.toNat++m++l.drop i.toNat:=by
 unfold AL at h;split at h
 · rename_i hc
   injection h with h;exact ⟨hc.1,hc.2.1,hc.2.2.1,hc.2.2.2,h.symm⟩
 cases h
theorem NZ {e:Nat} {args:List SV} {s:List SB} {z:List Nat} {a:aGU} (h:SG e args s z=some a):
 ∃x u x2 m,args=[.own a.t x,.int .i64 a.i,.own u x2]/\nth s a.t=some (.arr a.r a.l)/\nth s u=some (.arr a.r m)/\a.m=m/\a.r.length=e/\aq a.t u=false/\has z a.t=false:=by
 unfold SG at h;split at h
 case h_2=>cases h
 split at h
 case h_2=>cases h
 split at h
 case h_2=>cases h
 split at h
 case h_2=>cases h
 rename_i m' hm;cases hc:(aq _ e&&_&&_) with
 |false=>rw [hc] at h;cases h
 |true=>
  rw [hc] at h;injection h with h;subst h;simp only [ac,cv,az] at hc;obtain ⟨rfl,rfl⟩:=jN hm;exact ⟨_,_,_,_,rfl,by assumption,by assumption,rfl,hc.1.1,hc.1.2,hc.2⟩
theorem KJ {e:Nat} {f:FuncId} (hf:F f=some (.shp (E6 e))) {R':Type} {args:List SV} {s:List SB} {z:List Nat} {k:SV->List SB->List Nat->dF R'} {ρ:Type} {w:R'->ρ} {y:ρ} {pa:List PV} {ps:bI}
 {Q:R'->PV->bI->List Nat->Prop} (ha:RL s args pa) (hS:bH s ps) (he:aCj e args s z k ρ w=some y)
 (hk: ∀v s' z' p ps' ρ' (w':R'->ρ') y',R s' v p->bH s' ps'->k v s' z' ρ' w'=some y'-> ∃r,y'=w' r/\Q r p ps' z'): ∃r,y=w r/\uD F f pa ps z (fun p ps' z'=>Q r p ps' z'):=by
 unfold aCj at he;cases hA:SG e args s z with
 |none=>rw [hA] at he;cases he
 |some a=>
 rw [hA] at he;dsimp only at he;obtain ⟨l',hl,he⟩:=bJ he;obtain ⟨x,u,x2,m0,rfl,ht,hu,hm,he1,htu,hz⟩:=NZ hA;obtain ⟨t,q,l,i,m⟩:=a;dsimp only at*;subst hm he1;obtain ⟨i0,il,m1,hle,rfl⟩:=FZ hl;obtain ⟨p0,pr0,rfl,h0,ha⟩:=ha;obtain ⟨p1,pr1,rfl,h1,ha⟩:=ha;obtain ⟨p2,pr2,rfl,h2,ha⟩:=ha;obtain rfl:pr2=[]:=ha;obtain rfl:p1= .int .i64 i:=h1
 have ht':s[t]? =some (.arr q l):=by rw [<- bD];exact ht
 have hu':s[u]? =some (.arr q m):=by rw [<- bD];exact hu
 obtain ⟨e0,n0,rfl,o0⟩:=h0;obtain ⟨e2,n2,rfl,o2⟩:=h2;obtain ⟨rfl,rfl⟩:e0=q.length/\n0=l.length:=by
  rcases o0 with ⟨r1,l1,a,b,c⟩|a
  · rw [ht'] at a;injection a with a;injection a with a1 a2;subst a1;subst a2;exact ⟨b,c⟩
  rw [ht'] at a;cases a
 obtain ⟨rfl,rfl⟩:e2=q.length/\n2=m.length:=by
  rcases o2 with ⟨r1,l1,a,b,c⟩|a
  · rw [hu'] at a;injection a with a;injection a with a1 a2;subst a1;subst a2;exact ⟨b,c⟩
  rw [hu'] at a;cases a
 obtain ⟨b1,hb1,hb1'⟩:=hS.at_ t _ ht';obtain ⟨b2,hb2,hb2'⟩:=hS.at_ u _ hu';have hb1':b1= .arr q.length (l.map (RT.pv q)):=hb1';have hb2':b2= .arr q.length (m.map (RT.pv q)):=hb2';subst hb1' hb2';have hlen:(xG [t] (s.set t .dead)).length=s.length:=by rw [oN];simp
 obtain ⟨L,hL⟩: ∃L,L=l.take i.toNat++m++l.drop i.toNat:=⟨_,rfl⟩;rw [<- hL] at he;have G:=dQ.put hS (b:= .dead) (q:= .dead) (l:=[.arr q L]) (ql:=[.arr q.length (L.map (RT.pv q))]) (v:= .own s.length false)
  (p:= .own s.length q.length 0 L.length L.length false) (rd:=[]) ht' (.inr rfl) rfl rfl
  (fun j b hj=>by
   cases j with
   |zero=>simp at hj;subst hj;exact ⟨_,rfl,rfl⟩
   |succ j=>simp at hj)
  ⟨q.length,L.length,rfl,.inl ⟨q,L,by rw [<- hlen];exact hM,rfl,rfl⟩⟩
 have hll:L.length=l.length+1:=by
  rw [hL];simp only [cw,bk,dv,m1];omega
 obtain ⟨rr,hr,hq⟩:=hk _ _ _ _ _ _ _ _ G.v G.sto he;refine ⟨rr,hr,1,_,_,_,?_,hq⟩;rw [gF];have hmost:ap (l.length+1) gP=true:=by simp [gP];omega
 have hbl:ap i.toNat l.length=true:=by simpa using il
 have hLm:L.map (RT.pv q)=(l.map (RT.pv q)).take i.toNat++m.map (RT.pv q)++(l.map (RT.pv q)).drop i.toNat:=by
  rw [hL,bu,bu,bm,cf]
 simp [step,hf,E6,hb1,hb2,m1,htu,hz,i0,hmost,il,hll,hS.len,dC,GO,hLm]
theorem N0 {α:Type} {l m r:List α} (h:aCe l m=some r):1<=l.length+m.length/\l.length+m.length<=1048576/\r=l++m:=by
 unfold aCe at h;split at h
 · rename_i hc
   injection h with h;exact ⟨hc.1,hc.2,h.symm⟩
 cases h
theorem N1 {args:List SV} {s:List SB} {z:List Nat} {a:aGV} (h:SH args s z=some a):
 ∃cap x m,args=[.part a.t 0 2 cap x]/\nth s a.t=some (.box [.sl a.r a.l,.sl a.r m])/\a.m=m/\a.r.length=1/\has z a.t=false:=by
 unfold SH at h;split at h
 case h_2=>cases h
 split at h
 case h_2=>cases h
 split at h
 case h_2=>cases h
 rename_i m' hm;cases hc:(aq _ 1&&aq _ 0&&aq _ 2&&_) with
 |false=>rw [hc] at h;cases h
 |true=>
  rw [hc] at h;injection h with h;subst h;simp only [ac,cv,az] at hc;obtain ⟨rfl,rfl⟩:=jN hm;obtain ⟨⟨⟨h1,rfl⟩,rfl⟩,h2⟩:=hc;exact ⟨_,_,_,rfl,by assumption,rfl,h1,h2⟩
theorem EP {r:List PT} (h:r.length=1) (l:List (RT r)):xJ (l.map (RT.pv r))=true:=by
 unfold xJ;rw [bq];intro x hx;obtain ⟨a,_,rfl⟩:=d6.1 hx
 match r,h with
 | [p],_=>
  show (aq [p.pv a].length 1&&[p.pv a].all PV.plain)=true;cases p<;>rfl
theorem KK {f:FuncId} (hf:F f=some (.shp aB8)) {R':Type} {args:List SV} {s:List SB} {z:List Nat} {k:SV->List SB->List Nat->dF R'} {ρ:Type} {w:R'->ρ} {y:ρ} {pa:List PV} {ps:bI}
 {Q:R'->PV->bI->List Nat->Prop} (ha:RL s args pa) (hS:bH s ps) (he:aCk args s z k ρ w=some y)
 (hk: ∀v s' z' p ps' ρ' (w':R'->ρ') y',R s' v p->bH s' ps'->k v s' z' ρ' w'=some y'-> ∃r,y'=w' r/\Q r p ps' z'): ∃r,y=w r/\uD F f pa ps z (fun p ps' z'=>Q r p ps' z'):=by
 unfold aCk at he;cases hA:SH args s z with
 |none=>rw [hA] at he;cases he
 |some a=>
 rw [hA] at he;dsimp only at he;obtain ⟨l',hl,he⟩:=bJ he;obtain ⟨cap,x,m0,rfl,ht,hm,he1,hz⟩:=N1 hA;obtain ⟨t,q,l,m⟩:=a;dsimp only at*;subst hm;obtain ⟨hp,hle,rfl⟩:=N0 hl;obtain ⟨p0,pr0,rfl,h0,ha⟩:=ha;obtain rfl:pr0=[]:=ha;have ht':s[t]? =some (.box [.sl q l,.sl q m]):=by rw [<- bD];exact ht
 obtain ⟨e0,rfl,o0⟩:=h0;obtain rfl:e0=1:=by
  rcases o0 with ⟨r1,l1,a,b⟩|a|⟨_,a,b⟩
  · rw [ht'] at a;cases a
  · rw [ht'] at a;cases a
  exact b
 obtain ⟨b1,hb1,hb1'⟩:=hS.at_ t _ ht';obtain ⟨ps1,rfl,p1,q1,rfl,hp1,p2,q2,rfl,hp2,rfl⟩:=hb1';have hp1:p1= .sl q.length false (l.map (RT.pv q)):=hp1;have hp2:p2= .sl q.length false (m.map (RT.pv q)):=hp2;subst hp1 hp2;have hlen:(xG [t] (s.set t .dead)).length=s.length:=by rw [oN];simp
 obtain ⟨L,hL⟩: ∃L,L=l++m:=⟨_,rfl⟩;rw [<- hL] at he;have G:=dQ.put hS (b:= .dead) (q:= .dead) (l:=[.arr q L]) (ql:=[.arr q.length (L.map (RT.pv q))]) (v:= .own s.length false)
  (p:= .own s.length q.length 0 L.length L.length false) (rd:=[]) ht' (.inr rfl) rfl rfl
  (fun j b hj=>by
   cases j with
   |zero=>simp at hj;subst hj;exact ⟨_,rfl,rfl⟩
   |succ j=>simp at hj)
  ⟨q.length,L.length,rfl,.inl ⟨q,L,by rw [<- hlen];exact hM,rfl,rfl⟩⟩
 have hll:L.length=l.length+m.length:=by rw [hL];simp
 obtain ⟨rr,hr,hq⟩:=hk _ _ _ _ _ _ _ _ G.v G.sto he;refine ⟨rr,hr,1,_,_,_,?_,hq⟩;rw [gF];have hmost:ap (l.length+m.length) gP=true:=by simp [gP];omega
 have hpos:ap 1 (l.length+m.length)=true:=by simpa using hp
 have hLm:L.map (RT.pv q)=l.map (RT.pv q)++m.map (RT.pv q):=by rw [hL,bu]
 have hc:(aq 1 1&&aq 0 0&&aq 2 2&&!has z t&&xJ (l.map (RT.pv q))&&xJ (m.map (RT.pv q))&&ap 1 ((l.map (RT.pv q)).length+(m.map (RT.pv q)).length)&&ap ((l.map (RT.pv q)).length+(m.map (RT.pv q)).length) gP&&(aq q.length 1||(l.map (RT.pv q)).isEmpty)&&(aq q.length 1||(m.map (RT.pv q)).isEmpty))=true:=by
  rw [EP he1,EP he1,hz,bd,bd,hpos,hmost,he1];rfl
 simp only [step,hf];unfold aB8
 dsimp only;rw [hb1];dsimp only;rw [hc];simp [hS.len,dC,GO,hLm,hll,he1]
theorem IE: ∀(p:PT) (a:p.T),HK p (p.pv a)=some a
 | .i k,a=>by
  have:cX k k=true:=cS.2 rfl
  simp [HK,PT.pv,this]
 | .b,a=>rfl
theorem LX: ∀(r:List PT) (a:RT r),PK r (RT.pv r a)=some a
 | [],a=>rfl
 | [p],a=>IE p a
 |p::q::r,a=>by
  show (match HK p (p.pv a.1),PK (q::r) (RT.pv (q::r) a.2) with
   |some a,some b=>some (a,b)
   |_,_=>none)=_
  rw [IE,LX (q::r)]
theorem IF (r:List PT): ∀l:List (RT r),HL r (l.map (RT.pv r))=some l
 | []=>rfl
 |a::l=>by
  show (match PK r (RT.pv r a),HL r (l.map (RT.pv r)) with
   |some a,some l=>some (a::l)
   |_,_=>none)=_
  rw [LX,IF r l]
theorem S0 {s:List SB} {g:Option FuncId} {a:List SV} {p:List PV} (h:zD g a=true) (hr:RL s a p):aGS g p=true:=by
 unfold zD at h;split at h
 · obtain rfl:p=[]:=hr
   rfl
 · obtain ⟨p0,pr,rfl,h0,hr⟩:=hr
   obtain rfl:pr=[]:=hr;obtain ⟨x,y,rfl,hx,hy⟩:=h0;obtain rfl:x=[]:=hx;obtain rfl:y=[]:=hy;exact h
 cases h
theorem N2 {r:List PT} {g:Option FuncId} {args:List SV} {s:List SB} {z:List Nat} {t:Nat} {o:Option Nat} {l:List (RT r)} (h:SI r g args s z=some (t,o,l)):
 ∃x a,args=x::a/\nth s t=some (.arr r l)/\has z t=false/\zD g a=true/\((o=none/\ ∃ex,x= .own t ex)\/ ∃len cap ex,o=some len/\x= .pre t len cap ex):=by
 unfold SI at h;split at h
 · split at h
   · split at h
     · rename_i hm
       cases hc:(!has z _&&zD g _) with
       |false=>rw [hc] at h;cases h
       |true=>
        rw [hc] at h;simp only [cond_true,ah,ay] at h;obtain ⟨rfl,rfl,rfl⟩:=h;simp only [ac,az] at hc;obtain ⟨rfl,rfl⟩:=jN hm;exact ⟨_,_,rfl,by assumption,hc.1,hc.2,.inl ⟨rfl,_,rfl⟩⟩
     cases h
   cases h
 · split at h
   · split at h
     · rename_i hm
       cases hc:(!has z _&&zD g _) with
       |false=>rw [hc] at h;cases h
       |true=>
        rw [hc] at h;simp only [cond_true,ah,ay] at h;obtain ⟨rfl,rfl,rfl⟩:=h;simp only [ac,az] at hc;obtain ⟨rfl,rfl⟩:=jN hm;exact ⟨_,_,rfl,by assumption,hc.1,hc.2,.inr ⟨_,_,_,rfl,rfl⟩⟩
     cases h
   cases h
 cases h
theorem KL {α:Type} {f:List α->Option (List α)} {l m:List α} (h:BM f l=some m):l.length<=1048576/\f l=some m/\m.length=l.length:=by
 unfold BM at h;split at h
 · rename_i hl
   split at h
   · rename_i m' hm
     split at h
     · rename_i he
       injection h with h;subst h;exact ⟨hl,hm,he⟩
     cases h
   cases h
 cases h
theorem F0 {α:Type} {f:List α->Option (List α)} {n:Nat} {l m:List α} (h:FL f n l=some m):n<=l.length/\ ∃m',BM f (l.take n)=some m'/\m=m'++l.drop n:=by
 unfold FL at h;split at h
 · rename_i hn
   cases hm:BM f (l.take n) with
   |none=>rw [hm] at h;cases h
   |some m'=>
    rw [hm] at h;injection h with h;exact ⟨hn,m',rfl,h.symm⟩
 cases h
theorem KM {q:Srt} {f:FuncId} (hf:F f=some (.shp (aCh q))) {R':Type} {args:List SV} {s:List SB} {z:List Nat} {k:SV->List SB->List Nat->dF R'} {ρ:Type} {w:R'->ρ} {y:ρ} {pa:List PV} {ps:bI}
 {Q:R'->PV->bI->List Nat->Prop} (ha:RL s args pa) (hS:bH s ps) (he:aCl q args s z k ρ w=some y)
 (hk: ∀v s' z' p ps' ρ' (w':R'->ρ') y',R s' v p->bH s' ps'->k v s' z' ρ' w'=some y'-> ∃r,y'=w' r/\Q r p ps' z'): ∃r,y=w r/\uD F f pa ps z (fun p ps' z'=>Q r p ps' z'):=by
 have key: ∀(t len:Nat) (l m':List (RT q.r)) (ex:Bool) (cap:Nat) (pr:List PV) (a:List SV),s[t]? =some (.arr q.r l)->has z t=false->zD q.g a=true->RL s a pr->pa= .own t q.r.length 0 len cap ex::pr->len<=l.length->BM q.fn (l.take len)=some m'->
  k (.tup []) (dA.stoOf s {v:= .tup [],wr:=[(t,.arr q.r (m'++l.drop len))]}) z ρ w=some y-> ∃r,y=w r/\uD F f pa ps z (fun p ps' z'=>Q r p ps' z'):=by
  intro t len l m' ex cap pr a ht hz hg har hpa hlen hso he;subst hpa;obtain ⟨s1,s2,s3⟩:=KL hso;obtain ⟨b1,hb1,hb1'⟩:=hS.at_ t _ ht;have hb1':b1= .arr q.r.length (l.map (RT.pv q.r)):=hb1';subst hb1';have hll:(l.take len).length=len:=by rw [bk];omega
  have hml:(m'++l.drop len).length=l.length:=by rw [cw,dv,s3,hll];omega
  have G:=dQ.put hS (b:= .arr q.r (m'++l.drop len)) (q:= .arr q.r.length ((m'++l.drop len).map (RT.pv q.r))) (l:=[]) (ql:=[]) (v:= .tup []) (p:= .tup []) (rd:=[]) ht (.inl ⟨_,rfl,hml⟩) rfl rfl
   (fun j b hj=>by simp at hj) ⟨[],rfl,rfl⟩
  obtain ⟨rr,hr,hq⟩:=hk _ _ _ _ _ _ _ _ G.v G.sto he;refine ⟨rr,hr,1,_,_,_,?_,hq⟩;rw [gF];have hg':=S0 hg har;have hrt:HL q.r ((l.map (RT.pv q.r)).take len)=some (l.take len):=by rw [<- bm];exact IF q.r _
  have hbl:ap len l.length=true:=by simpa using hlen
  have hmo:ap len gP=true:=by simp [gP];omega
  have hbe:aq m'.length (l.take len).length=true:=by rw [s3];exact bi _
  simp only [step,hf,aCh,hb1,bd,bi,hbl,hmo,hz,hg',hrt,s2,hbe,bz,cm,if_true,Option.map_some,dC,GO,bu,cf]
 unfold aCl at he;cases hA:SI q.r q.g args s z with
 |none=>rw [hA] at he;cases he
 |some u=>
  obtain ⟨t,o,l⟩:=u;rw [hA] at he;obtain ⟨x,a,rfl,ht,hz,hg,h⟩:=N2 hA;obtain ⟨p0,pr,rfl,h0,ha⟩:=ha;rw [bD] at ht;rcases h with ⟨rfl,ex,rfl⟩|⟨len,cap,ex,rfl,rfl⟩
  · obtain ⟨m,hm,he⟩:=bJ he
    obtain ⟨e0,n0,rfl,o0⟩:=h0;obtain ⟨rfl,rfl⟩:e0=q.r.length/\n0=l.length:=by
     rcases o0 with ⟨r1,l1,a,b,c⟩|a
     · rw [ht] at a;injection a with a;injection a with a1 a2;subst a1;cases a2;exact ⟨b,c⟩
     rw [ht] at a;cases a
    refine key t l.length l m ex l.length pr a ht hz hg ha rfl (dx _) (by rw [List.take_length];exact hm) ?_
    rw [List.drop_length,bc];exact he
  obtain ⟨m,hm,he⟩:=bJ he
  obtain ⟨e0,rfl,o0⟩:=h0;obtain rfl:e0=q.r.length:=by
   rcases o0 with ⟨r1,l1,a,b⟩|a|⟨_,a,_⟩
   · rw [ht] at a;injection a with a;injection a with a1 a2;subst a1;exact b
   · rw [ht] at a;cases a
   rw [ht] at a;cases a
  obtain ⟨hn,m',hso,rfl⟩:=F0 hm;exact key t len l m' ex cap pr a ht hz hg ha rfl hn hso he
theorem F1 (hcx:aM F cx): ∀n,IA F (PO cx n)
 |0=>fun f args s z R' k ρ w y pa ps Q _ _ h _=>by cases h
 |n+1=>fun f args s z R' k ρ w y pa ps Q ha hS h hk=>by
  simp only [PO] at h;cases hx:cx.code f with
  |none=>rw [hx] at h;cases h
  |some x=>
   rw [hx] at h;cases x with
   |code x=>exact rA hcx (F1 hcx n) (hcx.code f _ hx) ha hS h hk
   |ins e=>exact KJ (hcx.code f _ hx) ha hS h hk
   |srt q=>exact KM (hcx.code f _ hx) ha hS h hk
   |cat=>exact KK (hcx.code f _ hx) ha hS h hk
def S1:Kd->Bool->Bool
 | .own,b=>b
 |_,b=>!b
def QI (kd:Kd) {β:Type} (res:aE β) (b:β) (p:PV) (ps:bI) (z:List Nat):Prop:=
 match kd with
 | .pure=>p.noref=true/\lO (res.enc b)=some p
 | .frz=>p.noref=false/\ ∃q,rZ ps p=some q/\lO (res.enc b)=some q
 | .own=> ∀nx,∃p0 p' q seen,sV ps z nx [] p=some (p',q,seen)/\lO (res.enc b)=some p0/\CC nx p0=some (p',q)
mutual
theorem IG {s:List SB}: ∀{v:SV} {p:PV},R s v p->uM v=true->lO v=some p
 | .int _ _,p,h,_| .bool _,p,h,_| .str _,p,h,_=>by rw [show p=_ from h];rfl
 | .agg cs,p,h,hn=>by obtain ⟨q,rfl,h⟩:=h;simp only [lO,pure_pvL h hn]
 | .tup cs,p,h,hn=>by obtain ⟨q,rfl,h⟩:=h;simp only [lO,pure_pvL h hn]
 | .junk,_,_,h| .undef,_,_,h| .nul,_,_,h| .nilf,_,_,h| .sl _ _,_,_,h| .nil _ _,_,_,h| .own _ _,_,_,h| .pre _ _ _ _,_,_,h| .part _ _ _ _ _,_,_,h| .pa _ _ _ _ _,_,_,h| .pb _ _ _,_,_,h| .bp _ _ _,_,_,h| .rptr _ _,_,_,h| .clo _ _ _,_,_,h| .mp _,_,_,h=>by cases h
theorem pure_pvL {s:List SB}: ∀{v:List SV} {p:List PV},RL s v p->norefSL v=true->pvL v=some p
 | [],p,h,_=>by rw [show p=_ from h];rfl
 |x::xs,p,h,hn=>by
  obtain ⟨a,as,rfl,h1,h2⟩:=h.cons_inv;simp only [norefSL,ac] at hn;exact cB.2 ⟨_,_,rfl,IG h1 hn.1,pure_pvL h2 hn.2⟩
end
theorem KN {kd:Kd} {β:Type} {res:aE β} {v:SV} {s:List SB} {z:List Nat} {p:PV} {ps:bI} {ρ:Type} {w:β->ρ} {y:ρ} (hv:R s v p) (hS:bH s ps) (h:PP kd res v s z ρ w=some y):
 ∃b,y=w b/\QI kd res b p ps z:=by
 unfold PP at h;cases kd with
 |pure=>
  dsimp only at h;obtain ⟨h1,h2⟩:=bK h;obtain ⟨b,h3,h4⟩:=aV h2;injection h4 with h4;exact ⟨b,h4.symm,HY hv h1,res.law h3 (IG hv h1)⟩
 |frz=>
  dsimp only at h;obtain ⟨h1,h2⟩:=lH h;obtain ⟨u,h3,h4⟩:=aV h2;obtain ⟨b,h5,h6⟩:=aV h4;injection h6 with h6;obtain ⟨q,h7,h8⟩:=aBZ hS hv h3;exact ⟨b,h6.symm,EH hv h1 h3,q,h7,res.law h5 h8⟩
 |own=>
  dsimp only at h;obtain ⟨u,h3,h4⟩:=aV h;obtain ⟨b,h5,h6⟩:=aV h4;injection h6 with h6;refine ⟨b,h6.symm,fun nx=>?_⟩
  obtain ⟨p0,p',q,h7,h8,h9⟩:=QC hS (v':=u.1) (seen':=u.2) nx hv h3;exact ⟨p0,p',q,u.2,h9,res.law h5 h7,h8⟩
theorem bH.nil:bH [] []:=⟨rfl,fun t b h=>by simp at h⟩
theorem aB.of {f:FuncId} {x:aG} {α β:Type} {args:aC α} {res:aE β} {kd:Kd} {fn:α->Option β} {ow:Bool} (hf:F f=some (.code x)) (ho:S1 kd ow=true) (hcx:aM F cx)
 (h: ∀a,aBW cx x args res kd a=fn a):aB F f ⟨args,res,fn,kd,ow⟩:=by
 intro a b as pa sto fz hb hpa hex;have hb:fn a=some b:=hb;rw [<- h a] at hb;obtain ⟨r,hr,n,v,s,z,hrun,hl⟩:=rA hcx (F1 hcx 8) hf (Q:=fun r p ps z=>QI kd res r p ps z) (pvL_R hpa) bH.nil hb (fun v s' z' p ps' ρ' w' y' hv hS hk=>KN hv hS hk)
 have hr':b=r:=hr;subst hr';cases kd with
 |pure=>
  obtain ⟨h1,h2⟩:=hl;have how:ow=false:=by simpa [S1] using ho
  subst how;refine ⟨n,{v:=v,rd:=toksL (bN sto cE) as},?_,v,h2,rfl⟩;simp only [callPure,hex,hf,hrun,ar,if_false,h1,if_true]
 |frz=>
  obtain ⟨h1,q,h2,h3⟩:=hl;have how:ow=false:=by simpa [S1] using ho
  subst how;refine ⟨n,{v:=q,rd:=toksL (bN sto cE) as,fr:=toksL (bN sto cE) as},?_,q,h3,rfl⟩;simp only [callPure,hex,hf,hrun,ar,if_false,h1,h2]
 |own=>
  have how:ow=true:=ho;subst how;obtain ⟨p0,p',q,seen,h1,h2,h3⟩:=hl sto.length;refine ⟨n,{v:=p',news:=q,rd:=toksL (bN sto cE) as},?_,p0,p',q,h2,h3,rfl⟩;simp only [callPure,hex,hf,hrun,if_true,h1]
theorem IH: ∀(s:List SB) (q:List qD),(uN s q).1.length=s.length
 | [],q=>rfl
 |b::r,q=>by simp only [uN,ba,IH r]
mutual
theorem R.take {s:List SB} {k:Nat}: ∀{v:SV} {p:PV},R s v p->(∀t∈J3 mA v,t<k)->R (s.take k) v p
 | .junk,_,_,_=>trivial
 | .undef,_,h,_| .nul,_,h,_| .nilf,_,h,_| .int _ _,_,h,_| .bool _,_,h,_| .str _,_,h,_| .sl _ _,_,h,_| .nil _ _,_,h,_| .bp _ _ _,_,h,_| .mp _,_,h,_=>h
 | .agg cs,_,h,ht=>by obtain ⟨q,rfl,h⟩:=h;exact ⟨q,rfl,RL.takeS h ht⟩
 | .tup cs,_,h,ht=>by obtain ⟨q,rfl,h⟩:=h;exact ⟨q,rfl,RL.takeS h ht⟩
 | .rptr cs o,_,h,ht=>by obtain ⟨q,rfl,h⟩:=h;exact ⟨q,rfl,RL.takeS h ht⟩
 | .clo f a b,_,h,ht=>by
  obtain ⟨pa,pb,rfl,h1,h2⟩:=h;exact ⟨pa,pb,rfl,RL.takeS h1 (fun t h=>ht t (cq _ h)),RL.takeS h2 (fun t h=>ht t (ck _ h))⟩
 | .own t ex,_,h,ht=>by
  obtain ⟨e,n,rfl,hat⟩:=h;have hk:=ht t (ch.2 rfl);refine ⟨e,n,rfl,?_⟩;rcases hat with ⟨r,l,h1,h2,h3⟩|h1
  · exact .inl ⟨r,l,by rw [ai hk];exact h1,h2,h3⟩
  exact .inr (by rw [ai hk];exact h1)
 | .pre t a b c,_,h,ht=>by
  obtain ⟨e,rfl,hat⟩:=h;have hk:=ht t (ch.2 rfl);refine ⟨e,rfl,?_⟩;rcases hat with ⟨r,l,h1,h2⟩|h1
  · exact .inl ⟨r,l,by rw [ai hk];exact h1,h2⟩
  exact .inr (by rw [ai hk];exact h1)
 | .part t o a b c,_,h,ht=>by
  obtain ⟨e,rfl,hat⟩:=h;have hk:=ht t (ch.2 rfl);refine ⟨e,rfl,?_⟩;rcases hat with ⟨r,l,h1,h2⟩|h1
  · exact .inl ⟨r,l,by rw [ai hk];exact h1,h2⟩
  exact .inr (by rw [ai hk];exact h1)
 | .pa t r i a o,_,h,ht=>by
  obtain ⟨rfl,hat⟩:=h;have hk:=ht t (cg ..);refine ⟨rfl,?_⟩;rcases hat with ⟨l,h1,h2⟩|h1
  · exact .inl ⟨l,by rw [ai hk];exact h1,h2⟩
  exact .inr (by rw [ai hk];exact h1)
 | .pb t i o,_,h,ht=>by
  obtain ⟨e,rfl,hat⟩:=h;have hk:=ht t (cg ..);refine ⟨e,rfl,?_⟩;rcases hat with ⟨r,l,h1,h2⟩|h1
  · exact .inl ⟨r,l,by rw [ai hk];exact h1,h2⟩
  exact .inr (by rw [ai hk];exact h1)
theorem RL.takeS {s:List SB} {k:Nat}: ∀{v:List SV} {p:List PV},RL s v p->(∀t∈tkVL mA v,t<k)->RL (s.take k) v p
 | [],_,h,_=>h
 |x::xs,_,h,ht=>by
  obtain ⟨a,as,rfl,h1,h2⟩:=h.cons_inv;exact RL.cons (R.take h1 (fun t h=>ht t (cq _ h))) (RL.takeS h2 (fun t h=>ht t (ck _ h)))
end
theorem CG {R' ρ:Type} {w:R'->ρ} {y:ρ}: ∀{s s':List SB} {k:dF R'},wA s s' k ρ w=some y->k ρ w=some y/\s'.length=s.length/\ ∀(t:Nat) (x z:SB),s[t]? =some x->s'[t]? =some z->QE x z
 | [],[],k,h=>⟨h,rfl,fun t x z h=>by simp at h⟩
 | [],_::_,k,h=>by cases h
 |_::_,[],k,h=>by cases h
 |x::xs,y'::ys,k,h=>by
  have step: ∀(_:wA xs ys k ρ w=some y) (_:QE x y'),k ρ w=some y/\(y'::ys).length=(x::xs).length/\ ∀(t:Nat) (a b:SB),(x::xs)[t]? =some a->(y'::ys)[t]? =some b->QE a b:=by
   intro h hx;obtain ⟨h1,h2,h3⟩:=CG h;refine ⟨h1,by simpa using h2,fun t a b ha hb=>?_⟩
   cases t with
   |zero=>simp at ha hb;subst ha hb;exact hx
   |succ t=>exact h3 t a b (by simpa using ha) (by simpa using hb)
  cases x with
  |arr r l=>
   cases y' with
   |arr q m=>
    obtain ⟨hr,h2⟩:=bK (a:=dJ (m.length==l.length) (wA xs ys k) aJ) h;obtain ⟨hl,h3⟩:=eA h2;exact step h3 ⟨nP hr,by simpa using hl⟩
   |_=>cases h
  |dead=>cases y' with
   |dead=>exact step h trivial
   |_=>cases h
  |box cs=>cases y' with
   |box _=>exact step h trivial
   |_=>cases h
  |set l=>cases y' with
   |set _=>exact step h trivial
   |_=>cases h
  |tab p l=>cases y' with
   |tab _ _=>exact step h trivial
   |_=>cases h
theorem CH: ∀{s:List SB},BY s=true-> ∀(t:Nat) (b:SB),s[t]? =some b->sF b=true
 | [],_,t,b,h=>by simp at h
 |x::xs,hs,0,b,h=>by simp only [BY,ac] at hs;simp at h;subst h;exact hs.1
 |x::xs,hs,t+1,b,h=>by simp only [BY,ac] at hs;exact CH hs.2 t b (by simpa using h)
theorem eE.of {f:FuncId} {x:aG} {wd:Bool} {ka ko:List AK} {ta:List SV} {tb to:List SB} {tv:SV} {fn:fJ ka->Option (fJ ko)} (hf:F f=some (.code x)) (hcx:aM F cx)
 (h: ∀a,aIG wd cx x ka ta tb ko tv to a=fn a):eE F f ⟨ka,ta,tb,ko,tv,to,fn⟩:=by
 intro a b pa ps hb ha hS;rw [show (⟨ka,ta,tb,ko,tv,to,fn⟩:bV).fn a=fn a from rfl,<- h a] at hb;have hlen:(bV.sa ⟨ka,ta,tb,ko,tv,to,fn⟩ a).length=tb.length:=IH _ _;obtain ⟨r,hr,n,v,s,z,hrun,hz,hq⟩:=rA hcx (F1 hcx 8) hf (Q:=fun (r:fJ ko) p ps' z'=>z'=[]/\dZ tb.length p ps'=true/\
  R (bV.sb ⟨ka,ta,tb,ko,tv,to,fn⟩ r) (bV.vb ⟨ka,ta,tb,ko,tv,to,fn⟩ r) p/\bH (bV.sb ⟨ka,ta,tb,ko,tv,to,fn⟩ r) (ps'.take tb.length)/\
  (bV.sb ⟨ka,ta,tb,ko,tv,to,fn⟩ r).length=(bV.sa ⟨ka,ta,tb,ko,tv,to,fn⟩ a).length/\
  ∀(t:Nat) (x y:SB),(bV.sa ⟨ka,ta,tb,ko,tv,to,fn⟩ a)[t]? =some x->(bV.sb ⟨ka,ta,tb,ko,tv,to,fn⟩ r)[t]? =some y->QE x y) ha hS hb (fun v s' z' p ps' ρ' w' y' hv hS' hk=>by
  cases z' with
  |cons _ _=>cases hk
  |nil=>
   dsimp only at hk;obtain ⟨hc,hk⟩:=bK hk;simp only [ac] at hc;obtain ⟨⟨⟨⟨c1,c2⟩,c3⟩,c4⟩,c5⟩:=hc;obtain ⟨hk,f1,f2⟩:=CG hk;obtain ⟨r,hr,hk⟩:=aV hk;injection hk with hk;have hu:R s' (bif wd then D8 s' v else v) p:=by
    cases wd with
    |true=>exact LQ hv
    |false=>exact hv
   generalize (bif wd then D8 s' v else v)=u at c1 c3 c4 hr hu
   have hats:=lQ hr;have hvb:bV.vb ⟨ka,ta,tb,ko,tv,to,fn⟩ r=u:=by
    show (mD tv (hJ ko r)).1=u;rw [hats,AN _ c1]
   have hsb:bV.sb ⟨ka,ta,tb,ko,tv,to,fn⟩ r=s'.take tb.length:=by
    show (uN to (mD tv (hJ ko r)).2).1=_;rw [hats,AN _ c1]
    have:=wK [] c2
    rw [bc] at this;rw [this]
   have hle:tb.length<=s'.length:=by
    have:=f1
    rw [bk] at this;have h2:(bV.sa ⟨ka,ta,tb,ko,tv,to,fn⟩ a).length=tb.length:=hlen;have h3:min tb.length s'.length=tb.length:=by rw [this];exact h2
    omega
   unfold aBV at c3;rw [bq] at c3;have hkv: ∀t∈J3 mA u,t<tb.length:=fun t ht=>by simpa using c3 t (cq _ ht)
   have hkb: ∀b∈s'.take tb.length,∀t∈BP b,t<tb.length:=fun b hb t ht=>by simpa using c3 t (ck _ (dw.2 ⟨b,hb,ht⟩))
   have hsto:bH (s'.take tb.length) (ps'.take tb.length):=⟨by simp [hS'.len],fun t x hx=>by
    have hlt:t<tb.length:=by
     have:=(ae.1 hx).1
     rw [bk] at this;omega
    have hx':=hx;rw [ai hlt] at hx';obtain ⟨q,q1,q2⟩:=hS'.at_ t x hx';refine ⟨q,by rw [ai hlt];exact q1,?_⟩
    cases x with
    |box cs=>
     obtain ⟨pc,rfl,hpc⟩:=q2;exact ⟨pc,rfl,RL.takeS hpc (hkb _ (cp hx))⟩
    |_=>exact q2⟩
   refine ⟨r,hk.symm,rfl,?_,by rw [hvb,hsb];exact R.take hu hkv,by rw [hsb];exact hsto,by rw [hsb];exact f1,by rw [hsb];exact f2⟩
   unfold dZ;rw [bq];intro t ht;rw [dz] at ht;rcases ht with ht|ht
   · rw [<- P6 (bx:=mA) (fun _=>rfl) hu c4] at ht
     simpa using hkv t ht
   rw [dw] at ht
   obtain ⟨q,hq,ht⟩:=ht;obtain ⟨j,hj,he⟩:=ct hq;have hjl:j<(s'.take tb.length).length:=by rw [<- hsto.len];exact hj
   obtain ⟨x,hx⟩: ∃x,(s'.take tb.length)[j]? =some x:=⟨_,aj hjl⟩;obtain ⟨q',q1,q2⟩:=hsto.at_ j x hx;rw [aj hj,he] at q1;injection q1 with q1;subst q1;rw [<- FV q2 (CH c5 j x hx)] at ht;simpa using hkb x (cp hx) t ht)
 have hr':b=r:=hr;subst hr';subst hz;refine ⟨n,v,s,hrun,?_⟩;rw [hlen];obtain ⟨h1,h2,h3,h4,h5⟩:=hq;exact ⟨h1,h2,h3,by rw [h4,hlen],h5⟩
theorem KO {f:FuncId} {r:List PT} (hf:F f=some (.prim false (cQ r.length))) (l:List (RT r)) (hl:l.length<=1048576) {as:List PV} {sto:bI} {fz:List Nat} (hex:exL sto (sM sto cE) as=some [.sl r.length false (l.map (RT.pv r))]):
 ∃n x,callPure F (run F n) false f as sto fz=some x/\aB0 .own sto.length (toksL (bN sto cE) as) (.sl r l) x:=by
 refine ⟨0,{v:= .own sto.length r.length 0 l.length l.length false,news:=[.arr r.length (l.map (RT.pv r))],rd:=toksL (bN sto cE) as},?_,.sl r.length false (l.map (RT.pv r)),.own sto.length r.length 0 l.length l.length false,[.arr r.length (l.map (RT.pv r))],rfl,by simp only [CC,bd],rfl⟩
 simp only [callPure,hex,hf];cases l with
 |nil=>rfl
 |cons a l=>
  have h2:ap ((l.map (RT.pv r)).length+1) gP=true:=by simp [gP] at hl ⊢;omega
  simp only [be,cQ,bi,h2,bh,if_true,sV];simp [has]
theorem aB.clone {f:FuncId} {n:Nat} {r:List PT} (hf:F f=some (.prim false (cQ n))) (hn:n=r.length):aB F f (aU.clone r):=by
 intro (a:List (RT r)) (b:List (RT r)) as pa sto fz hb hpa hex;subst hn;have hb:bC a=some b:=hb;obtain ⟨rfl,hl⟩:=uQ hb;have hpa':pa=[.sl r.length false (b.map (RT.pv r))]:=by
  have:some [PV.sl r.length false (b.map (RT.pv r))]=some pa:=hpa
  exact (de this).symm
 subst hpa';exact KO hf b hl hex
theorem aB.add64 {f:FuncId} (hf:F f=some (.prim false uC)):aB F f aU.add64:=by
 intro a b as pa sto fz hb hpa hex;obtain ⟨x,y,c⟩:=a;have hb':lP x y c=some b:=hb;unfold lP at hb';cases hc:(decide (0<=x)&&decide (0<=y)&&decide (0<=c)&&decide (c<=1)) with
 |false=>rw [hc] at hb';cases hb'
 |true=>
  rw [hc] at hb';injection hb' with hb';subst hb';simp only [ac,decide_eq_true_eq] at hc;obtain ⟨⟨⟨h1,h2⟩,h3⟩,h4⟩:=hc;obtain ⟨x,rfl⟩:=ax h1;obtain ⟨y,rfl⟩:=ax h2;obtain ⟨c,rfl⟩:=ax h3;have hpa':pa=[.int .u64 (.ofNat x),.int .u64 (.ofNat y),.int .u64 (.ofNat c)]:=by
   have:some [PV.int .u64 (x:Int),.int .u64 (y:Int),.int .u64 (c:Int)]=some pa:=hpa
   exact (de this).symm
  subst hpa';have hcb:ap c 1=true:=by simp;omega
  refine ⟨0,{v:= .tup [.int .u64 (.ofNat ((x+y+c)%18446744073709551616)),.int .u64 (.ofNat ((x+y+c) / 18446744073709551616))],rd:=toksL (bN sto cE) as},?_,_,rfl,rfl⟩;show callPure F (run F 0) false f as sto fz=_;simp only [callPure,hex,hf,uC,hcb,if_true];rfl
theorem aB.run0 {f:FuncId} {x:aG} {fn:Unit->Option Bool} (h:aB F f ⟨aC.nil,aE.bool,fn,.pure,false⟩) (hf:F f=some (.code x)) (hb:fn ()=some true): ∃n s z,run F n (.func f [] [] [])=some (.func (.bool true) s z):=by
 obtain ⟨n,r,h1,p,h2,rfl⟩:=h () true [] [] [] [] hb rfl rfl;have hp:p= .bool true:=(de h2).symm;subst hp;refine ⟨n,?_⟩;simp only [callPure,exL,hf] at h1;split at h1
 · rename_i v s z hr
   simp only [ar,if_false] at h1;split at h1
   · injection h1 with h1
     injection h1 with h1;subst h1;exact ⟨s,z,hr⟩
   rename_i hn
   split at h1
   · rename_i v' hv
     injection h1 with h1;injection h1 with h1;subst h1;exfalso;cases v with
     |bool b=>exact hn rfl
     |int _ _|str _|sl _ _ _=>injection hv with hv;cases hv
     |agg cs=>simp only [rZ,bl] at hv;obtain ⟨_,_,hv⟩:=hv;cases hv
     |tup cs=>simp only [rZ,bl] at hv;obtain ⟨_,_,hv⟩:=hv;cases hv
     |own t e off len cap ex=>simp only [rZ] at hv;split at hv<;>first|(injection hv with hv;cases hv)|cases hv
     |_=>cases hv
   cases h1
 cases h1
theorem eE.zero {f:FuncId} {c:bV} (h: ∀a,c.fn a=none):eE F f c:=fun a b pa ps hb=>by rw [h a] at hb;cases hb
theorem aB.zero {f:FuncId} {c:aU} (h: ∀a,c.fn a=none):aB F f c:=fun a b as pa sto fz hb=>by rw [h a] at hb;cases hb
end
end Go.Vm
