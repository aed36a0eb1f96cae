/- The logical machine, part 3: SvCod, SvRel, SvOps1, SvOps2, SvOps3, SvOps4, SvNorm, SvCall, SvFp, SvRun, SvCon, SvSort. -/
import Derived.Test.YtogihpogmfjoiaaGreatNVm2
open Nat renaming eq_of_beq_eq_true->aa,ble->ap,beq->ar,le_of_ble_eq_true->az,beq_refl->bi,lt_or_ge->ce,zero_add->ck,beq_eq->co,min_eq_left->db,le_refl->df,blt->dh,eq_zero_or_pos->dm,le_of_lt->dp,sub_self->d4
open Bool renaming and_eq_true->ac,not_eq_true'->au,false_eq_true->ay,and_self->bh,not_false->cd,and_true->cp,not_true->dk,or_eq_true->dz
open List renaming getElem?_eq_some_iff->ae,getElem?_append_left->af,getElem?_append_right->ag,getElem?_take_of_lt->ai,getElem?_eq_getElem->aj,getElem?_set->am,length_map->ax,length_cons->bc,append_nil->bd,map_cons->be,append_assoc->bg,length_take->bj,replicate->bk,map_take->bm,length_eq_zero_iff->bn,take_of_length_le->bo,getElem?_cons_succ->bq,all_eq_true->bu,map_append->bv,drop_zero->bz,getElem?_eq_none_iff->cf,map_drop->cg,length_append->ch,mem_cons_self->ci,mem_singleton->cj,mem_append_right->cm,mem_cons_of_mem->cq,mem_of_getElem?->ct,mem_append_left->cu,getElem_of_mem->cv,ext_getElem?->cy,getElem?_cons_zero->c6,cons_append->c9,length_drop->da,nodup_cons->dd,take_succ_cons->di,all_cons->dj,cons_beq_cons->dl,map_set->dn,map_nil->dq,flatMap_cons->dt,any_eq_true->dv,mem_flatMap->dw,all_append->dx,mem_append->dy,any_cons->d0,mem_map->d5,all_map->d6
open Option.some renaming injEq->ah,inj->de
open Prod.mk renaming injEq->aq
open Int renaming eq_ofNat_of_zero_le->ba,ofNat->bw,le_trans->cw
open Option renaming map_eq_some_iff->bl,isSome_iff_exists->cz,getD_none->c8,getD_some->du
/- The types of arguments and results, as cells. -/
namespace Go.Vm
theorem kD {r q:List PT} {l:List (RT r)} {m:List (RT q)} (h:lZ r q l=some m): ∃e:r=q,m=e▸l:=by
 unfold lZ at h;split at h
 · rename_i hs
   injection h with h;exact ⟨oK hs,h.symm⟩
 cases h
theorem xE {r q:List PT} {l:List (RT r)} {m:List (RT q)} (h:lZ r q l=some m):r=q/\m.map (RT.pv q)=l.map (RT.pv r)/\m.length=l.length:=by
 obtain ⟨rfl,rfl⟩:=kD h;exact ⟨rfl,rfl,rfl⟩
theorem cD {x:SV} {xs:List SV} {ps:List PV}:pvL (x::xs)=some ps↔ ∃p qs,ps=p::qs/\mA x=some p/\pvL xs=some qs:=by
 simp only [pvL];constructor
 · intro h
   split at h
   · rename_i y ys h1 h2
     injection h with h;exact ⟨y,ys,h.symm,h1,h2⟩
   cases h
 rintro ⟨p,qs,rfl,h1,h2⟩
 rw [h1,h2]
theorem CV: ∀{xs ys:List SV} {p q:List PV},pvL xs=some p->pvL ys=some q->pvL (xs++ys)=some (p++q)
 | [],ys,p,q,h,k=>by simp only [pvL,ah] at h;subst h;exact k
 |x::xs,ys,p,q,h,k=>by
  obtain ⟨a,as,rfl,h1,h2⟩:=cD.1 h;exact cD.2 ⟨a,as++q,rfl,h1,CV h2 k⟩
theorem PT.of_some: ∀{p:PT} {v:SV} {a:p.T},p.of v=some a->v=p.sv a
 | .i k,.int l n,a,h=>by
  simp only [PT.of] at h;cases hk:cT l k with
  |false=>rw [hk] at h;cases h
  |true=>
   rw [hk] at h;injection h with h;subst h;rw [cQ.1 hk];rfl
 | .b,.bool x,a,h=>by injection h with h;subst h;rfl
 | .i k,.bool _,a,h=>by cases h
 | .b,.int _ _,a,h=>by cases h
 | .i _,.junk,a,h| .i _,.undef,a,h| .i _,.nul,a,h| .i _,.nilf,a,h| .i _,.str _,a,h| .i _,.agg _,a,h| .i _,.tup _,a,h| .i _,.sl _ _,a,h| .i _,.nil _ _,a,h| .i _,.own _ _,a,h| .i _,.pre _ _ _ _,a,h| .i _,.part _ _ _ _ _,a,h| .i _,.pa _ _ _ _ _,a,h| .i _,.pb _ _ _,a,h| .i _,.bp _ _ _,a,h| .i _,.rptr _ _,a,h| .i _,.clo _ _ _,a,h| .i _,.mp _,a,h=>by cases h
 | .b,.junk,a,h| .b,.undef,a,h| .b,.nul,a,h| .b,.nilf,a,h| .b,.str _,a,h| .b,.agg _,a,h| .b,.tup _,a,h| .b,.sl _ _,a,h| .b,.nil _ _,a,h| .b,.own _ _,a,h| .b,.pre _ _ _ _,a,h| .b,.part _ _ _ _ _,a,h| .b,.pa _ _ _ _ _,a,h| .b,.pb _ _ _,a,h| .b,.bp _ _ _,a,h| .b,.rptr _ _,a,h| .b,.clo _ _ _,a,h| .b,.mp _,a,h=>by cases h
theorem RT.of_some: ∀{r:List PT} {vs:List SV} {a:RT r},RT.of r vs=some a->vs=RT.sv r a
 | [],[],a,_=>rfl
 | [p],[v],a,h=>by
  have:=PT.of_some (p:=p) h
  rw [this];rfl
 |p::q::r,v::vs,a,h=>by
  simp only [RT.of] at h;split at h
  · rename_i x y h1 h2
    injection h with h;subst h;rw [PT.of_some h1,RT.of_some h2];rfl
  cases h
 | [],_::_,a,h=>by simp [RT.of] at h
 | [p],[],a,h=>by simp [RT.of] at h
 | [p],_::_::_,a,h=>by simp [RT.of] at h
 |_::_::_,[],a,h=>by simp [RT.of] at h
theorem PT.pv_sv (p:PT) (a:p.T):mA (p.sv a)=some (p.pv a):=by cases p<;>rfl
theorem RT.pv_sv: ∀(r:List PT) (a:RT r),pvL (RT.sv r a)=some (RT.pv r a)
 | [],_=>rfl
 | [p],a=>cD.2 ⟨_,_,rfl,PT.pv_sv p a,rfl⟩
 |p::q::r,a=>cD.2 ⟨_,_,rfl,PT.pv_sv p a.1,RT.pv_sv (q::r) a.2⟩
theorem RT.pv_len: ∀(r:List PT) (a:RT r),(RT.pv r a).length=r.length
 | [],_=>rfl
 | [p],a=>rfl
 |p::q::r,a=>by simp [RT.pv,RT.pv_len (q::r) a.2]
theorem RT.sv_len: ∀(r:List PT) (a:RT r),(RT.sv r a).length=r.length
 | [],_=>rfl
 | [p],a=>rfl
 |p::q::r,a=>by simp [RT.sv,RT.sv_len (q::r) a.2]
theorem FK: ∀(n:Nat) {vs:List SV} {ps:List PV},pvL vs=some ps-> ∃p q,ps=p++q/\pvL (vs.take n)=some p/\pvL (vs.drop n)=some q
 |0,vs,ps,h=>⟨[],ps,rfl,by simp [pvL],by simpa using h⟩
 |n+1,[],ps,h=>⟨[],ps,rfl,by simp [pvL],by simpa using h⟩
 |n+1,v::vs,ps,h=>by
  obtain ⟨p,qs,rfl,h1,h2⟩:=cD.1 h;obtain ⟨a,b,rfl,h3,h4⟩:=FK n h2;exact ⟨p::a,b,rfl,by rw [di];exact cD.2 ⟨p,a,rfl,h1,h3⟩,by simpa using h4⟩
def bJ.int (k:IntKind):bJ Int where
 enc n:=[.int k n]
 dec vs:=match vs with
  | .int l n::r=>bif cT l k then some (n,r) else none
  |_=>none
 law:=fun {vs a rest ps} h hp=>by
  split at h
  · rename_i l n r
    cases hk:cT l k with
    |false=>rw [hk] at h;cases h
    |true=>
     rw [hk] at h;simp only [cond_true,ah,aq] at h;obtain ⟨rfl,rfl⟩:=h;obtain ⟨p,qs,rfl,h1,h2⟩:=cD.1 hp;rw [cQ.1 hk] at h1;exact ⟨[p],qs,rfl,cD.2 ⟨p,[],rfl,h1,rfl⟩,h2⟩
  cases h
def bJ.bool:bJ Bool where
 enc n:=[.bool n]
 dec vs:=match vs with
  | .bool n::r=>some (n,r)
  |_=>none
 law:=fun {vs a rest ps} h hp=>by
  split at h
  · simp only [ah,aq] at h
    obtain ⟨rfl,rfl⟩:=h;obtain ⟨p,qs,rfl,h1,h2⟩:=cD.1 hp;exact ⟨[p],qs,rfl,cD.2 ⟨p,[],rfl,h1,rfl⟩,h2⟩
  cases h
def M7 (r:List PT):SV->Option (List (RT r))
 | .sl q l=>lZ q r l
 | .nil e c=>bif ar e r.length&&!c then some [] else none
 |_=>none
theorem FL {r:List PT} {v:SV} {l:List (RT r)} {p:PV} (h:M7 r v=some l) (hp:mA v=some p):mA (.sl r l)=some p:=by
 cases v with
 |sl q m=>
  obtain ⟨rfl,h2,_⟩:=xE h;rw [<- hp];simp only [mA,h2]
 |nil e c=>
  simp only [M7] at h;cases hc:(ar e r.length&&!c) with
  |false=>rw [hc] at h;cases h
  |true=>
   rw [hc] at h;injection h with h;subst h;simp only [ac,co,au] at hc;obtain ⟨rfl,rfl⟩:=hc;rw [<- hp];rfl
 |_=>cases h
def bJ.sl (r:List PT):bJ (List (RT r)) where
 enc l:=[.sl r l]
 dec vs:=match vs with
  |v::rest=>match M7 r v with
   |some l=>some (l,rest)
   |none=>none
  | []=>none
 law:=fun {vs a rest ps} h hp=>by
  split at h
  · split at h
    · rename_i v r' x l hl
      simp only [ah,aq] at h;obtain ⟨rfl,rfl⟩:=h;obtain ⟨p,qs,rfl,h1,h2⟩:=cD.1 hp;exact ⟨[p],qs,rfl,cD.2 ⟨p,[],rfl,FL hl h1,rfl⟩,h2⟩
    cases h
  cases h
def bJ.row (r:List PT):bJ (RT r) where
 enc:=RT.sv r
 dec vs:=match RT.of r (vs.take r.length) with
  |some a=>some (a,vs.drop r.length)
  |none=>none
 law:=fun {vs a rest ps} h hp=>by
  split at h
  · rename_i x hx
    simp only [ah,aq] at h;obtain ⟨rfl,rfl⟩:=h;obtain ⟨p,q,rfl,h1,h2⟩:=FK r.length hp;rw [RT.of_some hx] at h1;exact ⟨p,q,rfl,h1,h2⟩
  cases h
def bJ.prod {α β:Type} (A:bJ α) (B:bJ β):bJ (α×β) where
 enc p:=A.enc p.1++B.enc p.2
 dec vs:=match A.dec vs with
  |some p=>match B.dec p.2 with
   |some q=>some ((p.1,q.1),q.2)
   |none=>none
  |none=>none
 law:=fun {vs a rest ps} h hp=>by
  split at h
  · rename_i p hA
    split at h
    · rename_i q hB
      simp only [ah,aq] at h;obtain ⟨rfl,rfl⟩:=h;obtain ⟨p1,p2,rfl,h1,h2⟩:=A.law (a:=p.1) (rest:=p.2) hA hp;obtain ⟨q1,q2,rfl,h3,h4⟩:=B.law (a:=q.1) (rest:=q.2) hB h2;exact ⟨p1++q1,q2,by simp,CV h1 h3,h4⟩
    cases h
  cases h
def bJ.iso {α β:Type} (A:bJ α) (f:α->β) (g:β->α) (h: ∀a,g (f a)=a):bJ β where
 enc b:=A.enc (g b)
 dec vs:=match A.dec vs with
  |some p=>some (f p.1,p.2)
  |none=>none
 law:=fun {vs a rest ps} hd hp=>by
  split at hd
  · rename_i p hA
    simp only [ah,aq] at hd;obtain ⟨rfl,rfl⟩:=hd;rw [h];exact A.law hA hp
  cases hd
def aE.int (k:IntKind):aE Int where
 enc n:= .int k n
 dec v:=match v with
  | .int l n=>bif cT l k then some n else none
  |_=>none
 law:=fun {v a p} h hp=>by
  split at h
  · rename_i l n
    cases hk:cT l k with
    |false=>rw [hk] at h;cases h
    |true=>rw [hk] at h;injection h with h;subst h;rw [cQ.1 hk] at hp;exact hp
  cases h
def aE.bool:aE Bool where
 enc n:= .bool n
 dec v:=match v with
  | .bool n=>some n
  |_=>none
 law:=fun {v a p} h hp=>by
  split at h
  · injection h with h;subst h;exact hp
  cases h
def aE.sl (r:List PT):aE (List (RT r)) where
 enc l:= .sl r l
 dec:=M7 r
 law:=FL
def aE.agg {α:Type} (A:bJ α):aE α where
 enc a:= .agg (A.enc a)
 dec v:=match v with
  | .agg cs=>match A.dec cs with
   |some p=>match p.2 with
    | []=>some p.1
    |_=>none
   |none=>none
  |_=>none
 law:=fun {v a p} h hp=>by
  split at h
  · rename_i cs
    split at h
    · rename_i q hA
      obtain ⟨x,rest⟩:=q;dsimp only at h;cases rest with
      |cons _ _=>cases h
      |nil=>
       injection h with h;subst h;simp only [mA] at hp;cases hc:pvL cs with
       |none=>rw [hc] at hp;cases hp
       |some l=>
        rw [hc] at hp;injection hp with hp;subst hp;obtain ⟨p1,p2,rfl,h1,h2⟩:=A.law hA hc;simp only [pvL,ah] at h2;subst h2;simp only [mA,h1,bd]
    cases h
  cases h
def aE.ref {α:Type} (A:bJ α):aE α where
 enc a:= .rptr (A.enc a) 0
 dec v:=match v with
  | .rptr cs 0=>match A.dec cs with
   |some p=>match p.2 with
    | []=>some p.1
    |_=>none
   |none=>none
  |_=>none
 law:=fun {v a p} h hp=>by
  split at h
  · rename_i cs
    split at h
    · rename_i q hA
      obtain ⟨x,rest⟩:=q;dsimp only at h;cases rest with
      |cons _ _=>cases h
      |nil=>
       injection h with h;subst h;simp only [mA] at hp;cases hc:pvL cs with
       |none=>rw [hc] at hp;cases hp
       |some l=>
        rw [hc] at hp;injection hp with hp;subst hp;obtain ⟨p1,p2,rfl,h1,h2⟩:=A.law hA hc;simp only [pvL,ah] at h2;subst h2;simp only [mA,h1,bd]
    cases h
  cases h
def aC.nil:aC Unit where
 enc _:=[]
 dec vs:=match vs with
  | []=>some ()
  |_=>none
 law:=fun {vs a ps} h hp=>by
  split at h
  · exact hp
  cases h
def aC.one {α:Type} (A:aE α):aC α where
 enc a:=[A.enc a]
 dec vs:=match vs with
  | [v]=>A.dec v
  |_=>none
 law:=fun {vs a ps} h hp=>by
  split at h
  · obtain ⟨p,qs,rfl,h1,h2⟩:=cD.1 hp
    exact cD.2 ⟨p,qs,rfl,A.law h h1,h2⟩
  cases h
def aC.cons {α β:Type} (A:aE α) (B:aC β):aC (α×β) where
 enc a:=A.enc a.1::B.enc a.2
 dec vs:=match vs with
  |v::r=>match A.dec v with
   |some x=>match B.dec r with
    |some y=>some (x,y)
    |none=>none
   |none=>none
  | []=>none
 law:=fun {vs a ps} h hp=>by
  split at h
  · split at h
    · rename_i x hx
      split at h
      · rename_i y hy
        injection h with h;subst h;obtain ⟨p,qs,rfl,h1,h2⟩:=cD.1 hp;exact cD.2 ⟨p,qs,rfl,A.law hx h1,B.law hy h2⟩
      cases h
    cases h
  cases h
def aE.tup {α:Type} (A:aC α):aE α where
 enc a:= .tup (A.enc a)
 dec v:=match v with
  | .tup vs=>A.dec vs
  |_=>none
 law:=fun {v a p} h hp=>by
  split at h
  · rename_i vs
    simp only [mA] at hp;cases hc:pvL vs with
    |none=>rw [hc] at hp;cases hp
    |some l=>
     rw [hc] at hp;injection hp with hp;subst hp;simp only [mA,A.law h hc]
  cases h
def aE.clo {α:Type} (f:FuncId) (A:aC α):aE α where
 enc a:= .clo f [] (A.enc a)
 dec v:=match v with
  | .clo g [] b=>bif ar g f then A.dec b else none
  |_=>none
 law:=fun {v a p} h hp=>by
  split at h
  · rename_i g b
    cases hg:ar g f with
    |false=>rw [hg] at h;cases h
    |true=>
     rw [hg] at h
     have:=aa hg
     subst this;simp only [mA,pvL] at hp ⊢;cases hc:pvL b with
     |none=>rw [hc] at hp;cases hp
     |some l=>
      rw [hc] at hp;rw [A.law h hc];exact hp
  cases h
def aU.clone (r:List PT):aU:=⟨.one (.sl r),.sl r,aZ,.own,false⟩
def mB (a b c:Int):Option (Int×Int):=bif decide (0<=a)&&decide (0<=b)&&decide (0<=c)&&decide (c<=1) then some ((a+b+c)%18446744073709551616,(a+b+c) / 18446744073709551616) else none
def aU.add64:aU:=⟨.cons (.int .u64) (.cons (.int .u64) (.one (.int .u64))),.tup (.cons (.int .u64) (.one (.int .u64))),fun a=>mB a.1 a.2.1 a.2.2,.pure,false⟩
def JF:List (Nat×aU)->FuncId->List aU
 | [],_=>[]
 |(g,c)::r,f=>bif ar g f then c::JF r f else JF r f
def JG:List (Nat×bW)->FuncId->List bW
 | [],_=>[]
 |(g,c)::r,f=>bif ar g f then c::JG r f else JG r f
def G2:List (Nat×Cd)->FuncId->Option Cd
 | [],_=>none
 |(g,c)::r,f=>bif ar g f then some c else G2 r f
def aM (lp:Option Nat) (c:List (Nat×aU)) (p:List (Nat×bW)) (x:List (Nat×Cd)) (rk:List (Nat×List PT)):QA:=⟨lp,JF c,JG p,G2 x,rk⟩
end Go.Vm
/- What a typed value says of a value of the logical machine. -/
namespace Go.Vm
def RI (s:List SB) (t e n:Nat):Prop:=(∃r l,s[t]? =some (.arr r l)/\e=r.length/\n=l.length)\/s[t]? =some .dead
def uF (s:List SB) (t e:Nat):Prop:=(∃r l,s[t]? =some (.arr r l)/\e=r.length)\/s[t]? =some .dead\/(∃cs,s[t]? =some (.box cs)/\e=1)
def RJ (s:List SB) (t:Nat) (r:List PT) (i:Int) (a:RT r):Prop:=(∃l,s[t]? =some (.arr r l)/\aK l i=some a)\/s[t]? =some .dead
def aD1 (s:List SB) (t:Nat) (i:Int):Prop:=(∃r l,s[t]? =some (.arr r l)/\(aK l i).isSome=true)\/s[t]? =some .dead
mutual
def R (s:List SB):SV->PV->Prop
 | .junk,_=>True
 | .undef,v=>v= .undef
 | .nul,v=>v= .nul
 | .nilf,v=>v= .nilf
 | .int k n,v=>v= .int k n
 | .bool b,v=>v= .bool b
 | .str x,v=>v= .str x
 | .agg cs,v=> ∃ps,v= .agg ps/\RL s cs ps
 | .tup cs,v=> ∃ps,v= .tup ps/\RL s cs ps
 | .sl r l,v=>v= .sl r.length false (l.map (RT.pv r))
 | .nil e c,v=>v= .sl e c []
 | .own t ex,v=> ∃e n,v= .own t e 0 n n ex/\RI s t e n
 | .pre t len cap ex,v=> ∃e,v= .own t e 0 len cap ex/\uF s t e
 | .part t off len cap ex,v=> ∃e,v= .own t e off len cap ex/\uF s t e
 | .pa t r i a off,v=>v= .ptr t r.length i.toNat off/\RJ s t r i a
 | .pb t i off,v=> ∃e,v= .ptr t e i.toNat off/\aD1 s t i
 | .bp t n off,v=>v= .ptr t n 0 off
 | .rptr cs off,v=> ∃ps,v= .rptr ps off/\RL s cs ps
 | .clo f a b,v=> ∃pa pb,v= .clo f pa pb/\RL s a pa/\RL s b pb
 | .mp t,v=>v= .mp t
def RL (s:List SB):List SV->List PV->Prop
 | [],ps=>ps=[]
 |x::xs,ps=> ∃p q,ps=p::q/\R s x p/\RL s xs q
end
def mU:List Int->PV
 | [a]=> .int .i64 a
 |l=> .agg (l.map (.int .i64))
def xF (k:List Int):PV×PV:=(mU k,.bool true)
def A6 (p:PT) (a:RT [.i .i64,p]):PV×PV:=(.int .i64 a.1,p.pv a.2)
def RB (s:List SB):SB->fX->Prop
 | .arr r l,b=>b= .arr r.length (l.map (RT.pv r))
 | .box cs,b=> ∃ps,b= .box ps/\RL s cs ps
 | .set l,b=>b= .map (l.map xF)
 | .tab p l,b=>b= .map (l.map (A6 p))
 | .dead,b=>b= .dead
structure bI (s:List SB) (p:bH):Prop where
 len:p.length=s.length
 at_: ∀(t:Nat) (b:SB),s[t]? =some b-> ∃q,p[t]? =some q/\RB s b q
def bZ (s:List SB):SE->mP->Prop
 | [],e=>e=[]
 |(t,v)::r,e=> ∃p q,e=(t,p)::q/\R s v p/\bZ s r q
structure uG (st:kX) (p:St):Prop where
 env:bZ st.sto st.env p.env
 sto:bI st.sto p.sto
 fz:p.fz=st.fz
 kn:p.kn=st.kn
theorem iC: ∀(s l:List SB),apS s l=s++l
 | [],_=>rfl
 |b::r,l=>by simp [apS,iC r l]
theorem xG: ∀(s:List SB) (t:Nat) (b:SB),RD s t b=s.set t b
 | [],_,_=>by simp [RD]
 |_::_,0,_=>rfl
 |x::r,n+1,b=>by simp [RD,xG r n b]
theorem RL.nil {s:List SB}:RL s [] []:=rfl
theorem RL.cons {s:List SB} {x:SV} {xs:List SV} {p:PV} {q:List PV} (h:R s x p) (k:RL s xs q):RL s (x::xs) (p::q):=⟨p,q,rfl,h,k⟩
theorem RL.cons_inv {s:List SB} {x:SV} {xs:List SV} {ps:List PV} (h:RL s (x::xs) ps): ∃p q,ps=p::q/\R s x p/\RL s xs q:=h
theorem RL.length {s:List SB}: ∀{xs:List SV} {ps:List PV},RL s xs ps->ps.length=xs.length
 | [],ps,h=>by rw [show ps=[] from h];rfl
 |x::xs,ps,h=>by
  obtain ⟨p,q,rfl,_,h2⟩:=h.cons_inv;simp [h2.length]
theorem RL.append {s:List SB}: ∀{xs:List SV} {ps:List PV},RL s xs ps-> ∀{ys:List SV} {qs:List PV},RL s ys qs->RL s (xs++ys) (ps++qs)
 | [],ps,h,_,_,k=>by rw [show ps=[] from h];exact k
 |x::xs,ps,h,_,_,k=>by
  obtain ⟨p,q,rfl,h1,h2⟩:=h.cons_inv;exact RL.cons h1 (h2.append k)
theorem RL.take {s:List SB}: ∀{xs:List SV} {ps:List PV},RL s xs ps-> ∀n,RL s (xs.take n) (ps.take n)
 | [],ps,h,n=>by rw [show ps=[] from h];simp;exact RL.nil
 |x::xs,ps,h,0=>by simp;exact RL.nil
 |x::xs,ps,h,n+1=>by
  obtain ⟨p,q,rfl,h1,h2⟩:=h.cons_inv;exact RL.cons h1 (h2.take n)
theorem RL.drop {s:List SB}: ∀{xs:List SV} {ps:List PV},RL s xs ps-> ∀n,RL s (xs.drop n) (ps.drop n)
 | [],ps,h,n=>by rw [show ps=[] from h];simp;exact RL.nil
 |x::xs,ps,h,0=>h
 |x::xs,ps,h,n+1=>by
  obtain ⟨p,q,rfl,h1,h2⟩:=h.cons_inv;exact h2.drop n
theorem RL.nth {s:List SB}: ∀{xs:List SV} {ps:List PV},RL s xs ps-> ∀{n:Nat} {v:SV},Vm.nth xs n=some v-> ∃p,ps[n]? =some p/\R s v p
 | [],_,_,_,_,e=>by cases e
 |x::xs,ps,h,0,v,e=>by
  obtain ⟨p,q,rfl,h1,_⟩:=h.cons_inv;injection e with e;subst e;exact ⟨p,rfl,h1⟩
 |x::xs,ps,h,n+1,v,e=>by
  obtain ⟨p,q,rfl,_,h2⟩:=h.cons_inv;obtain ⟨p',h3,h4⟩:=h2.nth (n:=n) e;exact ⟨p',by simpa using h3,h4⟩
mutual
theorem LV (s:List SB): ∀v:PV,R s (T2 v) v
 | .undef=>rfl
 | .nul=>rfl
 | .nilf=>rfl
 | .int _ _=>rfl
 | .bool _=>rfl
 | .str _=>rfl
 | .agg cs=>⟨cs,rfl,ofPVL_R s cs⟩
 | .tup cs=>⟨cs,rfl,ofPVL_R s cs⟩
 | .sl e c rows=>by
  cases rows with
  |nil=>exact rfl
  |cons _ _=>trivial
 | .clo f a b=>⟨a,b,rfl,ofPVL_R s a,ofPVL_R s b⟩
 | .own .. =>trivial
 | .ptr .. =>trivial
 | .rptr .. =>trivial
 | .mp _=>trivial
theorem ofPVL_R (s:List SB): ∀l:List PV,RL s (ofPVL l) l
 | []=>rfl
 |x::xs=>RL.cons (LV s x) (ofPVL_R s xs)
end
theorem bZ.lk {s:List SB}: ∀{e:SE} {p:mP},bZ s e p-> ∀t,R s (EO t e) (Vm.lk t p)
 | [],p,h,t=>by rw [show p=[] from h];rfl
 |(u,v)::r,p,h,t=>by
  obtain ⟨q,qs,rfl,h1,h2⟩:=h;simp only [EO,Vm.lk];cases hb:ar u t with
  |true=>exact h1
  |false=>exact bZ.lk h2 t
theorem bZ.setS {s:List SB}: ∀{e:SE} {p:mP},bZ s e p-> ∀{t:Nat} {v:SV},R s v (Vm.lk t p)->bZ s (Vm.setS t v e) p
 | [],p,h,t,v,_=>h
 |(u,x)::r,p,h,t,v,hv=>by
  obtain ⟨q,qs,rfl,h1,h2⟩:=h;simp only [Vm.setS];simp only [Vm.lk] at hv;cases hb:ar u t with
  |true=>rw [hb] at hv;exact ⟨q,qs,rfl,hv,h2⟩
  |false=>rw [hb] at hv;exact ⟨q,qs,rfl,h1,bZ.setS h2 hv⟩
theorem bU {s:List SB} {e:SE} {p:mP} (h:bZ s e p): ∀x:cV,R s (bC e x) (x.ev p)
 | .t n=>h.lk n
 | .c v=>LV s v
theorem tF {s:List SB} {e:SE} {p:mP} (h:bZ s e p): ∀l:List cV,RL s (fS e l) (BO p l)
 | []=>rfl
 |x::xs=>RL.cons (bU h x) (tF h xs)
def Fr (bad:List Nat) (s s':List SB):Prop:= ∀(t:Nat) (b:SB),s[t]? =some b->match b with
 | .arr r l=>(∃l',s'[t]? =some (.arr r l')/\l'.length=l.length/\(has bad t=false->l'=l))\/s'[t]? =some .dead
 | .dead=>s'[t]? =some .dead
 | .box _=>(∃cs,s'[t]? =some (.box cs))\/s'[t]? =some .dead
 |_=>True
theorem Fr.refl (bad:List Nat) (s:List SB):Fr bad s s:=fun t b h=>by
 cases b with
 |arr r l=>exact .inl ⟨l,h,rfl,fun _=>rfl⟩
 |dead=>exact h
 |box cs=>exact .inl ⟨cs,h⟩
 |_=>trivial
theorem Fr.app (bad:List Nat) (s l:List SB):Fr bad s (s++l):=fun t b h=>by
 have h':(s++l)[t]? =some b:=by
  have:=(ae.1 h).1
  rw [af this];exact h
 cases b with
 |arr r l=>exact .inl ⟨l,h',rfl,fun _=>rfl⟩
 |dead=>exact h'
 |box cs=>exact .inl ⟨cs,h'⟩
 |_=>trivial
theorem Fr.trans {bad:List Nat} {a b c:List SB} (h:Fr bad a b) (k:Fr bad b c):Fr bad a c:=fun t x hx=>by
 have h1:=h t x hx;cases x with
 |arr r l=>
  rcases h1 with ⟨l',h2,h3,h4⟩|h2
  · have k1:=k t _ h2
    rcases k1 with ⟨l2,k2,k3,k4⟩|k2
    · exact .inl ⟨l2,k2,k3.trans h3,fun hb=>(k4 hb).trans (h4 hb)⟩
    exact .inr k2
  exact .inr (k t _ h2)
 |dead=>exact k t _ h1
 |box cs=>
  rcases h1 with ⟨c2,h2⟩|h2
  · exact k t _ h2
  exact .inr (k t _ h2)
 |_=>trivial
theorem AF {α:Type} {l m:List α} {i:Int} (h:(aK l i).isSome=true) (hl:m.length=l.length):(aK m i).isSome=true:=by
 cases i with
 |ofNat n=>
  simp only [aK] at h ⊢;rw [cz] at h;obtain ⟨a,ha⟩:=h
  have:=(ae.1 ha).1
  rw [aj (by omega)];rfl
 |negSucc n=>simp [aK] at h
mutual
theorem R.fr {bad:List Nat} {s s':List SB} (hf:Fr bad s s'): ∀{v:SV} {p:PV},R s v p->R s' (TP bad v) p
 | .junk,_,_=>trivial
 | .undef,_,h=>h
 | .nul,_,h=>h
 | .nilf,_,h=>h
 | .int _ _,_,h=>h
 | .bool _,_,h=>h
 | .str _,_,h=>h
 | .agg cs,_,h=>by obtain ⟨ps,rfl,h⟩:=h;exact ⟨ps,rfl,RL.fr hf h⟩
 | .tup cs,_,h=>by obtain ⟨ps,rfl,h⟩:=h;exact ⟨ps,rfl,RL.fr hf h⟩
 | .sl _ _,_,h=>h
 | .nil _ _,_,h=>h
 | .own t ex,_,h=>by
  obtain ⟨e,n,rfl,h⟩:=h;refine ⟨e,n,rfl,?_⟩;rcases h with ⟨r,l,h1,h2,h3⟩|h1
  · rcases hf t _ h1 with ⟨l',k1,k2,_⟩|k1
    · exact .inl ⟨r,l',k1,h2,by rw [h3,k2]⟩
    exact .inr k1
  exact .inr (hf t _ h1)
 | .pre t len cap ex,_,h=>by
  obtain ⟨e,rfl,h⟩:=h;refine ⟨e,rfl,?_⟩;rcases h with ⟨r,l,h1,h2⟩|h1|⟨cs,h1,h2⟩
  · rcases hf t _ h1 with ⟨l',k1,_,_⟩|k1
    · exact .inl ⟨r,l',k1,h2⟩
    exact .inr (.inl k1)
  · exact .inr (.inl (hf t _ h1))
  rcases hf t _ h1 with ⟨c2,k1⟩|k1
  · exact .inr (.inr ⟨c2,k1,h2⟩)
  exact .inr (.inl k1)
 | .part t off len cap ex,_,h=>by
  obtain ⟨e,rfl,h⟩:=h;refine ⟨e,rfl,?_⟩;rcases h with ⟨r,l,h1,h2⟩|h1|⟨cs,h1,h2⟩
  · rcases hf t _ h1 with ⟨l',k1,_,_⟩|k1
    · exact .inl ⟨r,l',k1,h2⟩
    exact .inr (.inl k1)
  · exact .inr (.inl (hf t _ h1))
  rcases hf t _ h1 with ⟨c2,k1⟩|k1
  · exact .inr (.inr ⟨c2,k1,h2⟩)
  exact .inr (.inl k1)
 | .pa t r i a off,_,h=>by
  obtain ⟨rfl,h⟩:=h;simp only [TP];cases hb:has bad t with
  |true=>
   refine ⟨_,rfl,?_⟩;rcases h with ⟨l,h1,h2⟩|h1
   · rcases hf t _ h1 with ⟨l',k1,k2,_⟩|k1
     · exact .inl ⟨r,l',k1,AF (by rw [h2];rfl) k2⟩
     exact .inr k1
   exact .inr (hf t _ h1)
  |false=>
   refine ⟨rfl,?_⟩;rcases h with ⟨l,h1,h2⟩|h1
   · rcases hf t _ h1 with ⟨l',k1,_,k3⟩|k1
     · exact .inl ⟨l',k1,by rw [k3 hb];exact h2⟩
     exact .inr k1
   exact .inr (hf t _ h1)
 | .pb t i off,_,h=>by
  obtain ⟨e,rfl,h⟩:=h;refine ⟨e,rfl,?_⟩;rcases h with ⟨r,l,h1,h2⟩|h1
  · rcases hf t _ h1 with ⟨l',k1,k2,_⟩|k1
    · exact .inl ⟨r,l',k1,AF h2 k2⟩
    exact .inr k1
  exact .inr (hf t _ h1)
 | .bp _ _ _,_,h=>h
 | .rptr cs off,_,h=>by obtain ⟨ps,rfl,h⟩:=h;exact ⟨ps,rfl,RL.fr hf h⟩
 | .clo f a b,_,h=>by obtain ⟨pa,pb,rfl,h1,h2⟩:=h;exact ⟨pa,pb,rfl,RL.fr hf h1,RL.fr hf h2⟩
 | .mp _,_,h=>h
theorem RL.fr {bad:List Nat} {s s':List SB} (hf:Fr bad s s'): ∀{v:List SV} {p:List PV},RL s v p->RL s' (dgL bad v) p
 | [],_,h=>h
 |x::xs,_,h=>by
  obtain ⟨p,q,rfl,h1,h2⟩:=h.cons_inv;exact RL.cons (R.fr hf h1) (RL.fr hf h2)
end
mutual
theorem M8: ∀v:SV,TP [] v=v
 | .junk| .undef| .nul| .nilf| .int _ _| .bool _| .str _| .sl _ _| .nil _ _| .own _ _| .pre _ _ _ _| .part _ _ _ _ _| .pb _ _ _| .bp _ _ _| .mp _=>rfl
 | .agg cs=>by simp only [TP,dgL_nil cs]
 | .tup cs=>by simp only [TP,dgL_nil cs]
 | .rptr cs _=>by simp only [TP,dgL_nil cs]
 | .clo _ a b=>by simp only [TP,dgL_nil a,dgL_nil b]
 | .pa t r i a off=>by simp [TP,has]
theorem dgL_nil: ∀v:List SV,dgL [] v=v
 | []=>rfl
 |x::xs=>by simp only [dgL,M8 x,dgL_nil xs]
end
theorem R.ext {s s':List SB} (hf:Fr [] s s') {v:SV} {p:PV} (h:R s v p):R s' v p:=by
 have:=R.fr hf h
 rwa [M8] at this
theorem RL.ext {s s':List SB} (hf:Fr [] s s') {v:List SV} {p:List PV} (h:RL s v p):RL s' v p:=by
 have:=RL.fr hf h
 rwa [dgL_nil] at this
theorem RB.fr {bad:List Nat} {s s':List SB} (hf:Fr bad s s') {b:SB} {p:fX} (h:RB s b p):RB s' (T7 bad b) p:=by
 cases b with
 |box cs=>obtain ⟨ps,rfl,h⟩:=h;exact ⟨ps,rfl,RL.fr hf h⟩
 |_=>exact h
theorem RB.ext {s s':List SB} (hf:Fr [] s s') {b:SB} {p:fX} (h:RB s b p):RB s' b p:=by
 cases b with
 |box cs=>obtain ⟨ps,rfl,h⟩:=h;exact ⟨ps,rfl,RL.ext hf h⟩
 |_=>exact h
theorem bZ.fr {bad:List Nat} {s s':List SB} (hf:Fr bad s s'): ∀{e:SE} {p:mP},bZ s e p->bZ s' (dgE bad e) p
 | [],_,h=>h
 |(t,v)::r,_,h=>by
  obtain ⟨p,q,rfl,h1,h2⟩:=h;exact ⟨p,q,rfl,R.fr hf h1,bZ.fr hf h2⟩
theorem bZ.ext {s s':List SB} (hf:Fr [] s s'): ∀{e:SE} {p:mP},bZ s e p->bZ s' e p
 | [],_,h=>h
 |(t,v)::r,_,h=>by
  obtain ⟨p,q,rfl,h1,h2⟩:=h;exact ⟨p,q,rfl,R.ext hf h1,bZ.ext hf h2⟩
theorem bI.app {s:List SB} {p:bH} (h:bI s p) {l:List SB} {q:bH} (hl:q.length=l.length) (hb: ∀(j:Nat) (b:SB),l[j]? =some b-> ∃x,q[j]? =some x/\RB (s++l) b x):bI (s++l) (p++q) where
 len:=by simp [h.len,hl]
 at_:=fun t b ht=>by
  rcases ce t s.length with hlt|hge
  · rw [af hlt] at ht
    obtain ⟨x,h1,h2⟩:=h.at_ t b ht;exact ⟨x,by rw [af (by rw [h.len];exact hlt)];exact h1,h2.ext (Fr.app [] s l)⟩
  rw [ag hge] at ht
  obtain ⟨x,h1,h2⟩:=hb _ b ht;exact ⟨x,by rw [ag (by rw [h.len];exact hge),h.len];exact h1,h2⟩
theorem lS (ts:List Nat): ∀(s:List SB) (t:Nat),(yF ts s)[t]? =(s[t]?).map (T7 ts)
 | [],t=>by simp [yF]
 |b::r,0=>by simp [yF]
 |b::r,t+1=>by simp [yF,lS ts r t]
theorem pL (ts:List Nat): ∀(s:List SB),(yF ts s).length=s.length
 | []=>rfl
 |b::r=>by simp [yF,pL ts r]
theorem Fr.dg {bad ts:List Nat} {s s':List SB} (h:Fr bad s s'):Fr bad s (yF ts s'):=fun t b hb=>by
 have h1:=h t b hb;cases b with
 |arr r l=>
  rcases h1 with ⟨l',h2,h3,h4⟩|h2
  · exact .inl ⟨l',by rw [lS,h2];rfl,h3,h4⟩
  exact .inr (by rw [lS,h2];rfl)
 |dead=>show (yF ts s')[t]? =_;rw [lS,h1];rfl
 |box cs=>
  rcases h1 with ⟨c2,h2⟩|h2
  · exact .inl ⟨dgL ts c2,by rw [lS,h2];rfl⟩
  exact .inr (by rw [lS,h2];rfl)
 |_=>trivial
theorem FM {s:List SB}: ∀(r:List PT) (a:RT r),RL s (RT.sv r a) (RT.pv r a)
 | [],_=>rfl
 | [p],a=>by refine RL.cons ?_ RL.nil;cases p<;>rfl
 |p::q::r,a=>by refine RL.cons ?_ (FM (q::r) a.2);cases p<;>rfl
theorem tG {s:List SB}: ∀(r:List PT) (a:RT r) {ps:List PV},RL s (RT.sv r a) ps->ps=RT.pv r a
 | [],_,ps,h=>h
 | [p],a,ps,h=>by
  obtain ⟨x,q,rfl,h1,h2⟩:=h.cons_inv;have h2':q=[]:=h2;subst h2';cases p<;>(have h1':=h1;simp only [PT.sv,R] at h1';rw [h1'];rfl)
 |p::q::r,a,ps,h=>by
  obtain ⟨x,qs,rfl,h1,h2⟩:=h.cons_inv;rw [tG (q::r) a.2 h2];cases p<;>(have h1':=h1;simp only [PT.sv,R] at h1';rw [h1'];rfl)
theorem RT.plain: ∀(r:List PT) (a:RT r),(RT.pv r a).all PV.plain=true
 | [],_=>rfl
 | [p],a=>by cases p<;>rfl
 |p::q::r,a=>by
  have:=RT.plain (q::r) a.2
  cases p<;>(simp only [RT.pv,dj,this,cp];rfl)
theorem R.cells {s:List SB} {v:SV} {p:PV} (h:R s v p) (hj:v≠ .junk):RL s v.cells p.cells:=by
 cases v with
 |junk=>exact absurd rfl hj
 |agg cs=>obtain ⟨ps,rfl,h⟩:=h;exact h
 |undef=>rw [show p= .undef from h];exact RL.cons rfl RL.nil
 |nul=>rw [show p= .nul from h];exact RL.cons rfl RL.nil
 |nilf=>rw [show p= .nilf from h];exact RL.cons rfl RL.nil
 |int k n=>rw [show p= .int k n from h];exact RL.cons rfl RL.nil
 |bool b=>rw [show p= .bool b from h];exact RL.cons rfl RL.nil
 |str x=>rw [show p= .str x from h];exact RL.cons rfl RL.nil
 |sl r l=>rw [show p=_ from h];exact RL.cons rfl RL.nil
 |nil e c=>rw [show p=_ from h];exact RL.cons rfl RL.nil
 |bp t n o=>rw [show p=_ from h];exact RL.cons rfl RL.nil
 |mp t=>rw [show p=_ from h];exact RL.cons rfl RL.nil
 |tup cs=>obtain ⟨ps,rfl,h⟩:=h;exact RL.cons ⟨ps,rfl,h⟩ RL.nil
 |own t ex=>obtain ⟨e,n,rfl,h⟩:=h;exact RL.cons ⟨e,n,rfl,h⟩ RL.nil
 |pre t a b c=>obtain ⟨e,rfl,h⟩:=h;exact RL.cons ⟨e,rfl,h⟩ RL.nil
 |part t o a b c=>obtain ⟨e,rfl,h⟩:=h;exact RL.cons ⟨e,rfl,h⟩ RL.nil
 |pa t r i a o=>obtain ⟨rfl,h⟩:=h;exact RL.cons ⟨rfl,h⟩ RL.nil
 |pb t i o=>obtain ⟨e,rfl,h⟩:=h;exact RL.cons ⟨e,rfl,h⟩ RL.nil
 |rptr cs o=>obtain ⟨ps,rfl,h⟩:=h;exact RL.cons ⟨ps,rfl,h⟩ RL.nil
 |clo f a b=>obtain ⟨pa,pb,rfl,h⟩:=h;exact RL.cons ⟨pa,pb,rfl,h⟩ RL.nil
theorem R.isOne {s:List SB} {v:SV} {p:PV} (h:R s v p) (ho:v.isOne=true):p.isOne=true:=by
 cases v with
 |junk|undef|nul|agg _|tup _=>cases ho
 |nilf|int _ _|bool _|str _|sl _ _|nil _ _|bp _ _ _|mp _=>rw [show p=_ from h];rfl
 |own t ex=>obtain ⟨e,n,rfl,h⟩:=h;rfl
 |pre t a b c=>obtain ⟨e,rfl,h⟩:=h;rfl
 |part t o a b c=>obtain ⟨e,rfl,h⟩:=h;rfl
 |pa t r i a o=>obtain ⟨rfl,h⟩:=h;rfl
 |pb t i o=>obtain ⟨e,rfl,h⟩:=h;rfl
 |rptr cs o=>obtain ⟨ps,rfl,h⟩:=h;rfl
 |clo f a b=>obtain ⟨pa,pb,rfl,h⟩:=h;rfl
theorem RL.allOne {s:List SB}: ∀{cs:List SV} {ps:List PV},RL s cs ps->Vm.allOne cs=true->ps.all PV.isOne=true
 | [],ps,h,_=>by rw [show ps=[] from h];rfl
 |x::xs,ps,h,ho=>by
  obtain ⟨p,q,rfl,h1,h2⟩:=h.cons_inv;simp only [Vm.allOne,ac] at ho;simp only [dj,ac];exact ⟨h1.isOne ho.1,h2.allOne ho.2⟩
theorem R.stored {s:List SB} {v:SV} {p:PV} {w:List SV} (h:R s v p) (hs:v.stored=some w): ∃q,p.stored=some q/\RL s w q:=by
 unfold SV.stored at hs;cases ha:Vm.allOne v.cells with
 |false=>rw [ha] at hs;cases hs
 |true=>
  rw [ha] at hs;injection hs with hs;subst hs;have hj:v≠ .junk:=by intro e;subst e;cases ha
  have hc:=h.cells hj;exact ⟨p.cells,by unfold PV.stored;rw [if_pos (hc.allOne ha)],hc⟩
theorem R.ofRow {s:List SB} {v:SV} {p:PV} {r:List PT} {a:RT r} (h:R s v p) (hr:RT.of r v.cells=some a):p.storedPlain=some (RT.pv r a)/\v.cells.length=r.length:=by
 have hc:=RT.of_some hr;have hl:v.cells.length=r.length:=by rw [hc,RT.sv_len]
 refine ⟨?_,hl⟩;have hj:v≠ .junk:=by
  intro e;subst e;cases r with
  |nil=>simp [SV.cells,RT.of] at hr
  |cons p q=>cases q with
   |nil=>cases p<;>simp [SV.cells,RT.of,PT.of] at hr
   |cons _ _=>simp only [SV.cells,RT.of] at hr;split at hr<;>cases hr<;>(rename_i x y h1 h2;simp at h2)
 have h1:=h.cells hj;rw [hc] at h1;have h2:=tG r a h1;unfold PV.storedPlain;rw [h2,if_pos (RT.plain r a)]
theorem nC {s:List SB} {agg:Option Nat} {off:Nat} {cs:List SV} {ps:List PV} {v:SV} (h:RL s cs ps) (hp:uB agg off cs=some v): ∃p,part agg off ps=some p/\R s v p:=by
 cases agg with
 |none=>
  obtain ⟨p,h1,h2⟩:=h.nth hp;exact ⟨p,h1,h2⟩
 |some n=>
  simp only [uB] at hp;cases hb:ap (off+n) cs.length with
  |false=>rw [hb] at hp;cases hp
  |true=>
   rw [hb] at hp;injection hp with hp;subst hp
   have:off+n<=ps.length:=by rw [h.length];exact az hb
   exact ⟨.agg ((ps.drop off).take n),by simp only [part,if_pos this],_,rfl,(h.drop off).take n⟩
theorem tH {s:List SB} {off:Nat} {new old:List SV} {pn po:List PV} (h:RL s new pn) (k:RL s old po):RL s (kK off new old) (jG off pn po):=by
 unfold kK jG;rw [h.length];exact ((k.take off).append h).append (k.drop _)
theorem M9 {s:List SB} {ps:bH} {v:SV} {p:PV} {r:List PT} {l:List (RT r)} (hs:bI s ps) (h:R s v p) (hc:uC s v=some ⟨r,l⟩):
 jH ps r.length p=some (l.map (RT.pv r))/\eW p=pJ v:=by
 cases v with
 |sl q m=>
  have hc':(⟨q,m⟩:Rows)=⟨r,l⟩:=by injection hc
  cases hc';rw [show p=_ from h];refine ⟨?_,rfl⟩;cases l with
  |nil=>rfl
  |cons a l=>simp [jH]
 |own t ex=>
  simp only [uC,bG] at hc;split at hc
  · rename_i q m hst
    have hc':(⟨q,m⟩:Rows)=⟨r,l⟩:=by injection hc
    cases hc';obtain ⟨e,n,rfl,hat⟩:=h;rcases hat with ⟨q',m',h1,rfl,rfl⟩|h1
    · rw [hst] at h1
      injection h1 with h1;cases h1;obtain ⟨b,h2,h3⟩:=hs.at_ t _ hst;rw [show b=_ from h3] at h2;refine ⟨?_,rfl⟩;simp only [jH,bi,if_true,h2,bz];rw [bo (by simp)]
    rw [hst] at h1;cases h1
  cases hc
 |pre t len cap ex=>
  simp only [uC,bG] at hc;split at hc
  · rename_i q m hst
    have hc':(⟨q,m.take len⟩:Rows)=⟨r,l⟩:=by injection hc
    cases hc';obtain ⟨e,rfl,hat⟩:=h;rcases hat with ⟨q',m',h1,rfl⟩|h1|⟨_,h1,_⟩
    · rw [hst] at h1
      injection h1 with h1;cases h1;obtain ⟨b,h2,h3⟩:=hs.at_ t _ hst;rw [show b=_ from h3] at h2;refine ⟨?_,rfl⟩;simp only [jH,bi,if_true,h2];simp
    · rw [hst] at h1;cases h1
    rw [hst] at h1;cases h1
  cases hc
 |part t off len cap ex=>
  simp only [uC,bG] at hc;split at hc
  · rename_i q m hst
    have hc':(⟨q,(m.drop off).take len⟩:Rows)=⟨r,l⟩:=by injection hc
    cases hc';obtain ⟨e,rfl,hat⟩:=h;rcases hat with ⟨q',m',h1,rfl⟩|h1|⟨_,h1,_⟩
    · rw [hst] at h1
      injection h1 with h1;cases h1;obtain ⟨b,h2,h3⟩:=hs.at_ t _ hst;rw [show b=_ from h3] at h2;refine ⟨?_,rfl⟩;simp only [jH,bi,if_true,h2];simp
    · rw [hst] at h1;cases h1
    rw [hst] at h1;cases h1
  cases hc
 |_=>cases hc
end Go.Vm
/- Operation by operation: what the typed machine does, the logical machine does; the easy ones. -/
namespace Go.Vm
structure eA (s:List SB) (ps:bH) (sr:dL) (pr:jI):Prop where
 rd:pr.rd=sr.rd
 fr:pr.fr=sr.fr
 wr:pr.wr.map (·.1)=rR sr.wr
 nw:oY pr.wr=true
 nl:pr.news.length=sr.news.length
 sto:bI (sr.stoOf s) (IE (dO pr.wr ps) pr.news)
 v:R (sr.stoOf s) sr.v pr.v
 fra:Fr (rR sr.wr) s (sr.stoOf s)
section
variable {s : List SB} {ps : bH}
theorem eA.val (hS:bI s ps) {v:SV} {p:PV} {rd fr:List Nat} (hv:R s v p):eA s ps {v,rd,fr} {v:=p,rd,fr} where
 rd:=rfl
 fr:=rfl
 wr:=rfl
 nw:=rfl
 nl:=rfl
 sto:=by simp only [dL.stoOf,iC,bd,dO,IE];exact hS
 v:=by simp only [dL.stoOf,iC,bd];exact hv
 fra:=by simp only [dL.stoOf,iC,bd];exact Fr.refl _ _
theorem eA.news (hS:bI s ps) {v:SV} {p:PV} {l:List SB} {q:bH} {rd:List Nat} (hl:q.length=l.length) (hb: ∀(j:Nat) (b:SB),l[j]? =some b-> ∃x,q[j]? =some x/\RB (s++l) b x) (hv:R (s++l) v p):
 eA s ps {v,news:=l,rd} {v:=p,news:=q,rd} where
 rd:=rfl
 fr:=rfl
 wr:=rfl
 nw:=rfl
 nl:=hl
 sto:=by simp only [dL.stoOf,iC,dO,lN];exact hS.app hl hb
 v:=by simp only [dL.stoOf,iC];exact hv
 fra:=by simp only [dL.stoOf,iC];exact Fr.app _ _ _
theorem eA.new (hS:bI s ps) {v:SV} {p:PV} {b:SB} {q:fX} {rd:List Nat} (hb:RB (s++[b]) b q) (hv:R (s++[b]) v p):eA s ps {v,news:=[b],rd} {v:=p,news:=[q],rd}:=
 eA.news hS rfl (fun j x h=>by
  cases j with
  |zero=>simp at h;subst h;exact ⟨q,rfl,hb⟩
  |succ j=>simp at h) hv
def NA (b0 b:SB):Prop:=
 match b0 with
 | .arr r l=>(∃l',b= .arr r l'/\l'.length=l.length)\/b= .dead
 | .dead=>b= .dead
 | .box _=>(∃cs,b= .box cs)\/b= .dead
 |_=>True
theorem Fr.set {t:Nat} {b0 b:SB} (h0:s[t]? =some b0) (hk:NA b0 b):Fr [t] s (s.set t b):=fun u x hu=>by
 by_cases hut:t=u
 · subst hut
   rw [h0] at hu;injection hu with hu;subst hu;have hlt:=(ae.1 h0).1;have hb:(s.set t b)[t]? =some b:=by simp [hlt]
   cases b0 with
   |arr r l=>
    rcases hk with ⟨l',rfl,hl⟩|rfl
    · exact .inl ⟨l',hb,hl,fun h=>by simp [has] at h⟩
    exact .inr hb
   |dead=>rw [show b= .dead from hk] at hb ⊢;exact hb
   |box cs=>
    rcases hk with ⟨c2,rfl⟩|rfl
    · exact .inl ⟨c2,hb⟩
    exact .inr hb
   |_=>trivial
 have hb:(s.set t b)[u]? =some x:=by rw [am];simp [hut,hu]
 cases x with
 |arr r l=>exact .inl ⟨l,hb,rfl,fun _=>rfl⟩
 |dead=>exact hb
 |box cs=>exact .inl ⟨cs,hb⟩
 |_=>trivial
theorem bI.put (hS:bI s ps) {t:Nat} {b0 b:SB} {q:fX} (h0:s[t]? =some b0) (hk:NA b0 b) (hq:RB (yF [t] (s.set t b)) (T7 [t] b) q):bI (yF [t] (s.set t b)) (ps.set t q) where
 len:=by simp [pL,hS.len]
 at_:=fun u x hu=>by
  have hlt:=(ae.1 h0).1;rw [lS] at hu
  by_cases hut:t=u
  · subst hut
    have hb:(s.set t b)[t]? =some b:=by simp [hlt]
    rw [hb] at hu;simp at hu;subst hu;exact ⟨q,by rw [am];simp [hS.len,hlt],hq⟩
  rw [am] at hu
  simp only [hut,if_false,bl] at hu;obtain ⟨y,hy,rfl⟩:=hu;obtain ⟨q',h1,h2⟩:=hS.at_ u y hy;exact ⟨q',by rw [am];simp [hut,h1],h2.fr (Fr.dg (Fr.set h0 hk))⟩
theorem eA.put (hS:bI s ps) {v:SV} {p:PV} {t:Nat} {b0 b:SB} {q:fX} {l:List SB} {ql:bH} {rd:List Nat} (h0:s[t]? =some b0) (hk:NA b0 b) (hq:RB (yF [t] (s.set t b)) (T7 [t] b) q)
 (hl:ql.length=l.length) (hb: ∀(j:Nat) (x:SB),l[j]? =some x-> ∃y,ql[j]? =some y/\RB (yF [t] (s.set t b)++l) x y) (hv:R (yF [t] (s.set t b)++l) v p):
 eA s ps {v,wr:=[(t,b)],news:=l,rd} {v:=p,wr:=[(t,q)],news:=ql,rd} where
 rd:=rfl
 fr:=rfl
 wr:=rfl
 nw:=rfl
 nl:=hl
 sto:=by
  simp only [dL.stoOf,iC,dO,lN,rR,lF,xG];exact (hS.put h0 hk hq).app hl hb
 v:=by simp only [dL.stoOf,iC,rR,lF,xG];exact hv
 fra:=by
  simp only [dL.stoOf,iC,rR,lF,xG];exact (Fr.dg (Fr.set h0 hk)).trans (Fr.app _ _ _)
theorem eA.put0 (hS:bI s ps) {t:Nat} {b0 b:SB} {q:fX} {rd:List Nat} (h0:s[t]? =some b0) (hk:NA b0 b) (hq:RB (yF [t] (s.set t b)) (T7 [t] b) q):
 eA s ps {v:= .undef,wr:=[(t,b)],rd} {v:= .undef,wr:=[(t,q)],rd}:=
 eA.put hS h0 hk hq rfl (fun j x h=>by simp at h) rfl
end
section
variable {R' ρ : Type} {w : R' -> ρ} {y : ρ}
theorem aX {α:Type} {x:Option α} {k:α->dQ R'} (h:gW x k ρ w=some y): ∃a,x=some a/\k a ρ w=some y:=by
 cases x with
 |none=>cases h
 |some a=>exact ⟨a,rfl,h⟩
theorem bK {α:Type} {x:Option α} {k:α->dQ R'} (h:gP x k ρ w=some y): ∃a,x=some a/\k a ρ w=some y:=LF h
theorem cR {c:Bool} {a b:dQ R'} (h:dV c a b ρ w=some y):(c=true/\a ρ w=some y)\/(c=false/\b ρ w=some y):=LG h
theorem bL {c:Bool} {a:dQ R'} (h:(bif c then a else aI) ρ w=some y):c=true/\a ρ w=some y:=by
 cases c
 · cases h
 exact ⟨rfl,h⟩
theorem lU {c:Bool} {a:dQ R'} (h:(bif c then aI else a) ρ w=some y):c=false/\a ρ w=some y:=by
 cases c
 · exact ⟨rfl,h⟩
 cases h
theorem eO {c:Bool} {a:dQ R'} (h:dV c a aI ρ w=some y):c=true/\a ρ w=some y:=by
 rcases cR h with ⟨h1,h2⟩|⟨_,h2⟩
 · exact ⟨h1,h2⟩
 cases h2
theorem pM {c:Bool} {a:dQ R'} (h:dV c aI a ρ w=some y):c=false/\a ρ w=some y:=by
 rcases cR h with ⟨_,h2⟩|⟨h1,h2⟩
 · cases h2
 exact ⟨h1,h2⟩
end
def dZ {R':Type} (s:List SB) (ps:bH) (po:Option jI) (k:dL->dQ R') (ρ:Type) (w:R'->ρ) (y:ρ):Prop:=
 ∃sr pr,po=some pr/\eA s ps sr pr/\k sr ρ w=some y
section
variable {R' ρ : Type} {w : R' -> ρ} {y : ρ} {s : List SB} {ps : bH} {e : SE} {pe : mP} {z : List Nat} {k : dL -> dQ R'}
theorem dZ.val (hS:bI s ps) {po:Option jI} {v:SV} {p:PV} (h:k {v} ρ w=some y) (hp:po=some {v:=p}) (hv:R s v p):dZ s ps po k ρ w y:=
 ⟨_,_,hp,eA.val hS hv,h⟩
theorem dZ.rd (hS:bI s ps) {po:Option jI} {v:SV} {p:PV} {rd:List Nat} (h:k {v,rd} ρ w=some y) (hp:po=some {v:=p,rd}) (hv:R s v p):dZ s ps po k ρ w y:=
 ⟨_,_,hp,eA.val hS hv,h⟩
theorem iQ (hE:bZ s e pe) {x:cV} {a:IntKind} {n:Int} (h:bC e x= .int a n):x.ev pe= .int a n:=by
 have:=bU hE x;rw [h] at this;exact this
theorem xH (hE:bZ s e pe) {x:cV} {b:Bool} (h:bC e x= .bool b):x.ev pe= .bool b:=by
 have:=bU hE x;rw [h] at this;exact this
theorem PE (hE:bZ s e pe) {x:cV} {v:SV} (h:bC e x=v):R s v (x.ev pe):=by
 have:=bU hE x;rwa [h] at this
theorem JH (k:IntKind):cT k k=true:=by cases k<;>rfl
theorem LW (hS:bI s ps) {op:BinOp} {a:IntKind} {m n:Int} (h:LJ op a m n (ofV k) ρ w=some y): ∃p,IC op a m n=some p/\dZ s ps (some {v:=p}) k ρ w y:=by
 cases op with
 |quo=>
  obtain ⟨h1,h2⟩:=pM h;have hn:n≠0:=by intro e;subst e;cases h1
  exact ⟨_,by simp only [IC,if_neg hn],dZ.val hS h2 rfl rfl⟩
 |rem=>
  obtain ⟨h1,h2⟩:=pM h;have hn:n≠0:=by intro e;subst e;cases h1
  exact ⟨_,by simp only [IC,if_neg hn],dZ.val hS h2 rfl rfl⟩
 |shl=>cases h
 |shr=>cases h
 |_=>exact ⟨_,rfl,dZ.val hS h rfl rfl⟩
theorem UC (hE:bZ s e pe) (hS:bI s ps) {op:BinOp} {a b:cV} (h:iB e s z (.bin op a b) k ρ w=some y):dZ s ps (aV pe ps z (.bin op a b)) k ρ w y:=by
 simp only [iB] at h;generalize ha:bC e a=va at h;cases va with
 |int ka m=>
  generalize hb:bC e b=vb at h;cases vb with
  |int kb n=>
   have h1:=iQ hE ha;have h2:=iQ hE hb;have key:(op≠ .shl)->(op≠ .shr)->(bif cT ka kb then LJ op ka m n (ofV k) else aI) ρ w=some y->dZ s ps (aV pe ps z (.bin op a b)) k ρ w y:=by
    intro n1 n2 h;obtain ⟨hk,h⟩:=bL h;obtain ⟨p,hp,hs⟩:=LW hS h
    have:aV pe ps z (.bin op a b)=some {v:=p}:=by
     simp only [aV,h1,h2];cases op<;>first|exact absurd rfl n1|exact absurd rfl n2|(simp only [OS,hk,if_true,hp];rfl)
    rw [this];exact hs
   cases op with
   |shl=>
    obtain ⟨hc,h⟩:=pM h;have hc': ¬n<0:=by simpa using hc
    exact dZ.val hS h (by simp only [aV,h1,h2,OS,yG,if_neg hc'];rfl) rfl
   |shr=>
    obtain ⟨hc,h⟩:=pM h;have hc': ¬n<0:=by simpa using hc
    exact dZ.val hS h (by simp only [aV,h1,h2,OS,yG,if_neg hc'];rfl) rfl
   |_=>exact key (by intro e;cases e) (by intro e;cases e) h
  |_=>cases h
 |_=>cases h
theorem RK (hE:bZ s e pe) (hS:bI s ps) {neg:Bool} {a b:cV} (h:iB e s z (.binb neg a b) k ρ w=some y):dZ s ps (aV pe ps z (.binb neg a b)) k ρ w y:=by
 simp only [iB] at h;generalize ha:bC e a=va at h;cases va with
 |bool x=>
  generalize hb:bC e b=vb at h;cases vb with
  |bool x'=>
   refine dZ.val hS h ?_ rfl;simp only [aV,xH hE ha,xH hE hb];cases neg<;>rfl
  |_=>cases h
 |_=>cases h
theorem RM: ∀{xs ys:List SV} {ps qs:List PV} {r:Bool},RL s xs ps->RL s ys qs->eqS xs ys=some r->bR ps qs=some r
 | [],[],ps,qs,r,h1,h2,h=>by rw [show ps=[] from h1,show qs=[] from h2];exact h
 |x::xs,b::ys,ps,qs,r,h1,h2,h=>by
  obtain ⟨p,ps,rfl,a1,a2⟩:=h1.cons_inv;obtain ⟨q,qs,rfl,b1,b2⟩:=h2.cons_inv;simp only [eqS] at h;split at h
  · rename_i ka m kb n
    have a1':p= .int ka m:=a1;have b1':q= .int kb n:=b1;subst a1' b1';cases hk:cT ka kb with
    |false=>rw [hk] at h;cases h
    |true=>
     rw [hk] at h;have hc:lA (.int ka m) (.int kb n)=some (m==n):=by simp only [lA,hk,if_true]
     simp only [bR,hc];cases xs with
     |nil=>
      cases ys with
      |nil=>
       simp only [cond_true,ah] at h;subst h;rw [show ps=[] from a2,show qs=[] from b2];cases m==n<;>rfl
      |cons _ _=>cases h
     |cons x2 xs2=>
      simp only [cond_true] at h;split at h
      · rename_i r' hr
        injection h with h;subst h;rw [RM a2 b2 hr];cases m==n<;>rfl
      cases h
  cases h
 | [],_::_,ps,qs,r,h1,h2,h=>by cases h
 |_::_,[],ps,qs,r,h1,h2,h=>by cases h
theorem UD (hE:bZ s e pe) (hS:bI s ps) {n:Nat} {neg:Bool} {a b:cV} (h:iB e s z (.eqc n neg a b) k ρ w=some y):dZ s ps (aV pe ps z (.eqc n neg a b)) k ρ w y:=by
 simp only [iB] at h;generalize ha:bC e a=va at h;cases va with
 |agg xs=>
  generalize hb:bC e b=vb at h;cases vb with
  |agg ys=>
   obtain ⟨hl,h⟩:=bL h;obtain ⟨r,hr,h⟩:=aX h;obtain ⟨p,hp,h1⟩:=PE hE ha;obtain ⟨q,hq,h2⟩:=PE hE hb;refine dZ.val hS h ?_ rfl;simp only [aV,hp,hq,h1.length,h2.length];rw [if_pos hl,RM h1 h2 hr];cases neg<;>rfl
  |_=>cases h
 |_=>cases h
theorem aD2 (hE:bZ s e pe) (hS:bI s ps) {op:UnOp} {a:cV} (h:iB e s z (.un op a) k ρ w=some y):dZ s ps (aV pe ps z (.un op a)) k ρ w y:=by
 simp only [iB] at h;cases op with
 |neg=>
  dsimp only at h;generalize ha:bC e a=va at h;cases va with
  |int ka n=>exact dZ.val hS h (by simp only [aV,iQ hE ha];rfl) rfl
  |_=>cases h
 |not=>
  dsimp only at h;generalize ha:bC e a=va at h;cases va with
  |bool b=>exact dZ.val hS h (by simp only [aV,xH hE ha];rfl) rfl
  |_=>cases h
 |_=>cases h
theorem RN (hE:bZ s e pe) (hS:bI s ps) {a:IntKind} {x:cV} (h:iB e s z (.conv a x) k ρ w=some y):dZ s ps (aV pe ps z (.conv a x)) k ρ w y:=by
 simp only [iB] at h;generalize ha:bC e x=va at h;cases va with
 |int ka n=>exact dZ.val hS h (by simp only [aV,iQ hE ha]) rfl
 |_=>cases h
theorem UE (hE:bZ s e pe) (hS:bI s ps) {x:cV} (h:iB e s z (.len x) k ρ w=some y):dZ s ps (aV pe ps z (.len x)) k ρ w y:=by
 simp only [iB] at h;have hx:=bU hE x;generalize bC e x=v at h hx;cases v with
 |nil e' c=>exact dZ.val hS h (by simp only [aV,show x.ev pe= .sl e' c [] from hx];rfl) rfl
 |pre t len cap ex=>
  obtain ⟨e',hx,_⟩:=hx;exact dZ.val hS h (by simp only [aV,hx]) rfl
 |part t off len cap ex=>
  obtain ⟨e',hx,_⟩:=hx;exact dZ.val hS h (by simp only [aV,hx]) rfl
 |sl q m=>
  exact dZ.val hS h (by simp only [aV,show x.ev pe=_ from hx,ax]) rfl
 |own t ex=>
  obtain ⟨c,hc,h⟩:=aX h;simp only [uC,bG] at hc;split at hc
  · rename_i q m hst
    injection hc with hc;subst hc;obtain ⟨e',n,hx,hat⟩:=hx;rcases hat with ⟨q',m',h1,rfl,rfl⟩|h1
    · rw [hst] at h1;injection h1 with h1;cases h1
      exact dZ.val hS h (by simp only [aV,hx]) rfl
    rw [hst] at h1;cases h1
  cases hc
 |_=>obtain ⟨c,hc,h⟩:=aX h;cases hc
theorem xI: ∀{l:List (Nat×Nat×SV)} {pl:List (Nat×Nat×PV)} {cs:List SV} {pc:List PV} {r:List SV},
 (pl.length=l.length/\ ∀(j:Nat) (a:Nat×Nat×SV),l[j]? =some a-> ∃b,pl[j]? =some (a.1,a.2.1,b)/\R s a.2.2 b)->RL s cs pc->pK l cs=some r-> ∃q,iV pl pc=some q/\RL s r q
 | [],pl,cs,pc,r,hl,hc,h=>by
  have:pl=[]:=bn.1 hl.1
  subst this;injection h with h;subst h;exact ⟨pc,rfl,hc⟩
 |(off,sz,v)::l,pl,cs,pc,r,hl,hc,h=>by
  cases pl with
  |nil=>simp at hl
  |cons p pl=>
   obtain ⟨b,h1,h2⟩:=hl.2 0 _ rfl;simp at h1;subst h1;simp only [pK] at h;split at h
   · rename_i w hw
     obtain ⟨q,hq,hqr⟩:=h2.stored hw;cases hcnd:(ar w.length sz&&ap (off+sz) cs.length) with
     |false=>rw [hcnd] at h;cases h
     |true=>
      rw [hcnd] at h;simp only [cond_true] at h;obtain ⟨q2,h3,h4⟩:=xI (pl:=pl) ⟨by simpa using hl.1,fun j a ha=>hl.2 (j+1) a (by simpa using ha)⟩ (tH hqr hc) h
      refine ⟨q2,?_,h4⟩;simp only [iV,hq,hqr.length,hc.length];rw [if_pos hcnd];exact h3
   cases h
theorem JI (hE:bZ s e pe): ∀(l:List (Nat×Nat×cV)),((l.map fun p=>(p.1,p.2.1,p.2.2.ev pe)).length=(rP e l).length/\ ∀(j:Nat) (a:Nat×Nat×SV),(rP e l)[j]? =some a-> ∃b,(l.map fun p=>(p.1,p.2.1,p.2.2.ev pe))[j]? =some (a.1,a.2.1,b)/\R s a.2.2 b)
 | []=>⟨rfl,fun j a h=>by simp [rP] at h⟩
 |p::l=>by
  obtain ⟨h1,h2⟩:=JI hE l;refine ⟨by simp [rP] at h1 ⊢;omega,fun j a h=>?_⟩
  cases j with
  |zero=>simp [rP] at h;subst h;exact ⟨_,rfl,bU hE _⟩
  |succ j=>simp only [rP,bq] at h;obtain ⟨b,h3,h4⟩:=h2 j a h;exact ⟨b,by simpa using h3,h4⟩
theorem PF (hE:bZ s e pe) (hS:bI s ps) {zero:List PV} {parts:List (Nat×Nat×cV)} (h:iB e s z (.build zero parts) k ρ w=some y):dZ s ps (aV pe ps z (.build zero parts)) k ρ w y:=by
 simp only [iB] at h;obtain ⟨cs,hc,h⟩:=aX h;obtain ⟨q,hq,hr⟩:=xI (JI hE parts) (ofPVL_R s zero) hc;exact dZ.val hS h (by simp only [aV,hq];rfl) ⟨q,rfl,hr⟩
theorem UF (hE:bZ s e pe) (hS:bI s ps) {x:cV} (h:iB e s z (.box x) k ρ w=some y):dZ s ps (aV pe ps z (.box x)) k ρ w y:=by
 simp only [iB] at h;obtain ⟨cs,hc,h⟩:=aX h;obtain ⟨q,hq,hr⟩:=(bU hE x).stored hc;refine ⟨_,_,?_,eA.new hS (b:= .box cs) (q:= .box q) (v:= .bp s.length cs.length 0) (p:= .ptr s.length cs.length 0 0) (rd:=[]) ⟨q,rfl,hr.ext (Fr.app _ _ _)⟩ rfl,h⟩;simp only [aV,hq,hS.len,hr.length]
theorem PG (hS:bI s ps) {cells:List PV} (h:iB e s z (.alloc cells) k ρ w=some y):dZ s ps (aV pe ps z (.alloc cells)) k ρ w y:=by
 simp only [iB] at h;refine ⟨_,_,?_,eA.new hS (b:= .box (ofPVL cells)) (q:= .box cells) (v:= .bp s.length cells.length 0) (p:= .ptr s.length cells.length 0 0) (rd:=[]) ⟨cells,rfl,ofPVL_R _ _⟩ rfl,h⟩;simp only [aV,hS.len]
theorem RO (hE:bZ s e pe) (hS:bI s ps) {x:cV} (h:iB e s z (.nilc x) k ρ w=some y):dZ s ps (aV pe ps z (.nilc x)) k ρ w y:=by
 simp only [iB] at h;have hx:=bU hE x;generalize bC e x=v at h hx;cases v with
 |pa t r i a o=>exact dZ.val hS h (by simp only [aV,hx.1]) ⟨rfl,hx.2⟩
 |pb t i o=>
  obtain ⟨e',h1,h2⟩:=hx;exact dZ.val hS h (by simp only [aV,h1]) ⟨e',rfl,h2⟩
 |bp t n o=>exact dZ.val hS h (by simp only [aV,show x.ev pe=_ from hx]) rfl
 |rptr c o=>
  obtain ⟨q,h1,h2⟩:=hx;exact dZ.val hS h (by simp only [aV,h1]) ⟨q,rfl,h2⟩
 |clo f a b=>
  obtain ⟨pa,pb,h1,h2⟩:=hx;exact dZ.val hS h (by simp only [aV,h1]) ⟨pa,pb,rfl,h2⟩
 |_=>cases h
theorem RP (hE:bZ s e pe) (hS:bI s ps) {off:Nat} {x:cV} (h:iB e s z (.fadr off x) k ρ w=some y):dZ s ps (aV pe ps z (.fadr off x)) k ρ w y:=by
 simp only [iB] at h;have hx:=bU hE x;generalize bC e x=v at h hx;cases v with
 |pa t r i a o=>exact dZ.val hS h (by simp only [aV,hx.1]) ⟨rfl,hx.2⟩
 |pb t i o=>
  obtain ⟨e',h1,h2⟩:=hx;exact dZ.val hS h (by simp only [aV,h1]) ⟨e',rfl,h2⟩
 |bp t n o=>exact dZ.val hS h (by simp only [aV,show x.ev pe=_ from hx]) rfl
 |rptr c o=>
  obtain ⟨q,h1,h2⟩:=hx;exact dZ.val hS h (by simp only [aV,h1]) ⟨q,rfl,h2⟩
 |_=>cases h
theorem UG (hE:bZ s e pe) (hS:bI s ps) {agg:Option Nat} {off:Nat} {x:cV} (h:iB e s z (.fld agg off x) k ρ w=some y):dZ s ps (aV pe ps z (.fld agg off x)) k ρ w y:=by
 simp only [iB] at h;generalize hv:bC e x=v at h;cases v with
 |agg cs=>
  obtain ⟨v,h1,h⟩:=aX h;obtain ⟨q,h2,h3⟩:=PE hE hv;obtain ⟨p,h4,h5⟩:=nC h3 h1;exact dZ.val hS h (by simp only [aV,h2,h4];rfl) h5
 |_=>cases h
theorem UH (hE:bZ s e pe) (hS:bI s ps) {i:Nat} {x:cV} (h:iB e s z (.ext i x) k ρ w=some y):dZ s ps (aV pe ps z (.ext i x)) k ρ w y:=by
 simp only [iB] at h;generalize hv:bC e x=v at h;cases v with
 |tup cs=>
  obtain ⟨v,h1,h⟩:=aX h;obtain ⟨q,h2,h3⟩:=PE hE hv;obtain ⟨p,h4,h5⟩:=h3.nth h1;exact dZ.val hS h (by simp only [aV,h2,h4];rfl) h5
 |_=>cases h
theorem UI (hE:bZ s e pe) (hS:bI s ps) {f:FuncId} {a b:List cV} (h:iB e s z (.mkf f a b) k ρ w=some y):dZ s ps (aV pe ps z (.mkf f a b)) k ρ w y:=by
 simp only [iB] at h;exact dZ.val hS h rfl ⟨_,_,rfl,tF hE a,tF hE b⟩
theorem UJ (hS:bI s ps) {m:Option PV} (h:iB e s z (.mkm m) k ρ w=some y):dZ s ps (aV pe ps z (.mkm m)) k ρ w y:=by
 simp only [iB] at h;cases m with
 |none=>
  refine ⟨_,_,?_,eA.new hS (b:= .set []) (q:= .map []) (v:= .mp s.length) (p:= .mp s.length) (rd:=[]) rfl rfl,h⟩;simp only [aV,hS.len]
 |some m=>
  obtain ⟨p,_,h⟩:=aX h;refine ⟨_,_,?_,eA.new hS (b:= .tab p []) (q:= .map []) (v:= .mp s.length) (p:= .mp s.length) (rd:=[]) rfl rfl,h⟩;simp only [aV,hS.len]
theorem aDF: ∀{l:List SV} {q:List PV} {m:Bool} {a:IntKind} {n:Int} {v:SV},RL s l q->mmS m a n l=some v-> ∃p,mmE m a n q=some p/\R s v p
 | [],q,m,a,n,v,hl,h=>by
  rw [show q=[] from hl];injection h with h;subst h;exact ⟨_,rfl,rfl⟩
 |x::l,q,m,a,n,v,hl,h=>by
  obtain ⟨p,q,rfl,h1,h2⟩:=hl.cons_inv;simp only [mmS] at h;split at h
  · rename_i b c
    have h1':p= .int b c:=h1;subst h1';cases hk:cT a b with
    |true=>
     rw [hk] at h;obtain ⟨p,h3,h4⟩:=aDF h2 h;refine ⟨p,?_,h4⟩;simp only [mmE,hk,if_true];rw [<- h3];cases m<;>rfl
    |false=>rw [hk] at h;cases h
  cases h
theorem aD3 (hE:bZ s e pe) (hS:bI s ps) {m:Bool} {x:cV} {xs:List cV} (h:iB e s z (.mm m x xs) k ρ w=some y):dZ s ps (aV pe ps z (.mm m x xs)) k ρ w y:=by
 simp only [iB] at h;generalize hv:bC e x=v at h;cases v with
 |int a n=>
  obtain ⟨v,h1,h⟩:=aX h;obtain ⟨p,h2,h3⟩:=aDF (tF hE xs) h1;exact dZ.val hS h (by simp only [aV,iQ hE hv,h2];rfl) h3
 |_=>cases h
theorem RQ (hE:bZ s e pe) (hS:bI s ps) {c a b:cV} (h:iB e s z (.pick c a b) k ρ w=some y):dZ s ps (aV pe ps z (.pick c a b)) k ρ w y:=by
 simp only [iB] at h;generalize hv:bC e c=v at h;cases v with
 |bool x=>
  rcases cR h with ⟨rfl,h⟩|⟨rfl,h⟩
  · exact dZ.val hS h (by simp only [aV,xH hE hv]) (bU hE a)
  exact dZ.val hS h (by simp only [aV,xH hE hv]) (bU hE b)
 |_=>cases h
end
end Go.Vm
/- Operation by operation, second part: elements, blocks, slices, sets. -/
namespace Go.Vm
section
variable {R' ρ : Type} {w : R' -> ρ} {y : ρ} {s : List SB} {ps : bH} {e : SE} {pe : mP} {z : List Nat} {k : dL -> dQ R'}
theorem bI.arr (hS:bI s ps) {t:Nat} {r:List PT} {l:List (RT r)} (h:s[t]? =some (.arr r l)):ps[t]? =some (.arr r.length (l.map (RT.pv r))):=by
 obtain ⟨q,h1,h2⟩:=hS.at_ t _ h;rw [show q=_ from h2] at h1;exact h1
theorem bI.box (hS:bI s ps) {t:Nat} {cs:List SV} (h:s[t]? =some (.box cs)): ∃q,ps[t]? =some (.box q)/\RL s cs q:=by
 obtain ⟨q,h1,q',rfl,h2⟩:=hS.at_ t _ h;exact ⟨q',h1,h2⟩
theorem bI.set_ (hS:bI s ps) {t:Nat} {l:List (List Int)} (h:s[t]? =some (.set l)):ps[t]? =some (.map (l.map xF)):=by
 obtain ⟨q,h1,h2⟩:=hS.at_ t _ h;rw [show q=_ from h2] at h1;exact h1
theorem bI.tab_ (hS:bI s ps) {t:Nat} {p:PT} {l:List (RT [.i .i64,p])} (h:s[t]? =some (.tab p l)):ps[t]? =some (.map (l.map (A6 p))):=by
 obtain ⟨q,h1,h2⟩:=hS.at_ t _ h;rw [show q=_ from h2] at h1;exact h1
theorem RI.inv {t e n:Nat} {r:List PT} {l:List (RT r)} (h:RI s t e n) (hs:s[t]? =some (.arr r l)):e=r.length/\n=l.length:=by
 rcases h with ⟨q,m,h1,rfl,rfl⟩|h1
 · rw [hs] at h1;injection h1 with h1;cases h1;exact ⟨rfl,rfl⟩
 rw [hs] at h1;cases h1
theorem uF.inv {t e:Nat} {r:List PT} {l:List (RT r)} (h:uF s t e) (hs:s[t]? =some (.arr r l)):e=r.length:=by
 rcases h with ⟨q,m,h1,rfl⟩|h1|⟨cs,h1,_⟩
 · rw [hs] at h1;injection h1 with h1;cases h1;rfl
 · rw [hs] at h1;cases h1
 rw [hs] at h1;cases h1
theorem RJ.inv {t:Nat} {q r:List PT} {i:Int} {a:RT q} {l:List (RT r)} (h:RJ s t q i a) (hs:s[t]? =some (.arr r l)): ∃e:q=r,aK l i=some (e▸a):=by
 rcases h with ⟨m,h1,h2⟩|h1
 · rw [hs] at h1;injection h1 with h1;cases h1;exact ⟨rfl,h2⟩
 rw [hs] at h1;cases h1
theorem aD1.inv {t:Nat} {r:List PT} {i:Int} {l:List (RT r)} (h:aD1 s t i) (hs:s[t]? =some (.arr r l)):(aK l i).isSome=true:=by
 rcases h with ⟨q,m,h1,h2⟩|h1
 · rw [hs] at h1;injection h1 with h1;cases h1;exact h2
 rw [hs] at h1;cases h1
theorem FN {α:Type} {l:List α} {n:Nat} {i:Int} {a:α} (h:aK (l.take n) i=some a): ∃m:Nat,i=bw m/\m<n/\l[m]? =some a:=by
 obtain ⟨m,rfl,hm⟩:=jA h;have hlt:=(ae.1 hm).1;rw [bj] at hlt;have hmn:m<n:=by omega
 rw [ai hmn] at hm;exact ⟨m,rfl,hmn,hm⟩
theorem RR (hE:bZ s e pe) (hS:bI s ps) {esz:Nat} {x i:cV} (h:iB e s z (.iadr esz x i) k ρ w=some y):dZ s ps (aV pe ps z (.iadr esz x i)) k ρ w y:=by
 simp only [iB] at h;generalize hi:bC e i=vi at h;cases vi with
 |int ki n=>
  have hi:=iQ hE hi;have hx:=bU hE x;dsimp only at h;unfold aDy at h;generalize bC e x=v at h hx;cases v with
  |sl r l=>
   obtain ⟨he,h⟩:=bL h;obtain ⟨a,ha,hk⟩:=bK h;obtain ⟨m,rfl,hm⟩:=jA ha;refine dZ.val hS (p:= .rptr (RT.pv r a) 0) hk ?_ ⟨_,rfl,FM r a⟩;have hr:(l.map (RT.pv r))[m]? =some (RT.pv r a):=by simp [hm]
   simp only [aV,hi,fZ,show x.ev pe=_ from hx,hr,he,if_true]
  |own t ex=>
   simp only [bG] at h;generalize hst:s[t]? =b at h;cases b with
   |none=>cases h
   |some b=>
    cases b with
    |arr r l=>
     obtain ⟨he,h⟩:=bL h;obtain ⟨a,ha,hk⟩:=bK h;obtain ⟨m,rfl,hm⟩:=jA ha;obtain ⟨e',n',hx,hat⟩:=hx;obtain ⟨rfl,rfl⟩:=hat.inv hst;have hlt:=(ae.1 hm).1;have h1:dh m l.length=true:=by simpa using hlt
     refine dZ.val hS (p:= .ptr t r.length m 0) hk ?_ ⟨rfl,.inl ⟨l,hst,ha⟩⟩;simp only [aV,hi,fZ,hx,h1,he,bh,if_true,ck]
    |_=>cases h
  |pre t len cap ex=>
   simp only [bG] at h;generalize hst:s[t]? =b at h;cases b with
   |none=>cases h
   |some b=>
    cases b with
    |arr r l=>
     obtain ⟨he,h⟩:=bL h;obtain ⟨a,ha,hk⟩:=bK h;obtain ⟨m,rfl,hlt,hm⟩:=FN ha;obtain ⟨e',hx,hat⟩:=hx
     have:=hat.inv hst
     subst this;have h1:dh m len=true:=by simpa using hlt
     refine dZ.val hS (p:= .ptr t r.length m 0) hk ?_ ⟨rfl,.inl ⟨l,hst,hm⟩⟩;simp only [aV,hi,fZ,hx,h1,he,bh,if_true,ck]
    |_=>cases h
  |part t off len cap ex=>
   simp only [bG] at h;generalize hst:s[t]? =b at h;cases b with
   |none=>cases h
   |some b=>
    cases b with
    |arr r l=>
     obtain ⟨he,h⟩:=bL h;obtain ⟨a,ha,hk⟩:=bK h;obtain ⟨m,rfl,hlt,hm⟩:=FN ha;rw [List.getElem?_drop] at hm;obtain ⟨e',hx,hat⟩:=hx
     have:=hat.inv hst
     subst this;have h1:dh m len=true:=by simpa using hlt
     refine dZ.val hS (p:= .ptr t r.length (off+m) 0) hk ?_ ⟨rfl,.inl ⟨l,hst,hm⟩⟩;simp only [aV,hi,fZ,hx,h1,he,bh,if_true]
    |_=>cases h
  |_=>cases h
 |_=>cases h
theorem vM {n:Nat} {i:Int} {j:Nat} {f:Nat->dQ R'}:JA n i j f ρ w=some y-> ∃m,i=bw m/\j<=m/\m<j+n/\f m ρ w=some y:=by
 induction n generalizing j with
 |zero=>intro h;cases h
 |succ n ih=>
  intro h;rcases cR h with ⟨h1,h2⟩|⟨_,h2⟩
  · exact ⟨j,by simpa using h1,df _,by omega,h2⟩
  obtain ⟨m,h3,h4,h5,h6⟩:=ih h2
  exact ⟨m,h3,by omega,by omega,h6⟩
theorem PH (hE:bZ s e pe) (hS:bI s ps) {n esz:Nat} {p i:cV} (h:iB e s z (.iadra n esz p i) k ρ w=some y):dZ s ps (aV pe ps z (.iadra n esz p i)) k ρ w y:=by
 simp only [iB] at h;generalize hi:bC e i=vi at h;cases vi with
 |int ki j=>
  have hi:=iQ hE hi;have hx:=bU hE p;generalize bC e p=v at h hx;cases v with
  |bp t m o=>
   obtain ⟨j',rfl,_,h2,h⟩:=vM h;have h1:dh j' n=true:=by simp;omega
   exact dZ.val hS h (by simp only [aV,hi,fZ,h1,if_true,show p.ev pe=_ from hx]) rfl
  |rptr c o=>
   obtain ⟨j',rfl,_,h2,h⟩:=vM h;have h1:dh j' n=true:=by simp;omega
   obtain ⟨q,hq,hr⟩:=hx;exact dZ.val hS h (by simp only [aV,hi,fZ,h1,if_true,hq]) ⟨q,rfl,hr⟩
  |_=>cases h
 |_=>cases h
theorem UK (hE:bZ s e pe) (hS:bI s ps) {n esz:Nat} {agg:Option Nat} {x i:cV} (h:iB e s z (.idx n esz agg x i) k ρ w=some y):dZ s ps (aV pe ps z (.idx n esz agg x i)) k ρ w y:=by
 simp only [iB] at h;generalize hi:bC e i=vi at h;cases vi with
 |int ki j=>
  have hi:=iQ hE hi;generalize hx:bC e x=v at h;cases v with
  |agg cs=>
   obtain ⟨j',rfl,_,h2,h⟩:=vM h;have h1:dh j' n=true:=by simp;omega
   obtain ⟨v,hv,h⟩:=aX h;obtain ⟨q,hq,hr⟩:=PE hE hx;obtain ⟨p,hp,hpr⟩:=nC hr hv;exact dZ.val hS h (by simp only [aV,hi,fZ,h1,if_true,hq,hp];rfl) hpr
  |_=>cases h
 |_=>cases h
theorem RS (hE:bZ s e pe) (hS:bI s ps) {x i:cV} (h:iB e s z (.sidx x i) k ρ w=some y):dZ s ps (aV pe ps z (.sidx x i)) k ρ w y:=by
 simp only [iB] at h;generalize hi:bC e i=vi at h;cases vi with
 |int ki j=>
  have hi:=iQ hE hi;generalize hx:bC e x=v at h;cases v with
  |str t=>
   obtain ⟨b,hb,h⟩:=bK h;have hx:=PE hE hx;cases j with
   |negSucc _=>cases hb
   |ofNat m=>
    simp only [aDx,bl] at hb;obtain ⟨c,hc,rfl⟩:=hb;exact dZ.val hS h (by simp only [aV,hi,fZ,show x.ev pe=_ from hx,hc]) rfl
  |_=>cases h
 |_=>cases h
theorem RU (hE:bZ s e pe) (hS:bI s ps) {agg:Option Nat} {p:cV} (h:iB e s z (.load agg p) k ρ w=some y):dZ s ps (aV pe ps z (.load agg p)) k ρ w y:=by
 simp only [iB] at h;have hx:=bU hE p;unfold aDz at h;generalize bC e p=v at h hx;cases v with
 |bp t n off=>
  simp only [bG] at h;generalize hst:s[t]? =b at h;cases b with
  |none=>cases h
  |some b=>
   cases b with
   |box cs=>
    obtain ⟨v,hv,h⟩:=aX h;obtain ⟨q,h1,h2⟩:=hS.box hst;obtain ⟨u,h3,h4⟩:=nC h2 hv;refine dZ.rd hS h ?_ h4;show jV ps agg (p.ev pe)=_;rw [show p.ev pe=_ from hx];simp only [jV,h1,bi,if_true,h3];rfl
   |_=>cases h
 |pa t r i a off=>
  simp only [bG] at h;generalize hst:s[t]? =b at h;cases b with
  |none=>cases h
  |some b=>
   cases b with
   |arr q l=>
    obtain ⟨v,hv,hk⟩:=aX h;obtain ⟨hx,hat⟩:=hx;obtain ⟨rfl,hg⟩:=hat.inv hst;obtain ⟨u,h3,h4⟩:=nC (FM r a) hv;obtain ⟨m,rfl,hm⟩:=jA hg;refine dZ.rd hS hk ?_ h4;show jV ps agg (p.ev pe)=_;rw [hx];have hm':(l.map (RT.pv r))[m]? =some (RT.pv r a):=by simp [hm]
    have e1:(bw m).toNat=m:=rfl;simp only [jV,hS.arr hst,e1,hm',h3];rfl
   |_=>cases h
 |pb t i off=>
  simp only [bG] at h;generalize hst:s[t]? =b at h;cases b with
  |none=>cases h
  |some b=>
   cases b with
   |arr r l=>
    obtain ⟨a,ha,h⟩:=bK h;obtain ⟨v,hv,hk⟩:=aX h;obtain ⟨e',hx,hat⟩:=hx;obtain ⟨u,h3,h4⟩:=nC (FM r a) hv;obtain ⟨m,rfl,hm⟩:=jA ha;refine dZ.rd hS hk ?_ h4;show jV ps agg (p.ev pe)=_;rw [hx];have hm':(l.map (RT.pv r))[m]? =some (RT.pv r a):=by simp [hm]
    have e1:(bw m).toNat=m:=rfl;simp only [jV,hS.arr hst,e1,hm',h3];rfl
   |_=>cases h
 |rptr cs off=>
  obtain ⟨v,hv,h⟩:=aX h;obtain ⟨q,hq,hr⟩:=hx;obtain ⟨u,h3,h4⟩:=nC hr hv;refine dZ.val hS h ?_ h4;show jV ps agg (p.ev pe)=_;rw [hq];simp only [jV,h3];rfl
 |_=>cases h
theorem G3 (hS:bI s ps) {t:Nat} {r:List PT} {l:List (RT r)} (hst:s[t]? =some (.arr r l)) {i:Int} {b:RT r} {rd:List Nat}:
 eA s ps {v:= .undef,wr:=[(t,.arr r (bO l i b))],rd} {v:= .undef,wr:=[(t,.arr r.length ((l.map (RT.pv r)).set i.toNat (RT.pv r b)))],rd}:=
 eA.put0 hS hst (.inl ⟨_,rfl,by simp⟩) (by show _=_;simp [bO,dn])
theorem PI (hE:bZ s e pe) (hS:bI s ps) {sz:Nat} {p x:cV} (h:iB e s z (.store sz p x) k ρ w=some y):dZ s ps (aV pe ps z (.store sz p x)) k ρ w y:=by
 simp only [iB] at h;have hx:=bU hE p;have hv:=bU hE x;unfold Q5 at h;generalize bC e p=v at h hx;generalize bC e x=u at h hv;cases v with
 |bp t n off=>
  simp only [bG] at h;generalize hst:s[t]? =b at h;cases b with
  |none=>cases h
  |some b=>
   cases b with
   |box cs=>
    obtain ⟨w',hw,h⟩:=aX h;obtain ⟨hc,h⟩:=bL h;obtain ⟨q,h1,h2⟩:=hv.stored hw;obtain ⟨b,h3,h4⟩:=hS.box hst;have hfr:=Fr.dg (ts:=[t]) (Fr.set (b:= .box (kK off w' cs)) hst (.inl ⟨_,rfl⟩));refine ⟨_,_,?_,eA.put0 hS (b:= .box (kK off w' cs)) (q:= .box (jG off q b)) (rd:=[]) hst (.inl ⟨_,rfl⟩) ⟨_,rfl,RL.fr hfr (tH h2 h4)⟩,h⟩
    show lX ps z sz (x.ev pe) (p.ev pe)=_
    rw [show p.ev pe=_ from hx];simp only [lX,h3,h1,h2.length,h4.length];rw [if_pos (by simpa using hc)]
   |_=>cases h
 |pa t r i a off=>
  simp only [bG] at h;generalize hst:s[t]? =b at h;cases b with
  |none=>cases h
  |some b=>
   cases b with
   |arr q l=>
    obtain ⟨hc,h⟩:=bL h;obtain ⟨a',ha',hk⟩:=aX h;obtain ⟨hx,hat⟩:=hx;obtain ⟨rfl,hg⟩:=hat.inv hst;obtain ⟨m,rfl,hm⟩:=jA hg;refine ⟨_,_,?_,G3 hS hst (rd:=[]),hk⟩;show lX ps z sz (x.ev pe) (p.ev pe)=_;rw [hx];have hm':(l.map (RT.pv r))[m]? =some (RT.pv r a):=by simp [hm]
    have e1:(bw m).toNat=m:=rfl;simp only [ac,au] at hc;obtain ⟨⟨c1,c2⟩,c3⟩:=hc;have hj:u≠ .junk:=by
     intro e;subst e
     have:=RT.of_some ha'
     have hq:=congrArg (fun l=>l[off]?) this
     have hle:=az c2;have hsz:sz=1:=by have:=aa c1;simpa [SV.cells] using this.symm
     have hlt:off<r.length:=by omega
     have hl1:off<(RT.sv r a).length:=by rw [RT.sv_len];exact hlt
     simp only [kK,SV.cells] at hq;rw [af (by simp;omega),ag (by simp;omega)] at hq
     simp only [bj,db (dp hl1),d4,c6] at hq
     have: ∀(r:List PT) (b:RT r) (n:Nat),(RT.sv r b)[n]?≠some .junk:=by
      intro r
      induction r with
      |nil=>intro b n h;simp [RT.sv] at h
      |cons p rest ih=>
       intro b n;cases rest with
       |nil=>cases n<;>cases p<;>simp [RT.sv,PT.sv]
       |cons p2 rest2=>cases n with
        |zero=>cases p<;>simp [RT.sv,PT.sv]
        |succ n=>simpa [RT.sv] using ih b.2 n
     exact this r a' off hq.symm
    have hcells:=hv.cells hj;have hrow:=RT.of_some ha';have h5:RL s (RT.sv r a') (jG off (x.ev pe).cells (RT.pv r a)):=by
     rw [<- hrow];exact tH hcells (FM r a)
    have h6:=tG r a' h5;have hplain:(x.ev pe).storedPlain=some (x.ev pe).cells:=by
     unfold PV.storedPlain;rw [if_pos ?_];have hall:=RT.plain r a';rw [<- h6] at hall;unfold jG at hall;simp only [dx,ac] at hall;exact hall.1.2
    simp only [lX,hS.arr hst,e1,hm',hplain,hcells.length,RT.pv_len];rw [if_pos (by simp [c1,c2,c3])]
    simp only [h6]
   |_=>cases h
 |pb t i off=>
  simp only [bG] at h;generalize hst:s[t]? =b at h;cases b with
  |none=>cases h
  |some b=>
   cases b with
   |arr r l=>
    obtain ⟨hc,h⟩:=bL h;obtain ⟨e',hx,hat⟩:=hx;have hin:=hat.inv hst;rw [cz] at hin;obtain ⟨a0,hg⟩:=hin;obtain ⟨m,rfl,hm⟩:=jA hg;have hm':(l.map (RT.pv r))[m]? =some (RT.pv r a0):=by simp [hm]
    have e1:(bw m).toNat=m:=rfl;simp only [ac,au] at hc;obtain ⟨⟨c1,c2⟩,c3⟩:=hc;cases hsz:ar sz r.length with
    |true=>
     rw [hsz] at h;obtain ⟨a',ha',hk⟩:=aX h;obtain ⟨hp,hl⟩:=hv.ofRow ha';have hszr:=aa hsz;have hoff:off=0:=by have:=az c2;omega
     subst hoff;refine ⟨_,_,?_,G3 hS hst (rd:=[]),hk⟩;show lX ps z sz (x.ev pe) (p.ev pe)=_;rw [hx];simp only [lX,hS.arr hst,e1,hm',hp,RT.pv_len];rw [if_pos (by rw [ck,hszr];simp [c3])]
     have:jG 0 (RT.pv r a') (RT.pv r a0)=RT.pv r a':=by
      unfold jG;rw [RT.pv_len,List.drop_of_length_le (by rw [RT.pv_len];omega)];simp
     rw [this]
    |false=>
     rw [hsz] at h;obtain ⟨a,ha,h⟩:=bK h;obtain ⟨a',ha',hk⟩:=aX h;rw [hg] at ha;injection ha with ha;subst ha;refine ⟨_,_,?_,G3 hS hst (rd:=[]),hk⟩;show lX ps z sz (x.ev pe) (p.ev pe)=_;rw [hx];have hj:u≠ .junk:=by
      intro e;subst e
      have:=RT.of_some ha'
      have hq:=congrArg (fun l=>l[off]?) this
      have hle:=az c2;have hsz:sz=1:=by have:=aa c1;simpa [SV.cells] using this.symm
      have hlt:off<r.length:=by omega
      have hl1:off<(RT.sv r a0).length:=by rw [RT.sv_len];exact hlt
      simp only [kK,SV.cells] at hq;rw [af (by simp;omega),ag (by simp;omega)] at hq
      simp only [bj,db (dp hl1),d4,c6] at hq
      have: ∀(r:List PT) (b:RT r) (n:Nat),(RT.sv r b)[n]?≠some .junk:=by
       intro r
       induction r with
       |nil=>intro b n h;simp [RT.sv] at h
       |cons p rest ih=>
        intro b n;cases rest with
        |nil=>cases n<;>cases p<;>simp [RT.sv,PT.sv]
        |cons p2 rest2=>cases n with
         |zero=>cases p<;>simp [RT.sv,PT.sv]
         |succ n=>simpa [RT.sv] using ih b.2 n
      exact this r a' off hq.symm
     have hcells:=hv.cells hj;have hrow:=RT.of_some ha';have h5:RL s (RT.sv r a') (jG off (x.ev pe).cells (RT.pv r a0)):=by
      rw [<- hrow];exact tH hcells (FM r a0)
     have h6:=tG r a' h5;have hplain:(x.ev pe).storedPlain=some (x.ev pe).cells:=by
      unfold PV.storedPlain;rw [if_pos ?_];have hall:=RT.plain r a';rw [<- h6] at hall;unfold jG at hall;simp only [dx,ac] at hall;exact hall.1.2
     simp only [lX,hS.arr hst,e1,hm',hplain,hcells.length,RT.pv_len];rw [if_pos (by simp [c1,c2,c3])]
     simp only [h6]
   |_=>cases h
 |_=>cases h
end
end Go.Vm
/- Operation by operation, third part: slices, new blocks, append, sets; all of them together. -/
namespace Go.Vm
section
variable {R' ρ : Type} {w : R' -> ρ} {y : ρ} {s : List SB} {ps : bH} {e : SE} {pe : mP} {z : List Nat} {k : dL -> dQ R'}
def CW (pe:mP) (o:Option cV):Option (Option Nat):=match o with|none=>some none|some a=>(fZ (a.ev pe)).map some
theorem oL (hE:bZ s e pe) {o:Option cV} {d a:Int} {n:Nat} (h:yW e d o=some a) (hd:d=bw n) (h0:0<=a): ∃b,CW pe o=some b/\b.getD n=a.toNat:=by
 cases o with
 |none=>
  injection h with h;subst h hd;exact ⟨none,rfl,rfl⟩
 |some x=>
  simp only [yW] at h;split at h
  · rename_i ka m hx
    injection h with h;subst h;obtain ⟨b,rfl⟩:=ba h0;refine ⟨some b,?_,rfl⟩;simp only [CW,iQ hE hx];rfl
  cases h
theorem vN {esz:Nat} {x:cV} {lo hi mx:Option cV} {l h m:Option Nat} {v:PV} (he:nX esz (x.ev pe)=true) (h1:CW pe lo=some l) (h2:CW pe hi=some h) (h3:CW pe mx=some m) (hv:lB (x.ev pe) l h m=some v):
 aV pe ps z (.slc esz x lo hi mx)=some {v:=v}:=by
 have e:aV pe ps z (.slc esz x lo hi mx)=(match CW pe lo,CW pe hi,CW pe mx with|some l,some h,some m=>(lB (x.ev pe) l h m).map fun v=>({v}:jI)|_,_,_=>none):=by
  simp only [aV,he,dk,ay,if_false];rfl
 rw [e,h1,h2,h3];simp only [hv];rfl
theorem CX {α:Type} {l r:List α} {lo hi:Int} (h:fF l lo hi=some r): ∃a b:Nat,lo=bw a/\hi=bw b/\a<=b/\b<=l.length/\r=(l.drop a).take (b-a):=by
 unfold fF at h;split at h
 · rename_i hc
   obtain ⟨a,rfl⟩:=ba hc.1;obtain ⟨b,rfl⟩:=ba (cw hc.1 hc.2.1);injection h with h;exact ⟨a,b,rfl,rfl,by omega,by omega,by rw [<- h];simp⟩
 cases h
theorem G4 (hE:bZ s e pe) (hS:bI s ps) {esz t off len cap:Nat} {ex:Bool} {x:cV} {lo hi mx:Option cV} (hx:x.ev pe= .own t esz off len cap ex) (hat:uF s t esz) (h:LK e t off len cap ex lo hi mx k ρ w=some y):
 dZ s ps (aV pe ps z (.slc esz x lo hi mx)) k ρ w y:=by
 unfold LK at h;obtain ⟨a,ha,h⟩:=aX h;obtain ⟨b,hb,h⟩:=aX h;have he:nX esz (x.ev pe)=true:=by rw [hx];simp [nX]
 cases mx with
 |none=>
  obtain ⟨hc,h⟩:=eO h;simp only [ac,decide_eq_true_eq] at hc;obtain ⟨⟨c1,c2⟩,c3⟩:=hc;obtain ⟨l,h1,h2⟩:=oL hE (n:=0) ha rfl c1;obtain ⟨u,h3,h4⟩:=oL hE (n:=len) hb rfl (cw c1 c2);refine dZ.val hS h (vN he h1 h3 (m:=none) rfl ?_) ⟨esz,rfl,hat⟩;rw [hx];have c4:(ap a.toNat b.toNat&&ap b.toNat cap)=true:=by
   have c3':b<=(cap:Int):=c3
   simp;omega
  simp only [lB,h2,h4,c4,if_true]
 |some mo=>
  dsimp only at h;generalize hm:bC e mo=vm at h;cases vm with
  |int km c=>
   obtain ⟨hc,h⟩:=eO h;simp only [ac,decide_eq_true_eq] at hc;obtain ⟨⟨⟨c1,c2⟩,c3⟩,c4⟩:=hc;obtain ⟨l,h1,h2⟩:=oL hE (n:=0) ha rfl c1;obtain ⟨u,h3,h4⟩:=oL hE (n:=len) hb rfl (cw c1 c2);have hc0:0<=c:=cw (cw c1 c2) c3;obtain ⟨c,rfl⟩:=ba hc0
   refine dZ.val hS h (vN he h1 h3 (m:=some c) (by simp only [CW,iQ hE hm];rfl) ?_) ⟨esz,rfl,hat⟩
   rw [hx];have c5:(ap a.toNat b.toNat&&ap b.toNat c&&ap c cap)=true:=by
    have c4':(c:Int)<=(cap:Int):=c4
    simp;omega
   simp only [lB,h2,h4,c5,if_true];rfl
  |_=>cases h
theorem UL (hE:bZ s e pe) (hS:bI s ps) {esz:Nat} {x:cV} {lo hi mx:Option cV} (h:iB e s z (.slc esz x lo hi mx) k ρ w=some y):dZ s ps (aV pe ps z (.slc esz x lo hi mx)) k ρ w y:=by
 simp only [iB] at h;have hx:=bU hE x;unfold aJf at h;generalize bC e x=v at h hx;cases v with
 |sl r l=>
  cases mx with
  |some _=>cases h
  |none=>
   dsimp only at h;obtain ⟨he,h⟩:=bL h;have he:=aa he;obtain ⟨a,ha,h⟩:=aX h;obtain ⟨b,hb,h⟩:=aX h;obtain ⟨m,hm,hk⟩:=bK h;obtain ⟨n1,n2,rfl,rfl,c1,c2,rfl⟩:=CX hm;obtain ⟨u1,h1,h2⟩:=oL hE (n:=0) ha rfl (by simp)
   obtain ⟨u2,h3,h4⟩:=oL hE (n:=l.length) hb rfl (by simp)
   have hx':x.ev pe= .sl r.length false (l.map (RT.pv r)):=hx;subst he;refine dZ.val hS (p:= .sl r.length false ((((l.drop n1).take (n2-n1))).map (RT.pv r))) hk (vN (m:=none) (by rw [hx'];simp [nX]) h1 h3 rfl ?_) rfl
   rw [hx'];have h2':u1.getD 0=n1:=by rw [h2];rfl
   have h4':u2.getD (l.map (RT.pv r)).length=n2:=by rw [ax,h4];rfl
   have c3:(ap n1 n2&&ap n2 (l.map (RT.pv r)).length)=true:=by simp [c1,c2]
   simp only [lB,h2',h4',c3,if_true,Bool.false_and,bm,cg]
 |own t ex=>
  simp only [bG] at h;generalize hst:s[t]? =b at h;cases b with
  |none=>cases h
  |some b=>
   cases b with
   |arr r l=>
    dsimp only at h;obtain ⟨he,hk⟩:=bL h;have he:=aa he;obtain ⟨e',n',hx,hat⟩:=hx;obtain ⟨rfl,rfl⟩:=hat.inv hst;subst he;have hesz:uF s t r.length:= .inl ⟨r,l,hst,rfl⟩;have gen:LK e t 0 l.length l.length ex lo hi mx k ρ w=some y->dZ s ps (aV pe ps z (.slc r.length x lo hi mx)) k ρ w y:=fun h=>G4 hE hS hx hesz h
    have he:nX r.length (x.ev pe)=true:=by rw [hx];simp [nX]
    cases mx with
    |some m=>cases lo<;>cases hi<;>exact gen hk
    |none=>
     cases lo with
     |some _=>cases hi<;>exact gen hk
     |none=>
      cases hi with
      |none=>
       refine dZ.val hS hk (vN (l:=none) (h:=none) (m:=none) he rfl rfl rfl ?_) ⟨r.length,l.length,rfl,hat⟩;rw [hx];simp [lB]
      |some ho=>
       dsimp only at hk;generalize hh:bC e ho=vh at hk;cases vh with
       |int kh b=>
        obtain ⟨m,hm,hk⟩:=bK hk;obtain ⟨n1,n2,h0,rfl,c1,c2,rfl⟩:=CX hm;refine dZ.val hS hk (vN (l:=none) (h:=some n2) (m:=none) he rfl (by simp only [CW,iQ hE hh];rfl) rfl ?_) ⟨r.length,rfl,hesz⟩
        rw [hx];have c3:(ap 0 n2&&ap n2 l.length)=true:=by simp [c2]
        simp only [lB,c8,du,c3,if_true];rfl
       |_=>cases hk
   |_=>cases h
 |pre t len cap ex=>
  simp only [bG] at h;generalize hst:s[t]? =b at h;cases b with
  |none=>cases h
  |some b=>
   cases b with
   |arr r l=>
    dsimp only at h;obtain ⟨he,hk⟩:=bL h;have he:=aa he;obtain ⟨e',hx,hat⟩:=hx
    have:=hat.inv hst
    subst this;subst he;have gen:LK e t 0 len cap ex lo hi mx k ρ w=some y->dZ s ps (aV pe ps z (.slc r.length x lo hi mx)) k ρ w y:=fun h=>G4 hE hS hx hat h
    have he:nX r.length (x.ev pe)=true:=by rw [hx];simp [nX]
    cases mx with
    |some m=>cases lo<;>cases hi<;>exact gen hk
    |none=>
     cases lo with
     |some _=>cases hi<;>exact gen hk
     |none=>
      cases hi with
      |none=>
       obtain ⟨hlc,hk⟩:=eO hk;refine dZ.val hS hk (vN (l:=none) (h:=none) (m:=none) he rfl rfl rfl ?_) ⟨r.length,rfl,hat⟩;rw [hx];have c3:(ap 0 len&&ap len cap)=true:=by simp [hlc]
       simp only [lB,c8,c3,if_true];simp
      |some ho=>
       dsimp only at hk;generalize hh:bC e ho=vh at hk;cases vh with
       |int kh b=>
        obtain ⟨hc,hk⟩:=eO hk;simp only [ac,decide_eq_true_eq] at hc;obtain ⟨c1,c2⟩:=hc;obtain ⟨b,rfl⟩:=ba c1;refine dZ.val hS hk (vN (l:=none) (h:=some b) (m:=none) he rfl (by simp only [CW,iQ hE hh];rfl) rfl ?_) ⟨r.length,rfl,hat⟩
        rw [hx];have c3:(ap 0 b&&ap b cap)=true:=by
         have c2':(b:Int)<=(cap:Int):=c2
         simp;omega
        simp only [lB,c8,du,c3,if_true];rfl
       |_=>cases hk
   |_=>cases h
 |part t off len cap ex=>
  simp only [bG] at h;generalize hst:s[t]? =b at h;cases b with
  |none=>cases h
  |some b=>
   cases b with
   |arr r l=>
    dsimp only at h;obtain ⟨he,hk⟩:=bL h;have he:=aa he;obtain ⟨e',hx,hat⟩:=hx
    have:=hat.inv hst
    subst this;subst he;exact G4 hE hS hx hat hk
   |_=>cases h
 |_=>cases h
theorem iH {b:SB}:(s++[b])[s.length]? =some b:=by simp
theorem UM: ∀{v:PV} {p:PT},Q4 v=some p->p.pv p.zero=v
 | .int k n,p,h=>by
  simp only [Q4] at h;split at h
  · injection h with h;subst h;rfl
  cases h
 | .bool b,p,h=>by
  simp only [Q4] at h;split at h
  · injection h with h;subst h;rfl
  cases h
 | .undef,_,h| .nul,_,h| .str _,_,h| .agg _,_,h| .tup _,_,h| .sl _ _ _,_,h| .own _ _ _ _ _ _,_,h| .ptr _ _ _ _,_,h| .rptr _ _,_,h| .mp _,_,h| .clo _ _ _,_,h| .nilf,_,h=>by cases h
theorem xJ : ∀ {l : List PV} {r : List PT}, CJ l = some r -> RT.pv r (RT.zero r) = l
  | [], r, h => by injection h with h; subst h; rfl
  | v :: vs, r, h => by
    simp only [CJ] at h
    split at h
    · rename_i p q h1 h2
      injection h with h; subst h
      have e1 := UM h1
      have e2 := xJ h2
      cases q with
      | nil =>
        have : vs = [] := by
          cases vs with
          | nil => rfl
          | cons a b => simp only [RT.pv] at e2; cases e2
        subst this
        show [p.pv p.zero] = _
        rw [e1]
      | cons p2 q2 =>
        show p.pv p.zero :: RT.pv (p2 :: q2) (RT.zero (p2 :: q2)) = _
        rw [e1, e2]
    cases h
theorem UN (hE:bZ s e pe) (hS:bI s ps) {esz:Nat} {zero:iN} {l c:cV} (h:iB e s z (.mks esz zero l c) k ρ w=some y):dZ s ps (aV pe ps z (.mks esz zero l c)) k ρ w y:=by
 simp only [iB] at h;generalize hl:bC e l=vl at h;cases vl with
 |int kl n=>
  generalize hc:bC e c=vc at h;cases vc with
  |int kc m=>
   obtain ⟨hnm,h1⟩:=eO h;obtain ⟨r,hr,h2⟩:=aX h1;obtain ⟨he,h3⟩:=bL h2;obtain ⟨x,hx,hk⟩:=bK h3;have hnm:n=m:=by simpa using hnm
   subst hnm;have he:=aa he;subst he;unfold wX at hx;split at hx
   · rename_i hc2
     injection hx with hx;subst hx;obtain ⟨a,rfl⟩:=ba hc2.1;have h1:(ap a a&&ap a hJ)=true:=by simp [hJ];omega
     refine ⟨_,_,?_,eA.new hS (b:= .arr r (bk (bw a).toNat (RT.zero r))) (q:= .arr r.length (bk a zero)) (v:= .own s.length true) (p:= .own s.length r.length 0 a a true) (rd:=[]) ?_ ?_,hk⟩
     · have e1:fZ (.int kl (a:Int))=some a:=rfl
       have e2:fZ (.int kc (a:Int))=some a:=rfl;simp only [aV,iQ hE hl,iQ hE hc,e1,e2];rw [if_pos h1,hS.len]
     · show _=_
       simp [xJ hr]
     exact ⟨r.length,a,rfl,.inl ⟨r,_,iH,rfl,by simp⟩⟩
   cases hx
  |_=>cases h
 |_=>cases h
def pN {α:Type}:List α->List (Nat×α)->List α
 |l,[]=>l
 |l,(i,a)::r=>pN (l.set i a) r
theorem CY {α : Type} : ∀ (q : List (Nat × α)) (l : List α) (i : Nat), (pN l q)[i]? = (l[i]?).map fun z => AC i z q
  | [], l, i => by simp [pN, AC]
  | (j, a) :: q, l, i => by
    simp only [pN, AC]
    rw [CY q (l.set j a) i, am]
    by_cases hji : j = i
    · subst hji
      cases hl : l[j]? with
      | none =>
        have : ¬ j < l.length := by intro h; rw [aj h] at hl; cases hl
        simp [this]
      | some z =>
        have : j < l.length := (ae.1 hl).1
        simp [this]
    have : ar j i = false := by
      cases hb : ar j i with
      | false => rfl
      | true => exact absurd (aa hb) hji
    simp [hji, this]
theorem JJ {α:Type} (f:Nat->α): ∀(n i j:Nat),(GX f i n)[j]? =if j<n then some (f (i+j)) else none
 |0,i,j=>by simp [GX]
 |n+1,i,0=>by simp [GX]
 |n+1,i,j+1=>by
  simp only [GX,bq];rw [JJ f n (i+1) j,show i+1+j=i+(j+1) by omega]
  by_cases h:j<n
  · simp [h]
  simp [h]
theorem CZ {α:Type} (z:α) (n:Nat) (q:List (Nat×α)):pN (bk n z) q=GX (fun i=>AC i z q) 0 n:=by
 apply cy;intro i;rw [CY,JJ]
 by_cases h:i<n
 · simp [h]
 simp [h]
theorem C0 (hE:bZ s e pe) {r:List PT} {n:Nat}: ∀{parts:List (Nat×cV)} {q:List (Nat×RT r)} {l:List (RT r)},MY r e n parts=some q->l.length=n->
 kO (parts.map fun p=>(p.1,p.2.ev pe)) (l.map (RT.pv r)) r.length=some ((pN l q).map (RT.pv r))
 | [],q,l,h,hl=>by injection h with h;subst h;rfl
 |p::parts,q,l,h,hl=>by
  simp only [MY] at h;split at h
  · rename_i a q' h1 h2
    cases hb:dh p.1 n with
    |false=>rw [hb] at h;cases h
    |true=>
     rw [hb] at h;injection h with h;subst h;have hp:=((bU hE p.2).ofRow h1).1;simp only [be,kO,hp,RT.pv_len,ax,hl,hb,bi,bh,if_true,pN];rw [<- dn];exact C0 hE h2 (by simp [hl])
  cases h
theorem PJ (hE:bZ s e pe) (hS:bI s ps) {esz n:Nat} {zero:iN} {parts:List (Nat×cV)} (h:iB e s z (.mkrow esz n zero parts) k ρ w=some y):dZ s ps (aV pe ps z (.mkrow esz n zero parts)) k ρ w y:=by
 simp only [iB] at h;obtain ⟨r,hr,h1⟩:=aX h;obtain ⟨he,h2⟩:=bL h1;obtain ⟨q,hq,hk⟩:=aX h2;have he:=aa he;subst he;have hf:=C0 hE (l:=bk n (RT.zero r)) hq (by simp)
 rw [CZ] at hf;have hz:(bk n (RT.zero r)).map (RT.pv r)=bk n zero:=by simp [xJ hr]
 rw [hz] at hf;refine ⟨_,_,?_,eA.new hS (b:= .arr r (GX (fun i=>AC i (RT.zero r) q) 0 n)) (q:= .arr r.length ((GX (fun i=>AC i (RT.zero r) q) 0 n).map (RT.pv r))) (v:= .own s.length true) (p:= .own s.length r.length 0 n n true) (rd:=[]) rfl ?_,hk⟩
 · simp only [aV,hf,hS.len]
   rfl
 refine ⟨r.length,n,rfl,.inl ⟨r,_,iH,rfl,?_⟩⟩
 rw [<- CZ]
 have: ∀(q:List (Nat×RT r)) (l:List (RT r)),(pN l q).length=l.length:=by
  intro q
  induction q with
  |nil=>intro l;rfl
  |cons p q ih=>intro l;simp [pN,ih]
 rw [this];simp
theorem NB: ∀{cs:List SV} {q:List PV} {l:List Int},RL s cs q->MZ cs=some l->q=l.map (.int .i64)
 | [],q,l,h,hi=>by injection hi with hi;subst hi;exact h
 |x::xs,q,l,h,hi=>by
  obtain ⟨p,q,rfl,h1,h2⟩:=h.cons_inv;simp only [MZ] at hi;split at hi
  · rename_i n l' hx
    injection hi with hi;subst hi;rw [show p= .int .i64 n from h1,NB h2 hx];rfl
  cases hi
theorem RW {v:SV} {p:PV} {n:Option Nat} {l:List Int} (h:R s v p) (hk:T4 n v=some l):p=mU l/\fP n (mU l)=true/\(mU l).storedPlain=some (mU l).cells/\(mU l).cells=l.map (.int .i64)/\(n=none->l.length=1)/\(∀m,n=some m->l.length=m/\m≠1):=by
 cases n with
 |none=>
  cases v with
  |int kk a=>
   cases kk with
   |i64=>
    injection hk with hk;subst hk;exact ⟨h,rfl,rfl,rfl,fun _=>rfl,fun m hm=>by cases hm⟩
   |_=>cases hk
  |_=>cases hk
 |some m=>
  cases v with
  |agg cs=>
   simp only [T4] at hk;cases hc:(ar cs.length m&&!Nat.beq m 1) with
   |false=>rw [hc] at hk;cases hk
   |true=>
    rw [hc] at hk;simp only [cond_true] at hk;simp only [ac,co,au] at hc;obtain ⟨c1,c2⟩:=hc;obtain ⟨q,rfl,hq⟩:=h;have hq':=NB hq hk;have hlen:l.length=m:=by have:=hq.length;rw [hq'] at this;simp at this;omega
    have hm1:m≠1:=by intro e;subst e;cases c2
    have hkl:mU l= .agg (l.map (.int .i64)):=by
     unfold mU;split
     · simp at hlen;omega
     rfl
    refine ⟨by rw [hkl,hq'],by rw [hkl];simp [fP,hlen],?_,by rw [hkl];rfl,(fun h=>(by cases h)),fun m' hm=>by injection hm with hm;subst hm;exact ⟨hlen,hm1⟩⟩
    rw [hkl];unfold PV.storedPlain;rw [if_pos];simp [PV.cells,PV.plain]
  |_=>cases hk
theorem pO: ∀(a b:List Int),a.length=b.length->bR (a.map (.int .i64)) (b.map (.int .i64))=some (a==b)
 | [],[],_=>rfl
 |x::a,y::b,h=>by
  have ih:=pO a b (by simpa using h)
  simp only [be,bR,lA,JH,if_true];cases hxy:x==y with
  |true=>simp only [ih];simp [dl,hxy]
  |false=>simp [dl,hxy]
 | [],_::_,h=>by simp at h
 |_::_,[],h=>by simp at h
theorem zA {n : Option Nat} {a : List Int} (ha : (mU a).cells = a.map (.int .i64)) (hn : (n = none -> a.length = 1) /\ (∀ m, n = some m -> a.length = m /\ m ≠ 1)) : ∀ (l : List (List Int)) (i : Nat), (∀ r, cS n (mU a) (l.map xF) i = some r -> (match r with | none => I9 l a = false | some j => i <= j /\ I9 l a = true /\ l[j - i]? = some a))
  | [], i, r, h => by
    simp only [dq, cS, ah] at h
    subst h; rfl
  | b :: l, i, r, h => by
    simp only [be, xF, cS] at h
    split at h
    · rename_i hk
      have hb : (mU b).cells = b.map (.int .i64) /\ a.length = b.length := by
        cases n with
        | none =>
          have hl := hn.1 rfl
          unfold mU at hk ⊢
          split at hk
          · exact ⟨rfl, by simpa using hl⟩
          cases hk
        | some m =>
          obtain ⟨hl, hm⟩ := hn.2 m rfl
          unfold mU at hk ⊢
          split at hk
          · cases hk
          simp only [fP, ax, co] at hk
          exact ⟨rfl, by omega⟩
      rw [ha, hb.1, pO a b hb.2] at h
      cases hab : a == b with
      | true =>
        rw [hab] at h
        injection h with h; subst h
        have : a = b := by simpa using hab
        subst this
        exact ⟨df _, by simp [I9], by simp⟩
      | false =>
        rw [hab] at h
        have := zA ha hn l (i + 1) r h
        cases r with
        | none => simpa [I9, hab] using this
        | some j =>
          obtain ⟨h1, h2, h3⟩ := this
          refine ⟨by omega, by simp only [I9] at h2; simp [I9, h2], ?_⟩
          rw [show j - i = (j - (i + 1)) + 1 by omega]; simpa using h3
    cases h
theorem xK {n:Option Nat} {a:List Int} (ha:(mU a).cells=a.map (.int .i64)) (hn:(n=none->a.length=1)/\(∀m,n=some m->a.length=m/\m≠1)) {l:List (List Int)} (hl:l.all (fun b=>fP n (mU b))=true): ∀i,∃r,cS n (mU a) (l.map xF) i=some r:=by
 induction l with
 |nil=>intro i;exact ⟨none,rfl⟩
 |cons b l ih=>
  intro i;simp only [dj,ac] at hl;obtain ⟨r,hr⟩:=ih hl.2 (i+1);simp only [be,xF,cS,hl.1,if_true];have hb:(mU b).cells=b.map (.int .i64)/\a.length=b.length:=by
   have hk:=hl.1;cases n with
   |none=>
    have hl':=hn.1 rfl;unfold mU at hk ⊢;split at hk
    · exact ⟨rfl,by simpa using hl'⟩
    cases hk
   |some m=>
    obtain ⟨hl',hm⟩:=hn.2 m rfl;unfold mU at hk ⊢;split at hk
    · cases hk
    simp only [fP,ax,co] at hk
    exact ⟨rfl,by omega⟩
  rw [ha,hb.1,pO a b hb.2];cases hab:a==b with
  |true=>exact ⟨some i,rfl⟩
  |false=>exact ⟨r,hr⟩
theorem AG {n:Option Nat} {a:List Int} (hn:(n=none->a.length=1)/\(∀m,n=some m->a.length=m/\m≠1)) {l:List (List Int)} (hl: ∀b∈l,b.length=a.length):l.all (fun b=>fP n (mU b))=true:=by
 rw [bu];intro b hb;have hlen:=hl b hb;cases n with
 |none=>
  have h1:=hn.1 rfl;rw [h1] at hlen
  match b,hlen with
  | [x],_=>rfl
 |some m=>
  obtain ⟨h1,h2⟩:=hn.2 m rfl;unfold mU;split
  · rename_i x;simp at hlen;omega
  simp [fP];omega
theorem xL {a:List Int} {l:List (List Int)} (h:rO a l=true): ∀b∈l,b.length=a.length:=by
 intro b hb;exact aa (bu.1 h b hb)
theorem PT.of_R {s:List SB} {p:PT} {v:SV} {q:PV} {a:p.T} (h:R s v q) (ho:p.of v=some a):q=p.pv a:=by
 cases p with
 |i k=>
  cases v with
  |int l n=>
   simp only [PT.of] at ho;cases hk:cT l k with
   |false=>rw [hk] at ho;cases ho
   |true=>
    rw [hk] at ho;obtain rfl:=cQ.1 hk;injection ho with ho;subst ho;exact h
  |_=>cases ho
 |b=>
  cases v with
  |bool x=>
   injection ho with ho;subst ho;exact h
  |_=>cases ho
theorem C1 {β:Type} (g:Int×β->PV×PV) (hg: ∀x,(g x).1= .int .i64 x.1) (k:Int): ∀(l:List (Int×β)) (i:Nat),
 (∃j x,cS none (.int .i64 k) (l.map g) i=some (some (i+j))/\l[j]? =some x/\(∀z,uA z l k=x.2)/\ ∀a,oJ l k a=l.set j (k,a))\/
 (cS none (.int .i64 k) (l.map g) i=some none/\(∀z,uA z l k=z)/\ ∀a,oJ l k a=l++[(k,a)])
 | [],i=> .inr ⟨rfl,fun _=>rfl,fun _=>rfl⟩
 |x::l,i=>by
  have hk:fP none (g x).1=true:=by rw [hg];rfl
  have he:bR (PV.int .i64 k).cells (g x).1.cells=some (k==x.1):=by
   rw [hg];show bR [.int .i64 k] [.int .i64 x.1]=_;simp only [bR,lA,cT,if_true];cases k==x.1<;>rfl
  have hf:cS none (.int .i64 k) ((x::l).map g) i=(match some (k==x.1) with
   |some true=>some (some i)
   |some false=>cS none (.int .i64 k) (l.map g) (i+1)
   |none=>none):=by
   rw [be];show (if fP none (g x).1 then _ else none)=_
   rw [if_pos hk,he];cases k==x.1<;>rfl
  cases hb:k==x.1 with
  |true=>
   rw [hb] at hf;exact .inl ⟨0,x,hf,rfl,fun z=>by simp only [uA,hb,cond_true],fun a=>by simp only [oJ,hb,cond_true,List.set_cons_zero]⟩
  |false=>
   rw [hb] at hf;rcases C1 g hg k l (i+1) with ⟨j,y,h1,h2,h3,h4⟩|⟨h1,h2,h3⟩
   · refine .inl ⟨j+1,y,?_,by simpa using h2,fun z=>?_,fun a=>?_⟩
     · rw [hf];show cS none (.int .i64 k) (l.map g) (i+1)=_
       rw [h1,show i+1+j=i+(j+1) by omega]
     · simp only [uA,hb,cond_false,h3]
     simp only [oJ,hb,cond_false,h4,List.set_cons_succ]
   exact .inr ⟨hf.trans h1,fun z=>by simp only [uA,hb,cond_false,h2],fun a=>by simp only [oJ,hb,cond_false,h3,c9]⟩
theorem C2 (p:PT) (k:Int) (l:List (RT [.i .i64,p])):
 (∃(j:Nat) (x:RT [.i .i64,p]),cS none (.int .i64 k) (l.map (A6 p)) 0=some (some j)/\l[j]? =some x/\(∀z,p.get z l k=x.2)/\ ∀a,p.put l k a=l.set j (k,a))\/
 (cS none (.int .i64 k) (l.map (A6 p)) 0=some none/\(∀z,p.get z l k=z)/\ ∀a,p.put l k a=l++[(k,a)]):=by
 cases p with
 |i d=>
  rcases C1 (β:=Int) (A6 (.i d)) (fun _=>rfl) k l 0 with ⟨j,x,h1,h2,h3,h4⟩|h
  · exact .inl ⟨j,x,by rw [h1,ck],h2,h3,h4⟩
  exact .inr h
 |b=>
  rcases C1 (β:=Bool) (A6 .b) (fun _=>rfl) k l 0 with ⟨j,x,h1,h2,h3,h4⟩|h
  · exact .inl ⟨j,x,by rw [h1,ck],h2,h3,h4⟩
  exact .inr h
theorem PT.sv_R {s:List SB} (p:PT) (a:p.T):R s (p.sv a) (p.pv a):=by cases p<;>rfl
theorem PT.pv_plain (p:PT) (a:p.T):(p.pv a).storedPlain=some [p.pv a]:=by cases p<;>rfl
theorem LX (hE:bZ s e pe) (hS:bI s ps) {n:Option Nat} {zero:PV} {ok:Bool} {m q:cV} (h:iB e s z (.lookup n zero ok m q) k ρ w=some y):dZ s ps (aV pe ps z (.lookup n zero ok m q)) k ρ w y:=by
 simp only [iB] at h;have hx:=bU hE m;generalize bC e m=v at h hx;cases v with
 |mp t=>
  simp only [bG] at h;generalize hst:s[t]? =b at h;cases b with
  |none=>cases h
  |some b=>
   cases b with
   |set l=>
    dsimp only at h;unfold M1 at h;cases zero with
    |bool b=>
     cases b with
     |true=>cases h
     |false=>
      cases ok with
      |true=>cases h
      |false=>
       obtain ⟨a,ha,h1⟩:=aX h;obtain ⟨b,hb,hk⟩:=bK h1;obtain ⟨k1,k2,k3,k4,k5⟩:=RW (bU hE q) ha;unfold T0 at hb;cases hlk:rO a l with
       |false=>rw [hlk] at hb;cases hb
       |true=>
        rw [hlk] at hb;injection hb with hb;subst hb;obtain ⟨r,hr⟩:=xK k4 k5 (AG k5 (xL hlk)) 0;have hf:=zA k4 k5 l 0 r hr;refine dZ.rd hS hk ?_ rfl;show mV ps n (.bool false) false (m.ev pe) (q.ev pe)=_;rw [show m.ev pe=_ from hx,k1];simp only [mV,hS.set_ hst,k2,if_true,hr];cases r with
        |none=>simp only at hf;simp [hf]
        |some j=>
         obtain ⟨_,h2,h3⟩:=hf
         have:(l.map xF)[j]? =some (xF a):=by simp at h3;simp [h3]
         simp [this,h2,xF]
    |_=>cases h
   |tab p l=>
    dsimp only at h;unfold M2 at h;cases n with
    |some _=>cases h
    |none=>
     cases ok with
     |true=>cases h
     |false=>
      have hq:=bU hE q;generalize bC e q=u at h hq;cases u with
      |int d a=>
       cases d with
       |i64=>
        obtain ⟨zv,hz,hk⟩:=aX h;have hzero:=PT.of_R (LV s zero) hz;refine dZ.rd hS hk ?_ (PT.sv_R p _);show mV ps none zero false (m.ev pe) (q.ev pe)=_;rw [show m.ev pe=_ from hx,show q.ev pe=_ from hq];rcases C2 p a l with ⟨j,x,h1,h2,h3,_⟩|⟨h1,h2,_⟩
        · have h5:(l.map (A6 p))[j]? =some (A6 p x):=by simp [h2]
          simp only [mV,hS.tab_ hst,fP,if_true,h1,h5,h3,A6,ay,if_false]
        simp only [mV,hS.tab_ hst,fP,if_true,h1,h2,hzero,ay,if_false]
       |_=>cases h
      |_=>cases h
   |_=>cases h
 |_=>cases h
theorem RX (hE:bZ s e pe) (hS:bI s ps) {n:Option Nat} {m q x:cV} (h:iB e s z (.mapu n m q x) k ρ w=some y):dZ s ps (aV pe ps z (.mapu n m q x)) k ρ w y:=by
 simp only [iB] at h;have hx:=bU hE m;generalize bC e m=v at h hx;cases v with
 |mp t=>
  simp only [bG] at h;generalize hst:s[t]? =b at h;cases b with
  |none=>cases h
  |some b=>
   cases b with
   |set l=>
    obtain ⟨hz,h0⟩:=lU h;unfold Q7 at h0;have hv:=bU hE x;generalize bC e x=u at h0 hv;cases u with
    |bool b=>
     cases b with
     |false=>cases h0
     |true=>
      obtain ⟨a,ha,h1⟩:=aX h0;obtain ⟨b,hb,hk⟩:=bK h1;obtain ⟨k1,k2,k3,k4,k5⟩:=RW (bU hE q) ha;unfold T1 at hb;cases hlk:rO a l with
      |false=>rw [hlk] at hb;cases hb
      |true=>
       rw [hlk] at hb;injection hb with hb;subst hb;obtain ⟨r,hr⟩:=xK k4 k5 (AG k5 (xL hlk)) 0;have hf:=zA k4 k5 l 0 r hr;refine ⟨_,_,?_,eA.put0 hS (b:= .set (Q3 l a)) (q:= .map ((Q3 l a).map xF)) (rd:=[]) hst trivial rfl,hk⟩;show zW ps z n (m.ev pe) (q.ev pe) (x.ev pe)=_;rw [show m.ev pe=_ from hx,k1,show x.ev pe= .bool true from hv]
       have p2:(PV.bool true).storedPlain=some [.bool true]:=rfl;simp only [zW,hS.set_ hst,k2,hz,cd,bh,if_true,k3,p2,hr];cases r with
       |none=>simp only at hf;simp [Q3,hf,xF]
       |some j=>
        obtain ⟨_,h2,h3⟩:=hf;have h5:l[j]? =some a:=by simpa using h3
        have:(l.map xF).set j (mU a,.bool true)=l.map xF:=by
         apply cy;intro i;rw [am];split
         · rename_i hij
           subst hij;have hlt:=(ae.1 h5).1;have h6:l[j]=a:=(ae.1 h5).2;simp [hlt,h6,xF]
         rfl
        simp [Q3,h2,this]
    |_=>cases h0
   |tab p l=>
    obtain ⟨hz,h0⟩:=lU h;unfold Q8 at h0;cases n with
    |some _=>cases h0
    |none=>
     have hq:=bU hE q;generalize bC e q=u at h0 hq;cases u with
     |int d a=>
      cases d with
      |i64=>
       obtain ⟨xv,hxv,hk⟩:=aX h0;have hval:=PT.of_R (bU hE x) hxv;refine ⟨_,_,?_,eA.put0 hS (b:= .tab p (p.put l a xv)) (q:= .map ((p.put l a xv).map (A6 p))) (rd:=[]) hst trivial rfl,hk⟩;show zW ps z none (m.ev pe) (q.ev pe) (x.ev pe)=_;rw [show m.ev pe=_ from hx,show q.ev pe=_ from hq,hval];have p1:(PV.int .i64 a).storedPlain=some [.int .i64 a]:=rfl
       rcases C2 p a l with ⟨j,x,h1,_,_,h3⟩|⟨h1,_,h3⟩
       · simp only [zW,hS.tab_ hst,fP,hz,cd,bh,if_true,p1,PT.pv_plain,h1,h3,dn,A6]
       simp only [zW,hS.tab_ hst,fP,hz,cd,bh,if_true,p1,PT.pv_plain,h1,h3,bv,be,dq,A6]
      |_=>cases h0
     |_=>cases h0
   |_=>cases h
 |_=>cases h
theorem uF.fr' {s s':List SB} {bad:List Nat} {t e:Nat} (h:uF s t e) (hf:Fr bad s s'):uF s' t e:=by
 rcases h with ⟨r,l,h1,h2⟩|h1|⟨cs,h1,h2⟩
 · rcases hf t _ h1 with ⟨l',k1,_,_⟩|k1
   · exact .inl ⟨r,l',k1,h2⟩
   exact .inr (.inl k1)
 · exact .inr (.inl (hf t _ h1))
 rcases hf t _ h1 with ⟨c2,k1⟩|k1
 · exact .inr (.inr ⟨c2,k1,h2⟩)
 exact .inr (.inl k1)
theorem vO {α:Type} {l r:List α} (h:aZ l=some r):r=l/\l.length<=1048576:=by
 unfold aZ at h;split at h
 · injection h with h;exact ⟨h.symm,by assumption⟩
 cases h
theorem rS {α:Type} {l m r:List α} (h:bD l m=some r):r=l++m/\l.length+m.length<=1048576:=by
 unfold bD at h;split at h
 · injection h with h;exact ⟨h.symm,by assumption⟩
 cases h
theorem nD: ∀(m l:List iN) (n:Nat),n+m.length<=l.length->gO n m l=dB l n m
 | [],l,n,h=>by simp [gO,dB]
 |a::m,l,n,h=>by
  simp only [bc] at h;rw [gO,nD m (l.set n a) (n+1) (by simp;omega)]
  unfold dB;rw [List.take_set,List.drop_set];have hn:n<l.length:=by omega
  have h1: ¬(n+1+m.length<=n):=by omega
  rw [if_pos (by omega)]
  have:(l.take (n+1)).set n a=l.take n++[a]:=by
   rw [List.take_succ_eq_append_getElem hn,List.set_append_right _ _ (by simp;omega)]
   simp [db (dp hn)]
  rw [this];simp only [bg,c9,List.nil_append,bc];rw [show n+1+m.length=n+(m.length+1) by omega]
theorem C3 {α β:Type} (f:α->β) (l m:List α) (n:Nat):(dB l n m).map f=dB (l.map f) n (m.map f):=by
 simp [dB,bm,cg]
theorem xM {α:Type} (l m:List α) (n:Nat) (h:n+m.length<=l.length):(dB l n m).length=l.length:=by
 simp [dB];omega
theorem LY (hE:bZ s e pe) (hS:bI s ps) {esz:Nat} {x yy:cV} (h:iB e s z (.append esz x yy) k ρ w=some y):dZ s ps (aV pe ps z (.append esz x yy)) k ρ w y:=by
 simp only [iB] at h;have hx:=bU hE x;have hyv:=bU hE yy;unfold M0 at h;generalize bC e yy=vy at h hyv;cases hc:uC s vy with
 |none=>rw [hc] at h;cases h
 |some cc=>
  obtain ⟨q,m⟩:=cc;rw [hc] at h;dsimp only at h;obtain ⟨he,h⟩:=bL h;have he:=aa he;obtain ⟨hro,htk⟩:=M9 hS hyv hc;rw [he] at hro;have pe_app:aV pe ps z (.append esz x yy)=eX ps z esz (x.ev pe) (yy.ev pe):=rfl;generalize bC e x=v at h hx;cases v with
  |nil e' c=>
   dsimp only at h;obtain ⟨hcl,h⟩:=bL h;obtain ⟨m',hm',hk⟩:=bK h;obtain ⟨rfl,hle⟩:=vO hm';refine ⟨_,_,?_,eA.new hS (b:= .arr q m') (q:= .arr esz (m'.map (RT.pv q))) (v:= .own s.length false) (p:= .own s.length esz 0 m'.length m'.length false) (rd:=pJ vy) (by rw [<- he];rfl) ⟨esz,m'.length,rfl,.inl ⟨q,m',iH,he.symm,rfl⟩⟩,hk⟩
   rw [pe_app];have hcl':c=true:=hcl;subst hcl';rw [show x.ev pe= .sl e' true [] from hx];unfold eX;rw [hro];cases m' with
   |nil=>simp [hS.len,htk]
   |cons a m'=>
    have h2:ap ((a::m').length) hJ=true:=by simp [hJ] at hle ⊢;omega
    simp only [bc] at h2;simp [hS.len,htk,h2]
  |own t ex=>
   dsimp only at h;simp only [bG] at h;generalize hst:s[t]? =b at h;cases b with
   |none=>cases h
   |some b=>
    cases b with
    |arr r l=>
     dsimp only at h;cases hca:lZ q r m with
     |none=>rw [hca] at h;cases h
     |some m2=>
      rw [hca] at h;dsimp only at h;obtain ⟨rfl,hmp,hml⟩:=xE hca;obtain ⟨e',n',hx,hat⟩:=hx;obtain ⟨rfl,rfl⟩:=hat.inv hst;rw [<- hmp] at hro;have harr:=hS.arr hst;cases ex with
      |true=>
       dsimp only at h;rcases cR h with ⟨hl,h⟩|⟨hl,h⟩
       · obtain ⟨m',hm',hk⟩:=bK h
         obtain ⟨rfl,hle⟩:=vO hm';have hl:l=[]:=by simpa using hl
         subst hl;refine ⟨_,_,?_,eA.new hS (b:= .arr q m') (q:= .arr q.length (m'.map (RT.pv q))) (v:= .own s.length false) (p:= .own s.length q.length 0 m'.length m'.length false) (rd:=t::pJ vy) rfl ⟨q.length,m'.length,rfl,.inl ⟨q,m',iH,rfl,rfl⟩⟩,hk⟩;rw [pe_app,hx];unfold eX;rw [hro];subst he;cases m' with
         |nil=>simp [hS.len,htk]
         |cons a m'=>
          have h2:ap ((a::m').length) hJ=true:=by simp [hJ] at hle ⊢;omega
          simp only [bc] at h2;simp [hS.len,htk,h2,harr]
       have hl:l≠[]:=by intro e;subst e;cases hl
       have hl0:l.length≠0:=by intro e;exact hl (bn.1 e)
       have hb0:ar l.length 0=false:=by
        cases hb:ar l.length 0 with
        |false=>rfl
        |true=>exact absurd (aa hb) hl0
       rcases cR h with ⟨hm,h⟩|⟨hm,h⟩
       · have hm:m2=[]:=by simpa using hm
         subst hm;refine dZ.rd hS h ?_ ⟨_,_,rfl,hat⟩;rw [pe_app,hx];unfold eX;rw [hro];simp [hb0,htk]
       obtain ⟨l',hl',hk⟩:=bK h
       obtain ⟨rfl,hle⟩:=rS hl';refine ⟨_,_,?_,eA.new hS (b:= .arr q (l++m2)) (q:= .arr q.length ((l++m2).map (RT.pv q))) (v:= .own s.length false) (p:= .own s.length q.length 0 (l++m2).length (l++m2).length false) (rd:=t::pJ vy) rfl ⟨q.length,(l++m2).length,rfl,.inl ⟨q,l++m2,iH,rfl,rfl⟩⟩,hk⟩;rw [pe_app,hx];unfold eX;rw [hro];subst he;cases m2 with
       |nil=>cases hm
       |cons a m2=>
        have h2:ap (l.length+(a::m2).length) hJ=true:=by simp [hJ] at hle ⊢;omega
        have h3:ap (l.length+(m2.length+1)) l.length=false:=by
         cases hb:ap (l.length+(m2.length+1)) l.length with
         |false=>rfl
         |true=>have:=az hb;omega
        simp only [bc] at h2;simp [hS.len,htk,h2,h3,harr,bo]
      |false=>
       dsimp only at h;rcases cR h with ⟨hm,h⟩|⟨hm,h⟩
       · have hm:m2=[]:=by simpa using hm
         subst hm;refine dZ.rd hS h ?_ ⟨_,_,rfl,hat⟩;rw [pe_app,hx];unfold eX;rw [hro];simp [htk]
       obtain ⟨hz,h⟩:=lU h
       obtain ⟨l',hl',hk⟩:=bK h;obtain ⟨rfl,hle⟩:=rS hl';have hlen:(yF [t] (s.set t .dead)).length=s.length:=by rw [pL];simp
       refine ⟨_,_,?_,eA.put hS (b:= .dead) (q:= .dead) (l:=[.arr q (l++m2)]) (ql:=[.arr q.length ((l++m2).map (RT.pv q))]) (v:= .own s.length false) (p:= .own s.length q.length 0 (l++m2).length (l++m2).length false) (rd:=pJ vy) hst (.inr rfl) rfl rfl
        (fun j b hj=>by
         cases j with
         |zero=>simp at hj;subst hj;exact ⟨_,rfl,rfl⟩
         |succ j=>simp at hj)
        ⟨q.length,(l++m2).length,rfl,.inl ⟨q,l++m2,by rw [<- hlen];exact iH,rfl,rfl⟩⟩,hk⟩
       rw [pe_app,hx];unfold eX;rw [hro];subst he;cases m2 with
       |nil=>cases hm
       |cons a m2=>
        have h2:ap (l.length+(a::m2).length) hJ=true:=by simp [hJ] at hle ⊢;omega
        have h3:ap (l.length+(m2.length+1)) l.length=false:=by
         cases hb:ap (l.length+(m2.length+1)) l.length with
         |false=>rfl
         |true=>have:=az hb;omega
        simp only [bc] at h2;simp [hS.len,htk,h2,h3,harr,hz,bo]
    |_=>cases h
  |pre t len cap ex=>
   dsimp only at h;simp only [bG] at h;generalize hst:s[t]? =b at h;cases b with
   |none=>cases h
   |some b=>
    cases b with
    |arr r l=>
     dsimp only at h;cases hca:lZ q r m with
     |none=>rw [hca] at h;cases h
     |some m2=>
      rw [hca] at h;dsimp only at h;obtain ⟨rfl,hmp,hml⟩:=xE hca;obtain ⟨e',hx,hat⟩:=hx
      have:=hat.inv hst
      subst this;rw [<- hmp] at hro;have harr:=hS.arr hst;obtain ⟨hex,h⟩:=lU h;subst hex;rcases cR h with ⟨hm,h⟩|⟨hm,h⟩
      · have hm:m2=[]:=by simpa using hm
        subst hm;refine dZ.rd hS h ?_ ⟨_,rfl,hat⟩;rw [pe_app,hx];unfold eX;rw [hro];simp [htk]
      rcases cR h with ⟨c1,h⟩|⟨c1,h⟩
      · obtain ⟨hc2,hk⟩:=eO h
        simp only [ac,au] at hc2;obtain ⟨c2,c3⟩:=hc2;have c2':=az c2
        refine ⟨_,_,?_,eA.put hS (b:= .arr q (dB l len m2)) (q:= .arr q.length ((dB l len m2).map (RT.pv q))) (l:=[]) (ql:=[]) (v:= .pre t (len+m2.length) cap false) (p:= .own t q.length 0 (len+m2.length) cap false) (rd:=pJ vy) hst (.inl ⟨_,rfl,xM _ _ _ c2'⟩) rfl rfl
         (fun j b hj=>by simp at hj) ⟨q.length,rfl,?_⟩,hk⟩
        · rw [pe_app,hx]
          unfold eX;rw [hro];subst he;have hsr:gO (0+len) (m2.map (RT.pv q)) (l.map (RT.pv q))=(dB l len m2).map (RT.pv q):=by
           rw [nD _ _ _ (by simp;omega),C3,ck]
          cases m2 with
          |nil=>cases hm
          |cons a m2=>
           simp only [bc] at c1;simp only [be] at hsr ⊢;simp only [harr,bi,dk,ay,if_false,bc,ax,c1,if_true,c3,hsr,htk]
        have:=uF.fr' (s:=s) (s':=yF [t] (s.set t (.arr q (dB l len m2)))++[]) hat ((Fr.dg (ts:=[t]) (Fr.set hst (.inl ⟨_,rfl,xM _ _ _ c2'⟩))).trans (Fr.app [t] _ []))
        exact this
      obtain ⟨hz0,h⟩:=lU h
      have hz:has z t=false:=by
       cases hh:has z t with
       |false=>rfl
       |true=>rw [hh] at hz0;cases hz0
      obtain ⟨l',hl',h⟩:=bK h;obtain ⟨hll,hk⟩:=eO h;obtain ⟨hl'e,hle⟩:=rS hl';subst hl'e;have hll':=az hll;have htl:(l.take len).length=len:=by rw [bj];omega
      rw [htl] at hle;have hlen:(yF [t] (s.set t .dead)).length=s.length:=by rw [pL];simp
      have hal:(l.take len++m2).length=len+m2.length:=by rw [ch,htl]
      refine ⟨_,_,?_,eA.put hS (b:= .dead) (q:= .dead) (l:=[.arr q (l.take len++m2)]) (ql:=[.arr q.length ((l.take len++m2).map (RT.pv q))]) (v:= .own s.length false) (p:= .own s.length q.length 0 (l.take len++m2).length (l.take len++m2).length false) (rd:=pJ vy) hst (.inr rfl) rfl rfl
       (fun j b hj=>by
        cases j with
        |zero=>simp at hj;subst hj;exact ⟨_,rfl,rfl⟩
        |succ j=>simp at hj)
       ⟨q.length,(l.take len++m2).length,rfl,.inl ⟨q,l.take len++m2,by rw [<- hlen];exact iH,rfl,rfl⟩⟩,hk⟩
      rw [pe_app,hx];unfold eX;rw [hro];subst he;cases m2 with
      |nil=>cases hm
      |cons a m2=>
       have h2:ap (len+(m2.length+1)) hJ=true:=by simp [hJ] at hle ⊢;omega
       simp only [bc] at c1 hal;simp only [be,bc,ax,harr,bi,dk,ay,if_false,c1,h2,hz,hS.len,htk,hal,bz,bv,bm]
    |_=>cases h
  |_=>cases h
end
end Go.Vm
/- Operation by operation: all of them. -/
namespace Go.Vm
section
variable {R' ρ : Type} {w : R' -> ρ} {y : ρ} {s : List SB} {ps : bH} {e : SE} {pe : mP} {z : List Nat} {k : dL -> dQ R'}
theorem PK (hE:bZ s e pe) (hS:bI s ps) {esz:Nat} {zero:iN} {x:cV} (h:iB e s z (.clear esz zero x) k ρ w=some y):dZ s ps (aV pe ps z (.clear esz zero x)) k ρ w y:=by
 simp only [iB] at h;have hx:=bU hE x;unfold Q6 at h;generalize bC e x=v at h hx;cases v with
 |part t off len cap ex=>
  simp only [bG] at h;generalize hst:s[t]? =b at h;cases b with
  |none=>cases h
  |some b=>
   cases b with
   |arr r l=>
    dsimp only at h;cases hq:CJ zero with
    |none=>rw [hq] at h;cases h
    |some q=>
     rw [hq] at h;dsimp only at h;obtain ⟨hc,h1⟩:=bL h;simp only [ac] at hc;obtain ⟨hqr,he⟩:=hc;have hqr:=oK hqr;have he:=aa he;obtain ⟨e',hx,hat⟩:=hx
     have:=hat.inv hst
     subst this;subst hqr;subst he;rcases cR h1 with ⟨hl,hk⟩|⟨hl,hk⟩
     · have hl:=aa hl
       subst hl;exact dZ.val hS hk (by simp only [aV,hx]) rfl
     obtain ⟨hc2,hk⟩:=eO hk
     simp only [ac,au] at hc2;obtain ⟨c1,c2⟩:=hc2;have c1':=az c1;have hlen:=xM l (bk len (RT.zero q)) off (by simpa using c1')
     refine ⟨_,_,?_,eA.put0 hS (b:= .arr q (dB l off (bk len (RT.zero q)))) (q:= .arr q.length ((dB l off (bk len (RT.zero q))).map (RT.pv q))) (rd:=[]) hst (.inl ⟨_,rfl,hlen⟩) rfl,hk⟩;cases len with
     |zero=>cases hl
     |succ len=>
      have hsr:gO off (bk (len+1) zero) (l.map (RT.pv q))=(dB l off (bk (len+1) (RT.zero q))).map (RT.pv q):=by
       rw [C3,nD _ _ _ (by simpa using c1')]
       simp [xJ hq]
      simp only [aV,hx,hS.arr hst,bi,c2,cd,bh,if_true,hsr]
   |_=>cases h
 |_=>cases h
theorem vP (hS:bI s ps) {t off len cap:Nat} {ex:Bool} {r:List PT} {l:List (RT r)} {x yy:cV} {vy:SV} (hst:s[t]? =some (.arr r l)) (hx:x.ev pe= .own t r.length off len cap ex) (hyv:R s vy (yy.ev pe))
 (h:CK s z t r l off len vy k ρ w=some y):dZ s ps (aV pe ps z (.copy r.length x yy)) k ρ w y:=by
 unfold CK at h;cases hc:uC s vy with
 |none=>rw [hc] at h;cases h
 |some cc=>
  obtain ⟨q,m⟩:=cc;rw [hc] at h;dsimp only at h;cases hca:lZ q r m with
  |none=>rw [hca] at h;cases h
  |some m2=>
   rw [hca] at h;dsimp only at h;obtain ⟨hqr,hmp,hml⟩:=xE hca;subst hqr;obtain ⟨hro,htk⟩:=M9 hS hyv hc;rw [<- hmp] at hro;have htake:(m2.map (RT.pv q)).take len=(m2.take len).map (RT.pv q):=by rw [bm]
   generalize m2.take len=mm at h htake;rcases cR h with ⟨hm,hk⟩|⟨hm,hk⟩
   · have hm:mm=[]:=by simpa using hm
     subst hm;refine dZ.rd hS hk ?_ rfl;simp only [aV,hro,hx,htake,dq,htk]
   obtain ⟨hc2,hk⟩:=eO hk
   simp only [ac,au] at hc2;obtain ⟨c1,c2⟩:=hc2;have c1':=az c1;have hlen:=xM l mm off c1'
   refine ⟨_,_,?_,eA.put hS (b:= .arr q (dB l off mm)) (q:= .arr q.length ((dB l off mm).map (RT.pv q))) (l:=[]) (ql:=[]) (v:= .int .i64 (.ofNat mm.length)) (p:= .int .i64 (.ofNat mm.length)) (rd:=pJ vy) hst (.inl ⟨_,rfl,hlen⟩) rfl rfl (fun j b hj=>by simp at hj) rfl,hk⟩
   have hsr:gO off (mm.map (RT.pv q)) (l.map (RT.pv q))=(dB l off mm).map (RT.pv q):=by
    rw [C3,nD _ _ _ (by simpa using c1')]
   cases mm with
   |nil=>cases hm
   |cons a mm=>
    simp only [be] at hsr htake;simp only [aV,hro,hx,htake,hS.arr hst,bi,c2,cd,bh,if_true,hsr,htk,ax,bc]
theorem RY (hE:bZ s e pe) (hS:bI s ps) {esz:Nat} {x yy:cV} (h:iB e s z (.copy esz x yy) k ρ w=some y):dZ s ps (aV pe ps z (.copy esz x yy)) k ρ w y:=by
 simp only [iB] at h;have hx:=bU hE x;have hyv:=bU hE yy;unfold aDA at h;generalize bC e yy=vy at h hyv;generalize bC e x=v at h hx;cases v with
 |own t ex=>
  simp only [bG] at h;generalize hst:s[t]? =b at h;cases b with
  |none=>cases h
  |some b=>
   cases b with
   |arr r l=>
    obtain ⟨he,hk⟩:=bL h;have he:=aa he;subst he;obtain ⟨e',n',hx,hat⟩:=hx;obtain ⟨rfl,rfl⟩:=hat.inv hst;exact vP hS hst hx hyv hk
   |_=>cases h
 |pre t len cap ex=>
  simp only [bG] at h;generalize hst:s[t]? =b at h;cases b with
  |none=>cases h
  |some b=>
   cases b with
   |arr r l=>
    obtain ⟨he,hk⟩:=bL h;have he:=aa he;subst he;obtain ⟨e',hx,hat⟩:=hx
    have:=hat.inv hst
    subst this;exact vP hS hst hx hyv hk
   |_=>cases h
 |part t off len cap ex=>
  simp only [bG] at h;generalize hst:s[t]? =b at h;cases b with
  |none=>cases h
  |some b=>
   cases b with
   |arr r l=>
    obtain ⟨he,hk⟩:=bL h;have he:=aa he;subst he;obtain ⟨e',hx,hat⟩:=hx
    have:=hat.inv hst
    subst this;exact vP hS hst hx hyv hk
   |_=>cases h
 |_=>cases h
theorem PL (hE:bZ s e pe) (hS:bI s ps) {x1 x2:cV} (h:iB e s z (.mkbox x1 x2) k ρ w=some y):dZ s ps (aV pe ps z (.mkbox x1 x2)) k ρ w y:=by
 simp only [iB] at h;have hx:=bU hE x1;have hy:=bU hE x2;generalize bC e x1=v at h hx;generalize bC e x2=u at h hy;cases v with
 |sl r l=>
  cases u with
  |sl q m=>
   have hx:x1.ev pe= .sl r.length false (l.map (RT.pv r)):=hx;have hy:x2.ev pe= .sl q.length false (m.map (RT.pv q)):=hy
   refine ⟨_,_,?_,eA.new hS (b:= .box [.sl r l,.sl q m]) (q:= .box [.sl r.length false (l.map (RT.pv r)),.sl q.length false (m.map (RT.pv q))]) (v:= .part s.length 0 2 2 true) (p:= .own s.length 1 0 2 2 true) (rd:=[]) ⟨_,rfl,_,_,rfl,rfl,_,_,rfl,rfl,rfl⟩ ⟨1,rfl,.inr (.inr ⟨_,iH,rfl⟩)⟩,h⟩;simp only [aV,hx,hy,hS.len];rfl
  |_=>cases h
 |_=>cases h
theorem UO (hE:bZ s e pe) (hS:bI s ps) {op:gL} (h:iB e s z op k ρ w=some y):dZ s ps (aV pe ps z op) k ρ w y:=by
 cases op with
 |mov x=>exact dZ.val hS h rfl (bU hE x)
 |pick c a b=>exact RQ hE hS h
 |bin op a b=>exact UC hE hS h
 |binb n a b=>exact RK hE hS h
 |eqc n g a b=>exact UD hE hS h
 |un op a=>exact aD2 hE hS h
 |conv a x=>exact RN hE hS h
 |len x=>exact UE hE hS h
 |lenc n=>exact dZ.val hS h rfl rfl
 |box x=>exact UF hE hS h
 |alloc c=>exact PG hS h
 |build z p=>exact PF hE hS h
 |mkrow a b c d=>exact PJ hE hS h
 |mkbox a b=>exact PL hE hS h
 |load a p=>exact RU hE hS h
 |store a p x=>exact PI hE hS h
 |nilc x=>exact RO hE hS h
 |fadr o x=>exact RP hE hS h
 |fld a o x=>exact UG hE hS h
 |iadr a x i=>exact RR hE hS h
 |iadra n a x i=>exact PH hE hS h
 |idx n a g x i=>exact UK hE hS h
 |sidx x i=>exact RS hE hS h
 |slc a x l h' m=>exact UL hE hS h
 |mks a z l c=>exact UN hE hS h
 |mkf f a b=>exact UI hE hS h
 |mkm m=>exact UJ hS h
 |lookup n z o m q=>exact LX hE hS h
 |mapu n m q x=>exact RX hE hS h
 |ext i x=>exact UH hE hS h
 |append a x b=>exact LY hE hS h
 |copy a x b=>exact RY hE hS h
 |clear a z x=>exact PK hE hS h
 |mm m x xs=>exact aD3 hE hS h
 |call m f a=>cases h
 |callv x a=>cases h
 |bad=>cases h
mutual
theorem aJj {bx:Nat->Option (List SV)} {pbx:Nat->Option (List PV)} (hS:bI s ps) (hb: ∀t l,bx t=some l-> ∃q,pbx t=some q/\pvL l=some q): ∀{v u:SV} {p:PV},R s v p->FH s bx v=some u-> ∃q,yH ps pbx p=some q/\mA u=some q
 | .int k n,u,p,h,hx=>by injection hx with hx;subst hx;rw [show p=_ from h];exact ⟨_,rfl,rfl⟩
 | .bool b,u,p,h,hx=>by injection hx with hx;subst hx;rw [show p=_ from h];exact ⟨_,rfl,rfl⟩
 | .str x,u,p,h,hx=>by injection hx with hx;subst hx;rw [show p=_ from h];exact ⟨_,rfl,rfl⟩
 | .nilf,u,p,h,hx=>by injection hx with hx;subst hx;rw [show p=_ from h];exact ⟨_,rfl,rfl⟩
 | .agg cs,u,p,h,hx=>by
  obtain ⟨q,rfl,h⟩:=h;simp only [FH] at hx;split at hx
  · rename_i l hl
    injection hx with hx;subst hx;obtain ⟨q',h1,h2⟩:=exVL_R hS hb h hl;exact ⟨.agg q',by simp only [yH,h1];rfl,by simp only [mA,h2]⟩
  cases hx
 | .tup cs,u,p,h,hx=>by
  obtain ⟨q,rfl,h⟩:=h;simp only [FH] at hx;split at hx
  · rename_i l hl
    injection hx with hx;subst hx;obtain ⟨q',h1,h2⟩:=exVL_R hS hb h hl;exact ⟨.tup q',by simp only [yH,h1];rfl,by simp only [mA,h2]⟩
  cases hx
 | .sl r l,u,p,h,hx=>by injection hx with hx;subst hx;rw [show p=_ from h];exact ⟨_,rfl,rfl⟩
 | .nil e c,u,p,h,hx=>by injection hx with hx;subst hx;rw [show p=_ from h];exact ⟨_,rfl,rfl⟩
 | .own t ex,u,p,h,hx=>by
  simp only [FH,bG] at hx;split at hx
  · rename_i r l hst
    injection hx with hx;subst hx;obtain ⟨e,n,rfl,hat⟩:=h;obtain ⟨rfl,rfl⟩:=hat.inv hst;refine ⟨.sl r.length false (l.map (RT.pv r)),?_,rfl⟩;simp only [yH,hS.arr hst,bz];rw [bo (by simp)]
  cases hx
 | .pre t len cap ex,u,p,h,hx=>by
  simp only [FH,bG] at hx;split at hx
  · rename_i r l hst
    injection hx with hx;subst hx;obtain ⟨e,rfl,hat⟩:=h
    have:=hat.inv hst
    subst this;refine ⟨.sl r.length false ((l.take len).map (RT.pv r)),?_,rfl⟩;simp only [yH,hS.arr hst,bz,bm]
  cases hx
 | .part t off len cap ex,u,p,h,hx=>by
  simp only [FH,bG] at hx;split at hx
  · rename_i r l hst
    injection hx with hx;subst hx;obtain ⟨e,rfl,hat⟩:=h
    have:=hat.inv hst
    subst this;refine ⟨.sl r.length false (((l.drop off).take len).map (RT.pv r)),?_,rfl⟩;simp only [yH,hS.arr hst,bm,cg]
  cases hx
 | .pa t r i a off,u,p,h,hx=>by
  simp only [FH,bG] at hx;split at hx
  · rename_i q l hst
    injection hx with hx;subst hx;obtain ⟨rfl,hat⟩:=h;obtain ⟨rfl,hg⟩:=hat.inv hst;obtain ⟨m,rfl,hm⟩:=jA hg;refine ⟨.rptr (RT.pv r a) off,?_,by simp only [mA,RT.pv_sv]⟩
    have hm':(l.map (RT.pv r))[m]? =some (RT.pv r a):=by simp [hm]
    have e1:(bw m).toNat=m:=rfl;simp only [yH,hS.arr hst,e1,hm'];rfl
  cases hx
 | .bp t n off,u,p,h,hx=>by
  simp only [FH,bG] at hx;split at hx
  · rename_i cs hst
    split at hx
    · rename_i l hl
      injection hx with hx;subst hx;rw [show p=_ from h];obtain ⟨q,h1,h2⟩:=hb t l hl;obtain ⟨c,h3,_⟩:=hS.box hst;refine ⟨.rptr q off,?_,by simp only [mA,h2]⟩
      simp only [yH,h3,bi,if_true,h1];rfl
    cases hx
  cases hx
 | .rptr cs off,u,p,h,hx=>by
  obtain ⟨q,rfl,h⟩:=h;simp only [FH] at hx;split at hx
  · rename_i l hl
    injection hx with hx;subst hx;obtain ⟨q',h1,h2⟩:=exVL_R hS hb h hl;exact ⟨.rptr q' off,by simp only [yH,h1];rfl,by simp only [mA,h2]⟩
  cases hx
 | .clo f a b,u,p,h,hx=>by
  obtain ⟨pa,pb,rfl,h1,h2⟩:=h;simp only [FH] at hx;split at hx
  · rename_i x y' h3 h4
    injection hx with hx;subst hx;obtain ⟨qa,h5,h6⟩:=exVL_R hS hb h1 h3;obtain ⟨qb,h7,h8⟩:=exVL_R hS hb h2 h4;exact ⟨.clo f qa qb,by simp only [yH,h5,h7],by simp only [mA,h6,h8]⟩
  cases hx
 | .junk,_,_,_,hx| .undef,_,_,_,hx| .nul,_,_,_,hx| .pb _ _ _,_,_,_,hx| .mp _,_,_,_,hx=>by cases hx
theorem exVL_R {bx:Nat->Option (List SV)} {pbx:Nat->Option (List PV)} (hS:bI s ps) (hb: ∀t l,bx t=some l-> ∃q,pbx t=some q/\pvL l=some q): ∀{v u:List SV} {p:List PV},RL s v p->exVL s bx v=some u-> ∃q,exL ps pbx p=some q/\pvL u=some q
 | [],u,p,h,hx=>by injection hx with hx;subst hx;rw [show p=_ from h];exact ⟨_,rfl,rfl⟩
 |x::xs,u,p,h,hx=>by
  obtain ⟨q,qs,rfl,h1,h2⟩:=h.cons_inv;simp only [exVL] at hx;split at hx
  · rename_i y' ys h3 h4
    injection hx with hx;subst hx;obtain ⟨a,h5,h6⟩:=aJj hS hb h1 h3;obtain ⟨as,h7,h8⟩:=exVL_R hS hb h2 h4;exact ⟨a::as,by simp only [exL,h5,h7],cD.2 ⟨a,as,rfl,h6,h8⟩⟩
  cases hx
end
theorem BH (hS:bI s ps): ∀(n t:Nat) (l:List SV),gI s n t=some l-> ∃q,tJ ps n t=some q/\pvL l=some q
 |0,t,l,h=>by cases h
 |n+1,t,l,h=>by
  simp only [gI,bG] at h;split at h
  · rename_i cs hst
    obtain ⟨q,h1,h2⟩:=hS.box hst;obtain ⟨u,h3,h4⟩:=exVL_R hS (BH hS n) h2 h;exact ⟨u,by simp only [tJ,h1,h3],h4⟩
  cases h
mutual
theorem RZ {bx pbx:Nat->List Nat} (hb: ∀t,bx t=pbx t): ∀{v:SV} {p:PV},R s v p->v.sure=true->LM bx v=fE pbx p
 | .junk,_,_,h=>by cases h
 | .undef,p,h,_| .nul,p,h,_| .nilf,p,h,_| .int _ _,p,h,_| .bool _,p,h,_| .str _,p,h,_| .sl _ _,p,h,_| .nil _ _,p,h,_=>by rw [show p=_ from h];rfl
 | .agg cs,p,h,hs=>by obtain ⟨q,rfl,h⟩:=h;exact tkVL_R hb h hs
 | .tup cs,p,h,hs=>by obtain ⟨q,rfl,h⟩:=h;exact tkVL_R hb h hs
 | .own t ex,p,h,_=>by obtain ⟨e,n,rfl,_⟩:=h;rfl
 | .pre t a b c,p,h,_=>by obtain ⟨e,rfl,_⟩:=h;rfl
 | .part t o a b c,p,h,_=>by obtain ⟨e,rfl,_⟩:=h;rfl
 | .pa t r i a o,p,h,_=>by obtain ⟨rfl,_⟩:=h;simp only [LM,fE,hb]
 | .pb t i o,p,h,_=>by obtain ⟨e,rfl,_⟩:=h;simp only [LM,fE,hb]
 | .bp t n o,p,h,_=>by rw [show p=_ from h];simp only [LM,fE,hb]
 | .rptr cs o,p,h,hs=>by obtain ⟨q,rfl,h⟩:=h;exact tkVL_R hb h hs
 | .mp t,p,h,_=>by rw [show p=_ from h];rfl
 | .clo f a b,p,h,hs=>by
  obtain ⟨pa,pb,rfl,h1,h2⟩:=h;simp only [SV.sure,ac] at hs;simp only [LM,fE,tkVL_R hb h1 hs.1,tkVL_R hb h2 hs.2]
theorem tkVL_R {bx pbx:Nat->List Nat} (hb: ∀t,bx t=pbx t): ∀{v:List SV} {p:List PV},RL s v p->sureL v=true->tkVL bx v=toksL pbx p
 | [],p,h,_=>by rw [show p=_ from h];rfl
 |x::xs,p,h,hs=>by
  obtain ⟨q,qs,rfl,h1,h2⟩:=h.cons_inv;simp only [sureL,ac] at hs;simp only [tkVL,toksL,RZ hb h1 hs.1,tkVL_R hb h2 hs.2]
end
end
end Go.Vm
/- The head of a loop: what the typed machine keeps there, the logical machine keeps there. -/
namespace Go.Vm
section
variable {s : List SB} {ps : bH}
mutual
theorem aJk {n:Nat} (hS:bI s ps) (hB: ∀t l,gI s n t=some l->qX s n t=bQ ps n t): ∀{v u:SV} {p:PV},R s v p->FH s (gI s n) v=some u->LM (qX s n) v=fE (bQ ps n) p
 | .int _ _,_,p,h,_| .bool _,_,p,h,_| .str _,_,p,h,_| .nilf,_,p,h,_| .sl _ _,_,p,h,_| .nil _ _,_,p,h,_=>by rw [show p=_ from h];rfl
 | .agg cs,u,p,h,hx=>by
  obtain ⟨q,rfl,h⟩:=h;simp only [FH] at hx;split at hx
  · rename_i l hl;exact tkExL hS hB h hl
  cases hx
 | .tup cs,u,p,h,hx=>by
  obtain ⟨q,rfl,h⟩:=h;simp only [FH] at hx;split at hx
  · rename_i l hl;exact tkExL hS hB h hl
  cases hx
 | .own t ex,_,p,h,_=>by obtain ⟨e,n,rfl,_⟩:=h;rfl
 | .pre t a b c,_,p,h,_=>by obtain ⟨e,rfl,_⟩:=h;rfl
 | .part t o a b c,_,p,h,_=>by obtain ⟨e,rfl,_⟩:=h;rfl
 | .pa t r i a o,_,p,h,hx=>by
  obtain ⟨rfl,hat⟩:=h;simp only [FH,bG] at hx;split at hx
  · rename_i q l hst
    simp only [LM,fE];cases n with
    |zero=>rfl
    |succ n=>simp only [qX,bQ,bG,hst,hS.arr hst]
  cases hx
 | .bp t m o,u,p,h,hx=>by
  rw [show p=_ from h];simp only [FH,bG] at hx;split at hx
  · split at hx
    · rename_i l hl
      simp only [LM,fE,hB t l hl]
    cases hx
  cases hx
 | .rptr cs o,u,p,h,hx=>by
  obtain ⟨q,rfl,h⟩:=h;simp only [FH] at hx;split at hx
  · rename_i l hl;exact tkExL hS hB h hl
  cases hx
 | .clo f a b,u,p,h,hx=>by
  obtain ⟨pa,pb,rfl,h1,h2⟩:=h;simp only [FH] at hx;split at hx
  · rename_i x y h3 h4
    simp only [LM,fE,tkExL hS hB h1 h3,tkExL hS hB h2 h4]
  cases hx
 | .junk,_,_,_,hx| .undef,_,_,_,hx| .nul,_,_,_,hx| .pb _ _ _,_,_,_,hx| .mp _,_,_,_,hx=>by cases hx
theorem tkExL {n:Nat} (hS:bI s ps) (hB: ∀t l,gI s n t=some l->qX s n t=bQ ps n t): ∀{v u:List SV} {p:List PV},RL s v p->exVL s (gI s n) v=some u->tkVL (qX s n) v=toksL (bQ ps n) p
 | [],_,p,h,_=>by rw [show p=_ from h];rfl
 |x::xs,u,p,h,hx=>by
  obtain ⟨q,qs,rfl,h1,h2⟩:=h.cons_inv;simp only [exVL] at hx;split at hx
  · rename_i a b h3 h4
    simp only [tkVL,toksL,aJk hS hB h1 h3,tkExL hS hB h2 h4]
  cases hx
end
theorem R0 {n:Nat} (hS:bI s ps) (hB: ∀t l,gI s n t=some l->qX s n t=bQ ps n t): ∀{v:List SV} {p:List PV},RL s v p->LL s (gI s n) v=true->tkVL (qX s n) v=toksL (bQ ps n) p
 | [],p,h,_=>by rw [show p=[] from h];rfl
 |x::xs,p,h,hx=>by
  obtain ⟨a,as,rfl,h1,h2⟩:=h.cons_inv;have other: ∀u,FH s (gI s n) x=some u->LL s (gI s n) xs=true->tkVL (qX s n) (x::xs)=toksL (bQ ps n) (a::as):=fun u h3 h4=>by
   simp only [tkVL,toksL,aJk hS hB h1 h3,R0 hS hB h2 h4]
  unfold LL at hx;split at hx
  · rename_i t
    rw [show a= .mp t from h1];simp only [tkVL,toksL,LM,fE,R0 hS hB h2 hx]
  split at hx
  · rename_i u h3
    exact other u h3 hx
  cases hx
theorem C4 (hS:bI s ps): ∀(n t:Nat) (l:List SV),gI s n t=some l->qX s n t=bQ ps n t
 |0,t,l,h=>rfl
 |n+1,t,l,h=>by
  simp only [gI,bG] at h;split at h
  · rename_i cs hst
    obtain ⟨q,h1,h2⟩:=hS.box hst;simp only [qX,bQ,bG,hst,h1];exact tkExL hS (C4 hS n) h2 h
  cases h
theorem G5 {b:SB} {q:fX} (h:RB s b q) (hs:tC b=true):CL b=lK q:=by
 cases b with
 |box cs=>obtain ⟨c,rfl,h⟩:=h;exact tkVL_R (fun _=>rfl) h hs
 |arr r l=>rw [show q=_ from h];rfl
 |set l=>rw [show q=_ from h];rfl
 |tab p l=>rw [show q=_ from h];rfl
 |dead=>rw [show q=_ from h];rfl
theorem C5 (hS:bI s ps): ∀(n:Nat) (ts seen m:List Nat),yX s n ts seen=some m->wJ ps n ts seen=some m
 |n,[],seen,m,h=>by
  cases n<;>(simp only [yX] at h;exact h)
 |0,_::_,_,_,h=>by cases h
 |n+1,t::ts,seen,m,h=>by
  simp only [yX,bG] at h;simp only [wJ];cases hh:has seen t with
  |true=>rw [hh] at h;simp only [cond_true] at h;simp only [if_true];exact C5 hS n ts seen m h
  |false=>
   rw [hh] at h;simp only [cond_false] at h;simp only [ay,if_false];split at h
   · rename_i b hst
     obtain ⟨q,h1,h2⟩:=hS.at_ t b hst;cases hb:tC b with
     |false=>rw [hb] at h;cases h
     |true=>
      rw [hb] at h;simp only [cond_true] at h;rw [h1,G5 h2 hb] at*;exact C5 hS n _ _ m h
   cases h
theorem C6: ∀{t u:Nat} {m:List Nat},kP t m=some u->m[u]? =some t
 |t,u,[],h=>by cases h
 |t,u,x::m,h=>by
  simp only [kP] at h;cases hb:ar x t with
  |true=>rw [hb] at h;simp at h;subst h;simp [aa hb]
  |false=>
   rw [hb] at h;simp only [ay,if_false,bl] at h;obtain ⟨v,hv,rfl⟩:=h;simpa using C6 hv
def C7 (m:List Nat) (s s':List SB):Prop:= ∀(t u:Nat) (b:SB),kP t m=some u->s[t]? =some b->match b with
 | .arr r l=>s'[u]? =some (.arr r l)
 | .dead=>s'[u]? =some .dead
 | .box _=> ∃cs,s'[u]? =some (.box cs)
 |_=>True
mutual
theorem R1 {m:List Nat} {s':List SB} (hr:C7 m s s'): ∀{v u:SV} {p:PV},R s v p->kY m v=some u-> ∃q,wK m p=some q/\R s' u q
 | .junk,_,_,_,hx=>by cases hx
 | .undef,u,p,h,hx| .nul,u,p,h,hx| .nilf,u,p,h,hx| .int _ _,u,p,h,hx| .bool _,u,p,h,hx| .str _,u,p,h,hx| .sl _ _,u,p,h,hx| .nil _ _,u,p,h,hx=>by
  injection hx with hx;subst hx;rw [show p=_ from h];exact ⟨_,rfl,rfl⟩
 | .agg cs,u,p,h,hx=>by
  obtain ⟨q,rfl,h⟩:=h;simp only [kY] at hx;split at hx
  · rename_i l hl
    injection hx with hx;subst hx;obtain ⟨q',h1,h2⟩:=renVL_R hr h hl;exact ⟨.agg q',by simp only [wK,h1];rfl,q',rfl,h2⟩
  cases hx
 | .tup cs,u,p,h,hx=>by
  obtain ⟨q,rfl,h⟩:=h;simp only [kY] at hx;split at hx
  · rename_i l hl
    injection hx with hx;subst hx;obtain ⟨q',h1,h2⟩:=renVL_R hr h hl;exact ⟨.tup q',by simp only [wK,h1];rfl,q',rfl,h2⟩
  cases hx
 | .own t ex,u,p,h,hx=>by
  obtain ⟨e,n,rfl,hat⟩:=h;simp only [kY] at hx;split at hx
  · rename_i v hv
    injection hx with hx;subst hx;refine ⟨.own v e 0 n n ex,by simp only [wK,hv];rfl,e,n,rfl,?_⟩
    rcases hat with ⟨r,l,h1,h2,h3⟩|h1
    · exact .inl ⟨r,l,hr t v _ hv h1,h2,h3⟩
    exact .inr (hr t v _ hv h1)
  cases hx
 | .pre t len cap ex,u,p,h,hx=>by
  obtain ⟨e,rfl,hat⟩:=h;simp only [kY] at hx;split at hx
  · rename_i v hv
    injection hx with hx;subst hx;refine ⟨.own v e 0 len cap ex,by simp only [wK,hv];rfl,e,rfl,?_⟩
    rcases hat with ⟨r,l,h1,h2⟩|h1|⟨cs,h1,h2⟩
    · exact .inl ⟨r,l,hr t v _ hv h1,h2⟩
    · exact .inr (.inl (hr t v _ hv h1))
    obtain ⟨c2,h3⟩:=hr t v _ hv h1
    exact .inr (.inr ⟨c2,h3,h2⟩)
  cases hx
 | .part t off len cap ex,u,p,h,hx=>by
  obtain ⟨e,rfl,hat⟩:=h;simp only [kY] at hx;split at hx
  · rename_i v hv
    injection hx with hx;subst hx;refine ⟨.own v e off len cap ex,by simp only [wK,hv];rfl,e,rfl,?_⟩
    rcases hat with ⟨r,l,h1,h2⟩|h1|⟨cs,h1,h2⟩
    · exact .inl ⟨r,l,hr t v _ hv h1,h2⟩
    · exact .inr (.inl (hr t v _ hv h1))
    obtain ⟨c2,h3⟩:=hr t v _ hv h1
    exact .inr (.inr ⟨c2,h3,h2⟩)
  cases hx
 | .pa t r i a off,u,p,h,hx=>by
  obtain ⟨rfl,hat⟩:=h;simp only [kY] at hx;split at hx
  · rename_i v hv
    injection hx with hx;subst hx;refine ⟨.ptr v r.length i.toNat off,by simp only [wK,hv];rfl,r.length,rfl,?_⟩
    rcases hat with ⟨l,h1,h2⟩|h1
    · exact .inl ⟨r,l,hr t v _ hv h1,by rw [h2];rfl⟩
    exact .inr (hr t v _ hv h1)
  cases hx
 | .pb t i off,u,p,h,hx=>by
  obtain ⟨e,rfl,hat⟩:=h;simp only [kY] at hx;split at hx
  · rename_i v hv
    injection hx with hx;subst hx;refine ⟨.ptr v e i.toNat off,by simp only [wK,hv];rfl,e,rfl,?_⟩
    rcases hat with ⟨r,l,h1,h2⟩|h1
    · exact .inl ⟨r,l,hr t v _ hv h1,h2⟩
    exact .inr (hr t v _ hv h1)
  cases hx
 | .bp t n off,u,p,h,hx=>by
  rw [show p=_ from h];simp only [kY] at hx;split at hx
  · rename_i v hv
    injection hx with hx;subst hx;exact ⟨.ptr v n 0 off,by simp only [wK,hv];rfl,rfl⟩
  cases hx
 | .rptr cs off,u,p,h,hx=>by
  obtain ⟨q,rfl,h⟩:=h;simp only [kY] at hx;split at hx
  · rename_i l hl
    injection hx with hx;subst hx;obtain ⟨q',h1,h2⟩:=renVL_R hr h hl;exact ⟨.rptr q' off,by simp only [wK,h1];rfl,q',rfl,h2⟩
  cases hx
 | .mp t,u,p,h,hx=>by
  rw [show p=_ from h];simp only [kY] at hx;split at hx
  · rename_i v hv
    injection hx with hx;subst hx;exact ⟨.mp v,by simp only [wK,hv];rfl,rfl⟩
  cases hx
 | .clo f a b,u,p,h,hx=>by
  obtain ⟨pa,pb,rfl,h1,h2⟩:=h;simp only [kY] at hx;split at hx
  · rename_i x y h3 h4
    injection hx with hx;subst hx;obtain ⟨qa,h5,h6⟩:=renVL_R hr h1 h3;obtain ⟨qb,h7,h8⟩:=renVL_R hr h2 h4;exact ⟨.clo f qa qb,by simp only [wK,h5,h7],qa,qb,rfl,h6,h8⟩
  cases hx
theorem renVL_R {m:List Nat} {s':List SB} (hr:C7 m s s'): ∀{v u:List SV} {p:List PV},RL s v p->renVL m v=some u-> ∃q,renL m p=some q/\RL s' u q
 | [],u,p,h,hx=>by injection hx with hx;subst hx;rw [show p=_ from h];exact ⟨_,rfl,rfl⟩
 |x::xs,u,p,h,hx=>by
  obtain ⟨q,qs,rfl,h1,h2⟩:=h.cons_inv;simp only [renVL] at hx;split at hx
  · rename_i a b h3 h4
    injection hx with hx;subst hx;obtain ⟨a',h5,h6⟩:=R1 hr h1 h3;obtain ⟨b',h7,h8⟩:=renVL_R hr h2 h4;exact ⟨a'::b',by simp only [renL,h5,h7],RL.cons h6 h8⟩
  cases hx
end
theorem aD4 {m:List Nat} {s':List SB} (hr:C7 m s s') {b c:SB} {q:fX} (h:RB s b q) (hx:LN m b=some c): ∃q',jJ m q=some q'/\RB s' c q':=by
 cases b with
 |box cs=>
  obtain ⟨p,rfl,h⟩:=h;simp only [LN] at hx;split at hx
  · rename_i l hl
    injection hx with hx;subst hx;obtain ⟨q',h1,h2⟩:=renVL_R hr h hl;exact ⟨.box q',by simp only [jJ,h1];rfl,q',rfl,h2⟩
  cases hx
 |arr r l=>injection hx with hx;subst hx;rw [show q=_ from h];exact ⟨_,rfl,rfl⟩
 |set l=>injection hx with hx;subst hx;rw [show q=_ from h];exact ⟨_,rfl,rfl⟩
 |tab p l=>injection hx with hx;subst hx;rw [show q=_ from h];exact ⟨_,rfl,rfl⟩
 |dead=>injection hx with hx;subst hx;rw [show q=_ from h];exact ⟨_,rfl,rfl⟩
theorem rT {m:List Nat}: ∀{ts:List Nat} {s1:List SB},ET s m ts=some s1->s1.length=ts.length/\ ∀(j t:Nat),ts[j]? =some t-> ∃b c,s[t]? =some b/\LN m b=some c/\s1[j]? =some c
 | [],s1,h=>by injection h with h;subst h;exact ⟨rfl,fun j t h=>by simp at h⟩
 |t::ts,s1,h=>by
  simp only [ET,bG] at h;split at h
  · rename_i b hb
    split at h
    · rename_i c r hc hr
      injection h with h;subst h;obtain ⟨h1,h2⟩:=rT hr;refine ⟨by simp [h1],fun j u hj=>?_⟩
      cases j with
      |zero=>simp at hj;subst hj;exact ⟨b,c,hb,hc,rfl⟩
      |succ j=>simpa using h2 j u (by simpa using hj)
    cases h
  cases h
theorem zB (hS:bI s ps) {m:List Nat} {s':List SB} (hr:C7 m s s'): ∀{ts:List Nat} {s1:List SB},ET s m ts=some s1-> ∃p1,rA ps m ts=some p1/\p1.length=s1.length/\ ∀(j:Nat) (b:SB),s1[j]? =some b-> ∃q,p1[j]? =some q/\RB s' b q
 | [],s1,h=>by injection h with h;subst h;exact ⟨[],rfl,rfl,fun j b h=>by simp at h⟩
 |t::ts,s1,h=>by
  simp only [ET,bG] at h;split at h
  · rename_i b hb
    split at h
    · rename_i c r hc hr'
      injection h with h;subst h;obtain ⟨q,h1,h2⟩:=hS.at_ t b hb;obtain ⟨q',h3,h4⟩:=aD4 hr h2 hc;obtain ⟨p1,h5,h6,h7⟩:=zB hS hr hr';refine ⟨q'::p1,by simp only [rA,h1,h3,h5],by simp [h6],fun j x hj=>?_⟩
      cases j with
      |zero=>simp at hj;subst hj;exact ⟨q',rfl,h4⟩
      |succ j=>simpa using h7 j x (by simpa using hj)
    cases h
  cases h
theorem C7.of {m:List Nat} {s1 l:List SB} (h:ET s m m=some s1):C7 m s (s1++l):=fun t u b hu hb=>by
 have hm:=C6 hu;obtain ⟨h1,h2⟩:=rT h;obtain ⟨b',c,h3,h4,h5⟩:=h2 u t hm;rw [hb] at h3;injection h3 with h3;subst h3;have hlt:=(ae.1 h5).1;cases b with
 |arr r l'=>injection h4 with h4;subst h4;rw [af hlt];exact h5
 |dead=>injection h4 with h4;subst h4;rw [af hlt];exact h5
 |box cs=>
  simp only [LN] at h4;split at h4
  · injection h4 with h4;subst h4;exact ⟨_,by rw [af hlt];exact h5⟩
  cases h4
 |_=>trivial
theorem oM: ∀(rk:List (Nat×List PT)) (n:Nat),(qQ rk n).length=n
 | [],n=>by simp [qQ]
 |(m,r)::q,n=>by
  simp only [qQ];cases hc:(ar m n&&ar r.length n) with
  |true=>simp only [ac] at hc;exact aa hc.2
  |false=>exact oM q n
theorem zC {rk:List (Nat×List PT)} {e:SE} {m:List Nat}: ∀{live:List (Nat×Option Nat)} {nx:Nat} {e1:SE} {s2:List SB},qR rk e m nx live=some (e1,s2)-> ∀(j:Nat) (b:SB),s2[j]? =some b-> ∃r,b= .arr r []
 | [],nx,e1,s2,h,j,b,hj=>by
  simp only [qR,ah,aq] at h;rw [<- h.2] at hj;simp at hj
 |(t,k)::live,nx,e1,s2,h,j,b,hj=>by
  simp only [qR] at h;split at h
  · split at h
    · rename_i p hp
      simp only [ah,aq] at h;obtain ⟨rfl,rfl⟩:=h;cases j with
      |zero=>simp at hj;exact ⟨_,hj.symm⟩
      |succ j=>exact zC (e1:=p.1) (s2:=p.2) hp j b (by simpa using hj)
    cases h
  split at h
  · rename_i v' p hv hp
    simp only [ah,aq] at h;obtain ⟨rfl,rfl⟩:=h;exact zC (e1:=p.1) (s2:=p.2) hp j b hj
  cases h
mutual
theorem zD {m:List Nat}: ∀{v u:SV},kY m v=some u->u.sure=true
 | .junk,_,h=>by cases h
 | .undef,u,h| .nul,u,h| .nilf,u,h| .int _ _,u,h| .bool _,u,h| .str _,u,h| .sl _ _,u,h| .nil _ _,u,h=>by injection h with h;subst h;rfl
 | .agg cs,u,h=>by
  simp only [kY] at h;split at h
  · rename_i l hl;injection h with h;subst h;exact renVL_sure hl
  cases h
 | .tup cs,u,h=>by
  simp only [kY] at h;split at h
  · rename_i l hl;injection h with h;subst h;exact renVL_sure hl
  cases h
 | .rptr cs _,u,h=>by
  simp only [kY] at h;split at h
  · rename_i l hl;injection h with h;subst h;exact renVL_sure hl
  cases h
 | .own _ _,u,h=>by simp only [kY] at h;split at h<;>first|(injection h with h;subst h;rfl)|cases h
 | .pre _ _ _ _,u,h=>by simp only [kY] at h;split at h<;>first|(injection h with h;subst h;rfl)|cases h
 | .part _ _ _ _ _,u,h=>by simp only [kY] at h;split at h<;>first|(injection h with h;subst h;rfl)|cases h
 | .pa _ _ _ _ _,u,h=>by simp only [kY] at h;split at h<;>first|(injection h with h;subst h;rfl)|cases h
 | .pb _ _ _,u,h=>by simp only [kY] at h;split at h<;>first|(injection h with h;subst h;rfl)|cases h
 | .bp _ _ _,u,h=>by simp only [kY] at h;split at h<;>first|(injection h with h;subst h;rfl)|cases h
 | .mp _,u,h=>by simp only [kY] at h;split at h<;>first|(injection h with h;subst h;rfl)|cases h
 | .clo f a b,u,h=>by
  simp only [kY] at h;split at h
  · rename_i x y h1 h2
    injection h with h;subst h;simp only [SV.sure,renVL_sure h1,renVL_sure h2,bh]
  cases h
theorem renVL_sure {m:List Nat}: ∀{v u:List SV},renVL m v=some u->sureL u=true
 | [],u,h=>by injection h with h;subst h;rfl
 |x::xs,u,h=>by
  simp only [renVL] at h;split at h
  · rename_i a b h1 h2
    injection h with h;subst h;simp only [sureL,zD h1,renVL_sure h2,bh]
  cases h
end
theorem UP {s:List SB} {v:SV} {p:PV} (h:R s v p): ∀k:Option Nat,v.sure=true->R s (GY k v) (exOff k p)
 |none,_=>h
 |some _,hs=>by
  cases v with
  |own t ex=>obtain ⟨e,n,rfl,h⟩:=h;exact ⟨e,n,rfl,h⟩
  |pre t l c ex=>obtain ⟨e,rfl,h⟩:=h;exact ⟨e,rfl,h⟩
  |part t o l c ex=>obtain ⟨e,rfl,h⟩:=h;exact ⟨e,rfl,h⟩
  |junk=>cases hs
  |undef|nul|nilf|int _ _|bool _|str _|bp _ _ _|mp _|sl _ _|nil _ _=>rw [show p=_ from h];rfl
  |agg _|tup _|rptr _ _=>obtain ⟨q,rfl,h⟩:=h;exact ⟨q,rfl,h⟩
  |clo _ _ _=>obtain ⟨q,q2,rfl,h⟩:=h;exact ⟨q,q2,rfl,h⟩
  |pa _ _ _ _ _=>obtain ⟨rfl,h⟩:=h;exact ⟨rfl,h⟩
  |pb _ _ _=>obtain ⟨q,rfl,h⟩:=h;exact ⟨q,rfl,h⟩
theorem LZ {v:SV} (h:v.sure=true) (k:Option Nat):(GY k v).sure=true:=by
 unfold GY;split<;>first|rfl|exact h
theorem G6 {rk:List (Nat×List PT)} {e:SE} {pe:mP} (hE:bZ s e pe) {m:List Nat} {s':List SB} (hr:C7 m s s'): ∀{live:List (Nat×Option Nat)} {nx:Nat} {e1:SE} {s2:List SB},qR rk e m nx live=some (e1,s2)->(∀(j:Nat) (b:SB),s2[j]? =some b->s'[nx+j]? =some b)->
 ∃p1 q2,lL pe m nx live=some (p1,q2)/\bZ s' e1 p1/\q2.length=s2.length/\ ∀(j:Nat) (b:SB),s2[j]? =some b-> ∃q,q2[j]? =some q/\RB s' b q
 | [],nx,e1,s2,h,_=>by
  simp only [qR,ah,aq] at h;obtain ⟨rfl,rfl⟩:=h;exact ⟨[],[],rfl,rfl,rfl,fun j b h=>by simp at h⟩
 |(t,k)::live,nx,e1,s2,h,hs=>by
  have hlk:=hE.lk t;simp only [qR] at h;split at h
  · rename_i kk esz en hv
    split at h
    · rename_i p hp
      simp only [ah,aq] at h;obtain ⟨rfl,rfl⟩:=h;rw [hv] at hlk;obtain ⟨p1,q2,h1,h2,h3,h4⟩:=G6 (live:=live) (nx:=nx+1) (e1:=p.1) (s2:=p.2) hE hr hp (fun j b hj=>by
       have:=hs (j+1) b (by simpa using hj)
       rw [show nx+1+j=nx+(j+1) by omega];exact this)
      refine ⟨(t,.own nx esz 0 0 0 false)::p1,.arr esz []::q2,?_,⟨_,_,rfl,⟨esz,0,rfl,.inl ⟨qQ rk esz,[],by simpa using hs 0 _ rfl,(oM rk esz).symm,rfl⟩⟩,h2⟩,by simp [h3],fun j b hj=>?_⟩
      · have hlk':lk t pe= .sl en true []:=hlk
        simp only [lL,hlk',h1];rfl
      cases j with
      |zero=>simp at hj;subst hj;exact ⟨_,rfl,by show _=_;rw [oM];rfl⟩
      |succ j=>simpa using h4 j b (by simpa using hj)
    cases h
  rename_i hne
  split at h
  · rename_i v' p hv hp
    simp only [ah,aq] at h;obtain ⟨rfl,rfl⟩:=h;obtain ⟨q',h5,h6⟩:=R1 hr hlk hv;obtain ⟨p1,q2,h1,h2,h3,h4⟩:=G6 (live:=live) (e1:=p.1) (s2:=p.2) hE hr hp hs;refine ⟨(t,exOff _ q')::p1,q2,?_,⟨_,_,rfl,UP h6 _ (zD hv),h2⟩,h3,h4⟩;simp only [lL];split
    · rename_i esz x hx
      exfalso;rw [hx] at hlk;generalize EO t e=v0 at hlk hv hne;cases v0 with
      |junk=>cases hv
      |nil e' c=>
       have hlk':PV.sl x true []= .sl e' c []:=hlk;injection hlk' with h1 h2;subst h2;exact hne _ _ rfl rfl
      |undef|nul|nilf|int _ _|bool _|str _|bp _ _ _|mp _=>cases (show PV.sl x true []=_ from hlk)
      |sl r l=>cases (show PV.sl x true []=_ from hlk)
      |agg _|tup _|rptr _ _=>obtain ⟨q,hq,_⟩:=hlk;cases hq
      |clo _ _ _=>obtain ⟨q,q2,hq,_⟩:=hlk;cases hq
      |own _ _=>obtain ⟨q,q2,hq,_⟩:=hlk;cases hq
      |pre _ _ _ _=>obtain ⟨q,hq,_⟩:=hlk;cases hq
      |part _ _ _ _ _=>obtain ⟨q,hq,_⟩:=hlk;cases hq
      |pa _ _ _ _ _=>obtain ⟨hq,_⟩:=hlk;cases hq
      |pb _ _ _=>obtain ⟨q,hq,_⟩:=hlk;cases hq
    simp only [h5,h1]
  cases h
def aDG (s:List SB):Prop:= ∀(t:Nat) (cs:List SV),s[t]? =some (.box cs)->sureL cs=true
def FO:SE->Prop
 | []=>True
 |(_,v)::r=>v.sure=true/\FO r
theorem FO.lk: ∀{e:SE},FO e-> ∀t,(EO t e).sure=true
 | [],_,t=>rfl
 |(u,v)::r,h,t=>by
  simp only [EO];cases hb:ar u t with
  |true=>exact h.1
  |false=>exact FO.lk h.2 t
theorem vQ {rk:List (Nat×List PT)} {e:SE} {m:List Nat}: ∀{live:List (Nat×Option Nat)} {nx:Nat} {e1:SE} {s2:List SB},qR rk e m nx live=some (e1,s2)->FO e1
 | [],nx,e1,s2,h=>by
  simp only [qR,ah,aq] at h;rw [<- h.1];trivial
 |(t,k)::live,nx,e1,s2,h=>by
  simp only [qR] at h;split at h
  · split at h
    · rename_i p hp
      simp only [ah,aq] at h;obtain ⟨rfl,rfl⟩:=h;exact ⟨rfl,vQ (e1:=p.1) (s2:=p.2) hp⟩
    cases h
  split at h
  · rename_i v' p hv hp
    simp only [ah,aq] at h;obtain ⟨rfl,rfl⟩:=h;exact ⟨LZ (zD hv) _,vQ (e1:=p.1) (s2:=p.2) hp⟩
  cases h
theorem FP: ∀{l:List SV},sureL l=true-> ∀{n:Nat} {v:SV},nth l n=some v->v.sure=true
 | [],_,_,_,h=>by cases h
 |x::xs,hs,0,v,h=>by injection h with h;subst h;simp only [sureL,ac] at hs;exact hs.1
 |x::xs,hs,n+1,v,h=>by simp only [sureL,ac] at hs;exact FP hs.2 (n:=n) h
theorem FQ: ∀{l:List SV},sureL l=true-> ∀(n:Nat) {v:SV},v.sure=true->sureL (l.set n v)=true
 | [],_,n,v,_=>rfl
 |x::xs,hs,0,v,h=>by simp only [sureL,ac] at hs;simp [sureL,h,hs.2]
 |x::xs,hs,n+1,v,h=>by simp only [sureL,ac] at hs;simp [sureL,hs.1,FQ hs.2 n h]
theorem RL.set {s:List SB}: ∀{xs:List SV} {ps:List PV},RL s xs ps-> ∀(n:Nat) {v:SV} {p:PV},R s v p->RL s (xs.set n v) (ps.set n p)
 | [],ps,h,n,v,p,_=>by rw [show ps=[] from h];exact RL.nil
 |x::xs,ps,h,0,v,p,hv=>by
  obtain ⟨a,q,rfl,h1,h2⟩:=h.cons_inv;exact RL.cons hv h2
 |x::xs,ps,h,n+1,v,p,hv=>by
  obtain ⟨a,q,rfl,h1,h2⟩:=h.cons_inv;exact RL.cons h1 (RL.set h2 n hv)
structure UQ (st:kX) (p:St):Prop where
 r:uG st p
 s:aDG st.sto
 e:FO st.env
theorem L0 {rk:List (Nat×List PT)} {st:kX} {p:St} (h:UQ st p) (t c esz:Nat):UQ (CN rk st t c esz) (lM p t c esz):=by
 unfold CN lM;rw [bG];cases hst:st.sto[t]? with
 |none=>
  have:p.sto[t]? =none:=by
   rw [cf] at hst ⊢;rw [h.r.sto.len];exact hst
  rw [this];exact h
 |some b=>
  obtain ⟨q,h1,h2⟩:=h.r.sto.at_ t b hst;rw [h1];cases b with
  |arr r l=>rw [show q=_ from h2];exact h
  |set l=>rw [show q=_ from h2];exact h
  |tab p l=>rw [show q=_ from h2];exact h
  |dead=>rw [show q=_ from h2];exact h
  |box cs=>
   obtain ⟨pc,rfl,h3⟩:=h2;dsimp only;cases hc:nth cs c with
   |none=>
    have:pc[c]? =none:=by
     rw [bG,cf] at hc;rw [cf,h3.length];exact hc
    rw [this];exact h
   |some v=>
    obtain ⟨pv,h4,h5⟩:=h3.nth hc;rw [h4];have hsure:=FP (h.s t cs hst) hc;have hcs:=h.s t cs hst;have other:(∀e,pv≠ .sl e true [])->(∀e,v≠ .nil e true)->UQ (match some v with
     |some (.nil _ true)=>{st with sto:=st.sto.set t (.box (cs.set c (.own st.sto.length false)))++[.arr (qQ rk esz) []]}
     |_=>st) (match some pv with
     |some (.sl _ true [])=>{p with sto:=p.sto.set t (.box (pc.set c (.own p.sto.length esz 0 0 0 false)))++[.arr esz []]}
     |_=>p):=by
     intro n1 n2;split
     · rename_i e he;injection he with he;exact absurd he (n2 e)
     split
     · rename_i e he;injection he with he;exact absurd he (n1 e)
     exact h
    cases v with
    |junk=>cases hsure
    |nil e' cl=>
     have h5':pv= .sl e' cl []:=h5;subst h5';cases cl with
     |false=>exact other (fun e he=>by cases he) (fun e he=>by cases he)
     |true=>
      dsimp only;have hlt:=(ae.1 hst).1;have hfr:Fr [] st.sto (st.sto.set t (.box (cs.set c (.own st.sto.length false)))++[.arr (qQ rk esz) []]):=fun u x hu=>by
       by_cases hut:t=u
       · subst hut;rw [hst] at hu;injection hu with hu;subst hu;exact .inl ⟨_,by rw [af (by simpa using hlt),am];simp [hlt];rfl⟩
       have hul:=(ae.1 hu).1
       have:(st.sto.set t (.box (cs.set c (.own st.sto.length false)))++[.arr (qQ rk esz) []])[u]? =some x:=by
        rw [af (by simpa using hul),am];simp [hut,hu]
       cases x with
       |arr r l=>exact .inl ⟨l,this,rfl,fun _=>rfl⟩
       |dead=>exact this
       |box c2=>exact .inl ⟨c2,this⟩
       |_=>trivial
      have hlen:(st.sto.set t (.box (cs.set c (.own st.sto.length false)))).length=st.sto.length:=by simp
      have hown:R (st.sto.set t (.box (cs.set c (.own st.sto.length false)))++[.arr (qQ rk esz) []]) (.own st.sto.length false) (.own p.sto.length esz 0 0 0 false):=by
       refine ⟨esz,0,by rw [h.r.sto.len],.inl ⟨qQ rk esz,[],?_,(oM rk esz).symm,rfl⟩⟩
       rw [ag (by simp)];simp
      refine ⟨⟨bZ.ext hfr h.r.env,⟨by simp [h.r.sto.len],fun u x hu=>?_⟩,h.r.fz,h.r.kn⟩,fun u x hu=>?_,h.e⟩
      · rcases ce u st.sto.length with hul|hul
        · rw [af (by simpa using hul),am] at hu
          by_cases hut:t=u
          · subst hut
            simp [hlt] at hu;subst hu;refine ⟨.box (pc.set c (.own p.sto.length esz 0 0 0 false)),?_,_,rfl,RL.set (RL.ext hfr h3) c hown⟩;rw [af (by simp [h.r.sto.len,hul]),am]
            simp [h.r.sto.len,hul]
          simp [hut] at hu
          obtain ⟨q,h6,h7⟩:=h.r.sto.at_ u x hu;refine ⟨q,?_,h7.ext hfr⟩;rw [af (by simp [h.r.sto.len,hul]),am]
          simp [hut,h6]
        rw [ag (by simpa using hul)] at hu
        simp only [hlen] at hu;have hu0:u-st.sto.length=0:=by
         rcases dm (u-st.sto.length) with h|h
         · exact h
         rw [List.getElem?_eq_none (by simp;omega)] at hu;cases hu
        rw [hu0] at hu;simp at hu;subst hu;refine ⟨.arr esz [],?_,by show _=_;rw [oM];rfl⟩
        rw [ag (by simp [h.r.sto.len];omega)]
        simp [h.r.sto.len,hu0]
      rcases ce u st.sto.length with hul|hul
      · rw [af (by simpa using hul),am] at hu
        by_cases hut:t=u
        · subst hut
          simp [hlt] at hu;subst hu;exact FQ hcs c rfl
        simp [hut] at hu;exact h.s u x hu
      rw [ag (by simpa using hul)] at hu
      cases hj:u- (st.sto.set t (.box (cs.set c (.own st.sto.length false)))).length with
      |zero=>rw [hj] at hu;simp at hu
      |succ j=>rw [hj] at hu;simp at hu
    |undef|nul|nilf|int _ _|bool _|str _|bp _ _ _|mp _=>exact other (fun e he=>by rw [show pv=_ from h5] at he;cases he) (fun e he=>by cases he)
    |sl r l=>exact other (fun e he=>by rw [show pv=_ from h5] at he;cases he) (fun e he=>by cases he)
    |agg _|tup _|rptr _ _=>exact other (fun e he=>by obtain ⟨q,hq,_⟩:=h5;rw [hq] at he;cases he) (fun e he=>by cases he)
    |clo _ _ _=>exact other (fun e he=>by obtain ⟨q,q2,hq,_⟩:=h5;rw [hq] at he;cases he) (fun e he=>by cases he)
    |own _ _=>exact other (fun e he=>by obtain ⟨q,q2,hq,_⟩:=h5;rw [hq] at he;cases he) (fun e he=>by cases he)
    |pre _ _ _ _|part _ _ _ _ _|pb _ _ _=>exact other (fun e he=>by obtain ⟨q,hq,_⟩:=h5;rw [hq] at he;cases he) (fun e he=>by cases he)
    |pa _ _ _ _ _=>exact other (fun e he=>by obtain ⟨hq,_⟩:=h5;rw [hq] at he;cases he) (fun e he=>by cases he)
theorem G7 {p:St} {t c esz:Nat} (h: ∀cs,p.sto[t]?≠some (.box cs)):lM p t c esz=p:=by
 unfold lM;split
 · rename_i cs hcs;exact absurd hcs (h cs)
 rfl
theorem R2 {st:kX} {p:St} (h:UQ st p) {v:SV} {q:PV} (hv:R st.sto v q) (hs:v≠ .junk):(∃t,RA v=some t/\BP q=some t)\/(RA v=none/\ ∀t,BP q=some t-> ∀cs,p.sto[t]?≠some (.box cs)):=by
 cases v with
 |junk=>exact absurd rfl hs
 |bp u m off=>
  have hq:q= .ptr u m 0 off:=hv;subst hq;cases off with
  |zero=>exact .inl ⟨u,rfl,rfl⟩
  |succ off=>exact .inr ⟨rfl,fun t ht=>by cases ht⟩
 |pb u i off=>
  obtain ⟨e',hq,hat⟩:=hv;subst hq;refine .inr ⟨rfl,fun t ht cs hcs=>?_⟩
  have:t=u:=by
   unfold BP at ht;split at ht
   · rename_i heq;injection heq with e1;injection ht with ht;rw [<- ht,e1]
   cases ht
  subst this;rcases hat with ⟨r,l,h1,_⟩|h1
  · rw [h.r.sto.arr h1] at hcs;cases hcs
  obtain ⟨q,h2,h3⟩:=h.r.sto.at_ t _ h1
  rw [hcs] at h2;injection h2 with h2;subst h2;cases (show fX.box cs= .dead from h3)
 |pa u r i a off=>
  obtain ⟨hq,hat⟩:=hv;subst hq;refine .inr ⟨rfl,fun t ht cs hcs=>?_⟩
  have:t=u:=by
   unfold BP at ht;split at ht
   · rename_i heq;injection heq with e1;injection ht with ht;rw [<- ht,e1]
   cases ht
  subst this;rcases hat with ⟨l,h1,_⟩|h1
  · rw [h.r.sto.arr h1] at hcs;cases hcs
  obtain ⟨q,h2,h3⟩:=h.r.sto.at_ t _ h1
  rw [hcs] at h2;injection h2 with h2;subst h2;cases (show fX.box cs= .dead from h3)
 |undef|nul|nilf|int _ _|bool _|str _|mp _|sl _ _|nil _ _=>exact .inr ⟨rfl,fun t ht=>by rw [show q=_ from hv] at ht;cases ht⟩
 |agg _|tup _|rptr _ _=>exact .inr ⟨rfl,fun t ht=>by obtain ⟨_,rfl,_⟩:=hv;cases ht⟩
 |clo _ _ _=>exact .inr ⟨rfl,fun t ht=>by obtain ⟨_,_,rfl,_⟩:=hv;cases ht⟩
 |own _ _=>exact .inr ⟨rfl,fun t ht=>by obtain ⟨_,_,rfl,_⟩:=hv;cases ht⟩
 |pre _ _ _ _|part _ _ _ _ _=>exact .inr ⟨rfl,fun t ht=>by obtain ⟨_,rfl,_⟩:=hv;cases ht⟩
theorem aD5 {st:kX} {p:St} (h:UQ st p) {v:SV} {q:PV} (hv:R st.sto v q) (hs:v.sure=true):(∃t,T5 v=some t/\ID q=some t)\/(T5 v=none/\ ∀t,ID q=some t-> ∀cs,p.sto[t]?≠some (.box cs)):=by
 have hj:v≠ .junk:=fun e=>by subst e;cases hs
 by_cases hc: ∃f a b,v= .clo f a b
 · obtain ⟨f,a,b,rfl⟩:=hc
   obtain ⟨pa,pb,rfl,h1,h2⟩:=hv;cases b with
   |nil=>
    have:pb=[]:=h2
    subst this;exact .inr ⟨rfl,fun t ht=>by cases ht⟩
   |cons y ys=>
    obtain ⟨z,zs,rfl,g1,g2⟩:=h2;exact R2 h g1 (fun e=>by subst e;simp [SV.sure,sureL] at hs)
 have e1:T5 v=RA v:=by
  cases v with
  |clo f a b=>exact absurd ⟨f,a,b,rfl⟩ hc
  |_=>rfl
 have e2:ID q=BP q:=by
  cases q with
  |clo f a b=>
   exfalso;cases v with
   |junk=>exact hj rfl
   |clo f a b=>exact hc ⟨f,a,b,rfl⟩
   |bp _ _ _|undef|nul|nilf|int _ _|bool _|str _|mp _|sl _ _|nil _ _=>cases (show PV.clo f a b=_ from hv)
   |agg _|tup _|rptr _ _|pre _ _ _ _|part _ _ _ _ _|pb _ _ _=>obtain ⟨_,hq,_⟩:=hv;cases hq
   |own _ _=>obtain ⟨_,_,hq,_⟩:=hv;cases hq
   |pa _ _ _ _ _=>obtain ⟨hq,_⟩:=hv;cases hq
  |_=>rfl
 rw [e1,e2];exact R2 h hv hj
theorem jB {rk:List (Nat×List PT)}: ∀(live:List (Nat×Option Nat)) {st:kX} {p:St},UQ st p->UQ (hM rk live st) (gF live p)
 | [],st,p,h=>h
 |(t,k)::live,st,p,h=>by
  cases k with
  |none=>simp only [hM,gF];exact jB live h
  |some n=>
   simp only [hM,gF];cases hn:ap 1000 n with
   |false=>simp only [cond_false,ay,if_false];exact jB live h
   |true=>
    simp only [cond_true,if_true];have hlk:=h.r.env.lk t;have hsu:=h.e.lk t;rcases aD5 h hlk hsu with ⟨u,e1,e2⟩|⟨e1,e2⟩
    · rw [e1,e2]
      exact jB live (L0 h u _ _)
    rw [e1]
    cases hb:ID (lk t p.env) with
    |none=>exact jB live h
    |some u=>
     show UQ (hM rk live st) (gF live (lM p u (n / 1000-1) (n%1000)));rw [G7 (e2 u hb)];exact jB live h
theorem JK {e:SE} {pe:mP} (hE:bZ s e pe): ∀{live:List (Nat×Option Nat)},xA e live=true->CO e live=live.flatMap fun p=>fE mQ (lk p.1 pe)
 | [],_=>rfl
 |(t,k)::live,h=>by
  simp only [xA,ac] at h;simp only [CO,dt,JK hE h.2];rw [RZ (fun _=>rfl) (hE.lk t) h.1]
theorem R3: ∀{s':List SB} {s:List SB} {ps:bH} (n:Nat),(ps.length=s.length/\ ∀(t:Nat) (b:SB),s[t]? =some b-> ∃q,ps[t]? =some q/\RB s' b q)->CP s n=true->LO s n=(ps.take n).flatMap lK
 |s',[],ps,n,h,_=>by
  have:ps=[]:=bn.1 (by simpa using h.1)
  subst this;cases n<;>simp [LO]
 |s',b::s,ps,0,h,_=>by simp [LO]
 |s',b::s,ps,n+1,h,hk=>by
  cases ps with
  |nil=>have:=h.1;simp at this
  |cons q ps=>
   simp only [CP,ac] at hk;obtain ⟨q',h1,h2⟩:=h.2 0 b rfl;simp at h1;subst h1;simp only [LO,di,dt,G5 h2 hk.1];rw [R3 (s':=s') (ps:=ps) n ⟨by simpa using h.1,fun t x hx=>by simpa using h.2 (t+1) x (by simpa using hx)⟩ hk.2]
theorem NC {s:List SB} {v:SV} {p:PV} (h:R s v p):R s (FI s v) p:=by
 unfold FI;split
 · rename_i t ex
   rw [bG];split
   · rename_i r l hst
     obtain ⟨e,n,rfl,hat⟩:=h;obtain ⟨rfl,rfl⟩:=hat.inv hst;exact ⟨r.length,rfl,.inl ⟨r,l,hst,rfl⟩⟩
   exact h
 exact h
theorem ND {s:List SB} (c:Nat): ∀{e:SE} {p:mP},bZ s e p->bZ s (M3 s c e) p
 | [],_,h=>h
 |(t,v)::r,_,h=>by
  obtain ⟨q,qs,rfl,h1,h2⟩:=h;simp only [M3];cases hb:ar t c with
  |true=>exact ⟨q,qs,rfl,NC h1,h2⟩
  |false=>exact ⟨q,qs,rfl,h1,ND c h2⟩
theorem zE: ∀(live:List (Nat×Option Nat)) {st:kX} {p:St},uG st p->uG (wZ live st) p
 | [],st,p,h=>h
 |(t,k)::r,st,p,h=>by
  simp only [wZ];cases hn:ap 1000000 t with
  |true=>exact zE r ⟨ND _ h.env,h.sto,h.fz,h.kn⟩
  |false=>exact zE r h
theorem JL {rk:List (Nat×List PT)} {live:List (Nat×Option Nat)} {st st1:kX} {p:St} (h:uG st p) (hn:CQ rk live st=some st1): ∃p1,BQ live p=some p1/\uG st1 p1:=by
 unfold CQ at hn;cases hc:(xA st.env live&&CP st.sto st.kn) with
 |false=>rw [hc] at hn;cases hn
 |true=>
  rw [hc] at hn;simp only [cond_true] at hn;simp only [ac] at hc;split at hn
  · cases hn
  rename_i m hm
  split at hn
  · rename_i s1 e1 s2 h1 h2
    injection hn with hn;subst hn;have ht:LO st.sto st.kn++CO st.env live=(p.sto.take p.kn).flatMap lK++live.flatMap fun q=>fE mQ (lk q.1 p.env):=by
     rw [JK h.env hc.1,R3 (s':=st.sto) st.kn ⟨h.sto.len,h.sto.at_⟩ hc.2,h.kn]
    rw [ht] at hm;have hm':=C5 h.sto _ _ _ _ hm;have hr:C7 m st.sto (s1++s2):=C7.of h1;obtain ⟨p1,a1,a2,a3⟩:=zB h.sto hr h1;have hlen:s1.length=m.length:=(rT h1).1;obtain ⟨pe1,q2,b1,b2,b3,b4⟩:=G6 h.env hr h2 (fun j b hj=>by rw [<- hlen,ag (by omega)];simpa using hj)
    have hsto:bI (s1++s2) (p1++q2):=⟨by simp [a2,b3],fun t b ht=>by
     rcases ce t s1.length with hl|hl
     · rw [af hl] at ht
       obtain ⟨q,c1,c2⟩:=a3 t b ht;exact ⟨q,by rw [af (by omega)];exact c1,c2⟩
     rw [ag hl] at ht
     obtain ⟨q,c1,c2⟩:=b4 _ b ht;exact ⟨q,by rw [ag (by omega),a2];exact c1,c2⟩⟩
    have hs:aDG (s1++s2):=fun t cs ht=>by
     rcases ce t s1.length with hl|hl
     · rw [af hl] at ht
       obtain ⟨b,c,d1,d2,d3⟩:=(rT h1).2 t (m[t]'(by omega)) (aj (by omega))
       rw [ht] at d3;injection d3 with d3;subst d3;cases b with
       |box x=>
        simp only [LN] at d2;split at d2
        · rename_i l hl';injection d2 with d2;injection d2 with d2;subst d2;exact renVL_sure hl'
        cases d2
       |arr _ _=>injection d2 with d2;cases d2
       |set _=>injection d2 with d2;cases d2
       |tab _ _=>injection d2 with d2;cases d2
       |dead=>injection d2 with d2;cases d2
     rw [ag hl] at ht
     obtain ⟨r,hr'⟩:=zC h2 _ _ ht;cases hr'
    have hR:UQ {env:=e1,sto:=s1++s2,fz:=rB st.fz 0 m,kn:=st.kn} {env:=pe1,sto:=p1++q2,fz:=rB p.fz 0 m,kn:=p.kn}:=
     ⟨⟨b2,hsto,by rw [h.fz],h.kn⟩,hs,vQ h2⟩
    refine ⟨_,?_,zE live (jB live hR).r⟩;unfold BQ;rw [h.kn] at hm';rw [h.kn];rw [hm'];dsimp only;rw [a1,b1]
  cases hn
theorem NE {rk:List (Nat×List PT)} {live:List (Nat×Option Nat)} {st st1:kX} {p:St} (h:uG st p) (hn:CR rk live st=some st1): ∃p1,A5 live p=some p1/\uG st1 p1:=by
 unfold CR at hn;cases h1:CQ rk live st with
 |none=>rw [h1] at hn;cases hn
 |some s=>
  rw [h1] at hn;dsimp only at hn;obtain ⟨p1,h2,h3⟩:=JL h h1;unfold A5;rw [h2];dsimp only;cases ha:(live.any fun p=>p.2.isSome) with
  |true=>
   rw [ha] at hn;simp only [cond_true] at hn;rw [if_pos rfl];exact JL h3 hn
  |false=>
   rw [ha] at hn;injection hn with hn;subst hn;exact ⟨p1,by rw [if_neg (by simp)],h3⟩
mutual
theorem BI: ∀{a b:SV} (q:List qZ),qT a b=true->mT a (yY b++q)=(b,q)
 | .undef,.undef,q,_=>rfl
 | .nul,.nul,q,_=>rfl
 | .nilf,.nilf,q,_=>rfl
 | .int k _,.int l n,q,h=>by rw [cQ.1 h];rfl
 | .bool _,.bool _,q,_=>rfl
 | .agg a,.agg b,q,h=>by simp only [mT,yY,put_atsL q h]
 | .tup a,.tup b,q,h=>by simp only [mT,yY,put_atsL q h]
 | .sl r _,.sl r' l,q,h=>rfl
 | .nil e c,.nil f d,q,h=>by
  simp only [qT,ac,beq_iff_eq] at h;rw [aa h.1,h.2];rfl
 | .own t x,.own u y,q,h=>by
  simp only [qT,ac,beq_iff_eq] at h;rw [aa h.1,h.2];rfl
 | .pre t _ _ x,.pre u _ _ y,q,h=>by
  simp only [qT,ac,beq_iff_eq] at h;rw [aa h.1,h.2];rfl
 | .part t _ _ _ x,.part u _ _ _ y,q,h=>by
  simp only [qT,ac,beq_iff_eq] at h;rw [aa h.1,h.2];rfl
 | .pb t _ o,.pb u _ p,q,h=>by
  simp only [qT,ac] at h;rw [aa h.1,aa h.2];rfl
 | .bp t n o,.bp u m p,q,h=>by
  simp only [qT,ac] at h;rw [aa h.1.1,aa h.1.2,aa h.2];rfl
 | .rptr a o,.rptr b p,q,h=>by
  simp only [qT,ac] at h;simp only [mT,yY,put_atsL q h.1,aa h.2]
 | .clo f a b,.clo g c d,q,h=>by
  simp only [qT,ac] at h;simp only [mT,yY,bg,put_atsL _ h.1.2,put_atsL q h.2,aa h.1.1]
 | .mp t,.mp u,q,h=>by rw [aa h];rfl
theorem put_atsL: ∀{a b:List SV} (q:List qZ),likeL a b=true->putL a (atsL b++q)=(b,q)
 | [],[],q,_=>rfl
 |x::xs,y::ys,q,h=>by
  simp only [likeL,ac] at h;simp only [putL,atsL,bg,BI _ h.1,put_atsL q h.2]
 | [],_::_,_,h=>by cases h
 |_::_,[],_,h=>by cases h
end
theorem R4: ∀{a b:SB} (q:List qZ),aDB a b=true->LQ a (RC b++q)=(b,q)
 | .arr r _,.arr r' l,q,h=>rfl
 | .box a,.box b,q,h=>by simp only [LQ,RC,put_atsL q h]
 | .set _,.set _,q,_=>rfl
 | .tab p _,.tab p' l,q,h=>by obtain rfl:p=p':=PT.same_eq h;rfl
 | .dead,.dead,q,_=>rfl
 | .arr _ _,.box _,_,h| .arr _ _,.set _,_,h| .arr _ _,.dead,_,h| .box _,.arr _ _,_,h| .box _,.set _,_,h| .box _,.dead,_,h| .set _,.arr _ _,_,h| .set _,.box _,_,h| .set _,.dead,_,h| .dead,.arr _ _,_,h| .dead,.box _,_,h| .dead,.set _,_,h
 | .tab _ _,.arr _ _,_,h| .tab _ _,.box _,_,h| .tab _ _,.set _,_,h| .tab _ _,.dead,_,h| .arr _ _,.tab _ _,_,h| .box _,.tab _ _,_,h| .set _,.tab _ _,_,h| .dead,.tab _ _,_,h=>by cases h
theorem xN: ∀{a b:List SB} (q:List qZ),CS a b=true->vL a (GZ b++q)=(b,q)
 | [],[],q,_=>rfl
 |x::xs,y::ys,q,h=>by
  simp only [CS,ac] at h;simp only [vL,GZ,bg,R4 _ h.1,xN q h.2]
 | [],_::_,_,h=>by cases h
 |_::_,[],_,h=>by cases h
theorem JM: ∀{a b:SE} (q:List qZ),M4 a b=true->JB a (PD b++q)=(b,q)
 | [],[],q,_=>rfl
 |(t,x)::xs,(u,y)::ys,q,h=>by
  simp only [M4,ac] at h;simp only [JB,PD,bg,BI _ h.1.2,JM q h.2,aa h.1.1]
 | [],_::_,_,h=>by cases h
 |_::_,[],_,h=>by cases h
theorem JN: ∀{a b:List Nat},M5 a b=true->a=b
 | [],[],_=>rfl
 |x::xs,y::ys,h=>by
  simp only [M5,ac] at h;rw [aa h.1,JN h.2]
 | [],_::_,h=>by cases h
 |_::_,[],h=>by cases h
theorem PM {a b:kX} (h:CT a b=true):uD a (qS b)=b:=by
 obtain ⟨e1,s1,z1,k1⟩:=a;obtain ⟨e2,s2,z2,k2⟩:=b;simp only [CT,ac] at h;obtain ⟨⟨⟨h1,h2⟩,h3⟩,h4⟩:=h;have hs:=xN [] h2;rw [bd] at hs;simp only [uD,qS,JM _ h1,hs,JN h3,aa h4]
theorem AK.of_at: ∀{a:AK} {x:qZ} {y:a.T},a.of x=some y->a.at y=x
 | .i,.i _,y,h=>by injection h with h;subst h;rfl
 | .b,.b _,y,h=>by injection h with h;subst h;rfl
 | .n,.n _,y,h=>by injection h with h;subst h;rfl
 | .l r,.l q x,y,h=>by obtain ⟨rfl,rfl⟩:=kD h;rfl
 | .s,.s _,y,h=>by injection h with h;subst h;rfl
 | .i,.b _,_,h| .i,.n _,_,h| .i,.l _ _,_,h| .i,.s _,_,h| .b,.i _,_,h| .b,.n _,_,h| .b,.l _ _,_,h| .b,.s _,_,h| .n,.i _,_,h| .n,.b _,_,h| .n,.l _ _,_,h| .n,.s _,_,h
 | .l _,.i _,_,h| .l _,.b _,_,h| .l _,.n _,_,h| .l _,.s _,_,h| .s,.i _,_,h| .s,.b _,_,h| .s,.n _,_,h| .s,.l _ _,_,h=>by cases h
theorem mC: ∀{ks:List AK} {l:List qZ} {y:gB ks},lE ks l=some y->iG ks y=l
 | [],[],y,_=>rfl
 | [a],[x],y,h=>by
  have:=AK.of_at (a:=a) h
  simp only [iG,this]
 |a::q::r,x::xs,y,h=>by
  simp only [lE] at h;split at h
  · rename_i u v h1 h2
    injection h with h;subst h;simp only [iG,AK.of_at h1,mC h2]
  cases h
 | [],_::_,_,h=>by cases h
 | [_],[],_,h=>by cases h
 | [_],_::_::_,_,h=>by cases h
 |_::_::_,[],_,h=>by cases h
end
end Go.Vm
/- What is known of functions, and what a call of one comes to. -/
namespace Go.Vm
mutual
def C8:Nat->PV->Option (PV×bH)
 |_,.int k n=>some (.int k n,[])
 |_,.bool b=>some (.bool b,[])
 |nx,.agg cs=>match ownPL nx cs with|some r=>some (.agg r.1,r.2)|none=>none
 |nx,.tup cs=>match ownPL nx cs with|some r=>some (.tup r.1,r.2)|none=>none
 |nx,.sl e false rows=>some (.own nx e 0 rows.length rows.length false,[.arr e rows])
 |_,_=>none
def ownPL:Nat->List PV->Option (List PV×bH)
 |_,[]=>some ([],[])
 |nx,x::xs=>match C8 nx x with
  |some a=>match ownPL (nx+a.2.length) xs with
   |some b=>some (a.1::b.1,a.2++b.2)
   |none=>none
  |none=>none
end
def pP (s:List SB) (n:Nat) (l:List SB):Prop:= ∀(j:Nat) (b:SB),l[j]? =some b->s[n+j]? =some b
theorem pP.left {s:List SB} {n:Nat} {l m:List SB} (h:pP s n (l++m)):pP s n l:=fun j b hj=>h j b (by
 rw [af (ae.1 hj).1];exact hj)
theorem pP.right {s:List SB} {n:Nat} {l m:List SB} (h:pP s n (l++m)):pP s (n+l.length) m:=fun j b hj=>by
 have:=h (l.length+j) b (by rw [ag (by omega)];simpa using hj)
 rwa [Nat.add_assoc]
def L1 (s:List SB) (l:List SB) (q:bH):Prop:=q.length=l.length/\ ∀(j:Nat) (b:SB),l[j]? =some b-> ∃x,q[j]? =some x/\RB s b x
theorem L1.append {s l m:List SB} {q r:bH} (h:L1 s l q) (k:L1 s m r):L1 s (l++m) (q++r):=by
 refine ⟨by simp [h.1,k.1],fun j b hj=>?_⟩
 rcases ce j l.length with hl|hl
 · rw [af hl] at hj
   obtain ⟨x,h1,h2⟩:=h.2 j b hj;exact ⟨x,by rw [af (by rw [h.1];exact hl)];exact h1,h2⟩
 rw [ag hl] at hj
 obtain ⟨x,h1,h2⟩:=k.2 _ b hj;exact ⟨x,by rw [ag (by rw [h.1];exact hl),h.1];exact h1,h2⟩
theorem L1.nil {s:List SB}:L1 s [] []:=⟨rfl,fun j b h=>by simp at h⟩
theorem L1.one {s:List SB} {b:SB} {x:fX} (h:RB s b x):L1 s [b] [x]:=⟨rfl,fun j c hc=>by
 cases j with
 |zero=>simp at hc;subst hc;exact ⟨x,rfl,h⟩
 |succ j=>simp at hc⟩
mutual
theorem NF: ∀{v:SV} {nx:Nat} {p0 p:PV} {q:bH},mA v=some p0->C8 nx p0=some (p,q)-> ∀{s:List SB},pP s nx (rQ nx v).2->R s (rQ nx v).1 p/\L1 s (rQ nx v).2 q
 | .int k n,nx,p0,p,q,h0,h,s,_=>by injection h0 with h0;subst h0;injection h with h;injection h with h1 h2;subst h1 h2;exact ⟨rfl,L1.nil⟩
 | .bool b,nx,p0,p,q,h0,h,s,_=>by injection h0 with h0;subst h0;injection h with h;injection h with h1 h2;subst h1 h2;exact ⟨rfl,L1.nil⟩
 | .agg cs,nx,p0,p,q,h0,h,s,hb=>by
  simp only [mA] at h0;split at h0
  · rename_i l hl
    injection h0 with h0;subst h0;simp only [C8] at h;split at h
    · rename_i r hr
      injection h with h;injection h with h1 h2;subst h1 h2;obtain ⟨h3,h4⟩:=ownOfL_R (p:=r.1) (q:=r.2) hl hr hb;exact ⟨⟨r.1,rfl,h3⟩,h4⟩
    cases h
  cases h0
 | .tup cs,nx,p0,p,q,h0,h,s,hb=>by
  simp only [mA] at h0;split at h0
  · rename_i l hl
    injection h0 with h0;subst h0;simp only [C8] at h;split at h
    · rename_i r hr
      injection h with h;injection h with h1 h2;subst h1 h2;obtain ⟨h3,h4⟩:=ownOfL_R (p:=r.1) (q:=r.2) hl hr hb;exact ⟨⟨r.1,rfl,h3⟩,h4⟩
    cases h
  cases h0
 | .sl r l,nx,p0,p,q,h0,h,s,hb=>by
  injection h0 with h0;subst h0;injection h with h;injection h with h1 h2;subst h1 h2;refine ⟨⟨r.length,l.length,by simp,.inl ⟨r,l,hb 0 _ rfl,rfl,rfl⟩⟩,L1.one rfl⟩
 | .nil e c,nx,p0,p,q,h0,h,s,hb=>by
  injection h0 with h0;subst h0;cases c with
  |true=>simp [C8] at h
  |false=>
   injection h with h;injection h with h1 h2;subst h1 h2;exact ⟨⟨e,0,rfl,.inl ⟨_,[],hb 0 _ rfl,by simp,rfl⟩⟩,L1.one (by show _=_;simp)⟩
 | .str _,nx,p0,p,q,h0,h,s,_=>by injection h0 with h0;subst h0;cases h
 | .nilf,nx,p0,p,q,h0,h,s,_=>by injection h0 with h0;subst h0;cases h
 | .rptr cs o,nx,p0,p,q,h0,h,s,_=>by
  simp only [mA] at h0;split at h0
  · injection h0 with h0;subst h0;cases h
  cases h0
 | .clo f a b,nx,p0,p,q,h0,h,s,_=>by
  simp only [mA] at h0;split at h0
  · injection h0 with h0;subst h0;cases h
  cases h0
 | .junk,_,_,_,_,h0,_,_,_| .undef,_,_,_,_,h0,_,_,_| .nul,_,_,_,_,h0,_,_,_| .own _ _,_,_,_,_,h0,_,_,_| .pre _ _ _ _,_,_,_,_,h0,_,_,_| .part _ _ _ _ _,_,_,_,_,h0,_,_,_
 | .pa _ _ _ _ _,_,_,_,_,h0,_,_,_| .pb _ _ _,_,_,_,_,h0,_,_,_| .bp _ _ _,_,_,_,_,h0,_,_,_| .mp _,_,_,_,_,h0,_,_,_=>by cases h0
theorem ownOfL_R: ∀{v:List SV} {nx:Nat} {p0 p:List PV} {q:bH},pvL v=some p0->ownPL nx p0=some (p,q)-> ∀{s:List SB},pP s nx (ownOfL nx v).2->RL s (ownOfL nx v).1 p/\L1 s (ownOfL nx v).2 q
 | [],nx,p0,p,q,h0,h,s,_=>by injection h0 with h0;subst h0;injection h with h;injection h with h1 h2;subst h1 h2;exact ⟨rfl,L1.nil⟩
 |x::xs,nx,p0,p,q,h0,h,s,hb=>by
  obtain ⟨a,as,rfl,h1,h2⟩:=cD.1 h0;simp only [ownPL] at h;split at h
  · rename_i ra hra
    split at h
    · rename_i rb hrb
      injection h with h;injection h with e1 e2;subst e1 e2;simp only [ownOfL] at hb ⊢;obtain ⟨k1,k2⟩:=NF (p:=ra.1) (q:=ra.2) h1 hra hb.left;rw [k2.1] at hrb;obtain ⟨k3,k4⟩:=ownOfL_R (p:=rb.1) (q:=rb.2) h2 hrb hb.right;exact ⟨RL.cons k1 k3,k2.append k4⟩
    cases h
  cases h
end
mutual
theorem R5 {s:List SB} {ps:bH} {z:List Nat} (hS:bI s ps): ∀{v v':SV} {p:PV} {seen seen':List Nat} (nx:Nat),R s v p->PC s z seen v=some (v',seen')-> ∃p0 p' q,mA v'=some p0/\C8 nx p0=some (p',q)/\tR ps z nx seen p=some (p',q,seen')
 | .int k n,v',p,seen,seen',nx,h,hx=>by injection hx with hx;injection hx with h1 h2;subst h1 h2;rw [show p=_ from h];exact ⟨_,_,_,rfl,rfl,rfl⟩
 | .bool k,v',p,seen,seen',nx,h,hx=>by injection hx with hx;injection hx with h1 h2;subst h1 h2;rw [show p=_ from h];exact ⟨_,_,_,rfl,rfl,rfl⟩
 | .agg cs,v',p,seen,seen',nx,h,hx=>by
  obtain ⟨q,rfl,h⟩:=h;simp only [PC] at hx;split at hx
  · rename_i r hr
    injection hx with hx;injection hx with h1 h2;subst h1 h2;obtain ⟨p0,p',q',h3,h4,h5⟩:=imOVL_R hS (v':=r.1) (seen':=r.2) nx h hr;exact ⟨.agg p0,.agg p',q',by simp only [mA,h3],by simp only [C8,h4],by simp only [tR,h5];rfl⟩
  cases hx
 | .tup cs,v',p,seen,seen',nx,h,hx=>by
  obtain ⟨q,rfl,h⟩:=h;simp only [PC] at hx;split at hx
  · rename_i r hr
    injection hx with hx;injection hx with h1 h2;subst h1 h2;obtain ⟨p0,p',q',h3,h4,h5⟩:=imOVL_R hS (v':=r.1) (seen':=r.2) nx h hr;exact ⟨.tup p0,.tup p',q',by simp only [mA,h3],by simp only [C8,h4],by simp only [tR,h5];rfl⟩
  cases hx
 | .nil e c,v',p,seen,seen',nx,h,hx=>by
  cases c with
  |false=>cases hx
  |true=>injection hx with hx;injection hx with h1 h2;subst h1 h2;rw [show p=_ from h];exact ⟨_,_,_,rfl,rfl,rfl⟩
 | .own t ex,v',p,seen,seen',nx,h,hx=>by
  obtain ⟨e,n,rfl,hat⟩:=h;simp only [PC,bG] at hx;split at hx
  · rename_i r l hst
    obtain ⟨rfl,rfl⟩:=hat.inv hst;cases hc:(has seen t||has z t) with
    |true=>rw [hc] at hx;cases hx
    |false=>
     rw [hc] at hx;injection hx with hx;injection hx with h1 h2;subst h1 h2;refine ⟨_,_,_,rfl,rfl,?_⟩;simp only [tR,hS.arr hst,hc];simp
  cases hx
 | .junk,_,_,_,_,_,_,hx| .undef,_,_,_,_,_,_,hx| .nul,_,_,_,_,_,_,hx| .nilf,_,_,_,_,_,_,hx| .str _,_,_,_,_,_,_,hx| .sl _ _,_,_,_,_,_,_,hx| .pre _ _ _ _,_,_,_,_,_,_,hx| .part _ _ _ _ _,_,_,_,_,_,_,hx
 | .pa _ _ _ _ _,_,_,_,_,_,_,hx| .pb _ _ _,_,_,_,_,_,_,hx| .bp _ _ _,_,_,_,_,_,_,hx| .rptr _ _,_,_,_,_,_,_,hx| .clo _ _ _,_,_,_,_,_,_,hx| .mp _,_,_,_,_,_,_,hx=>by cases hx
theorem imOVL_R {s:List SB} {ps:bH} {z:List Nat} (hS:bI s ps): ∀{v v':List SV} {p:List PV} {seen seen':List Nat} (nx:Nat),RL s v p->imOVL s z seen v=some (v',seen')-> ∃p0 p' q,pvL v'=some p0/\ownPL nx p0=some (p',q)/\imOL ps z nx seen p=some (p',q,seen')
 | [],v',p,seen,seen',nx,h,hx=>by injection hx with hx;injection hx with h1 h2;subst h1 h2;rw [show p=_ from h];exact ⟨_,_,_,rfl,rfl,rfl⟩
 |x::xs,v',p,seen,seen',nx,h,hx=>by
  obtain ⟨a,as,rfl,h1,h2⟩:=h.cons_inv;simp only [imOVL] at hx;split at hx
  · rename_i r hr
    split at hx
    · rename_i r2 hr2
      injection hx with hx;injection hx with e1 e2;subst e1 e2;obtain ⟨p0,p',q,k1,k2,k3⟩:=R5 hS (v':=r.1) (seen':=r.2) nx h1 hr;obtain ⟨p02,p'2,q2,k4,k5,k6⟩:=imOVL_R hS (v':=r2.1) (seen':=r2.2) (nx+q.length) h2 hr2;exact ⟨p0::p02,p'::p'2,q++q2,cD.2 ⟨_,_,rfl,k1,k4⟩,by simp only [ownPL,k2,k5],by simp only [imOL,k3,k6]⟩
    cases hx
  cases hx
end
mutual
theorem JO {s:List SB}: ∀{v:SV} {p:PV},R s v p->vK v=true->p.noref=true
 | .int _ _,p,h,_| .bool _,p,h,_| .str _,p,h,_=>by rw [show p=_ from h];rfl
 | .agg cs,p,h,hn=>by obtain ⟨q,rfl,h⟩:=h;exact norefSL_R h hn
 | .tup cs,p,h,hn=>by obtain ⟨q,rfl,h⟩:=h;exact norefSL_R h hn
 | .junk,_,_,h| .undef,_,_,h| .nul,_,_,h| .nilf,_,_,h| .sl _ _,_,_,h| .nil _ _,_,_,h| .own _ _,_,_,h| .pre _ _ _ _,_,_,h| .part _ _ _ _ _,_,_,h| .pa _ _ _ _ _,_,_,h| .pb _ _ _,_,_,h| .bp _ _ _,_,_,h| .rptr _ _,_,_,h| .clo _ _ _,_,_,h| .mp _,_,_,h=>by cases h
theorem norefSL_R {s:List SB}: ∀{v:List SV} {p:List PV},RL s v p->norefSL v=true->norefL p=true
 | [],p,h,_=>by rw [show p=_ from h];rfl
 |x::xs,p,h,hn=>by
  obtain ⟨a,as,rfl,h1,h2⟩:=h.cons_inv;simp only [norefSL,ac] at hn;simp only [norefL,JO h1 hn.1,norefSL_R h2 hn.2,bh]
end
mutual
theorem F0s {s:List SB} {u:SV}: ∀{v:SV} {p:PV},R s v p->vK v=false->Q9 s v=some u->p.noref=false
 | .int _ _,p,h,hn,_| .bool _,p,h,hn,_| .str _,p,h,hn,_=>by cases hn
 | .agg cs,p,h,hn,hi=>by
  obtain ⟨q,rfl,h⟩:=h;simp only [Q9] at hi;split at hi
  · rename_i l hl;exact yesrefSL_R h hn hl
  cases hi
 | .tup cs,p,h,hn,hi=>by
  obtain ⟨q,rfl,h⟩:=h;simp only [Q9] at hi;split at hi
  · rename_i l hl;exact yesrefSL_R h hn hl
  cases hi
 | .sl _ _,p,h,_,_=>by rw [show p=_ from h];rfl
 | .nil _ _,p,h,_,_=>by rw [show p=_ from h];rfl
 | .own _ _,p,h,_,_=>by obtain ⟨e,n,rfl,_⟩:=h;rfl
 | .pre _ _ _ _,p,h,_,_=>by obtain ⟨e,rfl,_⟩:=h;rfl
 | .part _ _ _ _ _,p,h,_,_=>by obtain ⟨e,rfl,_⟩:=h;rfl
 | .junk,_,_,_,h| .undef,_,_,_,h| .nul,_,_,_,h| .nilf,_,_,_,h| .pa _ _ _ _ _,_,_,_,h| .pb _ _ _,_,_,_,h| .bp _ _ _,_,_,_,h| .rptr _ _,_,_,_,h| .clo _ _ _,_,_,_,h| .mp _,_,_,_,h=>by cases h
theorem yesrefSL_R {s:List SB}: ∀{v u:List SV} {p:List PV},RL s v p->norefSL v=false->imVL s v=some u->norefL p=false
 | [],u,p,h,hn,_=>by cases hn
 |x::xs,u,p,h,hn,hi=>by
  obtain ⟨a,as,rfl,h1,h2⟩:=h.cons_inv;simp only [imVL] at hi;split at hi
  · rename_i y ys h3 h4
    simp only [norefSL] at hn;simp only [norefL];cases hx:vK x with
    |false=>rw [F0s h1 hx h3];rfl
    |true=>rw [hx] at hn;rw [yesrefSL_R h2 (by simpa using hn) h4];simp
  cases hi
end
mutual
theorem aDH {s:List SB} {ps:bH} (hS:bI s ps): ∀{v u:SV} {p:PV},R s v p->Q9 s v=some u-> ∃q,sU ps p=some q/\mA u=some q
 | .int k n,u,p,h,hx=>by injection hx with hx;subst hx;rw [show p=_ from h];exact ⟨_,rfl,rfl⟩
 | .bool b,u,p,h,hx=>by injection hx with hx;subst hx;rw [show p=_ from h];exact ⟨_,rfl,rfl⟩
 | .str x,u,p,h,hx=>by injection hx with hx;subst hx;rw [show p=_ from h];exact ⟨_,rfl,rfl⟩
 | .agg cs,u,p,h,hx=>by
  obtain ⟨q,rfl,h⟩:=h;simp only [Q9] at hx;split at hx
  · rename_i l hl
    injection hx with hx;subst hx;obtain ⟨q',h1,h2⟩:=imVL_R hS h hl;exact ⟨.agg q',by simp only [sU,h1];rfl,by simp only [mA,h2]⟩
  cases hx
 | .tup cs,u,p,h,hx=>by
  obtain ⟨q,rfl,h⟩:=h;simp only [Q9] at hx;split at hx
  · rename_i l hl
    injection hx with hx;subst hx;obtain ⟨q',h1,h2⟩:=imVL_R hS h hl;exact ⟨.tup q',by simp only [sU,h1];rfl,by simp only [mA,h2]⟩
  cases hx
 | .sl r l,u,p,h,hx=>by injection hx with hx;subst hx;rw [show p=_ from h];exact ⟨_,rfl,rfl⟩
 | .nil e c,u,p,h,hx=>by injection hx with hx;subst hx;rw [show p=_ from h];exact ⟨_,rfl,rfl⟩
 | .own t ex,u,p,h,hx=>by
  simp only [Q9,bG] at hx;split at hx
  · rename_i r l hst
    injection hx with hx;subst hx;obtain ⟨e,n,rfl,hat⟩:=h;obtain ⟨rfl,rfl⟩:=hat.inv hst;refine ⟨.sl r.length false (l.map (RT.pv r)),?_,rfl⟩;simp only [sU,hS.arr hst,bz];rw [bo (by simp)]
  cases hx
 | .pre t len cap ex,u,p,h,hx=>by
  simp only [Q9,bG] at hx;split at hx
  · rename_i r l hst
    injection hx with hx;subst hx;obtain ⟨e,rfl,hat⟩:=h
    have:=hat.inv hst
    subst this;refine ⟨.sl r.length false ((l.take len).map (RT.pv r)),?_,rfl⟩;simp only [sU,hS.arr hst,bz,bm]
  cases hx
 | .part t off len cap ex,u,p,h,hx=>by
  simp only [Q9,bG] at hx;split at hx
  · rename_i r l hst
    injection hx with hx;subst hx;obtain ⟨e,rfl,hat⟩:=h
    have:=hat.inv hst
    subst this;refine ⟨.sl r.length false (((l.drop off).take len).map (RT.pv r)),?_,rfl⟩;simp only [sU,hS.arr hst,bm,cg]
  cases hx
 | .junk,_,_,_,hx| .undef,_,_,_,hx| .nul,_,_,_,hx| .nilf,_,_,_,hx| .pa _ _ _ _ _,_,_,_,hx| .pb _ _ _,_,_,_,hx| .bp _ _ _,_,_,_,hx| .rptr _ _,_,_,_,hx| .clo _ _ _,_,_,_,hx| .mp _,_,_,_,hx=>by cases hx
theorem imVL_R {s:List SB} {ps:bH} (hS:bI s ps): ∀{v u:List SV} {p:List PV},RL s v p->imVL s v=some u-> ∃q,imFL ps p=some q/\pvL u=some q
 | [],u,p,h,hx=>by injection hx with hx;subst hx;rw [show p=_ from h];exact ⟨_,rfl,rfl⟩
 |x::xs,u,p,h,hx=>by
  obtain ⟨a,as,rfl,h1,h2⟩:=h.cons_inv;simp only [imVL] at hx;split at hx
  · rename_i y ys h3 h4
    injection hx with hx;subst hx;obtain ⟨q,h5,h6⟩:=aDH hS h1 h3;obtain ⟨qs,h7,h8⟩:=imVL_R hS h2 h4;exact ⟨q::qs,by simp only [imFL,h5,h7],cD.2 ⟨_,_,rfl,h6,h8⟩⟩
  cases hx
end
mutual
theorem R6 {s:List SB}: ∀{v:SV} {p:PV},mA v=some p->R s v p
 | .int _ _,p,h| .bool _,p,h| .str _,p,h| .nilf,p,h| .sl _ _,p,h| .nil _ _,p,h=>by injection h with h;exact h.symm
 | .agg cs,p,h=>by
  simp only [mA] at h;split at h
  · rename_i l hl;injection h with h;exact ⟨l,h.symm,pvL_R hl⟩
  cases h
 | .tup cs,p,h=>by
  simp only [mA] at h;split at h
  · rename_i l hl;injection h with h;exact ⟨l,h.symm,pvL_R hl⟩
  cases h
 | .rptr cs o,p,h=>by
  simp only [mA] at h;split at h
  · rename_i l hl;injection h with h;exact ⟨l,h.symm,pvL_R hl⟩
  cases h
 | .clo f a b,p,h=>by
  simp only [mA] at h;split at h
  · rename_i x y h1 h2;injection h with h;exact ⟨x,y,h.symm,pvL_R h1,pvL_R h2⟩
  cases h
 | .junk,_,h| .undef,_,h| .nul,_,h| .own _ _,_,h| .pre _ _ _ _,_,h| .part _ _ _ _ _,_,h| .pa _ _ _ _ _,_,h| .pb _ _ _,_,h| .bp _ _ _,_,h| .mp _,_,h=>by cases h
theorem pvL_R {s:List SB}: ∀{v:List SV} {p:List PV},pvL v=some p->RL s v p
 | [],p,h=>by injection h with h;exact h.symm
 |x::xs,p,h=>by
  obtain ⟨a,as,rfl,h1,h2⟩:=cD.1 h;exact RL.cons (R6 h1) (pvL_R h2)
end
def aDI (kd:Kd) (n:Nat) (tk:List Nat) (v:SV) (r:jI):Prop:=
 match kd with
 | .pure=> ∃p,mA v=some p/\r={v:=p,rd:=tk}
 | .frz=> ∃p,mA v=some p/\r={v:=p,rd:=tk,fr:=tk}
 | .own=> ∃p0 p q,mA v=some p0/\C8 n p0=some (p,q)/\r={v:=p,news:=q,rd:=tk}
def aB (F : iU) (f : FuncId) (c : aU) : Prop :=
  ∀ (a : c.α) (b : c.β) (as args : List PV) (sto : bH) (fz : List Nat), c.fn a = some b -> pvL (c.args.enc a) = some args -> exL sto (tJ sto cJ) as = some args ->
    ∃ n r, callPure F (run F n) c.ow f as sto fz = some r /\ aDI c.kd sto.length (toksL (bQ sto cJ) as) (c.res.enc b) r
def bW.va (c:bW) (a:gB c.ka):List SV:=(putL c.ta (iG c.ka a)).1
def bW.sa (c:bW) (a:gB c.ka):List SB:=(vL c.tb (putL c.ta (iG c.ka a)).2).1
def bW.vb (c:bW) (b:gB c.ko):SV:=(mT c.tv (iG c.ko b)).1
def bW.sb (c:bW) (b:gB c.ko):List SB:=(vL c.to (mT c.tv (iG c.ko b)).2).1
def R7:SB->SB->Prop
 | .arr r l,.arr q m=>r=q/\m.length=l.length
 | .box _,.box _=>True
 | .set _,.set _=>True
 | .tab _ _,.tab _ _=>True
 | .dead,.dead=>True
 |_,_=>False
def fL (F : iU) (f : FuncId) (c : bW) : Prop :=
  ∀ (a : gB c.ka) (b : gB c.ko) (pa : List PV) (ps : bH), c.fn a = some b -> RL (c.sa a) (c.va a) pa -> bI (c.sa a) ps ->
    ∃ n v s, run F n (.func f pa ps []) = some (.func v s []) /\ eM (c.sa a).length v s = true /\ R (c.sb b) (c.vb b) v /\ bI (c.sb b) (s.take (c.sa a).length) /\ (c.sb b).length = (c.sa a).length /\
      ∀ (t : Nat) (x y : SB), (c.sa a)[t]? = some x -> (c.sb b)[t]? = some y -> R7 x y
def vR (F:iU):List (Nat×aU)->Prop
 | []=>True
 |(f,c)::r=>aB F f c/\vR F r
def FT (F:iU):List (Nat×bW)->Prop
 | []=>True
 |(f,c)::r=>fL F f c/\FT F r
def xO (F:iU):List (Nat×Cd)->Prop
 | []=>True
 |(f,x)::r=>F f=some x.ent/\xO F r
structure aL (F:iU) (cx:QA):Prop where
 con: ∀f c,c∈cx.con f->aB F f c
 fpc: ∀f c,c∈cx.fpc f->fL F f c
 code: ∀f x,cx.code f=some x->F f=some x.ent
theorem vR.mem {F:iU}: ∀{l:List (Nat×aU)},vR F l-> ∀f c,c∈JF l f->aB F f c
 | [],_,f,c,h=>by cases h
 |(g,d)::r,hl,f,c,h=>by
  simp only [JF] at h;cases hb:ar g f with
  |true=>
   rw [hb] at h
   have:=aa hb
   subst this;simp only [cond_true] at h;rcases h with _|⟨_,h⟩
   · exact hl.1
   exact vR.mem hl.2 _ c h
  |false=>rw [hb] at h;exact vR.mem hl.2 f c h
theorem FT.mem {F:iU}: ∀{l:List (Nat×bW)},FT F l-> ∀f c,c∈JG l f->fL F f c
 | [],_,f,c,h=>by cases h
 |(g,d)::r,hl,f,c,h=>by
  simp only [JG] at h;cases hb:ar g f with
  |true=>
   rw [hb] at h
   have:=aa hb
   subst this;simp only [cond_true] at h;rcases h with _|⟨_,h⟩
   · exact hl.1
   exact FT.mem hl.2 _ c h
  |false=>rw [hb] at h;exact FT.mem hl.2 f c h
theorem xO.mem {F:iU}: ∀{l:List (Nat×Cd)},xO F l-> ∀f x,G2 l f=some x->F f=some x.ent
 | [],_,f,c,h=>by cases h
 |(g,d)::r,hl,f,c,h=>by
  simp only [G2] at h;cases hb:ar g f with
  |true=>
   rw [hb] at h
   have:=aa hb
   subst this;injection h with h;subst h;exact hl.1
  |false=>rw [hb] at h;exact xO.mem hl.2 f c h
theorem aL.make {F:iU} {lp:Option Nat} {c:List (Nat×aU)} {p:List (Nat×bW)} {x:List (Nat×Cd)} {rk:List (Nat×List PT)} (h1:vR F c) (h2:FT F p) (h3:xO F x):aL F (aM lp c p x rk):=
 ⟨h1.mem,h2.mem,h3.mem⟩
section
variable {F : iU} {R' ρ : Type} {w : R' -> ρ} {y : ρ} {s : List SB} {ps : bH} {z : List Nat}
theorem rU {f:FuncId} {m:Bool} {tk:List Nat} {vs:List SV} {k:XRS->dQ R'} (hS:bI s ps) {as args:List PV} (hx:exL ps (tJ ps cJ) as=some args) (hv:pvL vs=some args) (htk:tk=toksL (bQ ps cJ) as):
 ∀{l:List aU},(∀c∈l,aB F f c)->LS f m s tk vs k l ρ w=some y-> ∃sr pr,(∃n,callPure F (run F n) m f as ps z=some pr)/\eA s ps sr pr/\k (.loc sr) ρ w=some y
 | [],_,h=>by cases h
 |c::l,hl,h=>by
  simp only [LS] at h;cases hd:c.args.dec vs with
  |none=>rw [hd] at h;exact rU hS hx hv htk (fun c hc=>hl c (cq _ hc)) h
  |some a=>
   rw [hd] at h;cases hmo:(m==c.ow) with
   |false=>
    rw [hmo] at h;exact rU hS hx hv htk (fun c hc=>hl c (cq _ hc)) h
   |true=>
   rw [hmo] at h;obtain ⟨b,hb,h2⟩:=bK h;have hm:m=c.ow:=by simpa using hmo
   subst hm;have henc:=c.args.law hd hv;obtain ⟨n,r,hr,hres⟩:=hl c (ci ..) a b as args ps z hb henc hx;cases hkd:c.kd with
   |pure=>
    rw [hkd] at h2 hres;obtain ⟨p,h3,rfl⟩:=hres;exact ⟨_,_,⟨n,hr⟩,by rw [<- htk];exact eA.val hS (R6 h3),h2⟩
   |frz=>
    rw [hkd] at h2 hres;obtain ⟨p,h3,rfl⟩:=hres;exact ⟨_,_,⟨n,hr⟩,by rw [<- htk];exact eA.val hS (R6 h3),h2⟩
   |own=>
    rw [hkd] at h2 hres;obtain ⟨p0,p,q,h3,h4,rfl⟩:=hres;rw [hS.len] at h4;have hbh:pP (s++(rQ s.length (c.res.enc b)).2) s.length (rQ s.length (c.res.enc b)).2:=fun j x hj=>by
     rw [ag (by omega)];simpa using hj
    obtain ⟨k1,k2⟩:=NF h3 h4 hbh;exact ⟨_,_,⟨n,hr⟩,by rw [<- htk];exact eA.news hS k2.1 k2.2 k1,h2⟩
end
end Go.Vm
/- A call of a function that works on the blocks that are lent to it. -/
namespace Go.Vm
def lG {α:Type}:List (Nat×α)->List α->List α
 | [],s=>s
 |(t,b)::r,s=>lG r (s.set t b)
theorem pQ: ∀(l:List (Nat×SB)) (s:List SB),lF l s=lG l s
 | [],s=>rfl
 |(t,b)::r,s=>by simp only [lF,lG,xG,pQ r]
theorem AH: ∀(l:List (Nat×fX)) (s:bH),dO l s=lG l s
 | [],s=>rfl
 |(t,b)::r,s=>by simp only [dO,lG,AH r]
theorem vS {α:Type}: ∀(l:List (Nat×α)) (s:List α),(lG l s).length=s.length
 | [],s=>rfl
 |(t,b)::r,s=>by simp [lG,vS r]
theorem pR {α:Type}: ∀(l:List (Nat×α)) (s:List α) (t:Nat),t∉l.map (·.1)->(lG l s)[t]? =s[t]?
 | [],s,t,_=>rfl
 |(u,b)::r,s,t,h=>by
  simp only [be,List.mem_cons,not_or] at h;simp only [lG];rw [pR r _ t h.2,am];simp [Ne.symm h.1]
theorem zF {α:Type}: ∀(l:List (Nat×α)) (s:List α) (j t:Nat) (b:α),(l.map (·.1)).Nodup->l[j]? =some (t,b)->t<s.length->(lG l s)[t]? =some b
 | [],s,j,t,b,_,h,_=>by simp at h
 |(u,c)::r,s,0,t,b,hn,h,ht=>by
  simp at h;obtain ⟨rfl,rfl⟩:=h;simp only [be,dd] at hn;simp only [lG];rw [pR r _ u hn.1,am];simp [ht]
 |(u,c)::r,s,j+1,t,b,hn,h,ht=>by
  simp only [be,dd] at hn;simp only [lG];exact zF r _ j t b hn.2 (by simpa using h) (by simpa using ht)
theorem xP: ∀(l:List (Nat×SB)),rR l=l.map (·.1)
 | []=>rfl
 |(t,b)::r=>by simp [rR,xP r]
theorem FU (g:Nat->Nat): ∀(tk:List Nat) (s:List SB),s.length=tk.length->(uE g tk s).map (·.1)=tk/\ ∀(j t:Nat) (b:SB),tk[j]? =some t->s[j]? =some b->(uE g tk s)[j]? =some (t,RF g b)
 | [],s,h=>⟨by simp [uE],fun j t b hj=>by simp at hj⟩
 |t::tk,[],h=>by simp at h
 |t::tk,b::s,h=>by
  obtain ⟨h1,h2⟩:=FU g tk s (by simpa using h)
  refine ⟨by simp [uE,h1],fun j u c hj hc=>?_⟩
  cases j with
  |zero=>simp at hj hc;subst hj hc;rfl
  |succ j=>simp only [uE,bq];exact h2 j u c (by simpa using hj) (by simpa using hc)
theorem C9 (g:Nat->Nat): ∀(tk:List Nat) (s:bH),tk.length<=s.length->(jZ g tk s).map (·.1)=tk/\ ∀(j t:Nat) (b:fX),tk[j]? =some t->s[j]? =some b->(jZ g tk s)[j]? =some (t,tT g b)
 | [],s,h=>⟨by simp [jZ],fun j t b hj=>by simp at hj⟩
 |t::tk,[],h=>by simp at h
 |t::tk,b::s,h=>by
  obtain ⟨h1,h2⟩:=C9 g tk s (by simpa using h)
  refine ⟨by simp [jZ,h1],fun j u c hj hc=>?_⟩
  cases j with
  |zero=>simp at hj hc;subst hj hc;rfl
  |succ j=>simp only [jZ,bq];exact h2 j u c (by simpa using hj) (by simpa using hc)
theorem FV: ∀{l:List (Nat×fX)},(l.map (·.1)).Nodup->oY l=true
 | [],_=>rfl
 |p::r,h=>by
  simp only [be,dd] at h;simp only [oY,ac,bu,au];refine ⟨fun q hq=>?_,FV h.2⟩
  cases hb:ar q.1 p.1 with
  |false=>rfl
  |true=>exact absurd (d5.2 ⟨q,hq,aa hb⟩) h.1
theorem G8: ∀(s:List SB),yF [] s=s
 | []=>rfl
 |b::r=>by
  simp only [yF,G8 r];cases b<;>simp [T7,dgL_nil]
theorem JP (s:List SB) (r:dL):r.stoOf s=yF (rR r.wr) (lF r.wr s)++r.news:=by
 unfold dL.stoOf;split
 · rename_i h;rw [h];simp only [rR,lF,G8,iC]
 simp only [iC]
def aD6 (g:Nat->Nat) (s s2:List SB):Prop:= ∀(u:Nat) (x:SB),s[u]? =some x->match x with
 | .arr r l=>s2[g u]? =some (.arr r l)
 | .dead=>s2[g u]? =some .dead
 | .box _=> ∃cs,s2[g u]? =some (.box cs)
 |_=>True
mutual
theorem NG {g:Nat->Nat} {s s2:List SB} (hb:aD6 g s s2): ∀{v:SV} {p:PV},R s v p->R s2 (JC g v) (renF g p)
 | .junk,_,_=>trivial
 | .undef,p,h| .nul,p,h| .nilf,p,h| .int _ _,p,h| .bool _,p,h| .str _,p,h| .sl _ _,p,h| .nil _ _,p,h| .bp _ _ _,p,h| .mp _,p,h=>by rw [show p=_ from h];rfl
 | .agg cs,p,h=>by obtain ⟨q,rfl,h⟩:=h;exact ⟨_,rfl,backL_R hb h⟩
 | .tup cs,p,h=>by obtain ⟨q,rfl,h⟩:=h;exact ⟨_,rfl,backL_R hb h⟩
 | .rptr cs o,p,h=>by obtain ⟨q,rfl,h⟩:=h;exact ⟨_,rfl,backL_R hb h⟩
 | .clo f a b,p,h=>by obtain ⟨pa,pb,rfl,h1,h2⟩:=h;exact ⟨_,_,rfl,backL_R hb h1,backL_R hb h2⟩
 | .own t ex,p,h=>by
  obtain ⟨e,n,rfl,hat⟩:=h;refine ⟨e,n,rfl,?_⟩;rcases hat with ⟨r,l,h1,h2,h3⟩|h1
  · exact .inl ⟨r,l,hb t _ h1,h2,h3⟩
  exact .inr (hb t _ h1)
 | .pre t a b c,p,h=>by
  obtain ⟨e,rfl,hat⟩:=h;refine ⟨e,rfl,?_⟩;rcases hat with ⟨r,l,h1,h2⟩|h1|⟨cs,h1,h2⟩
  · exact .inl ⟨r,l,hb t _ h1,h2⟩
  · exact .inr (.inl (hb t _ h1))
  obtain ⟨c2,h3⟩:=hb t _ h1
  exact .inr (.inr ⟨c2,h3,h2⟩)
 | .part t o a b c,p,h=>by
  obtain ⟨e,rfl,hat⟩:=h;refine ⟨e,rfl,?_⟩;rcases hat with ⟨r,l,h1,h2⟩|h1|⟨cs,h1,h2⟩
  · exact .inl ⟨r,l,hb t _ h1,h2⟩
  · exact .inr (.inl (hb t _ h1))
  obtain ⟨c2,h3⟩:=hb t _ h1
  exact .inr (.inr ⟨c2,h3,h2⟩)
 | .pa t r i a o,p,h=>by
  obtain ⟨rfl,hat⟩:=h;refine ⟨_,rfl,?_⟩;rcases hat with ⟨l,h1,h2⟩|h1
  · exact .inl ⟨r,l,hb t _ h1,by rw [h2];rfl⟩
  exact .inr (hb t _ h1)
 | .pb t i o,p,h=>by
  obtain ⟨e,rfl,hat⟩:=h;refine ⟨e,rfl,?_⟩;rcases hat with ⟨r,l,h1,h2⟩|h1
  · exact .inl ⟨r,l,hb t _ h1,h2⟩
  exact .inr (hb t _ h1)
theorem backL_R {g:Nat->Nat} {s s2:List SB} (hb:aD6 g s s2): ∀{v:List SV} {p:List PV},RL s v p->RL s2 (backL g v) (renFL g p)
 | [],p,h=>by rw [show p=_ from h];rfl
 |x::xs,p,h=>by
  obtain ⟨a,as,rfl,h1,h2⟩:=h.cons_inv;exact RL.cons (NG hb h1) (backL_R hb h2)
end
theorem DA: ∀{a b:bH},(∀(t:Nat) (x:fX),a[t]? =some x-> ∃y,b[t]? =some y/\x.solid=y.solid)->oX a b=true
 | [],b,_=>by cases b<;>rfl
 |x::a,[],h=>by obtain ⟨y,hy,_⟩:=h 0 x rfl;simp at hy
 |x::a,y::b,h=>by
  obtain ⟨y',h1,h2⟩:=h 0 x rfl;simp at h1;subst h1
  have:=DA (a:=a) (b:=b) (fun t x hx=>by simpa using h (t+1) x (by simpa using hx))
  simp only [oX,this,cp,h2];cases y.solid<;>rfl
section
variable {F : iU} {R' ρ : Type} {w : R' -> ρ} {y : ρ} {s : List SB} {ps : bH} {z : List Nat}
theorem NH {f:FuncId} {tk:List Nat} {vals vs:List SV} {s0:List SB} {k:XRS->dQ R'} (hS:bI s ps) {pas:List PV} (hv:RL s vals pas) (htk:tk=jW (toksL (bQ ps cJ) pas)) (hz:(tk.all fun t=>!has z t)=true)
 (h1:renVL tk vals=some vs) (h2:ET s tk tk=some s0):
 ∀{l:List bW},(∀c∈l,fL F f c)->fpS f s.length tk vs s0 k l ρ w=some y-> ∃sr pr,(∃n,nK (run F n) f pas ps z=some pr)/\eA s ps sr pr/\k (.loc sr) ρ w=some y
 | [],_,h=>by cases h
 |c::l,hl,h=>by
  have next:fpS f s.length tk vs s0 k l ρ w=some y-> ∃sr pr,(∃n,nK (run F n) f pas ps z=some pr)/\eA s ps sr pr/\k (.loc sr) ρ w=some y:=
   fun h=>NH hS hv htk hz h1 h2 (fun c hc=>hl c (cq _ hc)) h
  simp only [fpS] at h;cases hlk:(likeL c.ta vs&&CS c.tb s0) with
  |false=>rw [hlk] at h;exact next h
  |true=>
   rw [hlk] at h;simp only [cond_true] at h;cases hpo:lE c.ka (atsL vs++GZ s0) with
   |none=>rw [hpo] at h;exact next h
   |some a=>
    rw [hpo] at h;obtain ⟨b,hb,h3⟩:=bK h;simp only [ac] at hlk;have hats:=mC hpo;have hva:c.va a=vs:=by unfold bW.va;rw [hats,put_atsL _ hlk.1]
    have hsa:c.sa a=s0:=by
     unfold bW.sa;rw [hats,put_atsL _ hlk.1]
     have:=xN [] hlk.2
     rw [bd] at this;rw [this]
    have hren:C7 tk s s0:=by have:=C7.of (l:=[]) h2;rwa [bd] at this
    obtain ⟨pa',a1,a2⟩:=renVL_R hren hv h1;obtain ⟨p0,b1,b2,b3⟩:=zB hS hren h2;have hs0:bI s0 p0:=⟨b2,b3⟩;obtain ⟨hs0l,hs0g⟩:=rT h2;obtain ⟨n,v,sr,r1,r2,r3,r4,r5,r6⟩:=hl c (ci ..) a b pa' p0 hb (by rw [hva,hsa];exact a2) (by rw [hsa];exact hs0)
    rw [hsa] at r2 r4 r5 r6;have hnd:tk.Nodup:=by rw [htk];exact nA
    have htl: ∀t∈tk,t<s.length:=fun t ht=>by
     obtain ⟨j,hj,he⟩:=cv ht;obtain ⟨x,c',d1,_,_⟩:=hs0g j t (by rw [aj hj,he])
     exact (ae.1 d1).1
    have hsbl:(c.sb b).length=tk.length:=by rw [r5,hs0l]
    have hsrl:tk.length<=sr.length:=by
     have:=r4.len
     rw [bj,hsbl] at this;rw [hs0l] at this;omega
    have htake: ∀j,j<tk.length->(sr.take s0.length)[j]? =sr[j]?:=fun j hj=>ai (by rw [hs0l];exact hj)
    have hfirm:oX p0 sr=true:=DA (fun t x hx=>by
     have htl':t<s0.length:=by have:=(ae.1 hx).1;rw [b2] at this;exact this
     obtain ⟨x0,hx0⟩: ∃x0,s0[t]? =some x0:=⟨s0[t],aj htl'⟩;obtain ⟨q,q1,q2⟩:=b3 t x0 hx0;rw [hx] at q1;injection q1 with q1;subst q1;obtain ⟨y0,hy0⟩: ∃y0,(c.sb b)[t]? =some y0:=⟨(c.sb b)[t]'(by omega),aj (by omega)⟩
     obtain ⟨q',q3,q4⟩:=r4.at_ t y0 hy0;rw [htake t (by omega)] at q3
     refine ⟨q',q3,?_⟩;have hfm:=r6 t x0 y0 hx0 hy0;cases x0 with
     |arr r l=>cases y0 with
      |arr r' l'=>
       obtain ⟨rfl,hll⟩:=hfm;rw [show x=_ from q2,show q'=_ from q4];cases l<;>cases l'<;>simp_all [fX.solid]
      |_=>exact hfm.elim
     |box cs=>cases y0 with
      |box cs'=>obtain ⟨_,rfl,_⟩:=q2;obtain ⟨_,rfl,_⟩:=q4;rfl
      |_=>exact hfm.elim
     |set l=>cases y0 with
      |set l'=>rw [show x=_ from q2,show q'=_ from q4];rfl
      |_=>exact hfm.elim
     |tab p l=>cases y0 with
      |tab p' l'=>rw [show x=_ from q2,show q'=_ from q4];rfl
      |_=>exact hfm.elim
     |dead=>cases y0 with
      |dead=>rw [show x=_ from q2,show q'=_ from q4]
      |_=>exact hfm.elim)
    let g:=gD tk s.length
    have hg: ∀j t,tk[j]? =some t->g j=t:=fun j t hj=>by show gD tk s.length j=t;unfold gD;rw [hj]
    obtain ⟨w1,w2⟩:=FU g tk (c.sb b) hsbl;obtain ⟨u1,u2⟩:=C9 g tk sr hsrl
    let s2:=yF tk (lF (uE g tk (c.sb b)) s)
    have hin: ∀(j t:Nat) (x:SB),tk[j]? =some t->(c.sb b)[j]? =some x->s2[t]? =some (T7 tk (RF g x)):=fun j t x hj hx=>by
     show (yF tk _)[t]? =_;rw [lS,pQ,zF _ s j t _ (by rw [w1];exact hnd) (w2 j t x hj hx) (htl t (ct hj))]
     rfl
    have hout: ∀(t:Nat),t∉tk->s2[t]? =(s[t]?).map (T7 tk):=fun t ht=>by
     show (yF tk _)[t]? =_;rw [lS,pQ,pR _ s t (by rw [w1];exact ht)]
    have hmem: ∀t∈tk,∃j,tk[j]? =some t:=fun t ht=>by
     obtain ⟨j,hj,he⟩:=cv ht;exact ⟨j,by rw [aj hj,he]⟩
    have hfr:Fr tk s s2:=fun t x hx=>by
     by_cases ht:t∈tk
     · obtain ⟨j,hj⟩:=hmem t ht
       have hjl:j<tk.length:=(ae.1 hj).1;obtain ⟨x',c',d1,d2,d3⟩:=hs0g j t hj;rw [hx] at d1;injection d1 with d1;subst d1;obtain ⟨y0,hy0⟩: ∃y0,(c.sb b)[j]? =some y0:=⟨(c.sb b)[j]'(by omega),aj (by omega)⟩
       have hfm:=r6 j c' y0 d3 hy0;have hs2:=hin j t y0 hj hy0;cases x with
       |arr r l=>
        injection d2 with d2;subst d2;cases y0 with
        |arr r' l'=>
         obtain ⟨rfl,hll⟩:=hfm;refine .inl ⟨l',hs2,hll,fun hb=>?_⟩
         exfalso
         have:has tk t=true:=by unfold has;rw [dv];exact ⟨t,ht,by simp⟩
         rw [this] at hb;cases hb
        |_=>exact hfm.elim
       |dead=>
        injection d2 with d2;subst d2;cases y0 with
        |dead=>exact hs2
        |_=>exact hfm.elim
       |box cs=>
        simp only [LN] at d2;split at d2
        · injection d2 with d2;subst d2
          cases y0 with
          |box c2=>exact .inl ⟨_,hs2⟩
          |_=>exact hfm.elim
        cases d2
       |_=>trivial
     have:=hout t ht
     rw [hx] at this;cases x with
     |arr r l=>exact .inl ⟨l,this,rfl,fun _=>rfl⟩
     |dead=>exact this
     |box c2=>exact .inl ⟨_,this⟩
     |_=>trivial
    have hback:aD6 g (c.sb b) s2:=fun u x hx=>by
     have hul:u<tk.length:=by have:=(ae.1 hx).1;omega
     have hj:tk[u]? =some tk[u]:=aj hul
     have:=hin u _ x hj hx
     rw [hg u _ hj];cases x with
     |arr r l=>exact this
     |dead=>exact this
     |box cs=>exact ⟨_,this⟩
     |_=>trivial
    have hRes:(∃n,nK (run F n) f pas ps z=some {v:=renF g v,wr:=jZ g tk sr}):=by
     refine ⟨n,?_⟩;unfold nK TQ;rw [<- htk,if_pos hz,a1,b1];dsimp only;rw [r1];dsimp only;unfold BT;rw [if_pos hfirm,hS.len]
     have:eM tk.length v sr=true:=by rw [<- hs0l];exact r2
     rw [if_pos this]
    refine ⟨{v:=JC g (c.vb b),wr:=uE g tk (c.sb b)},_,hRes,?_,h3⟩;have hst:dL.stoOf s {v:=JC g (c.vb b),wr:=uE g tk (c.sb b)}=s2:=by
     rw [JP,bd,xP,w1]
    exact {
     rd:=rfl
     fr:=rfl
     wr:=by rw [xP,w1];exact u1
     nw:=FV (by rw [u1];exact hnd)
     nl:=rfl
     sto:=by
      rw [hst];show bI s2 (dO (jZ g tk sr) ps);rw [AH];refine ⟨by rw [vS,pL,pQ,vS,hS.len],fun t x hx=>?_⟩
      by_cases ht:t∈tk
      · obtain ⟨j,hj⟩:=hmem t ht
        have hjl:j<tk.length:=(ae.1 hj).1;obtain ⟨y0,hy0⟩: ∃y0,(c.sb b)[j]? =some y0:=⟨(c.sb b)[j]'(by omega),aj (by omega)⟩
        have hs2:=hin j t y0 hj hy0;rw [hx] at hs2;injection hs2 with hs2;subst hs2;obtain ⟨q',q3,q4⟩:=r4.at_ j y0 hy0;rw [htake j hjl] at q3;refine ⟨tT g q',zF _ ps j t _ (by rw [u1];exact hnd) (u2 j t q' hj q3) (by rw [hS.len];exact htl t ht),?_⟩
        cases y0 with
        |box cs=>
         obtain ⟨pc,rfl,hpc⟩:=q4;exact ⟨_,rfl,RL.fr (Fr.refl tk s2) (backL_R hback hpc)⟩
        |arr r l=>rw [show q'=_ from q4];rfl
        |set l=>rw [show q'=_ from q4];rfl
        |tab p l=>rw [show q'=_ from q4];rfl
        |dead=>rw [show q'=_ from q4];rfl
      rw [hout t ht,bl] at hx
      obtain ⟨x0,hx0,rfl⟩:=hx;obtain ⟨q,q1,q2⟩:=hS.at_ t x0 hx0;exact ⟨q,by rw [pR _ ps t (by rw [u1];exact ht)];exact q1,q2.fr hfr⟩
     v:=by rw [hst];exact NG hback r3
     fra:=by rw [hst,xP,w1];exact hfr}
end
end Go.Vm
/- What the typed machine makes of a function is what the logical machine runs. -/
namespace Go.Vm
section
variable {F : iU}
theorem WO.shrAny {o:bA} {r:List bA} {st:St} {tr:List Tr} {Q:St->List Tr->Prop} {f:FuncId} {args:List PV}
 (hw:wanted o.guard st.env=some true) (hop: ∀n,qJ F (run F n) st.env st.sto st.fz o.op=dK (run F n) f args st.sto st.fz)
 (h:vB F f args st.sto st.fz fun v s z=>(ap st.sto.length s.length&&st.fz.all (has z))=true/\WO F r {st with env:=eT o.dst v st.env,sto:=s,fz:=z} (RE::tr) Q):
 WO F (o::r) st tr Q:=by
 obtain ⟨n,v,s,z,hr,hc,hk⟩:=h;refine WO.call (.shr v s z) hw ⟨n,?_⟩ rfl hk;rw [hop];simp only [dK,hr];rw [if_pos hc]
theorem WP.again {live:List (Nat×Option Nat)} {b:fY} {st s1:St} {Q:eJ->St->Prop} (h0:A5 live st=some s1) (h:WP F b s1 (BB (fun s=>WP F (.loop live b) s Q) Q)):WP F (.loop live b) st Q:=by
 obtain ⟨m,e,s,he,hq⟩:=h;cases e with
 |normal=>
  obtain ⟨k,e',s',he',hq'⟩:=hq;refine ⟨max m k+1,e',s',?_,hq'⟩;simp only [mS] at he' ⊢;rw [gU];simp only [step,h0];rw [kR (kS F (Nat.le_max_left m k)) _ _ _ he];dsimp only;split at he'
  · rename_i e1 s1 hr1
    rw [kS F (Nat.le_max_right m k) _ _ hr1];exact he'
  cases he'
 |exit i=>exact ⟨m+1,.exit i,s,by simp only [mS];rw [gU];simp only [step,h0,he],hq⟩
 |ret=>exact ⟨m+1,.ret,s,by simp only [mS];rw [gU];simp only [step,h0,he],hq⟩
def JQ (F : iU) (inl : T8) : Prop :=
  ∀ (f : FuncId) (args : List SV) (s : List SB) (z : List Nat) (R' : Type) (k : SV -> List SB -> List Nat -> dQ R') (ρ : Type) (w : R' -> ρ) (y : ρ) (pa : List PV) (ps : bH) (Q : R' -> PV -> bH -> List Nat -> Prop),
    RL s args pa -> bI s ps -> inl f args s z R' k ρ w = some y ->
    (∀ v s' z' p ps' ρ' (w' : R' -> ρ') y', R s' v p -> bI s' ps' -> k v s' z' ρ' w' = some y' -> ∃ r, y' = w' r /\ Q r p ps' z') ->
    ∃ r, y = w r /\ vB F f pa ps z (fun p ps' z' => Q r p ps' z')
def NI:SB->SB->Prop
 | .arr r l,b=>(∃l',b= .arr r l'/\l'.length=l.length)\/b= .dead
 | .dead,b=>b= .dead
 | .box _,b=>(∃cs,b= .box cs)\/b= .dead
 |_,_=>True
theorem xQ {R' ρ:Type} {w:R'->ρ} {y:ρ}: ∀{s s':List SB} {k:dQ R'},kL s s' k ρ w=some y->k ρ w=some y/\s.length<=s'.length/\
 ∀(t:Nat) (b:SB),s[t]? =some b-> ∃b',s'[t]? =some b'/\NI b b'
 | [],s',k,h=>⟨by cases s'<;>exact h,Nat.zero_le _,fun t b ht=>by simp at ht⟩
 |x::xs,[],k,h=>by cases h
 |x::xs,y'::ys,k,h=>by
  have step: ∀(_:kL xs ys k ρ w=some y) (_:NI x y'),k ρ w=some y/\(x::xs).length<=(y'::ys).length/\ ∀(t:Nat) (b:SB),(x::xs)[t]? =some b-> ∃b',(y'::ys)[t]? =some b'/\NI b b':=by
   intro h hx;obtain ⟨h1,h2,h3⟩:=xQ h;refine ⟨h1,by simpa using h2,fun t b ht=>?_⟩
   cases t with
   |zero=>simp at ht;subst ht;exact ⟨y',rfl,hx⟩
   |succ t=>simpa using h3 t b (by simpa using ht)
  cases x with
  |arr r l=>
   cases y' with
   |arr q m=>
    obtain ⟨hr,h2⟩:=bL (a:=dV (m.length==l.length) (kL xs ys k) aI) h;obtain ⟨hl,h3⟩:=eO h2
    have:=oK hr
    subst this;exact step h3 (.inl ⟨m,rfl,by simpa using hl⟩)
   |dead=>exact step h (.inr rfl)
   |_=>cases h
  |dead=>
   cases y' with
   |dead=>exact step h rfl
   |_=>cases h
  |box cs=>
   cases y' with
   |box c2=>exact step h (.inl ⟨c2,rfl⟩)
   |dead=>exact step h (.inr rfl)
   |_=>cases h
  |set l=>exact step h trivial
  |tab p l=>exact step h trivial
theorem R8 {n t:Nat} (h:t<n):has (nY n) t=true:=by
 induction n with
 |zero=>omega
 |succ n ih=>
  unfold has at ih ⊢;rw [dv] at*;simp only [nY,dy,cj];rcases ce t n with h1|h1
  · obtain ⟨x,h2,h3⟩:=ih h1
    exact ⟨x,.inl h2,h3⟩
  have:t=n:=by omega
  subst this;exact ⟨t,.inr rfl,by simp⟩
theorem L2 {s s':List SB} (h: ∀(t:Nat) (b:SB),s[t]? =some b-> ∃b',s'[t]? =some b'/\NI b b'):Fr (nY s.length) s s':=fun t b hb=>by
 obtain ⟨b',h1,h2⟩:=h t b hb;have hlt:=(ae.1 hb).1;cases b with
 |arr r l=>
  rcases h2 with ⟨l',rfl,h3⟩|rfl
  · exact .inl ⟨l',h1,h3,fun hx=>by rw [R8 hlt] at hx;cases hx⟩
  exact .inr h1
 |dead=>rw [show b'= .dead from h2] at h1;exact h1
 |box cs=>
  rcases h2 with ⟨c2,rfl⟩|rfl
  · exact .inl ⟨c2,h1⟩
  exact .inr h1
 |_=>trivial
theorem aJl {s:List SB} {ps:bH} {sr:dL} {pr:jI} (G:eA s ps sr pr) (hS:bI s ps):(XR.loc pr).tr ps.length=sr.tr s.length:=by
 simp only [XR.tr,dL.tr,G.rd,G.fr,hS.len,<- G.wr,G.nl,d6]
 have:pr.news.isEmpty=sr.news.isEmpty:=by
  have:=G.nl
  cases h1:pr.news<;>cases h2:sr.news<;>simp_all
 rw [this];rfl
theorem aD7 {st:kX} {p:St} (h:uG st p) {sr:dL} {pr:jI} (G:eA st.sto p.sto sr pr) (d:Option Nat):uG (sr.next d st) ((XR.loc pr).next d p):=by
 have hput: ∀{s:List SB} {e:SE} {pe:mP} {v:SV} {q:PV},bZ s e pe->R s v q->bZ s (G1 d v e) (eT d q pe):=by
  intro s e pe v q he hv;cases d with
  |none=>exact he
  |some t=>exact ⟨q,pe,rfl,hv,he⟩
 have hs:=JP st.sto sr;unfold dL.next
 split
 · rename_i hw
   rw [hw] at hs;simp only [rR,lF,G8] at hs;have hsto:=G.sto;have hv:=G.v;have hfr:=G.fra;rw [hs] at hsto hv hfr;rw [hw] at hfr;exact ⟨by simp only [iC];exact hput (bZ.ext hfr h.env) hv,by simp only [iC];exact hsto,by simp only [XR.next,G.fr,h.fz],h.kn⟩
 have hsto:=G.sto
 have hv:=G.v;have hfr:=G.fra;rw [hs] at hsto hv hfr;exact ⟨by simp only [iC];exact hput (bZ.fr hfr h.env) hv,by simp only [iC];exact hsto,by simp only [XR.next,G.fr,h.fz],h.kn⟩
theorem aJm {s:List SB} {ps:bH} {sr:dL} {pr:jI} (G:eA s ps sr pr) {z:List Nat} (h:sr.ok z=true):(XR.loc pr).ok z=true:=by
 simp only [XR.ok,G.nw,cp];unfold dL.ok at h;rw [<- G.wr,d6] at h;exact h
section
variable {cx : QA} {inl : T8} {R' : Type}
def aLb (_F:iU) (k:kX->List Tr->dQ R') (Q:R'->St->List Tr->Prop):Prop:=
 ∀st p tr ρ (w:R'->ρ) y,uG st p->k st tr ρ w=some y-> ∃r,y=w r/\Q r p tr
theorem pS {o:bA} {l:List bA} {st:kX} {p:St} {tr:List Tr} {k:kX->List Tr->dQ R'} {ρ:Type} {w:R'->ρ} {y:ρ} {Q:R'->St->List Tr->Prop}
 (hl: ∀st p tr ρ (w:R'->ρ) y,uG st p->k st tr ρ w=some y-> ∃r,y=w r/\WO F l p tr (Q r)) (h:uG st p) {sr:dL} {pr:jI} (hw:wanted o.guard p.env=some true)
 (hx: ∃n,qJ F (run F n) p.env p.sto p.fz o.op=some (.loc pr)) (G:eA st.sto p.sto sr pr) (hg:M6 o.dst st tr k (.loc sr) ρ w=some y): ∃r,y=w r/\WO F (o::l) p tr (Q r):=by
 unfold M6 at hg;dsimp only at hg;obtain ⟨hok,hg⟩:=bL hg;rw [GW] at hg;have hR:=aD7 h G o.dst;obtain ⟨r,hr,hwo⟩:=hl _ _ _ _ _ _ hR hg;refine ⟨r,hr,WO.call (.loc pr) hw hx (by rw [h.fz];exact aJm G hok) ?_⟩
 rw [aJl G h.sto];exact hwo
theorem JR (hcx:aL F cx) (hinl:JQ F inl) {o:bA} {l:List bA} {st:kX} {p:St} {tr:List Tr} {k:kX->List Tr->dQ R'} {ρ:Type} {w:R'->ρ} {y:ρ} {Q:R'->St->List Tr->Prop}
 (hl: ∀st p tr ρ (w:R'->ρ) y,uG st p->k st tr ρ w=some y-> ∃r,y=w r/\WO F l p tr (Q r)) (h:uG st p) (hw:wanted o.guard p.env=some true)
 (hg:FJ cx inl st.env st.sto st.fz o.op (M6 o.dst st tr k) ρ w=some y): ∃r,y=w r/\WO F (o::l) p tr (Q r):=by
 have hS:=h.sto;have hE:=h.env;have shr: ∀(f:FuncId) (vals:List SV) (pas:List PV),RL st.sto vals pas->(∀n,qJ F (run F n) p.env p.sto p.fz o.op=dK (run F n) f pas p.sto p.fz)->
  inl f vals st.sto st.fz R' (fun v s' z'=>M6 o.dst st tr k (.shr v s' z')) ρ w=some y-> ∃r,y=w r/\WO F (o::l) p tr (Q r):=by
  intro f vals pas hv hop hi;obtain ⟨r,hr,hd⟩:=hinl f vals st.sto st.fz R' _ ρ w y pas p.sto (fun r v s z=>(ap p.sto.length s.length&&p.fz.all (has z))=true/\WO F l {p with env:=eT o.dst v p.env,sto:=s,fz:=z} (RE::tr) (Q r)) hv hS hi
   (fun v s' z' pv ps' ρ' w' y' hR hS' hk=>by
    unfold M6 at hk;dsimp only at hk;rw [GW] at hk;obtain ⟨hk,hlen,hsame⟩:=xQ hk;obtain ⟨hz,hk⟩:=bL hk;have hfr:=L2 hsame;have hput:bZ s' (G1 o.dst v (dgE (nY st.sto.length) st.env)) (eT o.dst pv p.env):=by
     cases o.dst with
     |none=>exact bZ.fr hfr hE
     |some t=>exact ⟨pv,p.env,rfl,hR,bZ.fr hfr hE⟩
    have hR':uG {env:=G1 o.dst v (dgE (nY st.sto.length) st.env),sto:=s',fz:=z',kn:=st.kn} {p with env:=eT o.dst pv p.env,sto:=ps',fz:=z'}:=⟨hput,hS',rfl,h.kn⟩;obtain ⟨r,hr,hwo⟩:=hl _ _ _ _ _ _ hR' hk;refine ⟨r,hr,?_,hwo⟩;rw [h.fz,hz,cp,hS.len,hS'.len];simpa using hlen)
  refine ⟨r,hr,WO.shrAny hw hop ?_⟩;rw [h.fz];rw [h.fz] at hd;exact hd
 have loc: ∀{k':dL->dQ R'},iB st.env st.sto st.fz o.op k' ρ w=some y->yV o.op=false->(∀sr,k' sr=M6 o.dst st tr k (.loc sr))-> ∃r,y=w r/\WO F (o::l) p tr (Q r):=by
  intro k' hv hc hk;obtain ⟨sr,pr,h1,G,h2⟩:=UO hE hS (pe:=p.env) hv;rw [hk] at h2;exact pS hl h hw ⟨0,by rw [GV hc,h.fz,h1];rfl⟩ G h2
 generalize hop:o.op=op at hg;cases op with
 |call m f args=>
  have hargs:=tF hE args;simp only [FJ] at hg;cases m with
  |pur=>
   dsimp only at hg;cases hx:exVL st.sto (gI st.sto cJ) (fS st.env args) with
   |none=>rw [hx] at hg;cases hg
   |some vs=>
    rw [hx] at hg;obtain ⟨q,h1,h2⟩:=exVL_R hS (BH hS cJ) hargs hx;obtain ⟨sr,pr,⟨n,h3⟩,G,h4⟩:=rU (f:=f) (z:=st.fz) hS h1 h2 (tkExL hS (C4 hS cJ) hargs hx) (fun c hc=>hcx.con f c hc) hg
    exact pS hl h hw ⟨n,by rw [hop,h.fz];simp only [qJ,h3];rfl⟩ G h4
  |own=>
   dsimp only at hg;cases hx:exVL st.sto (gI st.sto cJ) (fS st.env args) with
   |none=>rw [hx] at hg;cases hg
   |some vs=>
    rw [hx] at hg;obtain ⟨q,h1,h2⟩:=exVL_R hS (BH hS cJ) hargs hx;obtain ⟨sr,pr,⟨n,h3⟩,G,h4⟩:=rU (f:=f) (z:=st.fz) hS h1 h2 (tkExL hS (C4 hS cJ) hargs hx) (fun c hc=>hcx.con f c hc) hg
    exact pS hl h hw ⟨n,by rw [hop,h.fz];simp only [qJ,h3];rfl⟩ G h4
  |shr=>exact shr f _ _ hargs (fun n=>by rw [hop];rfl) hg
  |fp=>
   dsimp only at hg;cases hx:LL st.sto (gI st.sto cJ) (fS st.env args) with
   |false=>rw [hx] at hg;cases hg
   |true=>
    rw [hx] at hg;dsimp only at hg;obtain ⟨hz,hg⟩:=bL hg;cases h1:renVL (jW (tkVL (qX st.sto cJ) (fS st.env args))) (fS st.env args) with
    |none=>rw [h1] at hg;cases hg
    |some vs=>
     cases h2:ET st.sto (jW (tkVL (qX st.sto cJ) (fS st.env args))) (jW (tkVL (qX st.sto cJ) (fS st.env args))) with
     |none=>rw [h1,h2] at hg;cases hg
     |some s0=>
      rw [h1,h2] at hg;obtain ⟨sr,pr,⟨n,h3⟩,G,h4⟩:=NH (f:=f) (z:=st.fz) hS hargs (by rw [R0 hS (C4 hS cJ) hargs hx]) hz h1 h2 (fun c hc=>hcx.fpc f c hc) hg
      exact pS hl h hw ⟨n,by rw [hop,h.fz];simp only [qJ,h3];rfl⟩ G h4
 |callv x args=>
  have hargs:=tF hE args;simp only [FJ] at hg;have hx:=bU hE x;generalize bC st.env x=v at hg hx;cases v with
  |clo f a b=>
   dsimp only at hg;obtain ⟨pa,pb,hx,ha,hb⟩:=hx;have hany: ∀{vs:List SV} {q:List PV},RL st.sto vs q->(anyPtr vs=true->q.any BS=true):=by
    intro vs
    induction vs with
    |nil=>intro q _ h;cases h
    |cons v vs ih=>
     intro q hq hp;obtain ⟨a,as,rfl,h1,h2⟩:=hq.cons_inv;simp only [anyPtr,dz] at hp;simp only [d0,dz];rcases hp with hp|hp
     · left
       cases v with
       |own _ _=>obtain ⟨_,_,rfl,_⟩:=h1;rfl
       |pre _ _ _ _=>obtain ⟨_,rfl,_⟩:=h1;rfl
       |part _ _ _ _ _=>obtain ⟨_,rfl,_⟩:=h1;rfl
       |pa _ _ _ _ _=>obtain ⟨rfl,_⟩:=h1;rfl
       |pb _ _ _=>obtain ⟨_,rfl,_⟩:=h1;rfl
       |bp _ _ _=>rw [show a=_ from h1];rfl
       |mp _=>rw [show a=_ from h1];rfl
       |_=>cases hp
     right;exact ih h2 hp
   cases hp:anyPtr (fS st.env args++b) with
   |true=>
    rw [hp] at hg
    have:=hany (hargs.append hb) hp
    exact shr f _ _ ((ha.append hargs).append hb) (fun n=>by rw [hop];simp only [qJ,hx,this,if_true]) hg
   |false=>
    rw [hp] at hg;simp only [cond_false] at hg;cases hxx:exVL st.sto (gI st.sto cJ) (a++fS st.env args++b) with
    |none=>rw [hxx] at hg;cases hg
    |some vs=>
     rw [hxx] at hg;have hno: ∀{vs u:List SV} {q:List PV},RL st.sto vs q->anyPtr vs=false->exVL st.sto (gI st.sto cJ) vs=some u->q.any BS=false:=by
      intro vs
      induction vs with
      |nil=>intro u q hq _ _;rw [show q=[] from hq];rfl
      |cons v vs ih=>
       intro u q hq hp hu;obtain ⟨a,as,rfl,h1,h2⟩:=hq.cons_inv;simp only [anyPtr,Bool.or_eq_false_iff] at hp;simp only [exVL] at hu;split at hu
       · rename_i y1 y2 e1 e2
         simp only [d0,ih h2 hp.2 e2,Bool.or_false];cases v with
         |agg _|tup _|rptr _ _=>obtain ⟨_,rfl,_⟩:=h1;rfl
         |clo _ _ _=>obtain ⟨_,_,rfl,_⟩:=h1;rfl
         |int _ _|bool _|str _|nilf|sl _ _|nil _ _|undef|nul=>rw [show a=_ from h1];rfl
         |junk=>cases e1
         |own _ _|pre _ _ _ _|part _ _ _ _ _|pa _ _ _ _ _|pb _ _ _|bp _ _ _|mp _=>cases hp.1
       cases hu
     have hsplit: ∃u2,exVL st.sto (gI st.sto cJ) (fS st.env args++b)=some u2:=by
      have: ∀(l:List SV) {m u:List SV},exVL st.sto (gI st.sto cJ) (l++m)=some u-> ∃u2,exVL st.sto (gI st.sto cJ) m=some u2:=by
       intro l
       induction l with
       |nil=>intro m u h;exact ⟨u,h⟩
       |cons x l ih=>
        intro m u h;simp only [c9,exVL] at h;split at h
        · rename_i e1 e2;exact ih e2
        cases h
      rw [bg] at hxx;exact this a hxx
     obtain ⟨u2,hu2⟩:=hsplit;have hno':=hno (hargs.append hb) hp hu2;have hall:=(ha.append hargs).append hb;obtain ⟨q,h1,h2⟩:=exVL_R hS (BH hS cJ) hall hxx;obtain ⟨sr,pr,⟨n,h3⟩,G,h4⟩:=rU (f:=f) (z:=st.fz) hS h1 h2 (tkExL hS (C4 hS cJ) hall hxx) (fun c hc=>hcx.con f c hc) hg
     exact pS hl h hw ⟨n,by rw [hop,h.fz];simp only [qJ,hx,hno',ay,if_false,h3];rfl⟩ G h4
  |_=>cases hg
 |_=>exact loc (k':=fun r=>M6 o.dst st tr k (.loc r)) (by rw [hop];exact hg) (by rw [hop];rfl) (fun _=>rfl)
theorem pT (hcx:aL F cx) (hinl:JQ F inl): ∀(ops:List bA) {st:kX} {p:St} {tr:List Tr} {k:kX->List Tr->dQ R'} {ρ:Type} {w:R'->ρ} {y:ρ} {Q:R'->St->List Tr->Prop},
 aLb F k Q->uG st p->kC cx inl ops st tr k ρ w=some y-> ∃r,y=w r/\WO F ops p tr (Q r)
 | [],st,p,tr,k,ρ,w,y,Q,hk,h,he=>by
  obtain ⟨r,hr,hq⟩:=hk st p tr ρ w y h he;exact ⟨r,hr,WO.nil hq⟩
 |o::l,st,p,tr,k,ρ,w,y,Q,hk,h,he=>by
  have hl: ∀st p tr ρ (w:R'->ρ) y,uG st p->kC cx inl l st tr k ρ w=some y-> ∃r,y=w r/\WO F l p tr (Q r):=fun st p tr ρ w y h he=>pT hcx hinl l hk h he
  have setR: ∀{st:kX} {c:Nat} {v:SV},uG st p->R st.sto v (lk c p.env)->uG {st with env:=setS c v st.env} p:=fun h hv=>⟨h.env.setS hv,h.sto,h.fz,h.kn⟩
  have run': ∀{st:kX},uG st p->wanted o.guard p.env=some true->(match o.op with
   | .pick (.t c) a b=>match EO c st.env with
    | .bool x=>dV x (M6 o.dst {st with env:=setS c (.bool true) st.env} tr (kC cx inl l · · k) (.loc {v:=bC st.env a}))
     (M6 o.dst {st with env:=setS c (.bool false) st.env} tr (kC cx inl l · · k) (.loc {v:=bC st.env b}))
    |_=>aI
   |op=>FJ cx inl st.env st.sto st.fz op (M6 o.dst st tr (kC cx inl l · · k))) ρ w=some y-> ∃r,y=w r/\WO F (o::l) p tr (Q r):=by
   intro st h hw he;have plain:FJ cx inl st.env st.sto st.fz o.op (M6 o.dst st tr (kC cx inl l · · k)) ρ w=some y-> ∃r,y=w r/\WO F (o::l) p tr (Q r):=fun he=>JR hcx hinl hl h hw he
   generalize hop:o.op=op at he;cases op with
   |pick c a b=>
    cases c with
    |c v=>exact plain (by rw [hop];exact he)
    |t c=>
     dsimp only at he;generalize hv:EO c st.env=v at he;cases v with
     |bool x=>
      have hx:lk c p.env= .bool x:=by have:=h.env.lk c;rw [hv] at this;exact this
      rcases cR he with ⟨rfl,he⟩|⟨rfl,he⟩
      · have hR:=setR h (c:=c) (v:= .bool true) hx
        exact pS (o:=o) hl hR hw ⟨0,by rw [hop];simp only [qJ,aV,cV.ev,hx];rfl⟩ (eA.val hR.sto (bU h.env a)) he
      have hR:=setR h (c:=c) (v:= .bool false) hx
      exact pS (o:=o) hl hR hw ⟨0,by rw [hop];simp only [qJ,aV,cV.ev,hx];rfl⟩ (eA.val hR.sto (bU h.env b)) he
     |_=>cases he
   |_=>exact plain (by rw [hop];exact he)
  have skip': ∀{st:kX},uG st p->wanted o.guard p.env=some false->kC cx inl l {st with env:=G1 o.dst .nul st.env} (Tr.idle::tr) k ρ w=some y-> ∃r,y=w r/\WO F (o::l) p tr (Q r):=by
   intro st h hw he;have hR:uG {st with env:=G1 o.dst .nul st.env} {p with env:=eT o.dst .nul p.env}:=by
    refine ⟨?_,h.sto,h.fz,h.kn⟩;cases o.dst with
    |none=>exact h.env
    |some t=>exact ⟨.nul,p.env,rfl,rfl,h.env⟩
   obtain ⟨r,hr,hwo⟩:=hl _ _ _ _ _ _ hR he;exact ⟨r,hr,WO.skip hw hwo⟩
  simp only [kC] at he;cases hgd:o.guard with
  |none=>
   rw [hgd] at he;exact run' h (by rw [hgd];rfl) he
  |some g=>
   obtain ⟨c,want⟩:=g;rw [hgd] at he;dsimp only at he;generalize hv:EO c st.env=v at he;cases v with
   |bool x=>
    have hx:lk c p.env= .bool x:=by have:=h.env.lk c;rw [hv] at this;exact this
    have hwx: ∀b,x=b->wanted o.guard p.env=some (b==want):=fun b hb=>by rw [hgd];simp only [wanted,hx,hb]
    cases want with
    |true=>
     simp only [cond_true] at he;rcases cR he with ⟨rfl,he⟩|⟨rfl,he⟩
     · exact run' (setR h (v:= .bool true) hx) (hwx true rfl) he
     exact skip' (setR h (v:= .bool false) hx) (hwx false rfl) he
    |false=>
     simp only [cond_false] at he;rcases cR he with ⟨rfl,he⟩|⟨rfl,he⟩
     · exact skip' (setR h (v:= .bool true) hx) (hwx true rfl) he
     exact run' (setR h (v:= .bool false) hx) (hwx false rfl) he
   |nul=>
    have hx:lk c p.env= .nul:=by have:=h.env.lk c;rw [hv] at this;exact this
    exact skip' h (by rw [hgd];simp only [wanted,hx]) he
   |_=>cases he
theorem DB {e:SE}: ∀{keep:List Nat} {k:SE->dQ R'} {ρ:Type} {w:R'->ρ} {y:ρ},JD e keep k ρ w=some y->k (keep.map fun s=>(s,EO s e)) ρ w=some y
 | [],k,ρ,w,y,h=>h
 |s::r,k,ρ,w,y,h=>by
  simp only [JD] at h;rw [GW] at h
  have:=DB h
  exact this
theorem R9 {s:List SB} {e:SE} {pe:mP} (h:bZ s e pe): ∀(keep:List Nat),bZ s (keep.map fun t=>(t,EO t e)) (keep.map fun t=>(t,lk t pe))
 | []=>rfl
 |t::r=>⟨_,_,rfl,h.lk t,R9 h r⟩
end
mutual
theorem FW: ∀(v:SV) (q:List qZ),mT v (yY v++q)=(v,q)
 | .junk,q| .undef,q| .nul,q| .nilf,q| .int _ _,q| .bool _,q| .str _,q| .sl _ _,q| .nil _ _,q| .own _ _,q| .pre _ _ _ _,q| .part _ _ _ _ _,q| .pa _ _ _ _ _,q| .pb _ _ _,q| .bp _ _ _,q| .mp _,q=>rfl
 | .agg cs,q=>by simp only [mT,yY,put_selfL]
 | .tup cs,q=>by simp only [mT,yY,put_selfL]
 | .rptr cs o,q=>by simp only [mT,yY,put_selfL]
 | .clo f a b,q=>by simp only [mT,yY,bg,put_selfL]
theorem put_selfL: ∀(v:List SV) (q:List qZ),putL v (atsL v++q)=(v,q)
 | [],q=>rfl
 |x::xs,q=>by simp only [putL,atsL,bg,FW,put_selfL]
end
theorem FX: ∀(v:List SB) (q:List qZ),vL v (GZ v++q)=(v,q)
 | [],q=>rfl
 |x::xs,q=>by
  have: ∀q,LQ x (RC x++q)=(x,q):=by
   intro q;cases x<;>first|rfl|simp only [LQ,RC,put_selfL]
  simp only [vL,GZ,bg,this,FX]
theorem FY: ∀(v:SE) (q:List qZ),JB v (PD v++q)=(v,q)
 | [],q=>rfl
 |(t,x)::xs,q=>by simp only [JB,PD,bg,FW,FY]
theorem L3 (st:kX):uD st (qS st)=st:=by
 have hs:=FX st.sto [];rw [bd] at hs;simp only [uD,qS,FY,hs]
theorem PN {cx:QA} {inl:T8} (hcx:aL F cx) (hinl:JQ F inl): ∀(c:fY) (R':Type) {st:kX} {p:St} {k:eJ->kX->dQ R'} {ρ:Type} {w:R'->ρ} {y:ρ} {Q:R'->eJ->St->Prop},
 (∀e st p ρ (w:R'->ρ) y,uG st p->k e st ρ w=some y-> ∃r,y=w r/\Q r e p)->uG st p->xC cx inl c R' st k ρ w=some y-> ∃r,y=w r/\WP F c p (Q r):=by
 intro c
 induction c with
 |skip=>
  intro R' st p k ρ w y Q hk h he;obtain ⟨r,hr,hq⟩:=hk _ _ _ _ _ _ h he;exact ⟨r,hr,WP.skip hq⟩
 |ret=>
  intro R' st p k ρ w y Q hk h he;obtain ⟨r,hr,hq⟩:=hk _ _ _ _ _ _ h he;exact ⟨r,hr,WP.ret hq⟩
 |exit id=>
  intro R' st p k ρ w y Q hk h he;obtain ⟨r,hr,hq⟩:=hk _ _ _ _ _ _ h he;exact ⟨r,hr,WP.exit hq⟩
 |region d ops keep=>
  intro R' st p k ρ w y Q hk h he;simp only [xC] at he;have fin: ∀st p ρ (w:R'->ρ) y,uG st p->JD st.env keep (fun e=>k .normal {st with env:=e}) ρ w=some y-> ∃r,y=w r/\Q r .normal (kT keep p):=by
   intro st p ρ w y h he
   have:=DB he
   have hR:uG {st with env:=keep.map fun t=>(t,EO t st.env)} (kT keep p):=⟨R9 h.env keep,h.sto,h.fz,h.kn⟩
   exact hk _ _ _ _ _ _ hR this
  cases d with
  |none=>
   obtain ⟨r,hr,hwo⟩:=pT hcx hinl ops (Q:=fun r s _=>Q r .normal (kT keep s)) (fun st p tr ρ w y h he=>fin st p ρ w y h he) h he
   exact ⟨r,hr,WP.region hwo⟩
  |some bf=>
   obtain ⟨r,hr,hwo⟩:=pT hcx hinl ops (Q:=fun r s t=>lO 0 (t.reverse.zip bf)=true/\Q r .normal (kT keep s)) (fun st p tr ρ w y h he=>by
    dsimp only at he;cases ho:lO 0 (tr.reverse.zip bf) with
    |false=>rw [ho] at he;cases he
    |true=>
     rw [ho] at he;obtain ⟨r,hr,hq⟩:=fin st p ρ w y h he;exact ⟨r,hr,ho,hq⟩) h he
   exact ⟨r,hr,WP.regionD hwo⟩
 |seq a b iha ihb=>
  intro R' st p k ρ w y Q hk h he;simp only [xC] at he;obtain ⟨r,hr,hwp⟩:=iha R' (Q:=fun r=>BB (fun s=>WP F b s (Q r)) (Q r)) (fun e st p ρ w y h he=>by
   cases e with
   |normal=>exact ihb R' hk h he
   |exit i=>exact hk _ _ _ _ _ _ h he
   |ret=>exact hk _ _ _ _ _ _ h he) h he
  exact ⟨r,hr,WP.seq hwp⟩
 |cond c a b iha ihb=>
  intro R' st p k ρ w y Q hk h he;simp only [xC] at he;have hx:=bU h.env c;generalize bC st.env c=v at he hx;cases v with
  |bool x=>
   rcases cR he with ⟨rfl,he⟩|⟨rfl,he⟩
   · obtain ⟨r,hr,hwp⟩:=iha R' hk h he
     exact ⟨r,hr,WP.condT hx hwp⟩
   obtain ⟨r,hr,hwp⟩:=ihb R' hk h he
   exact ⟨r,hr,WP.condF hx hwp⟩
  |_=>cases he
 |block id b ih=>
  intro R' st p k ρ w y Q hk h he;simp only [xC] at he;obtain ⟨r,hr,hwp⟩:=ih R' (Q:=fun r=>inBlock id (Q r)) (fun e st p ρ w y h he=>by
   cases e with
   |normal=>exact hk _ _ _ _ _ _ h he
   |ret=>exact hk _ _ _ _ _ _ h he
   |exit j=>
    dsimp only at he;cases hj:ar j id with
    |true=>
     rw [hj] at he;obtain ⟨r,hr,hq⟩:=hk _ _ _ _ _ _ h he;have hji:=aa hj;exact ⟨r,hr,by simpa [inBlock,hji] using hq⟩
    |false=>
     rw [hj] at he;obtain ⟨r,hr,hq⟩:=hk _ _ _ _ _ _ h he
     have:j≠id:=by intro e;subst e;simp at hj
     exact ⟨r,hr,by simpa [inBlock,this] using hq⟩) h he
  exact ⟨r,hr,WP.block hwp⟩
 |loop live b ih=>
  intro R' st p k ρ w y Q hk h he;simp only [xC] at he;cases hn:CR cx.rk live st with
  |none=>rw [hn] at he;cases he
  |some st1=>
   rw [hn] at he;dsimp only at he;have ksK_eq: ∀{β:Type 1} (l:List AK) (c:List AK->β),ksK l c=c l:=by
    intro β l;have rK_eq: ∀{β:Type 1} (l:List PT) (c:List PT->β),rK l c=c l:=by
     intro β l
     induction l with
     |nil=>intro c;rfl
     |cons p r ih=>intro c;cases p<;>simp only [rK,ptK,ih]
    induction l with
    |nil=>intro c;rfl
    |cons a r ih=>intro c;cases a<;>simp only [ksK,rK_eq,ih]
   rw [ksK_eq] at he;generalize aDV (qS st1)=ks at he;cases hp:lE ks (qS st1) with
   |none=>rw [hp] at he;cases he
   |some y0=>
    rw [hp] at he;dsimp only at he;obtain ⟨p1,hp1,hR1⟩:=NE h hn;have hlike: ∀(st3:kX) (y':gB ks),CT st1 st3=true->lE ks (qS st3)=some y'->uD st1 (iG ks y')=st3:=fun st3 y' h1 h2=>by
     rw [mC h2,PM h1]
    obtain ⟨n,hit⟩:=Q1 he;have h0:uG (uD st1 (iG ks y0)) p1:=by rw [mC hp,L3];exact hR1
    clear he hp hn h hR1
    induction n generalizing y0 p p1 with
    |zero=>cases hit
    |succ n ihn=>
     have body: ∀zr,xC cx inl b (aW (gB ks) ρ) (uD st1 (iG ks y0)) (fun e st2=>match e with
      | .normal=>match CR cx.rk live st2 with
       |some st3=>bif CT st1 st3 then (match lE ks (qS st3) with
        |some y'=>FG (.next y')
        |none=>aI) else aI
       |none=>aI
      |e=>fun ρ' w'=>k e st2 ρ' fun r=>w' (.done (w r))) (aW (gB ks) ρ) (fun z=>z)=some zr->
      WP F b p1 (fun e s=>match zr with
       | .next y'=>e= .normal/\ ∃p3,A5 live s=some p3/\uG (uD st1 (iG ks y')) p3
       | .done x=>e≠ .normal/\ ∃r,x=w r/\Q r e s):=by
      intro zr hbody;obtain ⟨zr',hzr,hwp⟩:=ih (aW (gB ks) ρ) (Q:=fun zr e s=>match zr with
       | .next y'=>e= .normal/\ ∃p3,A5 live s=some p3/\uG (uD st1 (iG ks y')) p3
       | .done x=>e≠ .normal/\ ∃r,x=w r/\Q r e s) (fun e st2 p2 ρ' w' y2 h2 he2=>by
       cases e with
       |normal=>
        dsimp only at he2;cases hn3:CR cx.rk live st2 with
        |none=>rw [hn3] at he2;cases he2
        |some st3=>
         rw [hn3] at he2;obtain ⟨hlk,he2⟩:=bL he2;cases hp3:lE ks (qS st3) with
         |none=>rw [hp3] at he2;cases he2
         |some y3=>
          rw [hp3] at he2;injection he2 with he2;obtain ⟨p3,hp3',hR3⟩:=NE h2 hn3;exact ⟨.next y3,he2.symm,rfl,p3,hp3',by rw [hlike st3 y3 hlk hp3];exact hR3⟩
       |exit i=>
        obtain ⟨r,hr,hq⟩:=hk _ _ _ _ _ _ h2 he2;exact ⟨.done (w r),hr,(by intro e;cases e),r,rfl,hq⟩
       |ret=>
        obtain ⟨r,hr,hq⟩:=hk _ _ _ _ _ _ h2 he2;exact ⟨.done (w r),hr,(by intro e;cases e),r,rfl,hq⟩) h0 hbody
      subst hzr;exact hwp
     simp only [jX] at hit;split at hit
     · rename_i y' hbody
       obtain ⟨m,e,s,hrun,rfl,p3,hp3,hR3⟩:=body _ hbody;obtain ⟨r,hr,hwp⟩:=ihn y' p3 hp3 hit hR3;exact ⟨r,hr,WP.again hp1 ⟨m,.normal,s,hrun,hwp⟩⟩
     · rename_i x hbody
       injection hit with hit;obtain ⟨m,e,s,hrun,hne,r,hr,hq⟩:=body _ hbody;refine ⟨r,by rw [<- hit];exact hr,WP.again hp1 ⟨m,e,s,hrun,?_⟩⟩
       cases e with
       |normal=>exact absurd rfl hne
       |exit i=>exact hq
       |ret=>exact hq
     cases hit
end
end Go.Vm
/- Contracts from the typed machine. -/
namespace Go.Vm
section
variable {F : iU} {cx : QA} {inl : T8}
theorem JS {s:List SB}: ∀{l:List SV} {q:List PV} (i:Nat),RL s l q->bZ s (LU i l) (nZ i q)
 | [],q,i,h=>by rw [show q=[] from h];rfl
 |x::xs,q,i,h=>by
  obtain ⟨a,as,rfl,h1,h2⟩:=h.cons_inv;exact ⟨a,nZ (i+1) as,rfl,h1,JS (i+1) h2⟩
theorem SA {st:kX} {p:St} (h:uG st p) {r:RV} {v:SV} (hr:LT st r=some v): ∃q,BU p r=some q/\R st.sto v q:=by
 cases r with
 |tmp t=>injection hr with hr;subst hr;exact ⟨_,rfl,h.env.lk t⟩
 |cell t agg=>
  simp only [LT] at hr;have hlk:=h.env.lk t;split at hr
  · rename_i u n off hv
    rw [hv] at hlk;rw [bG] at hr;split at hr
    · rename_i cs hst
      obtain ⟨q,h1,h2⟩:=h.sto.box hst;obtain ⟨x,h3,h4⟩:=nC h2 hr;refine ⟨x,?_,h4⟩;simp only [BU,show lk t p.env=_ from hlk,jV,h1,bi,if_true,h3];rfl
    cases hr
  · rename_i cs off hv
    rw [hv] at hlk;obtain ⟨q,h1,h2⟩:=hlk;obtain ⟨x,h3,h4⟩:=nC h2 hr;refine ⟨x,?_,h4⟩;simp only [BU,h1,jV,h3];rfl
  cases hr
theorem FZ {st:kX} {p:St} (h:uG st p): ∀{l:List RV} {vs:List SV},tD st l=some vs-> ∃q,jK p l=some q/\RL st.sto vs q
 | [],vs,hr=>by injection hr with hr;subst hr;exact ⟨[],rfl,rfl⟩
 |r::l,vs,hr=>by
  simp only [tD] at hr;split at hr
  · rename_i v vs' h1 h2
    injection hr with hr;subst hr;obtain ⟨q,h3,h4⟩:=SA h h1;obtain ⟨qs,h5,h6⟩:=FZ h h2;exact ⟨q::qs,by simp only [jK,h3,h5],RL.cons h4 h6⟩
  cases hr
theorem JT {s:List SB} {vs:List SV} {q:List PV} (h:RL s vs q):R s (yZ vs) (kQ q):=by
 match vs,q,h with
 | [],q,h=>rw [show q=[] from h];exact ⟨[],rfl,rfl⟩
 | [v],q,h=>
  obtain ⟨a,as,rfl,h1,h2⟩:=h.cons_inv;rw [show as=[] from h2];exact h1
 |v::u::r,q,h=>
  have hall:=h;obtain ⟨a,as,rfl,h1,h2⟩:=h.cons_inv;obtain ⟨b,bs,rfl,h3,h4⟩:=h2.cons_inv;exact ⟨_,rfl,hall⟩
theorem rV (hcx:aL F cx) (hinl:JQ F inl) {f:FuncId} {x:aF} (hf:F f=some (.code x)) {R':Type} {args:List SV} {s:List SB} {z:List Nat} {k:SV->List SB->List Nat->dQ R'} {ρ:Type} {w:R'->ρ} {y:ρ} {pa:List PV} {ps:bH}
 {Q:R'->PV->bH->List Nat->Prop} (ha:RL s args pa) (hS:bI s ps) (he:JE cx inl x R' args s z k ρ w=some y)
 (hk: ∀v s' z' p ps' ρ' (w':R'->ρ') y',R s' v p->bI s' ps'->k v s' z' ρ' w'=some y'-> ∃r,y'=w' r/\Q r p ps' z'): ∃r,y=w r/\vB F f pa ps z (fun p ps' z'=>Q r p ps' z'):=by
 unfold JE at he;obtain ⟨hn,he⟩:=bL he;have fin: ∀st p ρ' (w':R'->ρ') y',uG st p->(match tD st x.res with
  |some vs=>k (yZ vs) st.sto st.fz
  |none=>aI) ρ' w'=some y'-> ∃r,y'=w' r/\ ∃vs,jK p x.res=some vs/\Q r (kQ vs) p.sto p.fz:=by
  intro st p ρ' w' y' h he;cases hr:tD st x.res with
  |none=>rw [hr] at he;cases he
  |some vs=>
   rw [hr] at he;obtain ⟨q,h1,h2⟩:=FZ h hr;obtain ⟨r,h3,h4⟩:=hk _ _ _ _ _ _ _ _ (JT h2) h.sto he;exact ⟨r,h3,q,h1,by rw [h.fz];exact h4⟩
 obtain ⟨r,hr,hwp⟩:=PN hcx hinl x.code R' (Q:=fun r=>GI x fun p ps' z'=>Q r p ps' z') (p:={env:=nZ 0 pa,sto:=ps,fz:=z,kn:=ps.length}) (fun e st p ρ' w' y' h he=>by
  cases e with
  |normal=>exact fin st p ρ' w' y' h he
  |ret=>exact fin st p ρ' w' y' h he
  |exit i=>cases he) ⟨JS 0 ha,hS,rfl,hS.len⟩ he
 exact ⟨r,hr,vB.of hf (by rw [ha.length];exact hn) hwp⟩
theorem G9 {α:Type} {l m r:List α} {i:Int} (h:BF l i m=some r):0<=i/\i.toNat<=l.length/\m.length=1/\l.length+1<=1048576/\r=l.take i.toNat++m++l.drop i.toNat:=by
 unfold BF at h;split at h
 · rename_i hc
   injection h with h;exact ⟨hc.1,hc.2.1,hc.2.2.1,hc.2.2.2,h.symm⟩
 cases h
theorem PO {e:Nat} {args:List SV} {s:List SB} {z:List Nat} {a:aJh} (h:T9 e args s z=some a):
 ∃x u x2 m,args=[.own a.t x,.int .i64 a.i,.own u x2]/\nth s a.t=some (.arr a.r a.l)/\nth s u=some (.arr a.r m)/\a.m=m/\a.r.length=e/\ar a.t u=false/\has z a.t=false:=by
 unfold T9 at h;split at h
 case h_2=>cases h
 split at h
 case h_2=>cases h
 split at h
 case h_2=>cases h
 split at h
 case h_2=>cases h
 rename_i m' hm;cases hc:(ar _ e&&_&&_) with
 |false=>rw [hc] at h;cases h
 |true=>
  rw [hc] at h;injection h with h;subst h;simp only [ac,co,au] at hc;obtain ⟨rfl,rfl⟩:=kD hm;exact ⟨_,_,_,_,rfl,by assumption,by assumption,rfl,hc.1.1,hc.1.2,hc.2⟩
theorem L4 {e:Nat} {f:FuncId} (hf:F f=some (.shp (GH e))) {R':Type} {args:List SV} {s:List SB} {z:List Nat} {k:SV->List SB->List Nat->dQ R'} {ρ:Type} {w:R'->ρ} {y:ρ} {pa:List PV} {ps:bH}
 {Q:R'->PV->bH->List Nat->Prop} (ha:RL s args pa) (hS:bI s ps) (he:aDY e args s z k ρ w=some y)
 (hk: ∀v s' z' p ps' ρ' (w':R'->ρ') y',R s' v p->bI s' ps'->k v s' z' ρ' w'=some y'-> ∃r,y'=w' r/\Q r p ps' z'): ∃r,y=w r/\vB F f pa ps z (fun p ps' z'=>Q r p ps' z'):=by
 unfold aDY at he;cases hA:T9 e args s z with
 |none=>rw [hA] at he;cases he
 |some a=>
 rw [hA] at he;dsimp only at he;obtain ⟨l',hl,he⟩:=bK he;obtain ⟨x,u,x2,m0,rfl,ht,hu,hm,he1,htu,hz⟩:=PO hA;obtain ⟨t,q,l,i,m⟩:=a;dsimp only at*;subst hm he1;obtain ⟨i0,il,m1,hle,rfl⟩:=G9 hl;obtain ⟨p0,pr0,rfl,h0,ha⟩:=ha;obtain ⟨p1,pr1,rfl,h1,ha⟩:=ha;obtain ⟨p2,pr2,rfl,h2,ha⟩:=ha;obtain rfl:pr2=[]:=ha;obtain rfl:p1= .int .i64 i:=h1
 have ht':s[t]? =some (.arr q l):=by rw [<- bG];exact ht
 have hu':s[u]? =some (.arr q m):=by rw [<- bG];exact hu
 obtain ⟨e0,n0,rfl,o0⟩:=h0;obtain ⟨e2,n2,rfl,o2⟩:=h2;obtain ⟨rfl,rfl⟩:e0=q.length/\n0=l.length:=by
  rcases o0 with ⟨r1,l1,a,b,c⟩|a
  · rw [ht'] at a;injection a with a;injection a with a1 a2;subst a1;subst a2;exact ⟨b,c⟩
  rw [ht'] at a;cases a
 obtain ⟨rfl,rfl⟩:e2=q.length/\n2=m.length:=by
  rcases o2 with ⟨r1,l1,a,b,c⟩|a
  · rw [hu'] at a;injection a with a;injection a with a1 a2;subst a1;subst a2;exact ⟨b,c⟩
  rw [hu'] at a;cases a
 obtain ⟨b1,hb1,hb1'⟩:=hS.at_ t _ ht';obtain ⟨b2,hb2,hb2'⟩:=hS.at_ u _ hu';have hb1':b1= .arr q.length (l.map (RT.pv q)):=hb1';have hb2':b2= .arr q.length (m.map (RT.pv q)):=hb2';subst hb1' hb2';have hlen:(yF [t] (s.set t .dead)).length=s.length:=by rw [pL];simp
 obtain ⟨L,hL⟩: ∃L,L=l.take i.toNat++m++l.drop i.toNat:=⟨_,rfl⟩;rw [<- hL] at he;have G:=eA.put hS (b:= .dead) (q:= .dead) (l:=[.arr q L]) (ql:=[.arr q.length (L.map (RT.pv q))]) (v:= .own s.length false)
  (p:= .own s.length q.length 0 L.length L.length false) (rd:=[]) ht' (.inr rfl) rfl rfl
  (fun j b hj=>by
   cases j with
   |zero=>simp at hj;subst hj;exact ⟨_,rfl,rfl⟩
   |succ j=>simp at hj)
  ⟨q.length,L.length,rfl,.inl ⟨q,L,by rw [<- hlen];exact iH,rfl,rfl⟩⟩
 have hll:L.length=l.length+1:=by
  rw [hL];simp only [ch,bj,da,m1];omega
 obtain ⟨rr,hr,hq⟩:=hk _ _ _ _ _ _ _ _ G.v G.sto he;refine ⟨rr,hr,1,_,_,_,?_,hq⟩;rw [gU];have hmost:ap (l.length+1) hJ=true:=by simp [hJ];omega
 have hbl:ap i.toNat l.length=true:=by simpa using il
 have hLm:L.map (RT.pv q)=(l.map (RT.pv q)).take i.toNat++m.map (RT.pv q)++(l.map (RT.pv q)).drop i.toNat:=by
  rw [hL,bv,bv,bm,cg]
 simp [step,hf,GH,hb1,hb2,m1,htu,hz,i0,hmost,il,hll,hS.len,dO,IE,hLm]
theorem PP {α:Type} {l m r:List α} (h:TY l m=some r):1<=l.length+m.length/\l.length+m.length<=1048576/\r=l++m:=by
 unfold TY at h;split at h
 · rename_i hc
   injection h with h;exact ⟨hc.1,hc.2,h.symm⟩
 cases h
theorem PQ {args:List SV} {s:List SB} {z:List Nat} {a:aJi} (h:UA args s z=some a):
 ∃cap x m,args=[.part a.t 0 2 cap x]/\nth s a.t=some (.box [.sl a.r a.l,.sl a.r m])/\a.m=m/\a.r.length=1/\has z a.t=false:=by
 unfold UA at h;split at h
 case h_2=>cases h
 split at h
 case h_2=>cases h
 split at h
 case h_2=>cases h
 rename_i m' hm;cases hc:(ar _ 1&&ar _ 0&&ar _ 2&&_) with
 |false=>rw [hc] at h;cases h
 |true=>
  rw [hc] at h;injection h with h;subst h;simp only [ac,co,au] at hc;obtain ⟨rfl,rfl⟩:=kD hm;obtain ⟨⟨⟨h1,rfl⟩,rfl⟩,h2⟩:=hc;exact ⟨_,_,_,rfl,by assumption,rfl,h1,h2⟩
theorem F0 {r:List PT} (h:r.length=1) (l:List (RT r)):oZ (l.map (RT.pv r))=true:=by
 unfold oZ;rw [bu];intro x hx;obtain ⟨a,_,rfl⟩:=d5.1 hx
 match r,h with
 | [p],_=>
  show (ar [p.pv a].length 1&&[p.pv a].all PV.plain)=true;cases p<;>rfl
theorem L5 {f:FuncId} (hf:F f=some (.shp GF)) {R':Type} {args:List SV} {s:List SB} {z:List Nat} {k:SV->List SB->List Nat->dQ R'} {ρ:Type} {w:R'->ρ} {y:ρ} {pa:List PV} {ps:bH}
 {Q:R'->PV->bH->List Nat->Prop} (ha:RL s args pa) (hS:bI s ps) (he:aDZ args s z k ρ w=some y)
 (hk: ∀v s' z' p ps' ρ' (w':R'->ρ') y',R s' v p->bI s' ps'->k v s' z' ρ' w'=some y'-> ∃r,y'=w' r/\Q r p ps' z'): ∃r,y=w r/\vB F f pa ps z (fun p ps' z'=>Q r p ps' z'):=by
 unfold aDZ at he;cases hA:UA args s z with
 |none=>rw [hA] at he;cases he
 |some a=>
 rw [hA] at he;dsimp only at he;obtain ⟨l',hl,he⟩:=bK he;obtain ⟨cap,x,m0,rfl,ht,hm,he1,hz⟩:=PQ hA;obtain ⟨t,q,l,m⟩:=a;dsimp only at*;subst hm;obtain ⟨hp,hle,rfl⟩:=PP hl;obtain ⟨p0,pr0,rfl,h0,ha⟩:=ha;obtain rfl:pr0=[]:=ha;have ht':s[t]? =some (.box [.sl q l,.sl q m]):=by rw [<- bG];exact ht
 obtain ⟨e0,rfl,o0⟩:=h0;obtain rfl:e0=1:=by
  rcases o0 with ⟨r1,l1,a,b⟩|a|⟨_,a,b⟩
  · rw [ht'] at a;cases a
  · rw [ht'] at a;cases a
  exact b
 obtain ⟨b1,hb1,hb1'⟩:=hS.at_ t _ ht';obtain ⟨ps1,rfl,p1,q1,rfl,hp1,p2,q2,rfl,hp2,rfl⟩:=hb1';have hp1:p1= .sl q.length false (l.map (RT.pv q)):=hp1;have hp2:p2= .sl q.length false (m.map (RT.pv q)):=hp2;subst hp1 hp2;have hlen:(yF [t] (s.set t .dead)).length=s.length:=by rw [pL];simp
 obtain ⟨L,hL⟩: ∃L,L=l++m:=⟨_,rfl⟩;rw [<- hL] at he;have G:=eA.put hS (b:= .dead) (q:= .dead) (l:=[.arr q L]) (ql:=[.arr q.length (L.map (RT.pv q))]) (v:= .own s.length false)
  (p:= .own s.length q.length 0 L.length L.length false) (rd:=[]) ht' (.inr rfl) rfl rfl
  (fun j b hj=>by
   cases j with
   |zero=>simp at hj;subst hj;exact ⟨_,rfl,rfl⟩
   |succ j=>simp at hj)
  ⟨q.length,L.length,rfl,.inl ⟨q,L,by rw [<- hlen];exact iH,rfl,rfl⟩⟩
 have hll:L.length=l.length+m.length:=by rw [hL];simp
 obtain ⟨rr,hr,hq⟩:=hk _ _ _ _ _ _ _ _ G.v G.sto he;refine ⟨rr,hr,1,_,_,_,?_,hq⟩;rw [gU];have hmost:ap (l.length+m.length) hJ=true:=by simp [hJ];omega
 have hpos:ap 1 (l.length+m.length)=true:=by simpa using hp
 have hLm:L.map (RT.pv q)=l.map (RT.pv q)++m.map (RT.pv q):=by rw [hL,bv]
 have hc:(ar 1 1&&ar 0 0&&ar 2 2&&!has z t&&oZ (l.map (RT.pv q))&&oZ (m.map (RT.pv q))&&ap 1 ((l.map (RT.pv q)).length+(m.map (RT.pv q)).length)&&ap ((l.map (RT.pv q)).length+(m.map (RT.pv q)).length) hJ&&(ar q.length 1||(l.map (RT.pv q)).isEmpty)&&(ar q.length 1||(m.map (RT.pv q)).isEmpty))=true:=by
  rw [F0 he1,F0 he1,hz,ax,ax,hpos,hmost,he1];rfl
 simp only [step,hf];unfold GF
 dsimp only;rw [hb1];dsimp only;rw [hc];simp [hS.len,dO,IE,hLm,hll,he1]
theorem JU: ∀(p:PT) (a:p.T),xB p (p.pv a)=some a
 | .i k,a=>by
  have:cT k k=true:=cQ.2 rfl
  simp [xB,PT.pv,this]
 | .b,a=>rfl
theorem NJ: ∀(r:List PT) (a:RT r),EU r (RT.pv r a)=some a
 | [],a=>rfl
 | [p],a=>JU p a
 |p::q::r,a=>by
  show (match xB p (p.pv a.1),EU (q::r) (RT.pv (q::r) a.2) with
   |some a,some b=>some (a,b)
   |_,_=>none)=_
  rw [JU,NJ (q::r)]
theorem JV (r:List PT): ∀l:List (RT r),AD r (l.map (RT.pv r))=some l
 | []=>rfl
 |a::l=>by
  show (match EU r (RT.pv r a),AD r (l.map (RT.pv r)) with
   |some a,some l=>some (a::l)
   |_,_=>none)=_
  rw [NJ,JV r l]
theorem UR {s:List SB} {g:Option FuncId} {a:List SV} {p:List PV} (h:AE g a=true) (hr:RL s a p):T6 g p=true:=by
 unfold AE at h;split at h
 · obtain rfl:p=[]:=hr
   rfl
 · obtain ⟨p0,pr,rfl,h0,hr⟩:=hr
   obtain rfl:pr=[]:=hr;obtain ⟨x,y,rfl,hx,hy⟩:=h0;obtain rfl:x=[]:=hx;obtain rfl:y=[]:=hy;exact h
 cases h
theorem PR {r:List PT} {g:Option FuncId} {args:List SV} {s:List SB} {z:List Nat} {t:Nat} {o:Option Nat} {l:List (RT r)} (h:UB r g args s z=some (t,o,l)):
 ∃x a,args=x::a/\nth s t=some (.arr r l)/\has z t=false/\AE g a=true/\((o=none/\ ∃ex,x= .own t ex)\/ ∃len cap ex,o=some len/\x= .pre t len cap ex):=by
 unfold UB at h;split at h
 · split at h
   · split at h
     · rename_i hm
       cases hc:(!has z _&&AE g _) with
       |false=>rw [hc] at h;cases h
       |true=>
        rw [hc] at h;simp only [cond_true,ah,aq] at h;obtain ⟨rfl,rfl,rfl⟩:=h;simp only [ac,au] at hc;obtain ⟨rfl,rfl⟩:=kD hm;exact ⟨_,_,rfl,by assumption,hc.1,hc.2,.inl ⟨rfl,_,rfl⟩⟩
     cases h
   cases h
 · split at h
   · split at h
     · rename_i hm
       cases hc:(!has z _&&AE g _) with
       |false=>rw [hc] at h;cases h
       |true=>
        rw [hc] at h;simp only [cond_true,ah,aq] at h;obtain ⟨rfl,rfl,rfl⟩:=h;simp only [ac,au] at hc;obtain ⟨rfl,rfl⟩:=kD hm;exact ⟨_,_,rfl,by assumption,hc.1,hc.2,.inr ⟨_,_,_,rfl,rfl⟩⟩
     cases h
   cases h
 cases h
theorem L6 {α:Type} {f:List α->Option (List α)} {l m:List α} (h:CI f l=some m):l.length<=1048576/\f l=some m/\m.length=l.length:=by
 unfold CI at h;split at h
 · rename_i hl
   split at h
   · rename_i m' hm
     split at h
     · rename_i he
       injection h with h;subst h;exact ⟨hl,hm,he⟩
     cases h
   cases h
 cases h
theorem HA {α:Type} {f:List α->Option (List α)} {n:Nat} {l m:List α} (h:BG f n l=some m):n<=l.length/\ ∃m',CI f (l.take n)=some m'/\m=m'++l.drop n:=by
 unfold BG at h;split at h
 · rename_i hn
   cases hm:CI f (l.take n) with
   |none=>rw [hm] at h;cases h
   |some m'=>
    rw [hm] at h;injection h with h;exact ⟨hn,m',rfl,h.symm⟩
 cases h
theorem L7 {q:Srt} {f:FuncId} (hf:F f=some (.shp (G0 q))) {R':Type} {args:List SV} {s:List SB} {z:List Nat} {k:SV->List SB->List Nat->dQ R'} {ρ:Type} {w:R'->ρ} {y:ρ} {pa:List PV} {ps:bH}
 {Q:R'->PV->bH->List Nat->Prop} (ha:RL s args pa) (hS:bI s ps) (he:aD0 q args s z k ρ w=some y)
 (hk: ∀v s' z' p ps' ρ' (w':R'->ρ') y',R s' v p->bI s' ps'->k v s' z' ρ' w'=some y'-> ∃r,y'=w' r/\Q r p ps' z'): ∃r,y=w r/\vB F f pa ps z (fun p ps' z'=>Q r p ps' z'):=by
 have key: ∀(t len:Nat) (l m':List (RT q.r)) (ex:Bool) (cap:Nat) (pr:List PV) (a:List SV),s[t]? =some (.arr q.r l)->has z t=false->AE q.g a=true->RL s a pr->pa= .own t q.r.length 0 len cap ex::pr->len<=l.length->CI q.fn (l.take len)=some m'->
  k (.tup []) (dL.stoOf s {v:= .tup [],wr:=[(t,.arr q.r (m'++l.drop len))]}) z ρ w=some y-> ∃r,y=w r/\vB F f pa ps z (fun p ps' z'=>Q r p ps' z'):=by
  intro t len l m' ex cap pr a ht hz hg har hpa hlen hso he;subst hpa;obtain ⟨s1,s2,s3⟩:=L6 hso;obtain ⟨b1,hb1,hb1'⟩:=hS.at_ t _ ht;have hb1':b1= .arr q.r.length (l.map (RT.pv q.r)):=hb1';subst hb1';have hll:(l.take len).length=len:=by rw [bj];omega
  have hml:(m'++l.drop len).length=l.length:=by rw [ch,da,s3,hll];omega
  have G:=eA.put hS (b:= .arr q.r (m'++l.drop len)) (q:= .arr q.r.length ((m'++l.drop len).map (RT.pv q.r))) (l:=[]) (ql:=[]) (v:= .tup []) (p:= .tup []) (rd:=[]) ht (.inl ⟨_,rfl,hml⟩) rfl rfl
   (fun j b hj=>by simp at hj) ⟨[],rfl,rfl⟩
  obtain ⟨rr,hr,hq⟩:=hk _ _ _ _ _ _ _ _ G.v G.sto he;refine ⟨rr,hr,1,_,_,_,?_,hq⟩;rw [gU];have hg':=UR hg har;have hrt:AD q.r ((l.map (RT.pv q.r)).take len)=some (l.take len):=by rw [<- bm];exact JV q.r _
  have hbl:ap len l.length=true:=by simpa using hlen
  have hmo:ap len hJ=true:=by simp [hJ];omega
  have hbe:ar m'.length (l.take len).length=true:=by rw [s3];exact bi _
  simp only [step,hf,G0,hb1,ax,bi,hbl,hmo,hz,hg',hrt,s2,hbe,cd,cp,if_true,Option.map_some,dO,IE,bv,cg]
 unfold aD0 at he;cases hA:UB q.r q.g args s z with
 |none=>rw [hA] at he;cases he
 |some u=>
  obtain ⟨t,o,l⟩:=u;rw [hA] at he;obtain ⟨x,a,rfl,ht,hz,hg,h⟩:=PR hA;obtain ⟨p0,pr,rfl,h0,ha⟩:=ha;rw [bG] at ht;rcases h with ⟨rfl,ex,rfl⟩|⟨len,cap,ex,rfl,rfl⟩
  · obtain ⟨m,hm,he⟩:=bK he
    obtain ⟨e0,n0,rfl,o0⟩:=h0;obtain ⟨rfl,rfl⟩:e0=q.r.length/\n0=l.length:=by
     rcases o0 with ⟨r1,l1,a,b,c⟩|a
     · rw [ht] at a;injection a with a;injection a with a1 a2;subst a1;cases a2;exact ⟨b,c⟩
     rw [ht] at a;cases a
    refine key t l.length l m ex l.length pr a ht hz hg ha rfl (df _) (by rw [List.take_length];exact hm) ?_
    rw [List.drop_length,bd];exact he
  obtain ⟨m,hm,he⟩:=bK he
  obtain ⟨e0,rfl,o0⟩:=h0;obtain rfl:e0=q.r.length:=by
   rcases o0 with ⟨r1,l1,a,b⟩|a|⟨_,a,_⟩
   · rw [ht] at a;injection a with a;injection a with a1 a2;subst a1;exact b
   · rw [ht] at a;cases a
   rw [ht] at a;cases a
  obtain ⟨hn,m',hso,rfl⟩:=HA hm;exact key t len l m' ex cap pr a ht hz hg ha rfl hn hso he
theorem HB (hcx:aL F cx): ∀n,JQ F (RG cx n)
 |0=>fun f args s z R' k ρ w y pa ps Q _ _ h _=>by cases h
 |n+1=>fun f args s z R' k ρ w y pa ps Q ha hS h hk=>by
  simp only [RG] at h;cases hx:cx.code f with
  |none=>rw [hx] at h;cases h
  |some x=>
   rw [hx] at h;cases x with
   |code x=>exact rV hcx (HB hcx n) (hcx.code f _ hx) ha hS h hk
   |ins e=>exact L4 (hcx.code f _ hx) ha hS h hk
   |srt q=>exact L7 (hcx.code f _ hx) ha hS h hk
   |cat=>exact L5 (hcx.code f _ hx) ha hS h hk
def US:Kd->Bool->Bool
 | .own,b=>b
 |_,b=>!b
def SC (kd:Kd) {β:Type} (res:aE β) (b:β) (p:PV) (ps:bH) (z:List Nat):Prop:=
 match kd with
 | .pure=>p.noref=true/\mA (res.enc b)=some p
 | .frz=>p.noref=false/\ ∃q,sU ps p=some q/\mA (res.enc b)=some q
 | .own=> ∀nx,∃p0 p' q seen,tR ps z nx [] p=some (p',q,seen)/\mA (res.enc b)=some p0/\C8 nx p0=some (p',q)
mutual
theorem JW {s:List SB}: ∀{v:SV} {p:PV},R s v p->vK v=true->mA v=some p
 | .int _ _,p,h,_| .bool _,p,h,_| .str _,p,h,_=>by rw [show p=_ from h];rfl
 | .agg cs,p,h,hn=>by obtain ⟨q,rfl,h⟩:=h;simp only [mA,pure_pvL h hn]
 | .tup cs,p,h,hn=>by obtain ⟨q,rfl,h⟩:=h;simp only [mA,pure_pvL h hn]
 | .junk,_,_,h| .undef,_,_,h| .nul,_,_,h| .nilf,_,_,h| .sl _ _,_,_,h| .nil _ _,_,_,h| .own _ _,_,_,h| .pre _ _ _ _,_,_,h| .part _ _ _ _ _,_,_,h| .pa _ _ _ _ _,_,_,h| .pb _ _ _,_,_,h| .bp _ _ _,_,_,h| .rptr _ _,_,_,h| .clo _ _ _,_,_,h| .mp _,_,_,h=>by cases h
theorem pure_pvL {s:List SB}: ∀{v:List SV} {p:List PV},RL s v p->norefSL v=true->pvL v=some p
 | [],p,h,_=>by rw [show p=_ from h];rfl
 |x::xs,p,h,hn=>by
  obtain ⟨a,as,rfl,h1,h2⟩:=h.cons_inv;simp only [norefSL,ac] at hn;exact cD.2 ⟨_,_,rfl,JW h1 hn.1,pure_pvL h2 hn.2⟩
end
theorem L8 {kd:Kd} {β:Type} {res:aE β} {v:SV} {s:List SB} {z:List Nat} {p:PV} {ps:bH} {ρ:Type} {w:β->ρ} {y:ρ} (hv:R s v p) (hS:bI s ps) (h:RH kd res v s z ρ w=some y):
 ∃b,y=w b/\SC kd res b p ps z:=by
 unfold RH at h;cases kd with
 |pure=>
  dsimp only at h;obtain ⟨h1,h2⟩:=bL h;obtain ⟨b,h3,h4⟩:=aX h2;injection h4 with h4;exact ⟨b,h4.symm,JO hv h1,res.law h3 (JW hv h1)⟩
 |frz=>
  dsimp only at h;obtain ⟨h1,h2⟩:=lU h;obtain ⟨u,h3,h4⟩:=aX h2;obtain ⟨b,h5,h6⟩:=aX h4;injection h6 with h6;obtain ⟨q,h7,h8⟩:=aDH hS hv h3;exact ⟨b,h6.symm,F0s hv h1 h3,q,h7,res.law h5 h8⟩
 |own=>
  dsimp only at h;obtain ⟨u,h3,h4⟩:=aX h;obtain ⟨b,h5,h6⟩:=aX h4;injection h6 with h6;refine ⟨b,h6.symm,fun nx=>?_⟩
  obtain ⟨p0,p',q,h7,h8,h9⟩:=R5 hS (v':=u.1) (seen':=u.2) nx hv h3;exact ⟨p0,p',q,u.2,h9,res.law h5 h7,h8⟩
theorem bI.nil:bI [] []:=⟨rfl,fun t b h=>by simp at h⟩
theorem aB.of {f:FuncId} {x:aF} {α β:Type} {args:aC α} {res:aE β} {kd:Kd} {fn:α->Option β} {ow:Bool} (hf:F f=some (.code x)) (ho:US kd ow=true) (hcx:aL F cx)
 (h: ∀a,aDE cx x args res kd a=fn a):aB F f ⟨args,res,fn,kd,ow⟩:=by
 intro a b as pa sto fz hb hpa hex;have hb:fn a=some b:=hb;rw [<- h a] at hb;obtain ⟨r,hr,n,v,s,z,hrun,hl⟩:=rV hcx (HB hcx 8) hf (Q:=fun r p ps z=>SC kd res r p ps z) (pvL_R hpa) bI.nil hb (fun v s' z' p ps' ρ' w' y' hv hS hk=>L8 hv hS hk)
 have hr':b=r:=hr;subst hr';cases kd with
 |pure=>
  obtain ⟨h1,h2⟩:=hl;have how:ow=false:=by simpa [US] using ho
  subst how;refine ⟨n,{v:=v,rd:=toksL (bQ sto cJ) as},?_,v,h2,rfl⟩;simp only [callPure,hex,hf,hrun,ay,if_false,h1,if_true]
 |frz=>
  obtain ⟨h1,q,h2,h3⟩:=hl;have how:ow=false:=by simpa [US] using ho
  subst how;refine ⟨n,{v:=q,rd:=toksL (bQ sto cJ) as,fr:=toksL (bQ sto cJ) as},?_,q,h3,rfl⟩;simp only [callPure,hex,hf,hrun,ay,if_false,h1,h2]
 |own=>
  have how:ow=true:=ho;subst how;obtain ⟨p0,p',q,seen,h1,h2,h3⟩:=hl sto.length;refine ⟨n,{v:=p',news:=q,rd:=toksL (bQ sto cJ) as},?_,p0,p',q,h2,h3,rfl⟩;simp only [callPure,hex,hf,hrun,if_true,h1]
theorem JX: ∀(s:List SB) (q:List qZ),(vL s q).1.length=s.length
 | [],q=>rfl
 |b::r,q=>by simp only [vL,bc,JX r]
mutual
theorem R.take {s:List SB} {k:Nat}: ∀{v:SV} {p:PV},R s v p->(∀t∈LM mQ v,t<k)->R (s.take k) v p
 | .junk,_,_,_=>trivial
 | .undef,_,h,_| .nul,_,h,_| .nilf,_,h,_| .int _ _,_,h,_| .bool _,_,h,_| .str _,_,h,_| .sl _ _,_,h,_| .nil _ _,_,h,_| .bp _ _ _,_,h,_| .mp _,_,h,_=>h
 | .agg cs,_,h,ht=>by obtain ⟨q,rfl,h⟩:=h;exact ⟨q,rfl,RL.takeS h ht⟩
 | .tup cs,_,h,ht=>by obtain ⟨q,rfl,h⟩:=h;exact ⟨q,rfl,RL.takeS h ht⟩
 | .rptr cs o,_,h,ht=>by obtain ⟨q,rfl,h⟩:=h;exact ⟨q,rfl,RL.takeS h ht⟩
 | .clo f a b,_,h,ht=>by
  obtain ⟨pa,pb,rfl,h1,h2⟩:=h;exact ⟨pa,pb,rfl,RL.takeS h1 (fun t h=>ht t (cu _ h)),RL.takeS h2 (fun t h=>ht t (cm _ h))⟩
 | .own t ex,_,h,ht=>by
  obtain ⟨e,n,rfl,hat⟩:=h;have hk:=ht t (cj.2 rfl);refine ⟨e,n,rfl,?_⟩;rcases hat with ⟨r,l,h1,h2,h3⟩|h1
  · exact .inl ⟨r,l,by rw [ai hk];exact h1,h2,h3⟩
  exact .inr (by rw [ai hk];exact h1)
 | .pre t a b c,_,h,ht=>by
  obtain ⟨e,rfl,hat⟩:=h;have hk:=ht t (cj.2 rfl);refine ⟨e,rfl,?_⟩;rcases hat with ⟨r,l,h1,h2⟩|h1
  · exact .inl ⟨r,l,by rw [ai hk];exact h1,h2⟩
  exact .inr (by rw [ai hk];exact h1)
 | .part t o a b c,_,h,ht=>by
  obtain ⟨e,rfl,hat⟩:=h;have hk:=ht t (cj.2 rfl);refine ⟨e,rfl,?_⟩;rcases hat with ⟨r,l,h1,h2⟩|h1
  · exact .inl ⟨r,l,by rw [ai hk];exact h1,h2⟩
  exact .inr (by rw [ai hk];exact h1)
 | .pa t r i a o,_,h,ht=>by
  obtain ⟨rfl,hat⟩:=h;have hk:=ht t (ci ..);refine ⟨rfl,?_⟩;rcases hat with ⟨l,h1,h2⟩|h1
  · exact .inl ⟨l,by rw [ai hk];exact h1,h2⟩
  exact .inr (by rw [ai hk];exact h1)
 | .pb t i o,_,h,ht=>by
  obtain ⟨e,rfl,hat⟩:=h;have hk:=ht t (ci ..);refine ⟨e,rfl,?_⟩;rcases hat with ⟨r,l,h1,h2⟩|h1
  · exact .inl ⟨r,l,by rw [ai hk];exact h1,h2⟩
  exact .inr (by rw [ai hk];exact h1)
theorem RL.takeS {s:List SB} {k:Nat}: ∀{v:List SV} {p:List PV},RL s v p->(∀t∈tkVL mQ v,t<k)->RL (s.take k) v p
 | [],_,h,_=>h
 |x::xs,_,h,ht=>by
  obtain ⟨a,as,rfl,h1,h2⟩:=h.cons_inv;exact RL.cons (R.take h1 (fun t h=>ht t (cu _ h))) (RL.takeS h2 (fun t h=>ht t (cm _ h)))
end
theorem DC {R' ρ:Type} {w:R'->ρ} {y:ρ}: ∀{s s':List SB} {k:dQ R'},xD s s' k ρ w=some y->k ρ w=some y/\s'.length=s.length/\ ∀(t:Nat) (x z:SB),s[t]? =some x->s'[t]? =some z->R7 x z
 | [],[],k,h=>⟨h,rfl,fun t x z h=>by simp at h⟩
 | [],_::_,k,h=>by cases h
 |_::_,[],k,h=>by cases h
 |x::xs,y'::ys,k,h=>by
  have step: ∀(_:xD xs ys k ρ w=some y) (_:R7 x y'),k ρ w=some y/\(y'::ys).length=(x::xs).length/\ ∀(t:Nat) (a b:SB),(x::xs)[t]? =some a->(y'::ys)[t]? =some b->R7 a b:=by
   intro h hx;obtain ⟨h1,h2,h3⟩:=DC h;refine ⟨h1,by simpa using h2,fun t a b ha hb=>?_⟩
   cases t with
   |zero=>simp at ha hb;subst ha hb;exact hx
   |succ t=>exact h3 t a b (by simpa using ha) (by simpa using hb)
  cases x with
  |arr r l=>
   cases y' with
   |arr q m=>
    obtain ⟨hr,h2⟩:=bL (a:=dV (m.length==l.length) (xD xs ys k) aI) h;obtain ⟨hl,h3⟩:=eO h2;exact step h3 ⟨oK hr,by simpa using hl⟩
   |_=>cases h
  |dead=>cases y' with
   |dead=>exact step h trivial
   |_=>cases h
  |box cs=>cases y' with
   |box _=>exact step h trivial
   |_=>cases h
  |set l=>cases y' with
   |set _=>exact step h trivial
   |_=>cases h
  |tab p l=>cases y' with
   |tab _ _=>exact step h trivial
   |_=>cases h
theorem DD: ∀{s:List SB},CU s=true-> ∀(t:Nat) (b:SB),s[t]? =some b->tC b=true
 | [],_,t,b,h=>by simp at h
 |x::xs,hs,0,b,h=>by simp only [CU,ac] at hs;simp at h;subst h;exact hs.1
 |x::xs,hs,t+1,b,h=>by simp only [CU,ac] at hs;exact DD hs.2 t b (by simpa using h)
theorem fL.of {f:FuncId} {x:aF} {wd:Bool} {ka ko:List AK} {ta:List SV} {tb to:List SB} {tv:SV} {fn:gB ka->Option (gB ko)} (hf:F f=some (.code x)) (hcx:aL F cx)
 (h: ∀a,aLa wd cx x ka ta tb ko tv to a=fn a):fL F f ⟨ka,ta,tb,ko,tv,to,fn⟩:=by
 intro a b pa ps hb ha hS;rw [show (⟨ka,ta,tb,ko,tv,to,fn⟩:bW).fn a=fn a from rfl,<- h a] at hb;have hlen:(bW.sa ⟨ka,ta,tb,ko,tv,to,fn⟩ a).length=tb.length:=JX _ _;obtain ⟨r,hr,n,v,s,z,hrun,hz,hq⟩:=rV hcx (HB hcx 8) hf (Q:=fun (r:gB ko) p ps' z'=>z'=[]/\eM tb.length p ps'=true/\
  R (bW.sb ⟨ka,ta,tb,ko,tv,to,fn⟩ r) (bW.vb ⟨ka,ta,tb,ko,tv,to,fn⟩ r) p/\bI (bW.sb ⟨ka,ta,tb,ko,tv,to,fn⟩ r) (ps'.take tb.length)/\
  (bW.sb ⟨ka,ta,tb,ko,tv,to,fn⟩ r).length=(bW.sa ⟨ka,ta,tb,ko,tv,to,fn⟩ a).length/\
  ∀(t:Nat) (x y:SB),(bW.sa ⟨ka,ta,tb,ko,tv,to,fn⟩ a)[t]? =some x->(bW.sb ⟨ka,ta,tb,ko,tv,to,fn⟩ r)[t]? =some y->R7 x y) ha hS hb (fun v s' z' p ps' ρ' w' y' hv hS' hk=>by
  cases z' with
  |cons _ _=>cases hk
  |nil=>
   dsimp only at hk;obtain ⟨hc,hk⟩:=bL hk;simp only [ac] at hc;obtain ⟨⟨⟨⟨c1,c2⟩,c3⟩,c4⟩,c5⟩:=hc;obtain ⟨hk,f1,f2⟩:=DC hk;obtain ⟨r,hr,hk⟩:=aX hk;injection hk with hk;have hu:R s' (bif wd then FI s' v else v) p:=by
    cases wd with
    |true=>exact NC hv
    |false=>exact hv
   generalize (bif wd then FI s' v else v)=u at c1 c3 c4 hr hu
   have hats:=mC hr;have hvb:bW.vb ⟨ka,ta,tb,ko,tv,to,fn⟩ r=u:=by
    show (mT tv (iG ko r)).1=u;rw [hats,BI _ c1]
   have hsb:bW.sb ⟨ka,ta,tb,ko,tv,to,fn⟩ r=s'.take tb.length:=by
    show (vL to (mT tv (iG ko r)).2).1=_;rw [hats,BI _ c1]
    have:=xN [] c2
    rw [bd] at this;rw [this]
   have hle:tb.length<=s'.length:=by
    have:=f1
    rw [bj] at this;have h2:(bW.sa ⟨ka,ta,tb,ko,tv,to,fn⟩ a).length=tb.length:=hlen;have h3:min tb.length s'.length=tb.length:=by rw [this];exact h2
    omega
   unfold aDD at c3;rw [bu] at c3;have hkv: ∀t∈LM mQ u,t<tb.length:=fun t ht=>by simpa using c3 t (cu _ ht)
   have hkb: ∀b∈s'.take tb.length,∀t∈CL b,t<tb.length:=fun b hb t ht=>by simpa using c3 t (cm _ (dw.2 ⟨b,hb,ht⟩))
   have hsto:bI (s'.take tb.length) (ps'.take tb.length):=⟨by simp [hS'.len],fun t x hx=>by
    have hlt:t<tb.length:=by
     have:=(ae.1 hx).1
     rw [bj] at this;omega
    have hx':=hx;rw [ai hlt] at hx';obtain ⟨q,q1,q2⟩:=hS'.at_ t x hx';refine ⟨q,by rw [ai hlt];exact q1,?_⟩
    cases x with
    |box cs=>
     obtain ⟨pc,rfl,hpc⟩:=q2;exact ⟨pc,rfl,RL.takeS hpc (hkb _ (ct hx))⟩
    |_=>exact q2⟩
   refine ⟨r,hk.symm,rfl,?_,by rw [hvb,hsb];exact R.take hu hkv,by rw [hsb];exact hsto,by rw [hsb];exact f1,by rw [hsb];exact f2⟩
   unfold eM;rw [bu];intro t ht;rw [dy] at ht;rcases ht with ht|ht
   · rw [<- RZ (bx:=mQ) (fun _=>rfl) hu c4] at ht
     simpa using hkv t ht
   rw [dw] at ht
   obtain ⟨q,hq,ht⟩:=ht;obtain ⟨j,hj,he⟩:=cv hq;have hjl:j<(s'.take tb.length).length:=by rw [<- hsto.len];exact hj
   obtain ⟨x,hx⟩: ∃x,(s'.take tb.length)[j]? =some x:=⟨_,aj hjl⟩;obtain ⟨q',q1,q2⟩:=hsto.at_ j x hx;rw [aj hj,he] at q1;injection q1 with q1;subst q1;rw [<- G5 q2 (DD c5 j x hx)] at ht;simpa using hkb x (ct hx) t ht)
 have hr':b=r:=hr;subst hr';subst hz;refine ⟨n,v,s,hrun,?_⟩;rw [hlen];obtain ⟨h1,h2,h3,h4,h5⟩:=hq;exact ⟨h1,h2,h3,by rw [h4,hlen],h5⟩
theorem L9 {f:FuncId} {r:List PT} (hf:F f=some (.prim false (cX r.length))) (l:List (RT r)) (hl:l.length<=1048576) {as:List PV} {sto:bH} {fz:List Nat} (hex:exL sto (tJ sto cJ) as=some [.sl r.length false (l.map (RT.pv r))]):
 ∃n x,callPure F (run F n) false f as sto fz=some x/\aDI .own sto.length (toksL (bQ sto cJ) as) (.sl r l) x:=by
 refine ⟨0,{v:= .own sto.length r.length 0 l.length l.length false,news:=[.arr r.length (l.map (RT.pv r))],rd:=toksL (bQ sto cJ) as},?_,.sl r.length false (l.map (RT.pv r)),.own sto.length r.length 0 l.length l.length false,[.arr r.length (l.map (RT.pv r))],rfl,by simp only [C8,ax],rfl⟩
 simp only [callPure,hex,hf];cases l with
 |nil=>rfl
 |cons a l=>
  have h2:ap ((l.map (RT.pv r)).length+1) hJ=true:=by simp [hJ] at hl ⊢;omega
  simp only [be,cX,bi,h2,bh,if_true,tR];simp [has]
theorem aB.clone {f:FuncId} {n:Nat} {r:List PT} (hf:F f=some (.prim false (cX n))) (hn:n=r.length):aB F f (aU.clone r):=by
 intro (a:List (RT r)) (b:List (RT r)) as pa sto fz hb hpa hex;subst hn;have hb:aZ a=some b:=hb;obtain ⟨rfl,hl⟩:=vO hb;have hpa':pa=[.sl r.length false (b.map (RT.pv r))]:=by
  have:some [PV.sl r.length false (b.map (RT.pv r))]=some pa:=hpa
  exact (de this).symm
 subst hpa';exact L9 hf b hl hex
theorem aB.add64 {f:FuncId} (hf:F f=some (.prim false vA)):aB F f aU.add64:=by
 intro a b as pa sto fz hb hpa hex;obtain ⟨x,y,c⟩:=a;have hb':mB x y c=some b:=hb;unfold mB at hb';cases hc:(decide (0<=x)&&decide (0<=y)&&decide (0<=c)&&decide (c<=1)) with
 |false=>rw [hc] at hb';cases hb'
 |true=>
  rw [hc] at hb';injection hb' with hb';subst hb';simp only [ac,decide_eq_true_eq] at hc;obtain ⟨⟨⟨h1,h2⟩,h3⟩,h4⟩:=hc;obtain ⟨x,rfl⟩:=ba h1;obtain ⟨y,rfl⟩:=ba h2;obtain ⟨c,rfl⟩:=ba h3;have hpa':pa=[.int .u64 (.ofNat x),.int .u64 (.ofNat y),.int .u64 (.ofNat c)]:=by
   have:some [PV.int .u64 (x:Int),.int .u64 (y:Int),.int .u64 (c:Int)]=some pa:=hpa
   exact (de this).symm
  subst hpa';have hcb:ap c 1=true:=by simp;omega
  refine ⟨0,{v:= .tup [.int .u64 (.ofNat ((x+y+c)%18446744073709551616)),.int .u64 (.ofNat ((x+y+c) / 18446744073709551616))],rd:=toksL (bQ sto cJ) as},?_,_,rfl,rfl⟩;show callPure F (run F 0) false f as sto fz=_;simp only [callPure,hex,hf,vA,hcb,if_true];rfl
theorem aB.run0 {f:FuncId} {x:aF} {fn:Unit->Option Bool} (h:aB F f ⟨aC.nil,aE.bool,fn,.pure,false⟩) (hf:F f=some (.code x)) (hb:fn ()=some true): ∃n s z,run F n (.func f [] [] [])=some (.func (.bool true) s z):=by
 obtain ⟨n,r,h1,p,h2,rfl⟩:=h () true [] [] [] [] hb rfl rfl;have hp:p= .bool true:=(de h2).symm;subst hp;refine ⟨n,?_⟩;simp only [callPure,exL,hf] at h1;split at h1
 · rename_i v s z hr
   simp only [ay,if_false] at h1;split at h1
   · injection h1 with h1
     injection h1 with h1;subst h1;exact ⟨s,z,hr⟩
   rename_i hn
   split at h1
   · rename_i v' hv
     injection h1 with h1;injection h1 with h1;subst h1;exfalso;cases v with
     |bool b=>exact hn rfl
     |int _ _|str _|sl _ _ _=>injection hv with hv;cases hv
     |agg cs=>simp only [sU,bl] at hv;obtain ⟨_,_,hv⟩:=hv;cases hv
     |tup cs=>simp only [sU,bl] at hv;obtain ⟨_,_,hv⟩:=hv;cases hv
     |own t e off len cap ex=>simp only [sU] at hv;split at hv<;>first|(injection hv with hv;cases hv)|cases hv
     |_=>cases hv
   cases h1
 cases h1
theorem fL.zero {f:FuncId} {c:bW} (h: ∀a,c.fn a=none):fL F f c:=fun a b pa ps hb=>by rw [h a] at hb;cases hb
theorem aB.zero {f:FuncId} {c:aU} (h: ∀a,c.fn a=none):aB F f c:=fun a b as pa sto fz hb=>by rw [h a] at hb;cases hb
end
end Go.Vm
/- A function that puts the rows of a slice in order: what is asked of it in a program, and that the table's entry is then right. -/
namespace Go.Vm
theorem DE: ∀{p:PT} {x:PV} {a:p.T},xB p x=some a->x=p.pv a
 | .i k,.int l n,a,h=>by
  have h:(bif cT l k then some n else none)=some a:=h
  cases hk:cT l k with
  |false=>rw [hk] at h;cases h
  |true=>
   rw [hk] at h;obtain rfl:=cQ.1 hk;injection h with h;subst h;rfl
 | .b,.bool x,a,h=>by
  have h:some x=some a:=h;injection h with h;subst h;rfl
theorem F1: ∀{r:List PT} {x:List PV} {a:RT r},EU r x=some a->x=RT.pv r a
 | [],[],a,h=>rfl
 | [],_::_,a,h=>by cases h
 | [p],[v],a,h=>by rw [DE (show xB p v=some a from h)];rfl
 | [p],[],a,h=>by cases h
 | [p],_::_::_,a,h=>by cases h
 |p::q::r,[],a,h=>by cases h
 |p::q::r,v::vs,a,h=>by
  have h:(match xB p v,EU (q::r) vs with
   |some a,some b=>some (a,b)
   |_,_=>none)=some a:=h
  cases h1:xB p v with
  |none=>rw [h1] at h;cases h
  |some x=>
   cases h2:EU (q::r) vs with
   |none=>rw [h1,h2] at h;cases h
   |some y=>
    rw [h1,h2] at h;injection h with h;subst h;rw [DE h1,F1 h2];rfl
theorem DF {r:List PT}: ∀{x:List (List PV)} {l:List (RT r)},AD r x=some l->x=l.map (RT.pv r)
 | [],l,h=>by injection h with h;subst h;rfl
 |v::vs,l,h=>by
  have h:(match EU r v,AD r vs with
   |some a,some l=>some (a::l)
   |_,_=>none)=some l:=h
  cases h1:EU r v with
  |none=>rw [h1] at h;cases h
  |some x=>
   cases h2:AD r vs with
   |none=>rw [h1,h2] at h;cases h
   |some y=>
    rw [h1,h2] at h;injection h with h;subst h;rw [F1 h1,DF h2];rfl
def aD8:Option FuncId->List Value
 |none=>[]
 |some g=>[.func (.func g) ⟨[]⟩ ⟨[]⟩]
structure rW (P:Program) (f:FuncId) (q:Srt):Prop where
 some_: ∀(b off c:Nat) (l m:List (RT q.r)) (arr:Array Value) (el:TypeId) (w:World),0<l.length->l.length<=c->l.length<=1048576->q.fn l=some m->m.length=l.length->w.heap[b]? =some (.cells arr el (0,0))->
  aY (fun k=>arr[k]?) off q.r.length (l.map (RT.pv q.r))->off+l.length*q.r.length<=arr.size->
  Calls P f ⟨.slice (some ⟨b,off,none⟩) l.length c::aD8 q.g⟩ w fun x w'=>x= .returned (.tuple #[])/\(∃fin:Array Value,fin.size=arr.size/\w'.heap[b]? =some (.cells fin el (0,0))/\aY (fun k=>fin[k]?) off q.r.length (m.map (RT.pv q.r))/\
   ∀j:Nat,off+l.length*q.r.length<=j->fin[j]? =arr[j]?)/\(∀b':Nat,b'<w.heap.size->b'≠b->w'.heap[b']? =w.heap[b']?)/\w.heap.size<=w'.heap.size/\w'.os=w.os/\w'.tape=w.tape/\w'.output=w.output
 none_: ∀(a:Option Addr) (c:Nat) (w:World),Calls P f ⟨.slice a 0 c::aD8 q.g⟩ w fun x w'=>x= .returned (.tuple #[])/\w'=w
theorem aD9 {im:Im} {loc:bP} {g:Option FuncId} {r:List PV} {us:List Value} (h:T6 g r=true) (hu:VRL im loc r us):us=aD8 g:=by
 unfold T6 at h;split at h
 · cases hu;rfl
 · rename_i g h'
   have:h'=g:=by simpa using h
   subst this;cases hu with
   |cons _ a _ b h1 h2=>
    cases h2;cases h1 with
    |clo _ _ _ as bs ha hb=>cases ha;cases hb;rfl
 cases h
theorem PS {P:Program} {im:Im} {loc:bP} {sto:bH} {fz:List Nat} {w w':World} {t e:Nat} {li:LI} {rows rows':List iN} {arr fin:Array Value} {el:TypeId} (hsr:SR im loc sto fz w) (hl:loc t=some li) (hst:sto[t]? =some (.arr e rows)) (hne:rows≠[]) (hf:has fz t=false)
 (ha:w.heap[li.blk]? =some (.cells arr el (0,0))) (hw:w'.heap[li.blk]? =some (.cells fin el (0,0))) (hfr: ∀b':Nat,b'<w.heap.size->b'≠li.blk->w'.heap[b']? =w.heap[b']?) (hsz:w.heap.size<=w'.heap.size) (ho:w'.os=w.os) (ht:w'.tape=w.tape) (hp:w'.output=w.output)
 (he:li.esz=e) (hn:li.n=rows'.length) (hlen:rows'.length=rows.length) (hfs:fin.size=li.sz) (hfit:li.sh+rows'.length*e<=li.sz) (hr:aY (fun k=>fin[k]?) li.sh e rows'):
 oD im loc sto w (.tup []) (sto.set t (.arr e rows')) fz im loc w' (.tuple #[]):=by
 have htl:t<sto.length:=(ae.1 hst).1;have hne':rows'≠[]:=by intro h;subst h;rw [List.length_nil] at hlen;exact hne (bn.1 hlen.symm)
 have hs0:(fX.arr e rows).solid=true:=iY hne;have hs1:(fX.arr e rows').solid=true:=iY hne';have hfree:=hsr.free t li _ hl hst hs0 hf;have old: ∀{u:Nat} {k:fX},(sto.set t (.arr e rows'))[u]? =some k->(u=t/\k= .arr e rows')\/(u≠t/\sto[u]? =some k):=by
  intro u k h;rw [am] at h;split at h
  · rename_i e1;subst e1;first|(rw [if_pos htl] at h;injection h with h;exact .inl ⟨rfl,h.symm⟩)|(injection h with h;exact .inl ⟨rfl,h.symm⟩)
  rename_i hne;exact .inr ⟨fun e=>hne e.symm,h⟩
 have sol: ∀{u:Nat} {k:fX},(sto.set t (.arr e rows'))[u]? =some k->k.solid=true-> ∃k0,sto[u]? =some k0/\k0.solid=true:=by
  intro u k h hs;rcases old h with ⟨rfl,rfl⟩|⟨_,h⟩
  · exact ⟨_,hst,hs0⟩
  exact ⟨k,h,hs⟩
 have lt: ∀{b:Nat} {o:Obj},w.heap[b]? =some o->b<w.heap.size:=fun h=>(Array.getElem?_eq_some_iff.1 h).1
 exact {
  imle:= .refl _,locle:= .refl _
  vr:= .tup _ _ .nil
  sr:={
   im_ok:=fun b o hb=>by
    have h1:=hsr.im_ok b o hb;have h2:b≠li.blk:=fun h=>by rw [h,hfree] at hb;cases hb
    rw [hfr b (lt h1) h2];exact h1
   blk:=fun u lu hu=>by
    obtain ⟨k,hk,hb⟩:=hsr.blk u lu hu
    by_cases e1:u=t
    · subst e1
      rw [hl] at hu;injection hu with hu;subst hu;exact ⟨_,List.getElem?_set_self htl,he,hn,fun _=>⟨fin,el,hw,hfs,hfit,hr⟩⟩
    refine ⟨k,by rw [List.getElem?_set_ne (fun h=>e1 h.symm)];exact hk,hb.keep (.refl _) (.refl _) fun hs=>?_⟩
    exact hfr _ (hb.lt hs) fun h=>e1 (hsr.excl _ _ _ _ _ _ hu hl hk hst hs hs0 h)
   excl:=fun u v lu lv k k' hu hv hk hk' hs hs' h=>by
    obtain ⟨k0,a,b⟩:=sol hk hs;obtain ⟨k1,c,d⟩:=sol hk' hs';exact hsr.excl _ _ _ _ _ _ hu hv a c b d h
   free:=fun u lu k hu hk hs hz=>by
    obtain ⟨k0,a,b⟩:=sol hk hs;exact hsr.free _ _ _ hu a b hz}
  os:=ho,tape:=ht,output:=hp,size:=hsz
  frame:=fun b hb h=>hfr b hb fun h2=>h t li _ hl hst hs0 h2.symm
  imnew:=fun b o h=> .inl h
  locs:=fun u lu h=> .inl h
  own:=fun u lu k hu hk hs=>by
   obtain ⟨k0,a,b⟩:=sol hk hs;exact .inr ⟨u,lu,k0,hu,a,b,rfl⟩}
theorem MA {im:Im} {loc:bP} {sto:bH} {fz:List Nat} {w:World} (hsr:SR im loc sto fz w):oD im loc sto w (.tup []) sto fz im loc w (.tuple #[]) where
 imle:= .refl _
 locle:= .refl _
 vr:= .tup _ _ .nil
 sr:=hsr
 os:=rfl
 tape:=rfl
 output:=rfl
 size:=df _
 frame:=fun _ _ _=>rfl
 imnew:=fun _ _ h=> .inl h
 locs:=fun _ _ h=> .inl h
 own:=fun t li k hl hk hs=> .inr ⟨t,li,k,hl,hk,hs,rfl⟩
theorem wR.srt {P:Program} {f:FuncId} {q:Srt} {fn:Func} {c:Code} (hf:P.funcs[f]? =some fn) (hname:(fn.name== "runtime.NumGoroutine")=false) (hb:fn.body=some c) (h0:q.fn []=some []) (H:rW P f q):wR P f (G0 q):=by
 refine ⟨fn,c,hf,hname,hb,?_⟩;intro args sto fz v sto' fz' hp im loc w us hsr hus;unfold G0 at hp;split at hp
 case h_2=>cases hp
 rename_i t e1 off len cap ex r;split at hp
 case h_2=>cases hp
 rename_i e3 rows hst;split at hp
 case isFalse=>cases hp
 rename_i hc;simp only [ac,co,au,Nat.ble_eq] at hc;obtain ⟨⟨⟨⟨⟨q1,rfl⟩,hlen⟩,hmost⟩,hfz⟩,hg⟩:=hc;subst q1;have hmost:len<=1048576:=hmost;split at hp
 case h_2=>cases hp
 rename_i l hl0;split at hp
 case h_2=>cases hp
 rename_i m hm;split at hp
 case isFalse=>cases hp
 rename_i hml;have hml:m.length=l.length:=by simpa using hml
 injection hp with hp;simp only [aq] at hp;obtain ⟨rfl,rfl,rfl⟩:=hp;have hrows:=DF hl0;have hll:l.length=len:=by
  have:=congrArg List.length hrows
  rw [bj,ax] at this;omega
 obtain ⟨x0,us1,rfl,hx0,hus⟩: ∃x0 us1,us=x0::us1/\VR im loc (.own t q.r.length 0 len cap ex) x0/\VRL im loc r us1:=by cases hus with|cons _ a _ b h1 h2=>exact ⟨a,b,rfl,h1,h2⟩
 obtain rfl:=aD9 hg hus;obtain ⟨li,a,cap',rfl,hl,he,hoff,hlc,hcc,_,hadr⟩:=hx0.own_inv;obtain ⟨k1,hk1,hbr⟩:=hsr.blk t li hl;rw [hst] at hk1;injection hk1 with hk1;subst hk1;obtain ⟨b1,b2,b3⟩:=hbr;obtain rfl:q.r.length=e3:=by rw [<- b1,he]
 refine .inr ⟨eN hf hname hb,?_⟩;rcases dm len with hz|hpos
 · subst hz
   obtain rfl:l=[]:=bn.1 hll;rw [h0] at hm;injection hm with hm;subst hm;refine (H.none_ a cap' w).mono fun x w' ⟨hx,hw⟩=>⟨_,hx,im,loc,?_⟩
   subst hw
   have:sto.set t (.arr q.r.length (([]:List (RT q.r)).map (RT.pv q.r)++rows.drop 0))=sto:=by
    apply cy;intro j;rw [am];split
    · rename_i e;subst e;rw [if_pos (ae.1 hst).1,hst];rfl
    rfl
   rw [this];exact MA hsr
 have hrne:rows≠[]:=by intro h;subst h;simp at hlen;omega
 obtain ⟨arr,el,ha1,ha2,ha3,hat⟩:=b3 hrne;obtain ⟨hn0,rfl,hfit⟩:li.n≠0/\a=some ⟨li.blk,li.sh,none⟩/\li.sh+cap'*q.r.length<=li.sz:=by
  rcases hadr with h|⟨h1,h2,h3⟩
  · omega
  exact ⟨h1,by simpa using h2,by simpa using h3⟩
 have hle:len*q.r.length<=rows.length*q.r.length:=Nat.mul_le_mul_right _ hlen;subst hll;refine (H.some_ li.blk li.sh cap' l m arr el w hpos (by omega) (by omega) hm hml ha1 (by rw [<- hrows];exact hat.take _) (by omega)).mono fun x w' ⟨hx,⟨fin,f1,f2,f3,f4⟩,hfr,hsz,ho,htp,hpp⟩=>⟨_,hx,im,loc,?_⟩
 have hL:(m.map (RT.pv q.r)++rows.drop l.length).length=rows.length:=by simp only [ch,ax,da,hml];omega
 refine PS (P:=P) hsr hl hst hrne hfz ha1 f2 hfr hsz ho htp hpp b1 (by rw [hL];exact b2) hL (by rw [f1];exact ha2) (by rw [hL];exact ha3) ?_
 refine f3.append ?_;rw [ax,hml];intro i r hr;obtain ⟨g1,g2⟩:=(hat.drop l.length) i r hr;refine ⟨g1,fun j c hc=>?_⟩
 obtain ⟨v,v1,v2⟩:=g2 j c hc;refine ⟨v,v1,?_⟩;show fin[_]? =some v;rw [f4 _ (by omega)]
 exact v2
end Go.Vm
