/- The logical machine, part 3: SvCod, SvRel, SvOps1, SvOps2, SvOps3, SvOps4, SvNorm, SvCall, SvFp, SvRun, SvCon, SvLaw. -/
import Derived.Test.YtogihpogmfjoiaaGreatPVm2
open Nat renaming eq_of_beq_eq_true->bn,ble->cf,beq->ci,le_of_ble_eq_true->ck,beq_refl->c8,lt_or_ge->dw,zero_add->d9,beq_eq->ek,min_eq_left->ff,le_refl->fh,blt->fj,eq_zero_or_pos->fu,le_of_lt->fx,sub_self->gp
open Bool renaming and_eq_true->bo,false_eq_true->cj,not_eq_true'->cq,and_self->c7,not_false->dt,and_true->ec,not_true->fq,or_eq_true->gm
open List renaming getElem?_eq_some_iff->bq,getElem?_append_left->bu,getElem?_append_right->bv,getElem?_eq_getElem->bz,getElem?_take_of_lt->cd,getElem?_set->ce,length_cons->cu,append_assoc->cw,append_nil->cy,length_map->cz,map_cons->c6,replicate->db,length_take->dd,map_take->de,take_of_length_le->df,all_eq_true->dh,drop_zero->di,getElem?_cons_succ->dj,map_append->dm,mem_of_getElem?->dv,getElem?_eq_none_iff->dy,map_drop->dz,mem_cons_self->d6,mem_singleton->d7,length_eq_zero_iff->d8,mem_append_right->eb,mem_cons_of_mem->eg,mem_append_left->eh,getElem_of_mem->ei,length_append->eu,getElem?_cons_zero->ez,cons_append->fb,nodup_cons->fg,take_succ_cons->fk,all_cons->fo,cons_beq_cons->ft,range->fv,map_set->fw,ext_getElem?->fy,map_nil->ga,flatMap_cons->gb,mem_map->gc,any_eq_true->gf,length_drop->gg,mem_flatMap->gi,all_append->gj,mem_append->gl,any_cons->gn,all_map->gq
open Option.some renaming injEq->bw,inj->d5
open Int renaming eq_ofNat_of_zero_le->cm,ofNat->dp,le_trans->ej
open Prod.mk renaming injEq->cp
open Option renaming map_eq_some_iff->c9,isSome_iff_exists->ew,getD_none->fa,getD_some->ge
open Go.World renaming cells?_some->gd
/- The types of arguments and results, as cells. -/
namespace Go.Vm
theorem tN {r q:List PT} {l:List (RT r)} {m:List (RT q)} (h:xY r q l=some m): ∃e:r=q,m=e▸l:=by
 unfold xY at h;split at h
 · rename_i hs
   injection h with h;exact ⟨BJ hs,h.symm⟩
 cases h
theorem I5 {r q:List PT} {l:List (RT r)} {m:List (RT q)} (h:xY r q l=some m):r=q/\m.map (RT.pv q)=l.map (RT.pv r)/\m.length=l.length:=by
 obtain ⟨rfl,rfl⟩:=tN h;exact ⟨rfl,rfl,rfl⟩
theorem fG {x:SV} {xs:List SV} {ps:List PV}:pvL (x::xs)=some ps↔ ∃p qs,ps=p::qs/\xZ x=some p/\pvL xs=some qs:=by
 simp only [pvL];constructor
 · intro h
   split at h
   · rename_i y ys h1 h2
     injection h with h;exact ⟨y,ys,h.symm,h1,h2⟩
   cases h
 rintro ⟨p,qs,rfl,h1,h2⟩
 rw [h1,h2]
theorem HN: ∀{xs ys:List SV} {p q:List PV},pvL xs=some p->pvL ys=some q->pvL (xs++ys)=some (p++q)
 | [],ys,p,q,h,k=>by simp only [pvL,bw] at h;subst h;exact k
 |x::xs,ys,p,q,h,k=>by
  obtain ⟨a,as,rfl,h1,h2⟩:=fG.1 h;exact fG.2 ⟨a,as++q,rfl,h1,HN h2 k⟩
theorem PT.of_some: ∀{p:PT} {v:SV} {a:p.T},p.of v=some a->v=p.sv a
 | .i k,.int l n,a,h=>by
  simp only [PT.of] at h;cases hk:gE l k with
  |false=>rw [hk] at h;cases h
  |true=>
   rw [hk] at h;injection h with h;subst h;rw [fW.1 hk];rfl
 | .b,.bool x,a,h=>by injection h with h;subst h;rfl
 | .i k,.bool _,a,h=>by cases h
 | .b,.int _ _,a,h=>by cases h
 | .i _,.junk,a,h| .i _,.undef,a,h| .i _,.nul,a,h| .i _,.nilf,a,h| .i _,.str _,a,h| .i _,.agg _,a,h| .i _,.tup _,a,h| .i _,.sl _ _,a,h| .i _,.nil _ _,a,h| .i _,.own _ _,a,h| .i _,.pre _ _ _ _,a,h| .i _,.part _ _ _ _ _,a,h| .i _,.pa _ _ _ _ _,a,h| .i _,.pb _ _ _,a,h| .i _,.bp _ _ _,a,h| .i _,.rptr _ _,a,h| .i _,.clo _ _ _,a,h| .i _,.mp _,a,h=>by cases h
 | .b,.junk,a,h| .b,.undef,a,h| .b,.nul,a,h| .b,.nilf,a,h| .b,.str _,a,h| .b,.agg _,a,h| .b,.tup _,a,h| .b,.sl _ _,a,h| .b,.nil _ _,a,h| .b,.own _ _,a,h| .b,.pre _ _ _ _,a,h| .b,.part _ _ _ _ _,a,h| .b,.pa _ _ _ _ _,a,h| .b,.pb _ _ _,a,h| .b,.bp _ _ _,a,h| .b,.rptr _ _,a,h| .b,.clo _ _ _,a,h| .b,.mp _,a,h=>by cases h
theorem RT.of_some: ∀{r:List PT} {vs:List SV} {a:RT r},RT.of r vs=some a->vs=RT.sv r a
 | [],[],a,_=>rfl
 | [p],[v],a,h=>by
  have:=PT.of_some (p:=p) h
  rw [this];rfl
 |p::q::r,v::vs,a,h=>by
  simp only [RT.of] at h;split at h
  · rename_i x y h1 h2
    injection h with h;subst h;rw [PT.of_some h1,RT.of_some h2];rfl
  cases h
 | [],_::_,a,h=>by simp [RT.of] at h
 | [p],[],a,h=>by simp [RT.of] at h
 | [p],_::_::_,a,h=>by simp [RT.of] at h
 |_::_::_,[],a,h=>by simp [RT.of] at h
theorem PT.pv_sv (p:PT) (a:p.T):xZ (p.sv a)=some (p.pv a):=by cases p<;>rfl
theorem RT.pv_sv: ∀(r:List PT) (a:RT r),pvL (RT.sv r a)=some (RT.pv r a)
 | [],_=>rfl
 | [p],a=>fG.2 ⟨_,_,rfl,PT.pv_sv p a,rfl⟩
 |p::q::r,a=>fG.2 ⟨_,_,rfl,PT.pv_sv p a.1,RT.pv_sv (q::r) a.2⟩
theorem RT.pv_len: ∀(r:List PT) (a:RT r),(RT.pv r a).length=r.length
 | [],_=>rfl
 | [p],a=>rfl
 |p::q::r,a=>by simp [RT.pv,RT.pv_len (q::r) a.2]
theorem RT.sv_len: ∀(r:List PT) (a:RT r),(RT.sv r a).length=r.length
 | [],_=>rfl
 | [p],a=>rfl
 |p::q::r,a=>by simp [RT.sv,RT.sv_len (q::r) a.2]
theorem RW: ∀(n:Nat) {vs:List SV} {ps:List PV},pvL vs=some ps-> ∃p q,ps=p++q/\pvL (vs.take n)=some p/\pvL (vs.drop n)=some q
 |0,vs,ps,h=>⟨[],ps,rfl,by simp [pvL],by simpa using h⟩
 |n+1,[],ps,h=>⟨[],ps,rfl,by simp [pvL],by simpa using h⟩
 |n+1,v::vs,ps,h=>by
  obtain ⟨p,qs,rfl,h1,h2⟩:=fG.1 h;obtain ⟨a,b,rfl,h3,h4⟩:=RW n h2;exact ⟨p::a,b,rfl,by rw [fk];exact fG.2 ⟨p,a,rfl,h1,h3⟩,by simpa using h4⟩
def cP.int (k:IntKind):cP Int where
 enc n:=[.int k n]
 dec vs:=match vs with
  | .int l n::r=>bif gE l k then some (n,r) else none
  |_=>none
 law:=fun {vs a rest ps} h hp=>by
  split at h
  · rename_i l n r
    cases hk:gE l k with
    |false=>rw [hk] at h;cases h
    |true=>
     rw [hk] at h;simp only [cond_true,bw,cp] at h;obtain ⟨rfl,rfl⟩:=h;obtain ⟨p,qs,rfl,h1,h2⟩:=fG.1 hp;rw [fW.1 hk] at h1;exact ⟨[p],qs,rfl,fG.2 ⟨p,[],rfl,h1,rfl⟩,h2⟩
  cases h
def cP.bool:cP Bool where
 enc n:=[.bool n]
 dec vs:=match vs with
  | .bool n::r=>some (n,r)
  |_=>none
 law:=fun {vs a rest ps} h hp=>by
  split at h
  · simp only [bw,cp] at h
    obtain ⟨rfl,rfl⟩:=h;obtain ⟨p,qs,rfl,h1,h2⟩:=fG.1 hp;exact ⟨[p],qs,rfl,fG.2 ⟨p,[],rfl,h1,rfl⟩,h2⟩
  cases h
def aBr (r:List PT):SV->Option (List (RT r))
 | .sl q l=>xY q r l
 | .nil e c=>bif ci e r.length&&!c then some [] else none
 |_=>none
theorem RX {r:List PT} {v:SV} {l:List (RT r)} {p:PV} (h:aBr r v=some l) (hp:xZ v=some p):xZ (.sl r l)=some p:=by
 cases v with
 |sl q m=>
  obtain ⟨rfl,h2,_⟩:=I5 h;rw [<- hp];simp only [xZ,h2]
 |nil e c=>
  simp only [aBr] at h;cases hc:(ci e r.length&&!c) with
  |false=>rw [hc] at h;cases h
  |true=>
   rw [hc] at h;injection h with h;subst h;simp only [bo,ek,cq] at hc;obtain ⟨rfl,rfl⟩:=hc;rw [<- hp];rfl
 |_=>cases h
def cP.sl (r:List PT):cP (List (RT r)) where
 enc l:=[.sl r l]
 dec vs:=match vs with
  |v::rest=>match aBr r v with
   |some l=>some (l,rest)
   |none=>none
  | []=>none
 law:=fun {vs a rest ps} h hp=>by
  split at h
  · split at h
    · rename_i v r' x l hl
      simp only [bw,cp] at h;obtain ⟨rfl,rfl⟩:=h;obtain ⟨p,qs,rfl,h1,h2⟩:=fG.1 hp;exact ⟨[p],qs,rfl,fG.2 ⟨p,[],rfl,RX hl h1,rfl⟩,h2⟩
    cases h
  cases h
def cP.row (r:List PT):cP (RT r) where
 enc:=RT.sv r
 dec vs:=match RT.of r (vs.take r.length) with
  |some a=>some (a,vs.drop r.length)
  |none=>none
 law:=fun {vs a rest ps} h hp=>by
  split at h
  · rename_i x hx
    simp only [bw,cp] at h;obtain ⟨rfl,rfl⟩:=h;obtain ⟨p,q,rfl,h1,h2⟩:=RW r.length hp;rw [RT.of_some hx] at h1;exact ⟨p,q,rfl,h1,h2⟩
  cases h
def cP.prod {α β:Type} (A:cP α) (B:cP β):cP (α×β) where
 enc p:=A.enc p.1++B.enc p.2
 dec vs:=match A.dec vs with
  |some p=>match B.dec p.2 with
   |some q=>some ((p.1,q.1),q.2)
   |none=>none
  |none=>none
 law:=fun {vs a rest ps} h hp=>by
  split at h
  · rename_i p hA
    split at h
    · rename_i q hB
      simp only [bw,cp] at h;obtain ⟨rfl,rfl⟩:=h;obtain ⟨p1,p2,rfl,h1,h2⟩:=A.law (a:=p.1) (rest:=p.2) hA hp;obtain ⟨q1,q2,rfl,h3,h4⟩:=B.law (a:=q.1) (rest:=q.2) hB h2;exact ⟨p1++q1,q2,by simp,HN h1 h3,h4⟩
    cases h
  cases h
def cP.iso {α β:Type} (A:cP α) (f:α->β) (g:β->α) (h: ∀a,g (f a)=a):cP β where
 enc b:=A.enc (g b)
 dec vs:=match A.dec vs with
  |some p=>some (f p.1,p.2)
  |none=>none
 law:=fun {vs a rest ps} hd hp=>by
  split at hd
  · rename_i p hA
    simp only [bw,cp] at hd;obtain ⟨rfl,rfl⟩:=hd;rw [h];exact A.law hA hp
  cases hd
def aK.int (k:IntKind):aK Int where
 enc n:= .int k n
 dec v:=match v with
  | .int l n=>bif gE l k then some n else none
  |_=>none
 law:=fun {v a p} h hp=>by
  split at h
  · rename_i l n
    cases hk:gE l k with
    |false=>rw [hk] at h;cases h
    |true=>rw [hk] at h;injection h with h;subst h;rw [fW.1 hk] at hp;exact hp
  cases h
def aK.bool:aK Bool where
 enc n:= .bool n
 dec v:=match v with
  | .bool n=>some n
  |_=>none
 law:=fun {v a p} h hp=>by
  split at h
  · injection h with h;subst h;exact hp
  cases h
def aK.sl (r:List PT):aK (List (RT r)) where
 enc l:= .sl r l
 dec:=aBr r
 law:=RX
def aK.agg {α:Type} (A:cP α):aK α where
 enc a:= .agg (A.enc a)
 dec v:=match v with
  | .agg cs=>match A.dec cs with
   |some p=>match p.2 with
    | []=>some p.1
    |_=>none
   |none=>none
  |_=>none
 law:=fun {v a p} h hp=>by
  split at h
  · rename_i cs
    split at h
    · rename_i q hA
      obtain ⟨x,rest⟩:=q;dsimp only at h;cases rest with
      |cons _ _=>cases h
      |nil=>
       injection h with h;subst h;simp only [xZ] at hp;cases hc:pvL cs with
       |none=>rw [hc] at hp;cases hp
       |some l=>
        rw [hc] at hp;injection hp with hp;subst hp;obtain ⟨p1,p2,rfl,h1,h2⟩:=A.law hA hc;simp only [pvL,bw] at h2;subst h2;simp only [xZ,h1,cy]
    cases h
  cases h
def aK.ref {α:Type} (A:cP α):aK α where
 enc a:= .rptr (A.enc a) 0
 dec v:=match v with
  | .rptr cs 0=>match A.dec cs with
   |some p=>match p.2 with
    | []=>some p.1
    |_=>none
   |none=>none
  |_=>none
 law:=fun {v a p} h hp=>by
  split at h
  · rename_i cs
    split at h
    · rename_i q hA
      obtain ⟨x,rest⟩:=q;dsimp only at h;cases rest with
      |cons _ _=>cases h
      |nil=>
       injection h with h;subst h;simp only [xZ] at hp;cases hc:pvL cs with
       |none=>rw [hc] at hp;cases hp
       |some l=>
        rw [hc] at hp;injection hp with hp;subst hp;obtain ⟨p1,p2,rfl,h1,h2⟩:=A.law hA hc;simp only [pvL,bw] at h2;subst h2;simp only [xZ,h1,cy]
    cases h
  cases h
def aC.nil:aC Unit where
 enc _:=[]
 dec vs:=match vs with
  | []=>some ()
  |_=>none
 law:=fun {vs a ps} h hp=>by
  split at h
  · exact hp
  cases h
def aC.one {α:Type} (A:aK α):aC α where
 enc a:=[A.enc a]
 dec vs:=match vs with
  | [v]=>A.dec v
  |_=>none
 law:=fun {vs a ps} h hp=>by
  split at h
  · obtain ⟨p,qs,rfl,h1,h2⟩:=fG.1 hp
    exact fG.2 ⟨p,qs,rfl,A.law h h1,h2⟩
  cases h
def aC.cons {α β:Type} (A:aK α) (B:aC β):aC (α×β) where
 enc a:=A.enc a.1::B.enc a.2
 dec vs:=match vs with
  |v::r=>match A.dec v with
   |some x=>match B.dec r with
    |some y=>some (x,y)
    |none=>none
   |none=>none
  | []=>none
 law:=fun {vs a ps} h hp=>by
  split at h
  · split at h
    · rename_i x hx
      split at h
      · rename_i y hy
        injection h with h;subst h;obtain ⟨p,qs,rfl,h1,h2⟩:=fG.1 hp;exact fG.2 ⟨p,qs,rfl,A.law hx h1,B.law hy h2⟩
      cases h
    cases h
  cases h
def aK.tup {α:Type} (A:aC α):aK α where
 enc a:= .tup (A.enc a)
 dec v:=match v with
  | .tup vs=>A.dec vs
  |_=>none
 law:=fun {v a p} h hp=>by
  split at h
  · rename_i vs
    simp only [xZ] at hp;cases hc:pvL vs with
    |none=>rw [hc] at hp;cases hp
    |some l=>
     rw [hc] at hp;injection hp with hp;subst hp;simp only [xZ,A.law h hc]
  cases h
def aK.clo {α:Type} (f:FuncId) (A:aC α):aK α where
 enc a:= .clo f [] (A.enc a)
 dec v:=match v with
  | .clo g [] b=>bif ci g f then A.dec b else none
  |_=>none
 law:=fun {v a p} h hp=>by
  split at h
  · rename_i g b
    cases hg:ci g f with
    |false=>rw [hg] at h;cases h
    |true=>
     rw [hg] at h
     have:=bn hg
     subst this;simp only [xZ,pvL] at hp ⊢;cases hc:pvL b with
     |none=>rw [hc] at hp;cases hp
     |some l=>
      rw [hc] at hp;rw [A.law h hc];exact hp
  cases h
def bI.clone (r:List PT):bI:=⟨.one (.sl r),.sl r,bU,.own,false⟩
def tO (a b c:Int):Option (Int×Int):=bif decide (0<=a)&&decide (0<=b)&&decide (0<=c)&&decide (c<=1) then some ((a+b+c)%18446744073709551616,(a+b+c) / 18446744073709551616) else none
def bI.add64:bI:=⟨.cons (.int .u64) (.cons (.int .u64) (.one (.int .u64))),.tup (.cons (.int .u64) (.one (.int .u64))),fun a=>tO a.1 a.2.1 a.2.2,.pure,false⟩
def WN:List (Nat×bI)->FuncId->List bI
 | [],_=>[]
 |(g,c)::r,f=>bif ci g f then c::WN r f else WN r f
def WQ:List (Nat×eM)->FuncId->List eM
 | [],_=>[]
 |(g,c)::r,f=>bif ci g f then c::WQ r f else WQ r f
def TY:List (Nat×Cd)->FuncId->Option Cd
 | [],_=>none
 |(g,c)::r,f=>bif ci g f then some c else TY r f
def mJ (lp:Option Nat) (c:List (Nat×bI)) (p:List (Nat×eM)) (x:List (Nat×Cd)) (rk:List (Nat×List PT)):Ctx:=⟨lp,WN c,WQ p,TY x,rk⟩
end Go.Vm
/- What a typed value says of a value of the logical machine. -/
namespace Go.Vm
def aEp (s:List SB) (t e n:Nat):Prop:=(∃r l,s[t]? =some (.arr r l)/\e=r.length/\n=l.length)\/s[t]? =some .dead
def GV (s:List SB) (t e:Nat):Prop:=(∃r l,s[t]? =some (.arr r l)/\e=r.length)\/s[t]? =some .dead\/(∃cs,s[t]? =some (.box cs)/\e=1)
def aEq (s:List SB) (t:Nat) (r:List PT) (i:Int) (a:RT r):Prop:=(∃l,s[t]? =some (.arr r l)/\aN l i=some a)\/s[t]? =some .dead
def aOG (s:List SB) (t:Nat) (i:Int):Prop:=(∃r l,s[t]? =some (.arr r l)/\(aN l i).isSome=true)\/s[t]? =some .dead
mutual
def R (s:List SB):SV->PV->Prop
 | .junk,_=>True
 | .undef,v=>v= .undef
 | .nul,v=>v= .nul
 | .nilf,v=>v= .nilf
 | .int k n,v=>v= .int k n
 | .bool b,v=>v= .bool b
 | .str x,v=>v= .str x
 | .agg cs,v=> ∃ps,v= .agg ps/\RL s cs ps
 | .tup cs,v=> ∃ps,v= .tup ps/\RL s cs ps
 | .sl r l,v=>v= .sl r.length false (l.map (RT.pv r))
 | .nil e c,v=>v= .sl e c []
 | .own t ex,v=> ∃e n,v= .own t e 0 n n ex/\aEp s t e n
 | .pre t len cap ex,v=> ∃e,v= .own t e 0 len cap ex/\GV s t e
 | .part t off len cap ex,v=> ∃e,v= .own t e off len cap ex/\GV s t e
 | .pa t r i a off,v=>v= .ptr t r.length i.toNat off/\aEq s t r i a
 | .pb t i off,v=> ∃e,v= .ptr t e i.toNat off/\aOG s t i
 | .bp t n off,v=>v= .ptr t n 0 off
 | .rptr cs off,v=> ∃ps,v= .rptr ps off/\RL s cs ps
 | .clo f a b,v=> ∃pa pb,v= .clo f pa pb/\RL s a pa/\RL s b pb
 | .mp t,v=>v= .mp t
def RL (s:List SB):List SV->List PV->Prop
 | [],ps=>ps=[]
 |x::xs,ps=> ∃p q,ps=p::q/\R s x p/\RL s xs q
end
def zJ:List Int->PV
 | [a]=> .int .i64 a
 |l=> .agg (l.map (.int .i64))
def I6 (k:List Int):PV×PV:=(zJ k,.bool true)
def MM (p:PT) (a:RT [.i .i64,p]):PV×PV:=(.int .i64 a.1,p.pv a.2)
def RB (s:List SB):SB->mK->Prop
 | .arr r l,b=>b= .arr r.length (l.map (RT.pv r))
 | .box cs,b=> ∃ps,b= .box ps/\RL s cs ps
 | .set l,b=>b= .map (l.map I6)
 | .tab p l,b=>b= .map (l.map (MM p))
 | .dead,b=>b= .dead
structure cW (s:List SB) (p:cV):Prop where
 len:p.length=s.length
 at_: ∀(t:Nat) (b:SB),s[t]? =some b-> ∃q,p[t]? =some q/\RB s b q
def eK (s:List SB):SE->zE->Prop
 | [],e=>e=[]
 |(t,v)::r,e=> ∃p q,e=(t,p)::q/\R s v p/\eK s r q
structure GW (st:vS) (p:St):Prop where
 env:eK st.sto st.env p.env
 sto:cW st.sto p.sto
 fz:p.fz=st.fz
 kn:p.kn=st.kn
theorem pM: ∀(s l:List SB),apS s l=s++l
 | [],_=>rfl
 |b::r,l=>by simp [apS,pM r l]
theorem I7: ∀(s:List SB) (t:Nat) (b:SB),aEk s t b=s.set t b
 | [],_,_=>by simp [aEk]
 |_::_,0,_=>rfl
 |x::r,n+1,b=>by simp [aEk,I7 r n b]
theorem RL.nil {s:List SB}:RL s [] []:=rfl
theorem RL.cons {s:List SB} {x:SV} {xs:List SV} {p:PV} {q:List PV} (h:R s x p) (k:RL s xs q):RL s (x::xs) (p::q):=⟨p,q,rfl,h,k⟩
theorem RL.cons_inv {s:List SB} {x:SV} {xs:List SV} {ps:List PV} (h:RL s (x::xs) ps): ∃p q,ps=p::q/\R s x p/\RL s xs q:=h
theorem RL.length {s:List SB}: ∀{xs:List SV} {ps:List PV},RL s xs ps->ps.length=xs.length
 | [],ps,h=>by rw [show ps=[] from h];rfl
 |x::xs,ps,h=>by
  obtain ⟨p,q,rfl,_,h2⟩:=h.cons_inv;simp [h2.length]
theorem RL.append {s:List SB}: ∀{xs:List SV} {ps:List PV},RL s xs ps-> ∀{ys:List SV} {qs:List PV},RL s ys qs->RL s (xs++ys) (ps++qs)
 | [],ps,h,_,_,k=>by rw [show ps=[] from h];exact k
 |x::xs,ps,h,_,_,k=>by
  obtain ⟨p,q,rfl,h1,h2⟩:=h.cons_inv;exact RL.cons h1 (h2.append k)
theorem RL.take {s:List SB}: ∀{xs:List SV} {ps:List PV},RL s xs ps-> ∀n,RL s (xs.take n) (ps.take n)
 | [],ps,h,n=>by rw [show ps=[] from h];simp;exact RL.nil
 |x::xs,ps,h,0=>by simp;exact RL.nil
 |x::xs,ps,h,n+1=>by
  obtain ⟨p,q,rfl,h1,h2⟩:=h.cons_inv;exact RL.cons h1 (h2.take n)
theorem RL.drop {s:List SB}: ∀{xs:List SV} {ps:List PV},RL s xs ps-> ∀n,RL s (xs.drop n) (ps.drop n)
 | [],ps,h,n=>by rw [show ps=[] from h];simp;exact RL.nil
 |x::xs,ps,h,0=>h
 |x::xs,ps,h,n+1=>by
  obtain ⟨p,q,rfl,h1,h2⟩:=h.cons_inv;exact h2.drop n
theorem RL.nth {s:List SB}: ∀{xs:List SV} {ps:List PV},RL s xs ps-> ∀{n:Nat} {v:SV},Vm.nth xs n=some v-> ∃p,ps[n]? =some p/\R s v p
 | [],_,_,_,_,e=>by cases e
 |x::xs,ps,h,0,v,e=>by
  obtain ⟨p,q,rfl,h1,_⟩:=h.cons_inv;injection e with e;subst e;exact ⟨p,rfl,h1⟩
 |x::xs,ps,h,n+1,v,e=>by
  obtain ⟨p,q,rfl,_,h2⟩:=h.cons_inv;obtain ⟨p',h3,h4⟩:=h2.nth (n:=n) e;exact ⟨p',by simpa using h3,h4⟩
mutual
theorem aAe (s:List SB): ∀v:PV,R s (aGl v) v
 | .undef=>rfl
 | .nul=>rfl
 | .nilf=>rfl
 | .int _ _=>rfl
 | .bool _=>rfl
 | .str _=>rfl
 | .agg cs=>⟨cs,rfl,ofPVL_R s cs⟩
 | .tup cs=>⟨cs,rfl,ofPVL_R s cs⟩
 | .sl e c rows=>by
  cases rows with
  |nil=>exact rfl
  |cons _ _=>trivial
 | .clo f a b=>⟨a,b,rfl,ofPVL_R s a,ofPVL_R s b⟩
 | .own .. =>trivial
 | .ptr .. =>trivial
 | .rptr .. =>trivial
 | .mp _=>trivial
theorem ofPVL_R (s:List SB): ∀l:List PV,RL s (ofPVL l) l
 | []=>rfl
 |x::xs=>RL.cons (aAe s x) (ofPVL_R s xs)
end
theorem eK.lk {s:List SB}: ∀{e:SE} {p:zE},eK s e p-> ∀t,R s (QT t e) (Vm.lk t p)
 | [],p,h,t=>by rw [show p=[] from h];rfl
 |(u,v)::r,p,h,t=>by
  obtain ⟨q,qs,rfl,h1,h2⟩:=h;simp only [QT,Vm.lk];cases hb:ci u t with
  |true=>exact h1
  |false=>exact eK.lk h2 t
theorem eK.setS {s:List SB}: ∀{e:SE} {p:zE},eK s e p-> ∀{t:Nat} {v:SV},R s v (Vm.lk t p)->eK s (Vm.setS t v e) p
 | [],p,h,t,v,_=>h
 |(u,x)::r,p,h,t,v,hv=>by
  obtain ⟨q,qs,rfl,h1,h2⟩:=h;simp only [Vm.setS];simp only [Vm.lk] at hv;cases hb:ci u t with
  |true=>rw [hb] at hv;exact ⟨q,qs,rfl,hv,h2⟩
  |false=>rw [hb] at hv;exact ⟨q,qs,rfl,h1,eK.setS h2 hv⟩
theorem eF {s:List SB} {e:SE} {p:zE} (h:eK s e p): ∀x:gH,R s (bZ e x) (x.ev p)
 | .t n=>h.lk n
 | .c v=>aAe s v
theorem FV {s:List SB} {e:SE} {p:zE} (h:eK s e p): ∀l:List gH,RL s (lV e l) (ND p l)
 | []=>rfl
 |x::xs=>RL.cons (eF h x) (FV h xs)
def Fr (bad:List Nat) (s s':List SB):Prop:= ∀(t:Nat) (b:SB),s[t]? =some b->match b with
 | .arr r l=>(∃l',s'[t]? =some (.arr r l')/\l'.length=l.length/\(has bad t=false->l'=l))\/s'[t]? =some .dead
 | .dead=>s'[t]? =some .dead
 | .box _=>(∃cs,s'[t]? =some (.box cs))\/s'[t]? =some .dead
 |_=>True
theorem Fr.refl (bad:List Nat) (s:List SB):Fr bad s s:=fun t b h=>by
 cases b with
 |arr r l=>exact .inl ⟨l,h,rfl,fun _=>rfl⟩
 |dead=>exact h
 |box cs=>exact .inl ⟨cs,h⟩
 |_=>trivial
theorem Fr.app (bad:List Nat) (s l:List SB):Fr bad s (s++l):=fun t b h=>by
 have h':(s++l)[t]? =some b:=by
  have:=(bq.1 h).1
  rw [bu this];exact h
 cases b with
 |arr r l=>exact .inl ⟨l,h',rfl,fun _=>rfl⟩
 |dead=>exact h'
 |box cs=>exact .inl ⟨cs,h'⟩
 |_=>trivial
theorem Fr.trans {bad:List Nat} {a b c:List SB} (h:Fr bad a b) (k:Fr bad b c):Fr bad a c:=fun t x hx=>by
 have h1:=h t x hx;cases x with
 |arr r l=>
  rcases h1 with ⟨l',h2,h3,h4⟩|h2
  · have k1:=k t _ h2
    rcases k1 with ⟨l2,k2,k3,k4⟩|k2
    · exact .inl ⟨l2,k2,k3.trans h3,fun hb=>(k4 hb).trans (h4 hb)⟩
    exact .inr k2
  exact .inr (k t _ h2)
 |dead=>exact k t _ h1
 |box cs=>
  rcases h1 with ⟨c2,h2⟩|h2
  · exact k t _ h2
  exact .inr (k t _ h2)
 |_=>trivial
theorem L3 {α:Type} {l m:List α} {i:Int} (h:(aN l i).isSome=true) (hl:m.length=l.length):(aN m i).isSome=true:=by
 cases i with
 |ofNat n=>
  simp only [aN] at h ⊢;rw [ew] at h;obtain ⟨a,ha⟩:=h
  have:=(bq.1 ha).1
  rw [bz (by omega)];rfl
 |negSucc n=>simp [aN] at h
mutual
theorem R.fr {bad:List Nat} {s s':List SB} (hf:Fr bad s s'): ∀{v:SV} {p:PV},R s v p->R s' (dgV bad v) p
 | .junk,_,_=>trivial
 | .undef,_,h=>h
 | .nul,_,h=>h
 | .nilf,_,h=>h
 | .int _ _,_,h=>h
 | .bool _,_,h=>h
 | .str _,_,h=>h
 | .agg cs,_,h=>by obtain ⟨ps,rfl,h⟩:=h;exact ⟨ps,rfl,RL.fr hf h⟩
 | .tup cs,_,h=>by obtain ⟨ps,rfl,h⟩:=h;exact ⟨ps,rfl,RL.fr hf h⟩
 | .sl _ _,_,h=>h
 | .nil _ _,_,h=>h
 | .own t ex,_,h=>by
  obtain ⟨e,n,rfl,h⟩:=h;refine ⟨e,n,rfl,?_⟩;rcases h with ⟨r,l,h1,h2,h3⟩|h1
  · rcases hf t _ h1 with ⟨l',k1,k2,_⟩|k1
    · exact .inl ⟨r,l',k1,h2,by rw [h3,k2]⟩
    exact .inr k1
  exact .inr (hf t _ h1)
 | .pre t len cap ex,_,h=>by
  obtain ⟨e,rfl,h⟩:=h;refine ⟨e,rfl,?_⟩;rcases h with ⟨r,l,h1,h2⟩|h1|⟨cs,h1,h2⟩
  · rcases hf t _ h1 with ⟨l',k1,_,_⟩|k1
    · exact .inl ⟨r,l',k1,h2⟩
    exact .inr (.inl k1)
  · exact .inr (.inl (hf t _ h1))
  rcases hf t _ h1 with ⟨c2,k1⟩|k1
  · exact .inr (.inr ⟨c2,k1,h2⟩)
  exact .inr (.inl k1)
 | .part t off len cap ex,_,h=>by
  obtain ⟨e,rfl,h⟩:=h;refine ⟨e,rfl,?_⟩;rcases h with ⟨r,l,h1,h2⟩|h1|⟨cs,h1,h2⟩
  · rcases hf t _ h1 with ⟨l',k1,_,_⟩|k1
    · exact .inl ⟨r,l',k1,h2⟩
    exact .inr (.inl k1)
  · exact .inr (.inl (hf t _ h1))
  rcases hf t _ h1 with ⟨c2,k1⟩|k1
  · exact .inr (.inr ⟨c2,k1,h2⟩)
  exact .inr (.inl k1)
 | .pa t r i a off,_,h=>by
  obtain ⟨rfl,h⟩:=h;simp only [dgV];cases hb:has bad t with
  |true=>
   refine ⟨_,rfl,?_⟩;rcases h with ⟨l,h1,h2⟩|h1
   · rcases hf t _ h1 with ⟨l',k1,k2,_⟩|k1
     · exact .inl ⟨r,l',k1,L3 (by rw [h2];rfl) k2⟩
     exact .inr k1
   exact .inr (hf t _ h1)
  |false=>
   refine ⟨rfl,?_⟩;rcases h with ⟨l,h1,h2⟩|h1
   · rcases hf t _ h1 with ⟨l',k1,_,k3⟩|k1
     · exact .inl ⟨l',k1,by rw [k3 hb];exact h2⟩
     exact .inr k1
   exact .inr (hf t _ h1)
 | .pb t i off,_,h=>by
  obtain ⟨e,rfl,h⟩:=h;refine ⟨e,rfl,?_⟩;rcases h with ⟨r,l,h1,h2⟩|h1
  · rcases hf t _ h1 with ⟨l',k1,k2,_⟩|k1
    · exact .inl ⟨r,l',k1,L3 h2 k2⟩
    exact .inr k1
  exact .inr (hf t _ h1)
 | .bp _ _ _,_,h=>h
 | .rptr cs off,_,h=>by obtain ⟨ps,rfl,h⟩:=h;exact ⟨ps,rfl,RL.fr hf h⟩
 | .clo f a b,_,h=>by obtain ⟨pa,pb,rfl,h1,h2⟩:=h;exact ⟨pa,pb,rfl,RL.fr hf h1,RL.fr hf h2⟩
 | .mp _,_,h=>h
theorem RL.fr {bad:List Nat} {s s':List SB} (hf:Fr bad s s'): ∀{v:List SV} {p:List PV},RL s v p->RL s' (dgL bad v) p
 | [],_,h=>h
 |x::xs,_,h=>by
  obtain ⟨p,q,rfl,h1,h2⟩:=h.cons_inv;exact RL.cons (R.fr hf h1) (RL.fr hf h2)
end
mutual
theorem aBs: ∀v:SV,dgV [] v=v
 | .junk| .undef| .nul| .nilf| .int _ _| .bool _| .str _| .sl _ _| .nil _ _| .own _ _| .pre _ _ _ _| .part _ _ _ _ _| .pb _ _ _| .bp _ _ _| .mp _=>rfl
 | .agg cs=>by simp only [dgV,dgL_nil cs]
 | .tup cs=>by simp only [dgV,dgL_nil cs]
 | .rptr cs _=>by simp only [dgV,dgL_nil cs]
 | .clo _ a b=>by simp only [dgV,dgL_nil a,dgL_nil b]
 | .pa t r i a off=>by simp [dgV,has]
theorem dgL_nil: ∀v:List SV,dgL [] v=v
 | []=>rfl
 |x::xs=>by simp only [dgL,aBs x,dgL_nil xs]
end
theorem R.ext {s s':List SB} (hf:Fr [] s s') {v:SV} {p:PV} (h:R s v p):R s' v p:=by
 have:=R.fr hf h
 rwa [aBs] at this
theorem RL.ext {s s':List SB} (hf:Fr [] s s') {v:List SV} {p:List PV} (h:RL s v p):RL s' v p:=by
 have:=RL.fr hf h
 rwa [dgL_nil] at this
theorem RB.fr {bad:List Nat} {s s':List SB} (hf:Fr bad s s') {b:SB} {p:mK} (h:RB s b p):RB s' (dgB bad b) p:=by
 cases b with
 |box cs=>obtain ⟨ps,rfl,h⟩:=h;exact ⟨ps,rfl,RL.fr hf h⟩
 |_=>exact h
theorem RB.ext {s s':List SB} (hf:Fr [] s s') {b:SB} {p:mK} (h:RB s b p):RB s' b p:=by
 cases b with
 |box cs=>obtain ⟨ps,rfl,h⟩:=h;exact ⟨ps,rfl,RL.ext hf h⟩
 |_=>exact h
theorem eK.fr {bad:List Nat} {s s':List SB} (hf:Fr bad s s'): ∀{e:SE} {p:zE},eK s e p->eK s' (dgE bad e) p
 | [],_,h=>h
 |(t,v)::r,_,h=>by
  obtain ⟨p,q,rfl,h1,h2⟩:=h;exact ⟨p,q,rfl,R.fr hf h1,eK.fr hf h2⟩
theorem eK.ext {s s':List SB} (hf:Fr [] s s'): ∀{e:SE} {p:zE},eK s e p->eK s' e p
 | [],_,h=>h
 |(t,v)::r,_,h=>by
  obtain ⟨p,q,rfl,h1,h2⟩:=h;exact ⟨p,q,rfl,R.ext hf h1,eK.ext hf h2⟩
theorem cW.app {s:List SB} {p:cV} (h:cW s p) {l:List SB} {q:cV} (hl:q.length=l.length) (hb: ∀(j:Nat) (b:SB),l[j]? =some b-> ∃x,q[j]? =some x/\RB (s++l) b x):cW (s++l) (p++q) where
 len:=by simp [h.len,hl]
 at_:=fun t b ht=>by
  rcases dw t s.length with hlt|hge
  · rw [bu hlt] at ht
    obtain ⟨x,h1,h2⟩:=h.at_ t b ht;exact ⟨x,by rw [bu (by rw [h.len];exact hlt)];exact h1,h2.ext (Fr.app [] s l)⟩
  rw [bv hge] at ht
  obtain ⟨x,h1,h2⟩:=hb _ b ht;exact ⟨x,by rw [bv (by rw [h.len];exact hge),h.len];exact h1,h2⟩
theorem xF (ts:List Nat): ∀(s:List SB) (t:Nat),(KA ts s)[t]? =(s[t]?).map (dgB ts)
 | [],t=>by simp [KA]
 |b::r,0=>by simp [KA]
 |b::r,t+1=>by simp [KA,xF ts r t]
theorem CE (ts:List Nat): ∀(s:List SB),(KA ts s).length=s.length
 | []=>rfl
 |b::r=>by simp [KA,CE ts r]
theorem Fr.dg {bad ts:List Nat} {s s':List SB} (h:Fr bad s s'):Fr bad s (KA ts s'):=fun t b hb=>by
 have h1:=h t b hb;cases b with
 |arr r l=>
  rcases h1 with ⟨l',h2,h3,h4⟩|h2
  · exact .inl ⟨l',by rw [xF,h2];rfl,h3,h4⟩
  exact .inr (by rw [xF,h2];rfl)
 |dead=>show (KA ts s')[t]? =_;rw [xF,h1];rfl
 |box cs=>
  rcases h1 with ⟨c2,h2⟩|h2
  · exact .inl ⟨dgL ts c2,by rw [xF,h2];rfl⟩
  exact .inr (by rw [xF,h2];rfl)
 |_=>trivial
theorem RY {s:List SB}: ∀(r:List PT) (a:RT r),RL s (RT.sv r a) (RT.pv r a)
 | [],_=>rfl
 | [p],a=>by refine RL.cons ?_ RL.nil;cases p<;>rfl
 |p::q::r,a=>by refine RL.cons ?_ (RY (q::r) a.2);cases p<;>rfl
theorem FW {s:List SB}: ∀(r:List PT) (a:RT r) {ps:List PV},RL s (RT.sv r a) ps->ps=RT.pv r a
 | [],_,ps,h=>h
 | [p],a,ps,h=>by
  obtain ⟨x,q,rfl,h1,h2⟩:=h.cons_inv;have h2':q=[]:=h2;subst h2';cases p<;>(have h1':=h1;simp only [PT.sv,R] at h1';rw [h1'];rfl)
 |p::q::r,a,ps,h=>by
  obtain ⟨x,qs,rfl,h1,h2⟩:=h.cons_inv;rw [FW (q::r) a.2 h2];cases p<;>(have h1':=h1;simp only [PT.sv,R] at h1';rw [h1'];rfl)
theorem RT.plain: ∀(r:List PT) (a:RT r),(RT.pv r a).all PV.plain=true
 | [],_=>rfl
 | [p],a=>by cases p<;>rfl
 |p::q::r,a=>by
  have:=RT.plain (q::r) a.2
  cases p<;>(simp only [RT.pv,fo,this,ec];rfl)
theorem R.cells {s:List SB} {v:SV} {p:PV} (h:R s v p) (hj:v≠ .junk):RL s v.cells p.cells:=by
 cases v with
 |junk=>exact absurd rfl hj
 |agg cs=>obtain ⟨ps,rfl,h⟩:=h;exact h
 |undef=>rw [show p= .undef from h];exact RL.cons rfl RL.nil
 |nul=>rw [show p= .nul from h];exact RL.cons rfl RL.nil
 |nilf=>rw [show p= .nilf from h];exact RL.cons rfl RL.nil
 |int k n=>rw [show p= .int k n from h];exact RL.cons rfl RL.nil
 |bool b=>rw [show p= .bool b from h];exact RL.cons rfl RL.nil
 |str x=>rw [show p= .str x from h];exact RL.cons rfl RL.nil
 |sl r l=>rw [show p=_ from h];exact RL.cons rfl RL.nil
 |nil e c=>rw [show p=_ from h];exact RL.cons rfl RL.nil
 |bp t n o=>rw [show p=_ from h];exact RL.cons rfl RL.nil
 |mp t=>rw [show p=_ from h];exact RL.cons rfl RL.nil
 |tup cs=>obtain ⟨ps,rfl,h⟩:=h;exact RL.cons ⟨ps,rfl,h⟩ RL.nil
 |own t ex=>obtain ⟨e,n,rfl,h⟩:=h;exact RL.cons ⟨e,n,rfl,h⟩ RL.nil
 |pre t a b c=>obtain ⟨e,rfl,h⟩:=h;exact RL.cons ⟨e,rfl,h⟩ RL.nil
 |part t o a b c=>obtain ⟨e,rfl,h⟩:=h;exact RL.cons ⟨e,rfl,h⟩ RL.nil
 |pa t r i a o=>obtain ⟨rfl,h⟩:=h;exact RL.cons ⟨rfl,h⟩ RL.nil
 |pb t i o=>obtain ⟨e,rfl,h⟩:=h;exact RL.cons ⟨e,rfl,h⟩ RL.nil
 |rptr cs o=>obtain ⟨ps,rfl,h⟩:=h;exact RL.cons ⟨ps,rfl,h⟩ RL.nil
 |clo f a b=>obtain ⟨pa,pb,rfl,h⟩:=h;exact RL.cons ⟨pa,pb,rfl,h⟩ RL.nil
theorem R.isOne {s:List SB} {v:SV} {p:PV} (h:R s v p) (ho:v.isOne=true):p.isOne=true:=by
 cases v with
 |junk|undef|nul|agg _|tup _=>cases ho
 |nilf|int _ _|bool _|str _|sl _ _|nil _ _|bp _ _ _|mp _=>rw [show p=_ from h];rfl
 |own t ex=>obtain ⟨e,n,rfl,h⟩:=h;rfl
 |pre t a b c=>obtain ⟨e,rfl,h⟩:=h;rfl
 |part t o a b c=>obtain ⟨e,rfl,h⟩:=h;rfl
 |pa t r i a o=>obtain ⟨rfl,h⟩:=h;rfl
 |pb t i o=>obtain ⟨e,rfl,h⟩:=h;rfl
 |rptr cs o=>obtain ⟨ps,rfl,h⟩:=h;rfl
 |clo f a b=>obtain ⟨pa,pb,rfl,h⟩:=h;rfl
theorem RL.allOne {s:List SB}: ∀{cs:List SV} {ps:List PV},RL s cs ps->Vm.allOne cs=true->ps.all PV.isOne=true
 | [],ps,h,_=>by rw [show ps=[] from h];rfl
 |x::xs,ps,h,ho=>by
  obtain ⟨p,q,rfl,h1,h2⟩:=h.cons_inv;simp only [Vm.allOne,bo] at ho;simp only [fo,bo];exact ⟨h1.isOne ho.1,h2.allOne ho.2⟩
theorem R.stored {s:List SB} {v:SV} {p:PV} {w:List SV} (h:R s v p) (hs:v.stored=some w): ∃q,p.stored=some q/\RL s w q:=by
 unfold SV.stored at hs;cases ha:Vm.allOne v.cells with
 |false=>rw [ha] at hs;cases hs
 |true=>
  rw [ha] at hs;injection hs with hs;subst hs;have hj:v≠ .junk:=by intro e;subst e;cases ha
  have hc:=h.cells hj;exact ⟨p.cells,by unfold PV.stored;rw [if_pos (hc.allOne ha)],hc⟩
theorem R.ofRow {s:List SB} {v:SV} {p:PV} {r:List PT} {a:RT r} (h:R s v p) (hr:RT.of r v.cells=some a):p.storedPlain=some (RT.pv r a)/\v.cells.length=r.length:=by
 have hc:=RT.of_some hr;have hl:v.cells.length=r.length:=by rw [hc,RT.sv_len]
 refine ⟨?_,hl⟩;have hj:v≠ .junk:=by
  intro e;subst e;cases r with
  |nil=>simp [SV.cells,RT.of] at hr
  |cons p q=>cases q with
   |nil=>cases p<;>simp [SV.cells,RT.of,PT.of] at hr
   |cons _ _=>simp only [SV.cells,RT.of] at hr;split at hr<;>cases hr<;>(rename_i x y h1 h2;simp at h2)
 have h1:=h.cells hj;rw [hc] at h1;have h2:=FW r a h1;unfold PV.storedPlain;rw [h2,if_pos (RT.plain r a)]
theorem zR {s:List SB} {agg:Option Nat} {off:Nat} {cs:List SV} {ps:List PV} {v:SV} (h:RL s cs ps) (hp:GR agg off cs=some v): ∃p,part agg off ps=some p/\R s v p:=by
 cases agg with
 |none=>
  obtain ⟨p,h1,h2⟩:=h.nth hp;exact ⟨p,h1,h2⟩
 |some n=>
  simp only [GR] at hp;cases hb:cf (off+n) cs.length with
  |false=>rw [hb] at hp;cases hp
  |true=>
   rw [hb] at hp;injection hp with hp;subst hp
   have:off+n<=ps.length:=by rw [h.length];exact ck hb
   exact ⟨.agg ((ps.drop off).take n),by simp only [part,if_pos this],_,rfl,(h.drop off).take n⟩
theorem FX {s:List SB} {off:Nat} {new old:List SV} {pn po:List PV} (h:RL s new pn) (k:RL s old po):RL s (uJ off new old) (rR off pn po):=by
 unfold uJ rR;rw [h.length];exact ((k.take off).append h).append (k.drop _)
theorem aBt {s:List SB} {ps:cV} {v:SV} {p:PV} {r:List PT} {l:List (RT r)} (hs:cW s ps) (h:R s v p) (hc:GS s v=some ⟨r,l⟩):
 rS ps r.length p=some (l.map (RT.pv r))/\kS p=CC v:=by
 cases v with
 |sl q m=>
  have hc':(⟨q,m⟩:Rows)=⟨r,l⟩:=by injection hc
  cases hc';rw [show p=_ from h];refine ⟨?_,rfl⟩;cases l with
  |nil=>rfl
  |cons a l=>simp [rS]
 |own t ex=>
  simp only [GS,cM] at hc;split at hc
  · rename_i q m hst
    have hc':(⟨q,m⟩:Rows)=⟨r,l⟩:=by injection hc
    cases hc';obtain ⟨e,n,rfl,hat⟩:=h;rcases hat with ⟨q',m',h1,rfl,rfl⟩|h1
    · rw [hst] at h1
      injection h1 with h1;cases h1;obtain ⟨b,h2,h3⟩:=hs.at_ t _ hst;rw [show b=_ from h3] at h2;refine ⟨?_,rfl⟩;simp only [rS,c8,if_true,h2,di];rw [df (by simp)]
    rw [hst] at h1;cases h1
  cases hc
 |pre t len cap ex=>
  simp only [GS,cM] at hc;split at hc
  · rename_i q m hst
    have hc':(⟨q,m.take len⟩:Rows)=⟨r,l⟩:=by injection hc
    cases hc';obtain ⟨e,rfl,hat⟩:=h;rcases hat with ⟨q',m',h1,rfl⟩|h1|⟨_,h1,_⟩
    · rw [hst] at h1
      injection h1 with h1;cases h1;obtain ⟨b,h2,h3⟩:=hs.at_ t _ hst;rw [show b=_ from h3] at h2;refine ⟨?_,rfl⟩;simp only [rS,c8,if_true,h2];simp
    · rw [hst] at h1;cases h1
    rw [hst] at h1;cases h1
  cases hc
 |part t off len cap ex=>
  simp only [GS,cM] at hc;split at hc
  · rename_i q m hst
    have hc':(⟨q,(m.drop off).take len⟩:Rows)=⟨r,l⟩:=by injection hc
    cases hc';obtain ⟨e,rfl,hat⟩:=h;rcases hat with ⟨q',m',h1,rfl⟩|h1|⟨_,h1,_⟩
    · rw [hst] at h1
      injection h1 with h1;cases h1;obtain ⟨b,h2,h3⟩:=hs.at_ t _ hst;rw [show b=_ from h3] at h2;refine ⟨?_,rfl⟩;simp only [rS,c8,if_true,h2];simp
    · rw [hst] at h1;cases h1
    rw [hst] at h1;cases h1
  cases hc
 |_=>cases hc
end Go.Vm
/- Operation by operation: what the typed machine does, the logical machine does; the easy ones. -/
namespace Go.Vm
structure iZ (s:List SB) (ps:cV) (sr:gZ) (pr:rT):Prop where
 rd:pr.rd=sr.rd
 fr:pr.fr=sr.fr
 wr:pr.wr.map (·.1)=EK sr.wr
 nw:B1 pr.wr=true
 nl:pr.news.length=sr.news.length
 sto:cW (sr.stoOf s) (VM (hZ pr.wr ps) pr.news)
 v:R (sr.stoOf s) sr.v pr.v
 fra:Fr (EK sr.wr) s (sr.stoOf s)
section
variable {s : List SB} {ps : cV}
theorem iZ.val (hS:cW s ps) {v:SV} {p:PV} {rd fr:List Nat} (hv:R s v p):iZ s ps {v,rd,fr} {v:=p,rd,fr} where
 rd:=rfl
 fr:=rfl
 wr:=rfl
 nw:=rfl
 nl:=rfl
 sto:=by simp only [gZ.stoOf,pM,cy,hZ,VM];exact hS
 v:=by simp only [gZ.stoOf,pM,cy];exact hv
 fra:=by simp only [gZ.stoOf,pM,cy];exact Fr.refl _ _
theorem iZ.news (hS:cW s ps) {v:SV} {p:PV} {l:List SB} {q:cV} {rd:List Nat} (hl:q.length=l.length) (hb: ∀(j:Nat) (b:SB),l[j]? =some b-> ∃x,q[j]? =some x/\RB (s++l) b x) (hv:R (s++l) v p):
 iZ s ps {v,news:=l,rd} {v:=p,news:=q,rd} where
 rd:=rfl
 fr:=rfl
 wr:=rfl
 nw:=rfl
 nl:=hl
 sto:=by simp only [gZ.stoOf,pM,hZ,xA];exact hS.app hl hb
 v:=by simp only [gZ.stoOf,pM];exact hv
 fra:=by simp only [gZ.stoOf,pM];exact Fr.app _ _ _
theorem iZ.new (hS:cW s ps) {v:SV} {p:PV} {b:SB} {q:mK} {rd:List Nat} (hb:RB (s++[b]) b q) (hv:R (s++[b]) v p):iZ s ps {v,news:=[b],rd} {v:=p,news:=[q],rd}:=
 iZ.news hS rfl (fun j x h=>by
  cases j with
  |zero=>simp at h;subst h;exact ⟨q,rfl,hb⟩
  |succ j=>simp at h) hv
def aBu (b0 b:SB):Prop:=
 match b0 with
 | .arr r l=>(∃l',b= .arr r l'/\l'.length=l.length)\/b= .dead
 | .dead=>b= .dead
 | .box _=>(∃cs,b= .box cs)\/b= .dead
 |_=>True
theorem Fr.set {t:Nat} {b0 b:SB} (h0:s[t]? =some b0) (hk:aBu b0 b):Fr [t] s (s.set t b):=fun u x hu=>by
 by_cases hut:t=u
 · subst hut
   rw [h0] at hu;injection hu with hu;subst hu;have hlt:=(bq.1 h0).1;have hb:(s.set t b)[t]? =some b:=by simp [hlt]
   cases b0 with
   |arr r l=>
    rcases hk with ⟨l',rfl,hl⟩|rfl
    · exact .inl ⟨l',hb,hl,fun h=>by simp [has] at h⟩
    exact .inr hb
   |dead=>rw [show b= .dead from hk] at hb ⊢;exact hb
   |box cs=>
    rcases hk with ⟨c2,rfl⟩|rfl
    · exact .inl ⟨c2,hb⟩
    exact .inr hb
   |_=>trivial
 have hb:(s.set t b)[u]? =some x:=by rw [ce];simp [hut,hu]
 cases x with
 |arr r l=>exact .inl ⟨l,hb,rfl,fun _=>rfl⟩
 |dead=>exact hb
 |box cs=>exact .inl ⟨cs,hb⟩
 |_=>trivial
theorem cW.put (hS:cW s ps) {t:Nat} {b0 b:SB} {q:mK} (h0:s[t]? =some b0) (hk:aBu b0 b) (hq:RB (KA [t] (s.set t b)) (dgB [t] b) q):cW (KA [t] (s.set t b)) (ps.set t q) where
 len:=by simp [CE,hS.len]
 at_:=fun u x hu=>by
  have hlt:=(bq.1 h0).1;rw [xF] at hu
  by_cases hut:t=u
  · subst hut
    have hb:(s.set t b)[t]? =some b:=by simp [hlt]
    rw [hb] at hu;simp at hu;subst hu;exact ⟨q,by rw [ce];simp [hS.len,hlt],hq⟩
  rw [ce] at hu
  simp only [hut,if_false,c9] at hu;obtain ⟨y,hy,rfl⟩:=hu;obtain ⟨q',h1,h2⟩:=hS.at_ u y hy;exact ⟨q',by rw [ce];simp [hut,h1],h2.fr (Fr.dg (Fr.set h0 hk))⟩
theorem iZ.put (hS:cW s ps) {v:SV} {p:PV} {t:Nat} {b0 b:SB} {q:mK} {l:List SB} {ql:cV} {rd:List Nat} (h0:s[t]? =some b0) (hk:aBu b0 b) (hq:RB (KA [t] (s.set t b)) (dgB [t] b) q)
 (hl:ql.length=l.length) (hb: ∀(j:Nat) (x:SB),l[j]? =some x-> ∃y,ql[j]? =some y/\RB (KA [t] (s.set t b)++l) x y) (hv:R (KA [t] (s.set t b)++l) v p):
 iZ s ps {v,wr:=[(t,b)],news:=l,rd} {v:=p,wr:=[(t,q)],news:=ql,rd} where
 rd:=rfl
 fr:=rfl
 wr:=rfl
 nw:=rfl
 nl:=hl
 sto:=by
  simp only [gZ.stoOf,pM,hZ,xA,EK,wO,I7];exact (hS.put h0 hk hq).app hl hb
 v:=by simp only [gZ.stoOf,pM,EK,wO,I7];exact hv
 fra:=by
  simp only [gZ.stoOf,pM,EK,wO,I7];exact (Fr.dg (Fr.set h0 hk)).trans (Fr.app _ _ _)
theorem iZ.put0 (hS:cW s ps) {t:Nat} {b0 b:SB} {q:mK} {rd:List Nat} (h0:s[t]? =some b0) (hk:aBu b0 b) (hq:RB (KA [t] (s.set t b)) (dgB [t] b) q):
 iZ s ps {v:= .undef,wr:=[(t,b)],rd} {v:= .undef,wr:=[(t,q)],rd}:=
 iZ.put hS h0 hk hq rfl (fun j x h=>by simp at h) rfl
end
section
variable {R' ρ : Type} {w : R' -> ρ} {y : ρ}
theorem bR {α:Type} {x:Option α} {k:α->iK R'} (h:oI x k ρ w=some y): ∃a,x=some a/\k a ρ w=some y:=by
 cases x with
 |none=>cases h
 |some a=>exact ⟨a,rfl,h⟩
theorem dA {α:Type} {x:Option α} {k:α->iK R'} (h:nZ x k ρ w=some y): ∃a,x=some a/\k a ρ w=some y:=ZZ h
theorem fX {c:Bool} {a b:iK R'} (h:iO c a b ρ w=some y):(c=true/\a ρ w=some y)\/(c=false/\b ρ w=some y):=Z0 h
theorem dF {c:Bool} {a:iK R'} (h:(bif c then a else aP) ρ w=some y):c=true/\a ρ w=some y:=by
 cases c
 · cases h
 exact ⟨rfl,h⟩
theorem xO {c:Bool} {a:iK R'} (h:(bif c then aP else a) ρ w=some y):c=false/\a ρ w=some y:=by
 cases c
 · exact ⟨rfl,h⟩
 cases h
theorem jY {c:Bool} {a:iK R'} (h:iO c a aP ρ w=some y):c=true/\a ρ w=some y:=by
 rcases fX h with ⟨h1,h2⟩|⟨_,h2⟩
 · exact ⟨h1,h2⟩
 cases h2
theorem CF {c:Bool} {a:iK R'} (h:iO c aP a ρ w=some y):c=false/\a ρ w=some y:=by
 rcases fX h with ⟨_,h2⟩|⟨h1,h2⟩
 · cases h2
 exact ⟨h1,h2⟩
end
def iY {R':Type} (s:List SB) (ps:cV) (po:Option rT) (k:gZ->iK R') (ρ:Type) (w:R'->ρ) (y:ρ):Prop:=
 ∃sr pr,po=some pr/\iZ s ps sr pr/\k sr ρ w=some y
section
variable {R' ρ : Type} {w : R' -> ρ} {y : ρ} {s : List SB} {ps : cV} {e : SE} {pe : zE} {z : List Nat} {k : gZ -> iK R'}
theorem iY.val (hS:cW s ps) {po:Option rT} {v:SV} {p:PV} (h:k {v} ρ w=some y) (hp:po=some {v:=p}) (hv:R s v p):iY s ps po k ρ w y:=
 ⟨_,_,hp,iZ.val hS hv,h⟩
theorem iY.rd (hS:cW s ps) {po:Option rT} {v:SV} {p:PV} {rd:List Nat} (h:k {v,rd} ρ w=some y) (hp:po=some {v:=p,rd}) (hv:R s v p):iY s ps po k ρ w y:=
 ⟨_,_,hp,iZ.val hS hv,h⟩
theorem qN (hE:eK s e pe) {x:gH} {a:IntKind} {n:Int} (h:bZ e x= .int a n):x.ev pe= .int a n:=by
 have:=eF hE x;rw [h] at this;exact this
theorem I8 (hE:eK s e pe) {x:gH} {b:Bool} (h:bZ e x= .bool b):x.ev pe= .bool b:=by
 have:=eF hE x;rw [h] at this;exact this
theorem aC2 (hE:eK s e pe) {x:gH} {v:SV} (h:bZ e x=v):R s v (x.ev pe):=by
 have:=eF hE x;rwa [h] at this
theorem WR (k:IntKind):gE k k=true:=by cases k<;>rfl
theorem aAf (hS:cW s ps) {op:BinOp} {a:IntKind} {m n:Int} (h:Z3 op a m n (ofV k) ρ w=some y): ∃p,VK op a m n=some p/\iY s ps (some {v:=p}) k ρ w y:=by
 cases op with
 |quo=>
  obtain ⟨h1,h2⟩:=CF h;have hn:n≠0:=by intro e;subst e;cases h1
  exact ⟨_,by simp only [VK,if_neg hn],iY.val hS h2 rfl rfl⟩
 |rem=>
  obtain ⟨h1,h2⟩:=CF h;have hn:n≠0:=by intro e;subst e;cases h1
  exact ⟨_,by simp only [VK,if_neg hn],iY.val hS h2 rfl rfl⟩
 |shl=>cases h
 |shr=>cases h
 |_=>exact ⟨_,rfl,iY.val hS h rfl rfl⟩
theorem aGv (hE:eK s e pe) (hS:cW s ps) {op:BinOp} {a b:gH} (h:pL e s z (.bin op a b) k ρ w=some y):iY s ps (bM pe ps z (.bin op a b)) k ρ w y:=by
 simp only [pL] at h;generalize ha:bZ e a=va at h;cases va with
 |int ka m=>
  generalize hb:bZ e b=vb at h;cases vb with
  |int kb n=>
   have h1:=qN hE ha;have h2:=qN hE hb;have key:(op≠ .shl)->(op≠ .shr)->(bif gE ka kb then Z3 op ka m n (ofV k) else aP) ρ w=some y->iY s ps (bM pe ps z (.bin op a b)) k ρ w y:=by
    intro n1 n2 h;obtain ⟨hk,h⟩:=dF h;obtain ⟨p,hp,hs⟩:=aAf hS h
    have:bM pe ps z (.bin op a b)=some {v:=p}:=by
     simp only [bM,h1,h2];cases op<;>first|exact absurd rfl n1|exact absurd rfl n2|(simp only [aCE,hk,if_true,hp];rfl)
    rw [this];exact hs
   cases op with
   |shl=>
    obtain ⟨hc,h⟩:=CF h;have hc': ¬n<0:=by simpa using hc
    exact iY.val hS h (by simp only [bM,h1,h2,aCE,KB,if_neg hc'];rfl) rfl
   |shr=>
    obtain ⟨hc,h⟩:=CF h;have hc': ¬n<0:=by simpa using hc
    exact iY.val hS h (by simp only [bM,h1,h2,aCE,KB,if_neg hc'];rfl) rfl
   |_=>exact key (by intro e;cases e) (by intro e;cases e) h
  |_=>cases h
 |_=>cases h
theorem aEr (hE:eK s e pe) (hS:cW s ps) {neg:Bool} {a b:gH} (h:pL e s z (.binb neg a b) k ρ w=some y):iY s ps (bM pe ps z (.binb neg a b)) k ρ w y:=by
 simp only [pL] at h;generalize ha:bZ e a=va at h;cases va with
 |bool x=>
  generalize hb:bZ e b=vb at h;cases vb with
  |bool x'=>
   refine iY.val hS h ?_ rfl;simp only [bM,I8 hE ha,I8 hE hb];cases neg<;>rfl
  |_=>cases h
 |_=>cases h
theorem aEs: ∀{xs ys:List SV} {ps qs:List PV} {r:Bool},RL s xs ps->RL s ys qs->eqS xs ys=some r->dZ ps qs=some r
 | [],[],ps,qs,r,h1,h2,h=>by rw [show ps=[] from h1,show qs=[] from h2];exact h
 |x::xs,b::ys,ps,qs,r,h1,h2,h=>by
  obtain ⟨p,ps,rfl,a1,a2⟩:=h1.cons_inv;obtain ⟨q,qs,rfl,b1,b2⟩:=h2.cons_inv;simp only [eqS] at h;split at h
  · rename_i ka m kb n
    have a1':p= .int ka m:=a1;have b1':q= .int kb n:=b1;subst a1' b1';cases hk:gE ka kb with
    |false=>rw [hk] at h;cases h
    |true=>
     rw [hk] at h;have hc:wK (.int ka m) (.int kb n)=some (m==n):=by simp only [wK,hk,if_true]
     simp only [dZ,hc];cases xs with
     |nil=>
      cases ys with
      |nil=>
       simp only [cond_true,bw] at h;subst h;rw [show ps=[] from a2,show qs=[] from b2];cases m==n<;>rfl
      |cons _ _=>cases h
     |cons x2 xs2=>
      simp only [cond_true] at h;split at h
      · rename_i r' hr
        injection h with h;subst h;rw [aEs a2 b2 hr];cases m==n<;>rfl
      cases h
  cases h
 | [],_::_,ps,qs,r,h1,h2,h=>by cases h
 |_::_,[],ps,qs,r,h1,h2,h=>by cases h
theorem aGw (hE:eK s e pe) (hS:cW s ps) {n:Nat} {neg:Bool} {a b:gH} (h:pL e s z (.eqc n neg a b) k ρ w=some y):iY s ps (bM pe ps z (.eqc n neg a b)) k ρ w y:=by
 simp only [pL] at h;generalize ha:bZ e a=va at h;cases va with
 |agg xs=>
  generalize hb:bZ e b=vb at h;cases vb with
  |agg ys=>
   obtain ⟨hl,h⟩:=dF h;obtain ⟨r,hr,h⟩:=bR h;obtain ⟨p,hp,h1⟩:=aC2 hE ha;obtain ⟨q,hq,h2⟩:=aC2 hE hb;refine iY.val hS h ?_ rfl;simp only [bM,hp,hq,h1.length,h2.length];rw [if_pos hl,aEs h1 h2 hr];cases neg<;>rfl
  |_=>cases h
 |_=>cases h
theorem aOH (hE:eK s e pe) (hS:cW s ps) {op:UnOp} {a:gH} (h:pL e s z (.un op a) k ρ w=some y):iY s ps (bM pe ps z (.un op a)) k ρ w y:=by
 simp only [pL] at h;cases op with
 |neg=>
  dsimp only at h;generalize ha:bZ e a=va at h;cases va with
  |int ka n=>exact iY.val hS h (by simp only [bM,qN hE ha];rfl) rfl
  |_=>cases h
 |not=>
  dsimp only at h;generalize ha:bZ e a=va at h;cases va with
  |bool b=>exact iY.val hS h (by simp only [bM,I8 hE ha];rfl) rfl
  |_=>cases h
 |_=>cases h
theorem aEt (hE:eK s e pe) (hS:cW s ps) {a:IntKind} {x:gH} (h:pL e s z (.conv a x) k ρ w=some y):iY s ps (bM pe ps z (.conv a x)) k ρ w y:=by
 simp only [pL] at h;generalize ha:bZ e x=va at h;cases va with
 |int ka n=>exact iY.val hS h (by simp only [bM,qN hE ha]) rfl
 |_=>cases h
theorem aGx (hE:eK s e pe) (hS:cW s ps) {x:gH} (h:pL e s z (.len x) k ρ w=some y):iY s ps (bM pe ps z (.len x)) k ρ w y:=by
 simp only [pL] at h;have hx:=eF hE x;generalize bZ e x=v at h hx;cases v with
 |nil e' c=>exact iY.val hS h (by simp only [bM,show x.ev pe= .sl e' c [] from hx];rfl) rfl
 |pre t len cap ex=>
  obtain ⟨e',hx,_⟩:=hx;exact iY.val hS h (by simp only [bM,hx]) rfl
 |part t off len cap ex=>
  obtain ⟨e',hx,_⟩:=hx;exact iY.val hS h (by simp only [bM,hx]) rfl
 |sl q m=>
  exact iY.val hS h (by simp only [bM,show x.ev pe=_ from hx,cz]) rfl
 |own t ex=>
  obtain ⟨c,hc,h⟩:=bR h;simp only [GS,cM] at hc;split at hc
  · rename_i q m hst
    injection hc with hc;subst hc;obtain ⟨e',n,hx,hat⟩:=hx;rcases hat with ⟨q',m',h1,rfl,rfl⟩|h1
    · rw [hst] at h1;injection h1 with h1;cases h1
      exact iY.val hS h (by simp only [bM,hx]) rfl
    rw [hst] at h1;cases h1
  cases hc
 |_=>obtain ⟨c,hc,h⟩:=bR h;cases hc
theorem I9: ∀{l:List (Nat×Nat×SV)} {pl:List (Nat×Nat×PV)} {cs:List SV} {pc:List PV} {r:List SV},
 (pl.length=l.length/\ ∀(j:Nat) (a:Nat×Nat×SV),l[j]? =some a-> ∃b,pl[j]? =some (a.1,a.2.1,b)/\R s a.2.2 b)->RL s cs pc->CD l cs=some r-> ∃q,qS pl pc=some q/\RL s r q
 | [],pl,cs,pc,r,hl,hc,h=>by
  have:pl=[]:=d8.1 hl.1
  subst this;injection h with h;subst h;exact ⟨pc,rfl,hc⟩
 |(off,sz,v)::l,pl,cs,pc,r,hl,hc,h=>by
  cases pl with
  |nil=>simp at hl
  |cons p pl=>
   obtain ⟨b,h1,h2⟩:=hl.2 0 _ rfl;simp at h1;subst h1;simp only [CD] at h;split at h
   · rename_i w hw
     obtain ⟨q,hq,hqr⟩:=h2.stored hw;cases hcnd:(ci w.length sz&&cf (off+sz) cs.length) with
     |false=>rw [hcnd] at h;cases h
     |true=>
      rw [hcnd] at h;simp only [cond_true] at h;obtain ⟨q2,h3,h4⟩:=I9 (pl:=pl) ⟨by simpa using hl.1,fun j a ha=>hl.2 (j+1) a (by simpa using ha)⟩ (FX hqr hc) h
      refine ⟨q2,?_,h4⟩;simp only [qS,hq,hqr.length,hc.length];rw [if_pos hcnd];exact h3
   cases h
theorem WT (hE:eK s e pe): ∀(l:List (Nat×Nat×gH)),((l.map fun p=>(p.1,p.2.1,p.2.2.ev pe)).length=(EI e l).length/\ ∀(j:Nat) (a:Nat×Nat×SV),(EI e l)[j]? =some a-> ∃b,(l.map fun p=>(p.1,p.2.1,p.2.2.ev pe))[j]? =some (a.1,a.2.1,b)/\R s a.2.2 b)
 | []=>⟨rfl,fun j a h=>by simp [EI] at h⟩
 |p::l=>by
  obtain ⟨h1,h2⟩:=WT hE l;refine ⟨by simp [EI] at h1 ⊢;omega,fun j a h=>?_⟩
  cases j with
  |zero=>simp [EI] at h;subst h;exact ⟨_,rfl,eF hE _⟩
  |succ j=>simp only [EI,dj] at h;obtain ⟨b,h3,h4⟩:=h2 j a h;exact ⟨b,by simpa using h3,h4⟩
theorem aC3 (hE:eK s e pe) (hS:cW s ps) {zero:List PV} {parts:List (Nat×Nat×gH)} (h:pL e s z (.build zero parts) k ρ w=some y):iY s ps (bM pe ps z (.build zero parts)) k ρ w y:=by
 simp only [pL] at h;obtain ⟨cs,hc,h⟩:=bR h;obtain ⟨q,hq,hr⟩:=I9 (WT hE parts) (ofPVL_R s zero) hc;exact iY.val hS h (by simp only [bM,hq];rfl) ⟨q,rfl,hr⟩
theorem aGy (hE:eK s e pe) (hS:cW s ps) {x:gH} (h:pL e s z (.box x) k ρ w=some y):iY s ps (bM pe ps z (.box x)) k ρ w y:=by
 simp only [pL] at h;obtain ⟨cs,hc,h⟩:=bR h;obtain ⟨q,hq,hr⟩:=(eF hE x).stored hc;refine ⟨_,_,?_,iZ.new hS (b:= .box cs) (q:= .box q) (v:= .bp s.length cs.length 0) (p:= .ptr s.length cs.length 0 0) (rd:=[]) ⟨q,rfl,hr.ext (Fr.app _ _ _)⟩ rfl,h⟩;simp only [bM,hq,hS.len,hr.length]
theorem aC4 (hS:cW s ps) {cells:List PV} (h:pL e s z (.alloc cells) k ρ w=some y):iY s ps (bM pe ps z (.alloc cells)) k ρ w y:=by
 simp only [pL] at h;refine ⟨_,_,?_,iZ.new hS (b:= .box (ofPVL cells)) (q:= .box cells) (v:= .bp s.length cells.length 0) (p:= .ptr s.length cells.length 0 0) (rd:=[]) ⟨cells,rfl,ofPVL_R _ _⟩ rfl,h⟩;simp only [bM,hS.len]
theorem aEu (hE:eK s e pe) (hS:cW s ps) {x:gH} (h:pL e s z (.nilc x) k ρ w=some y):iY s ps (bM pe ps z (.nilc x)) k ρ w y:=by
 simp only [pL] at h;have hx:=eF hE x;generalize bZ e x=v at h hx;cases v with
 |pa t r i a o=>exact iY.val hS h (by simp only [bM,hx.1]) ⟨rfl,hx.2⟩
 |pb t i o=>
  obtain ⟨e',h1,h2⟩:=hx;exact iY.val hS h (by simp only [bM,h1]) ⟨e',rfl,h2⟩
 |bp t n o=>exact iY.val hS h (by simp only [bM,show x.ev pe=_ from hx]) rfl
 |rptr c o=>
  obtain ⟨q,h1,h2⟩:=hx;exact iY.val hS h (by simp only [bM,h1]) ⟨q,rfl,h2⟩
 |clo f a b=>
  obtain ⟨pa,pb,h1,h2⟩:=hx;exact iY.val hS h (by simp only [bM,h1]) ⟨pa,pb,rfl,h2⟩
 |_=>cases h
theorem aEv (hE:eK s e pe) (hS:cW s ps) {off:Nat} {x:gH} (h:pL e s z (.fadr off x) k ρ w=some y):iY s ps (bM pe ps z (.fadr off x)) k ρ w y:=by
 simp only [pL] at h;have hx:=eF hE x;generalize bZ e x=v at h hx;cases v with
 |pa t r i a o=>exact iY.val hS h (by simp only [bM,hx.1]) ⟨rfl,hx.2⟩
 |pb t i o=>
  obtain ⟨e',h1,h2⟩:=hx;exact iY.val hS h (by simp only [bM,h1]) ⟨e',rfl,h2⟩
 |bp t n o=>exact iY.val hS h (by simp only [bM,show x.ev pe=_ from hx]) rfl
 |rptr c o=>
  obtain ⟨q,h1,h2⟩:=hx;exact iY.val hS h (by simp only [bM,h1]) ⟨q,rfl,h2⟩
 |_=>cases h
theorem aGz (hE:eK s e pe) (hS:cW s ps) {agg:Option Nat} {off:Nat} {x:gH} (h:pL e s z (.fld agg off x) k ρ w=some y):iY s ps (bM pe ps z (.fld agg off x)) k ρ w y:=by
 simp only [pL] at h;generalize hv:bZ e x=v at h;cases v with
 |agg cs=>
  obtain ⟨v,h1,h⟩:=bR h;obtain ⟨q,h2,h3⟩:=aC2 hE hv;obtain ⟨p,h4,h5⟩:=zR h3 h1;exact iY.val hS h (by simp only [bM,h2,h4];rfl) h5
 |_=>cases h
theorem aGA (hE:eK s e pe) (hS:cW s ps) {i:Nat} {x:gH} (h:pL e s z (.ext i x) k ρ w=some y):iY s ps (bM pe ps z (.ext i x)) k ρ w y:=by
 simp only [pL] at h;generalize hv:bZ e x=v at h;cases v with
 |tup cs=>
  obtain ⟨v,h1,h⟩:=bR h;obtain ⟨q,h2,h3⟩:=aC2 hE hv;obtain ⟨p,h4,h5⟩:=h3.nth h1;exact iY.val hS h (by simp only [bM,h2,h4];rfl) h5
 |_=>cases h
theorem aGB (hE:eK s e pe) (hS:cW s ps) {f:FuncId} {a b:List gH} (h:pL e s z (.mkf f a b) k ρ w=some y):iY s ps (bM pe ps z (.mkf f a b)) k ρ w y:=by
 simp only [pL] at h;exact iY.val hS h rfl ⟨_,_,rfl,FV hE a,FV hE b⟩
theorem aGC (hS:cW s ps) {m:Option PV} (h:pL e s z (.mkm m) k ρ w=some y):iY s ps (bM pe ps z (.mkm m)) k ρ w y:=by
 simp only [pL] at h;cases m with
 |none=>
  refine ⟨_,_,?_,iZ.new hS (b:= .set []) (q:= .map []) (v:= .mp s.length) (p:= .mp s.length) (rd:=[]) rfl rfl,h⟩;simp only [bM,hS.len]
 |some m=>
  obtain ⟨p,_,h⟩:=bR h;refine ⟨_,_,?_,iZ.new hS (b:= .tab p []) (q:= .map []) (v:= .mp s.length) (p:= .mp s.length) (rd:=[]) rfl rfl,h⟩;simp only [bM,hS.len]
theorem aOf: ∀{l:List SV} {q:List PV} {m:Bool} {a:IntKind} {n:Int} {v:SV},RL s l q->mmS m a n l=some v-> ∃p,mmE m a n q=some p/\R s v p
 | [],q,m,a,n,v,hl,h=>by
  rw [show q=[] from hl];injection h with h;subst h;exact ⟨_,rfl,rfl⟩
 |x::l,q,m,a,n,v,hl,h=>by
  obtain ⟨p,q,rfl,h1,h2⟩:=hl.cons_inv;simp only [mmS] at h;split at h
  · rename_i b c
    have h1':p= .int b c:=h1;subst h1';cases hk:gE a b with
    |true=>
     rw [hk] at h;obtain ⟨p,h3,h4⟩:=aOf h2 h;refine ⟨p,?_,h4⟩;simp only [mmE,hk,if_true];rw [<- h3];cases m<;>rfl
    |false=>rw [hk] at h;cases h
  cases h
theorem aOI (hE:eK s e pe) (hS:cW s ps) {m:Bool} {x:gH} {xs:List gH} (h:pL e s z (.mm m x xs) k ρ w=some y):iY s ps (bM pe ps z (.mm m x xs)) k ρ w y:=by
 simp only [pL] at h;generalize hv:bZ e x=v at h;cases v with
 |int a n=>
  obtain ⟨v,h1,h⟩:=bR h;obtain ⟨p,h2,h3⟩:=aOf (FV hE xs) h1;exact iY.val hS h (by simp only [bM,qN hE hv,h2];rfl) h3
 |_=>cases h
theorem aEw (hE:eK s e pe) (hS:cW s ps) {c a b:gH} (h:pL e s z (.pick c a b) k ρ w=some y):iY s ps (bM pe ps z (.pick c a b)) k ρ w y:=by
 simp only [pL] at h;generalize hv:bZ e c=v at h;cases v with
 |bool x=>
  rcases fX h with ⟨rfl,h⟩|⟨rfl,h⟩
  · exact iY.val hS h (by simp only [bM,I8 hE hv]) (eF hE a)
  exact iY.val hS h (by simp only [bM,I8 hE hv]) (eF hE b)
 |_=>cases h
end
end Go.Vm
/- Operation by operation, second part: elements, blocks, slices, sets. -/
namespace Go.Vm
section
variable {R' ρ : Type} {w : R' -> ρ} {y : ρ} {s : List SB} {ps : cV} {e : SE} {pe : zE} {z : List Nat} {k : gZ -> iK R'}
theorem cW.arr (hS:cW s ps) {t:Nat} {r:List PT} {l:List (RT r)} (h:s[t]? =some (.arr r l)):ps[t]? =some (.arr r.length (l.map (RT.pv r))):=by
 obtain ⟨q,h1,h2⟩:=hS.at_ t _ h;rw [show q=_ from h2] at h1;exact h1
theorem cW.box (hS:cW s ps) {t:Nat} {cs:List SV} (h:s[t]? =some (.box cs)): ∃q,ps[t]? =some (.box q)/\RL s cs q:=by
 obtain ⟨q,h1,q',rfl,h2⟩:=hS.at_ t _ h;exact ⟨q',h1,h2⟩
theorem cW.set_ (hS:cW s ps) {t:Nat} {l:List (List Int)} (h:s[t]? =some (.set l)):ps[t]? =some (.map (l.map I6)):=by
 obtain ⟨q,h1,h2⟩:=hS.at_ t _ h;rw [show q=_ from h2] at h1;exact h1
theorem cW.tab_ (hS:cW s ps) {t:Nat} {p:PT} {l:List (RT [.i .i64,p])} (h:s[t]? =some (.tab p l)):ps[t]? =some (.map (l.map (MM p))):=by
 obtain ⟨q,h1,h2⟩:=hS.at_ t _ h;rw [show q=_ from h2] at h1;exact h1
theorem aEp.inv {t e n:Nat} {r:List PT} {l:List (RT r)} (h:aEp s t e n) (hs:s[t]? =some (.arr r l)):e=r.length/\n=l.length:=by
 rcases h with ⟨q,m,h1,rfl,rfl⟩|h1
 · rw [hs] at h1;injection h1 with h1;cases h1;exact ⟨rfl,rfl⟩
 rw [hs] at h1;cases h1
theorem GV.inv {t e:Nat} {r:List PT} {l:List (RT r)} (h:GV s t e) (hs:s[t]? =some (.arr r l)):e=r.length:=by
 rcases h with ⟨q,m,h1,rfl⟩|h1|⟨cs,h1,_⟩
 · rw [hs] at h1;injection h1 with h1;cases h1;rfl
 · rw [hs] at h1;cases h1
 rw [hs] at h1;cases h1
theorem aEq.inv {t:Nat} {q r:List PT} {i:Int} {a:RT q} {l:List (RT r)} (h:aEq s t q i a) (hs:s[t]? =some (.arr r l)): ∃e:q=r,aN l i=some (e▸a):=by
 rcases h with ⟨m,h1,h2⟩|h1
 · rw [hs] at h1;injection h1 with h1;cases h1;exact ⟨rfl,h2⟩
 rw [hs] at h1;cases h1
theorem aOG.inv {t:Nat} {r:List PT} {i:Int} {l:List (RT r)} (h:aOG s t i) (hs:s[t]? =some (.arr r l)):(aN l i).isSome=true:=by
 rcases h with ⟨q,m,h1,h2⟩|h1
 · rw [hs] at h1;injection h1 with h1;cases h1;exact h2
 rw [hs] at h1;cases h1
theorem gT {α:Type} {l:List α} {n:Nat} {i:Int} {a:α} (h:aN (l.take n) i=some a): ∃m:Nat,i=dp m/\m<n/\l[m]? =some a:=by
 obtain ⟨m,rfl,hm⟩:=qX h;have hlt:=(bq.1 hm).1;rw [dd] at hlt;have hmn:m<n:=by omega
 rw [cd hmn] at hm;exact ⟨m,rfl,hmn,hm⟩
theorem aEx (hE:eK s e pe) (hS:cW s ps) {esz:Nat} {x i:gH} (h:pL e s z (.iadr esz x i) k ρ w=some y):iY s ps (bM pe ps z (.iadr esz x i)) k ρ w y:=by
 simp only [pL] at h;generalize hi:bZ e i=vi at h;cases vi with
 |int ki n=>
  have hi:=qN hE hi;have hx:=eF hE x;dsimp only at h;unfold aN8 at h;generalize bZ e x=v at h hx;cases v with
  |sl r l=>
   obtain ⟨he,h⟩:=dF h;obtain ⟨a,ha,hk⟩:=dA h;obtain ⟨m,rfl,hm⟩:=qX ha;refine iY.val hS (p:= .rptr (RT.pv r a) 0) hk ?_ ⟨_,rfl,RY r a⟩;have hr:(l.map (RT.pv r))[m]? =some (RT.pv r a):=by simp [hm]
   simp only [bM,hi,mM,show x.ev pe=_ from hx,hr,he,if_true]
  |own t ex=>
   simp only [cM] at h;generalize hst:s[t]? =b at h;cases b with
   |none=>cases h
   |some b=>
    cases b with
    |arr r l=>
     obtain ⟨he,h⟩:=dF h;obtain ⟨a,ha,hk⟩:=dA h;obtain ⟨m,rfl,hm⟩:=qX ha;obtain ⟨e',n',hx,hat⟩:=hx;obtain ⟨rfl,rfl⟩:=hat.inv hst;have hlt:=(bq.1 hm).1;have h1:fj m l.length=true:=by simpa using hlt
     refine iY.val hS (p:= .ptr t r.length m 0) hk ?_ ⟨rfl,.inl ⟨l,hst,ha⟩⟩;simp only [bM,hi,mM,hx,h1,he,c7,if_true,d9]
    |_=>cases h
  |pre t len cap ex=>
   simp only [cM] at h;generalize hst:s[t]? =b at h;cases b with
   |none=>cases h
   |some b=>
    cases b with
    |arr r l=>
     obtain ⟨he,h⟩:=dF h;obtain ⟨a,ha,hk⟩:=dA h;obtain ⟨m,rfl,hlt,hm⟩:=gT ha;obtain ⟨e',hx,hat⟩:=hx
     have:=hat.inv hst
     subst this;have h1:fj m len=true:=by simpa using hlt
     refine iY.val hS (p:= .ptr t r.length m 0) hk ?_ ⟨rfl,.inl ⟨l,hst,hm⟩⟩;simp only [bM,hi,mM,hx,h1,he,c7,if_true,d9]
    |_=>cases h
  |part t off len cap ex=>
   simp only [cM] at h;generalize hst:s[t]? =b at h;cases b with
   |none=>cases h
   |some b=>
    cases b with
    |arr r l=>
     obtain ⟨he,h⟩:=dF h;obtain ⟨a,ha,hk⟩:=dA h;obtain ⟨m,rfl,hlt,hm⟩:=gT ha;rw [List.getElem?_drop] at hm;obtain ⟨e',hx,hat⟩:=hx
     have:=hat.inv hst
     subst this;have h1:fj m len=true:=by simpa using hlt
     refine iY.val hS (p:= .ptr t r.length (off+m) 0) hk ?_ ⟨rfl,.inl ⟨l,hst,hm⟩⟩;simp only [bM,hi,mM,hx,h1,he,c7,if_true]
    |_=>cases h
  |_=>cases h
 |_=>cases h
theorem HO {n:Nat} {i:Int} {j:Nat} {f:Nat->iK R'}:WI n i j f ρ w=some y-> ∃m,i=dp m/\j<=m/\m<j+n/\f m ρ w=some y:=by
 induction n generalizing j with
 |zero=>intro h;cases h
 |succ n ih=>
  intro h;rcases fX h with ⟨h1,h2⟩|⟨_,h2⟩
  · exact ⟨j,by simpa using h1,fh _,by omega,h2⟩
  obtain ⟨m,h3,h4,h5,h6⟩:=ih h2
  exact ⟨m,h3,by omega,by omega,h6⟩
theorem aC5 (hE:eK s e pe) (hS:cW s ps) {n esz:Nat} {p i:gH} (h:pL e s z (.iadra n esz p i) k ρ w=some y):iY s ps (bM pe ps z (.iadra n esz p i)) k ρ w y:=by
 simp only [pL] at h;generalize hi:bZ e i=vi at h;cases vi with
 |int ki j=>
  have hi:=qN hE hi;have hx:=eF hE p;generalize bZ e p=v at h hx;cases v with
  |bp t m o=>
   obtain ⟨j',rfl,_,h2,h⟩:=HO h;have h1:fj j' n=true:=by simp;omega
   exact iY.val hS h (by simp only [bM,hi,mM,h1,if_true,show p.ev pe=_ from hx]) rfl
  |rptr c o=>
   obtain ⟨j',rfl,_,h2,h⟩:=HO h;have h1:fj j' n=true:=by simp;omega
   obtain ⟨q,hq,hr⟩:=hx;exact iY.val hS h (by simp only [bM,hi,mM,h1,if_true,hq]) ⟨q,rfl,hr⟩
  |_=>cases h
 |_=>cases h
theorem aGD (hE:eK s e pe) (hS:cW s ps) {n esz:Nat} {agg:Option Nat} {x i:gH} (h:pL e s z (.idx n esz agg x i) k ρ w=some y):iY s ps (bM pe ps z (.idx n esz agg x i)) k ρ w y:=by
 simp only [pL] at h;generalize hi:bZ e i=vi at h;cases vi with
 |int ki j=>
  have hi:=qN hE hi;generalize hx:bZ e x=v at h;cases v with
  |agg cs=>
   obtain ⟨j',rfl,_,h2,h⟩:=HO h;have h1:fj j' n=true:=by simp;omega
   obtain ⟨v,hv,h⟩:=bR h;obtain ⟨q,hq,hr⟩:=aC2 hE hx;obtain ⟨p,hp,hpr⟩:=zR hr hv;exact iY.val hS h (by simp only [bM,hi,mM,h1,if_true,hq,hp];rfl) hpr
  |_=>cases h
 |_=>cases h
theorem aEy (hE:eK s e pe) (hS:cW s ps) {x i:gH} (h:pL e s z (.sidx x i) k ρ w=some y):iY s ps (bM pe ps z (.sidx x i)) k ρ w y:=by
 simp only [pL] at h;generalize hi:bZ e i=vi at h;cases vi with
 |int ki j=>
  have hi:=qN hE hi;generalize hx:bZ e x=v at h;cases v with
  |str t=>
   obtain ⟨b,hb,h⟩:=dA h;have hx:=aC2 hE hx;cases j with
   |negSucc _=>cases hb
   |ofNat m=>
    simp only [aN7,c9] at hb;obtain ⟨c,hc,rfl⟩:=hb;exact iY.val hS h (by simp only [bM,hi,mM,show x.ev pe=_ from hx,hc]) rfl
  |_=>cases h
 |_=>cases h
theorem aEz (hE:eK s e pe) (hS:cW s ps) {agg:Option Nat} {p:gH} (h:pL e s z (.load agg p) k ρ w=some y):iY s ps (bM pe ps z (.load agg p)) k ρ w y:=by
 simp only [pL] at h;have hx:=eF hE p;unfold aN9 at h;generalize bZ e p=v at h hx;cases v with
 |bp t n off=>
  simp only [cM] at h;generalize hst:s[t]? =b at h;cases b with
  |none=>cases h
  |some b=>
   cases b with
   |box cs=>
    obtain ⟨v,hv,h⟩:=bR h;obtain ⟨q,h1,h2⟩:=hS.box hst;obtain ⟨u,h3,h4⟩:=zR h2 hv;refine iY.rd hS h ?_ h4;show tD ps agg (p.ev pe)=_;rw [show p.ev pe=_ from hx];simp only [tD,h1,c8,if_true,h3];rfl
   |_=>cases h
 |pa t r i a off=>
  simp only [cM] at h;generalize hst:s[t]? =b at h;cases b with
  |none=>cases h
  |some b=>
   cases b with
   |arr q l=>
    obtain ⟨v,hv,hk⟩:=bR h;obtain ⟨hx,hat⟩:=hx;obtain ⟨rfl,hg⟩:=hat.inv hst;obtain ⟨u,h3,h4⟩:=zR (RY r a) hv;obtain ⟨m,rfl,hm⟩:=qX hg;refine iY.rd hS hk ?_ h4;show tD ps agg (p.ev pe)=_;rw [hx];have hm':(l.map (RT.pv r))[m]? =some (RT.pv r a):=by simp [hm]
    have e1:(dp m).toNat=m:=rfl;simp only [tD,hS.arr hst,e1,hm',h3];rfl
   |_=>cases h
 |pb t i off=>
  simp only [cM] at h;generalize hst:s[t]? =b at h;cases b with
  |none=>cases h
  |some b=>
   cases b with
   |arr r l=>
    obtain ⟨a,ha,h⟩:=dA h;obtain ⟨v,hv,hk⟩:=bR h;obtain ⟨e',hx,hat⟩:=hx;obtain ⟨u,h3,h4⟩:=zR (RY r a) hv;obtain ⟨m,rfl,hm⟩:=qX ha;refine iY.rd hS hk ?_ h4;show tD ps agg (p.ev pe)=_;rw [hx];have hm':(l.map (RT.pv r))[m]? =some (RT.pv r a):=by simp [hm]
    have e1:(dp m).toNat=m:=rfl;simp only [tD,hS.arr hst,e1,hm',h3];rfl
   |_=>cases h
 |rptr cs off=>
  obtain ⟨v,hv,h⟩:=bR h;obtain ⟨q,hq,hr⟩:=hx;obtain ⟨u,h3,h4⟩:=zR hr hv;refine iY.val hS h ?_ h4;show tD ps agg (p.ev pe)=_;rw [hq];simp only [tD,h3];rfl
 |_=>cases h
theorem TZ (hS:cW s ps) {t:Nat} {r:List PT} {l:List (RT r)} (hst:s[t]? =some (.arr r l)) {i:Int} {b:RT r} {rd:List Nat}:
 iZ s ps {v:= .undef,wr:=[(t,.arr r (cL l i b))],rd} {v:= .undef,wr:=[(t,.arr r.length ((l.map (RT.pv r)).set i.toNat (RT.pv r b)))],rd}:=
 iZ.put0 hS hst (.inl ⟨_,rfl,by simp⟩) (by show _=_;simp [cL,fw])
theorem aC6 (hE:eK s e pe) (hS:cW s ps) {sz:Nat} {p x:gH} (h:pL e s z (.store sz p x) k ρ w=some y):iY s ps (bM pe ps z (.store sz p x)) k ρ w y:=by
 simp only [pL] at h;have hx:=eF hE p;have hv:=eF hE x;unfold aEd at h;generalize bZ e p=v at h hx;generalize bZ e x=u at h hv;cases v with
 |bp t n off=>
  simp only [cM] at h;generalize hst:s[t]? =b at h;cases b with
  |none=>cases h
  |some b=>
   cases b with
   |box cs=>
    obtain ⟨w',hw,h⟩:=bR h;obtain ⟨hc,h⟩:=dF h;obtain ⟨q,h1,h2⟩:=hv.stored hw;obtain ⟨b,h3,h4⟩:=hS.box hst;have hfr:=Fr.dg (ts:=[t]) (Fr.set (b:= .box (uJ off w' cs)) hst (.inl ⟨_,rfl⟩));refine ⟨_,_,?_,iZ.put0 hS (b:= .box (uJ off w' cs)) (q:= .box (rR off q b)) (rd:=[]) hst (.inl ⟨_,rfl⟩) ⟨_,rfl,RL.fr hfr (FX h2 h4)⟩,h⟩
    show xV ps z sz (x.ev pe) (p.ev pe)=_
    rw [show p.ev pe=_ from hx];simp only [xV,h3,h1,h2.length,h4.length];rw [if_pos (by simpa using hc)]
   |_=>cases h
 |pa t r i a off=>
  simp only [cM] at h;generalize hst:s[t]? =b at h;cases b with
  |none=>cases h
  |some b=>
   cases b with
   |arr q l=>
    obtain ⟨hc,h⟩:=dF h;obtain ⟨a',ha',hk⟩:=bR h;obtain ⟨hx,hat⟩:=hx;obtain ⟨rfl,hg⟩:=hat.inv hst;obtain ⟨m,rfl,hm⟩:=qX hg;refine ⟨_,_,?_,TZ hS hst (rd:=[]),hk⟩;show xV ps z sz (x.ev pe) (p.ev pe)=_;rw [hx];have hm':(l.map (RT.pv r))[m]? =some (RT.pv r a):=by simp [hm]
    have e1:(dp m).toNat=m:=rfl;simp only [bo,cq] at hc;obtain ⟨⟨c1,c2⟩,c3⟩:=hc;have hj:u≠ .junk:=by
     intro e;subst e
     have:=RT.of_some ha'
     have hq:=congrArg (fun l=>l[off]?) this
     have hle:=ck c2;have hsz:sz=1:=by have:=bn c1;simpa [SV.cells] using this.symm
     have hlt:off<r.length:=by omega
     have hl1:off<(RT.sv r a).length:=by rw [RT.sv_len];exact hlt
     simp only [uJ,SV.cells] at hq;rw [bu (by simp;omega),bv (by simp;omega)] at hq
     simp only [dd,ff (fx hl1),gp,ez] at hq
     have: ∀(r:List PT) (b:RT r) (n:Nat),(RT.sv r b)[n]?≠some .junk:=by
      intro r
      induction r with
      |nil=>intro b n h;simp [RT.sv] at h
      |cons p rest ih=>
       intro b n;cases rest with
       |nil=>cases n<;>cases p<;>simp [RT.sv,PT.sv]
       |cons p2 rest2=>cases n with
        |zero=>cases p<;>simp [RT.sv,PT.sv]
        |succ n=>simpa [RT.sv] using ih b.2 n
     exact this r a' off hq.symm
    have hcells:=hv.cells hj;have hrow:=RT.of_some ha';have h5:RL s (RT.sv r a') (rR off (x.ev pe).cells (RT.pv r a)):=by
     rw [<- hrow];exact FX hcells (RY r a)
    have h6:=FW r a' h5;have hplain:(x.ev pe).storedPlain=some (x.ev pe).cells:=by
     unfold PV.storedPlain;rw [if_pos ?_];have hall:=RT.plain r a';rw [<- h6] at hall;unfold rR at hall;simp only [gj,bo] at hall;exact hall.1.2
    simp only [xV,hS.arr hst,e1,hm',hplain,hcells.length,RT.pv_len];rw [if_pos (by simp [c1,c2,c3])]
    simp only [h6]
   |_=>cases h
 |pb t i off=>
  simp only [cM] at h;generalize hst:s[t]? =b at h;cases b with
  |none=>cases h
  |some b=>
   cases b with
   |arr r l=>
    obtain ⟨hc,h⟩:=dF h;obtain ⟨e',hx,hat⟩:=hx;have hin:=hat.inv hst;rw [ew] at hin;obtain ⟨a0,hg⟩:=hin;obtain ⟨m,rfl,hm⟩:=qX hg;have hm':(l.map (RT.pv r))[m]? =some (RT.pv r a0):=by simp [hm]
    have e1:(dp m).toNat=m:=rfl;simp only [bo,cq] at hc;obtain ⟨⟨c1,c2⟩,c3⟩:=hc;cases hsz:ci sz r.length with
    |true=>
     rw [hsz] at h;obtain ⟨a',ha',hk⟩:=bR h;obtain ⟨hp,hl⟩:=hv.ofRow ha';have hszr:=bn hsz;have hoff:off=0:=by have:=ck c2;omega
     subst hoff;refine ⟨_,_,?_,TZ hS hst (rd:=[]),hk⟩;show xV ps z sz (x.ev pe) (p.ev pe)=_;rw [hx];simp only [xV,hS.arr hst,e1,hm',hp,RT.pv_len];rw [if_pos (by rw [d9,hszr];simp [c3])]
     have:rR 0 (RT.pv r a') (RT.pv r a0)=RT.pv r a':=by
      unfold rR;rw [RT.pv_len,List.drop_of_length_le (by rw [RT.pv_len];omega)];simp
     rw [this]
    |false=>
     rw [hsz] at h;obtain ⟨a,ha,h⟩:=dA h;obtain ⟨a',ha',hk⟩:=bR h;rw [hg] at ha;injection ha with ha;subst ha;refine ⟨_,_,?_,TZ hS hst (rd:=[]),hk⟩;show xV ps z sz (x.ev pe) (p.ev pe)=_;rw [hx];have hj:u≠ .junk:=by
      intro e;subst e
      have:=RT.of_some ha'
      have hq:=congrArg (fun l=>l[off]?) this
      have hle:=ck c2;have hsz:sz=1:=by have:=bn c1;simpa [SV.cells] using this.symm
      have hlt:off<r.length:=by omega
      have hl1:off<(RT.sv r a0).length:=by rw [RT.sv_len];exact hlt
      simp only [uJ,SV.cells] at hq;rw [bu (by simp;omega),bv (by simp;omega)] at hq
      simp only [dd,ff (fx hl1),gp,ez] at hq
      have: ∀(r:List PT) (b:RT r) (n:Nat),(RT.sv r b)[n]?≠some .junk:=by
       intro r
       induction r with
       |nil=>intro b n h;simp [RT.sv] at h
       |cons p rest ih=>
        intro b n;cases rest with
        |nil=>cases n<;>cases p<;>simp [RT.sv,PT.sv]
        |cons p2 rest2=>cases n with
         |zero=>cases p<;>simp [RT.sv,PT.sv]
         |succ n=>simpa [RT.sv] using ih b.2 n
      exact this r a' off hq.symm
     have hcells:=hv.cells hj;have hrow:=RT.of_some ha';have h5:RL s (RT.sv r a') (rR off (x.ev pe).cells (RT.pv r a0)):=by
      rw [<- hrow];exact FX hcells (RY r a0)
     have h6:=FW r a' h5;have hplain:(x.ev pe).storedPlain=some (x.ev pe).cells:=by
      unfold PV.storedPlain;rw [if_pos ?_];have hall:=RT.plain r a';rw [<- h6] at hall;unfold rR at hall;simp only [gj,bo] at hall;exact hall.1.2
     simp only [xV,hS.arr hst,e1,hm',hplain,hcells.length,RT.pv_len];rw [if_pos (by simp [c1,c2,c3])]
     simp only [h6]
   |_=>cases h
 |_=>cases h
end
end Go.Vm
/- Operation by operation, third part: slices, new blocks, append, sets; all of them together. -/
namespace Go.Vm
section
variable {R' ρ : Type} {w : R' -> ρ} {y : ρ} {s : List SB} {ps : cV} {e : SE} {pe : zE} {z : List Nat} {k : gZ -> iK R'}
def OH (pe:zE) (o:Option gH):Option (Option Nat):=match o with|none=>some none|some a=>(mM (a.ev pe)).map some
theorem BK (hE:eK s e pe) {o:Option gH} {d a:Int} {n:Nat} (h:KR e d o=some a) (hd:d=dp n) (h0:0<=a): ∃b,OH pe o=some b/\b.getD n=a.toNat:=by
 cases o with
 |none=>
  injection h with h;subst h hd;exact ⟨none,rfl,rfl⟩
 |some x=>
  simp only [KR] at h;split at h
  · rename_i ka m hx
    injection h with h;subst h;obtain ⟨b,rfl⟩:=cm h0;refine ⟨some b,?_,rfl⟩;simp only [OH,qN hE hx];rfl
  cases h
theorem HP {esz:Nat} {x:gH} {lo hi mx:Option gH} {l h m:Option Nat} {v:PV} (he:A7 esz (x.ev pe)=true) (h1:OH pe lo=some l) (h2:OH pe hi=some h) (h3:OH pe mx=some m) (hv:wL (x.ev pe) l h m=some v):
 bM pe ps z (.slc esz x lo hi mx)=some {v:=v}:=by
 have e:bM pe ps z (.slc esz x lo hi mx)=(match OH pe lo,OH pe hi,OH pe mx with|some l,some h,some m=>(wL (x.ev pe) l h m).map fun v=>({v}:rT)|_,_,_=>none):=by
  simp only [bM,he,fq,cj,if_false];rfl
 rw [e,h1,h2,h3];simp only [hv];rfl
theorem OI {α:Type} {l r:List α} {lo hi:Int} (h:jH l lo hi=some r): ∃a b:Nat,lo=dp a/\hi=dp b/\a<=b/\b<=l.length/\r=(l.drop a).take (b-a):=by
 unfold jH at h;split at h
 · rename_i hc
   obtain ⟨a,rfl⟩:=cm hc.1;obtain ⟨b,rfl⟩:=cm (ej hc.1 hc.2.1);injection h with h;exact ⟨a,b,rfl,rfl,by omega,by omega,by rw [<- h];simp⟩
 cases h
theorem T0 (hE:eK s e pe) (hS:cW s ps) {esz t off len cap:Nat} {ex:Bool} {x:gH} {lo hi mx:Option gH} (hx:x.ev pe= .own t esz off len cap ex) (hat:GV s t esz) (h:Z4 e t off len cap ex lo hi mx k ρ w=some y):
 iY s ps (bM pe ps z (.slc esz x lo hi mx)) k ρ w y:=by
 unfold Z4 at h;obtain ⟨a,ha,h⟩:=bR h;obtain ⟨b,hb,h⟩:=bR h;have he:A7 esz (x.ev pe)=true:=by rw [hx];simp [A7]
 cases mx with
 |none=>
  obtain ⟨hc,h⟩:=jY h;simp only [bo,decide_eq_true_eq] at hc;obtain ⟨⟨c1,c2⟩,c3⟩:=hc;obtain ⟨l,h1,h2⟩:=BK hE (n:=0) ha rfl c1;obtain ⟨u,h3,h4⟩:=BK hE (n:=len) hb rfl (ej c1 c2);refine iY.val hS h (HP he h1 h3 (m:=none) rfl ?_) ⟨esz,rfl,hat⟩;rw [hx];have c4:(cf a.toNat b.toNat&&cf b.toNat cap)=true:=by
   have c3':b<=(cap:Int):=c3
   simp;omega
  simp only [wL,h2,h4,c4,if_true]
 |some mo=>
  dsimp only at h;generalize hm:bZ e mo=vm at h;cases vm with
  |int km c=>
   obtain ⟨hc,h⟩:=jY h;simp only [bo,decide_eq_true_eq] at hc;obtain ⟨⟨⟨c1,c2⟩,c3⟩,c4⟩:=hc;obtain ⟨l,h1,h2⟩:=BK hE (n:=0) ha rfl c1;obtain ⟨u,h3,h4⟩:=BK hE (n:=len) hb rfl (ej c1 c2);have hc0:0<=c:=ej (ej c1 c2) c3;obtain ⟨c,rfl⟩:=cm hc0
   refine iY.val hS h (HP he h1 h3 (m:=some c) (by simp only [OH,qN hE hm];rfl) ?_) ⟨esz,rfl,hat⟩
   rw [hx];have c5:(cf a.toNat b.toNat&&cf b.toNat c&&cf c cap)=true:=by
    have c4':(c:Int)<=(cap:Int):=c4
    simp;omega
   simp only [wL,h2,h4,c5,if_true];rfl
  |_=>cases h
theorem aGE (hE:eK s e pe) (hS:cW s ps) {esz:Nat} {x:gH} {lo hi mx:Option gH} (h:pL e s z (.slc esz x lo hi mx) k ρ w=some y):iY s ps (bM pe ps z (.slc esz x lo hi mx)) k ρ w y:=by
 simp only [pL] at h;have hx:=eF hE x;unfold aUI at h;generalize bZ e x=v at h hx;cases v with
 |sl r l=>
  cases mx with
  |some _=>cases h
  |none=>
   dsimp only at h;obtain ⟨he,h⟩:=dF h;have he:=bn he;obtain ⟨a,ha,h⟩:=bR h;obtain ⟨b,hb,h⟩:=bR h;obtain ⟨m,hm,hk⟩:=dA h;obtain ⟨n1,n2,rfl,rfl,c1,c2,rfl⟩:=OI hm;obtain ⟨u1,h1,h2⟩:=BK hE (n:=0) ha rfl (by simp)
   obtain ⟨u2,h3,h4⟩:=BK hE (n:=l.length) hb rfl (by simp)
   have hx':x.ev pe= .sl r.length false (l.map (RT.pv r)):=hx;subst he;refine iY.val hS (p:= .sl r.length false ((((l.drop n1).take (n2-n1))).map (RT.pv r))) hk (HP (m:=none) (by rw [hx'];simp [A7]) h1 h3 rfl ?_) rfl
   rw [hx'];have h2':u1.getD 0=n1:=by rw [h2];rfl
   have h4':u2.getD (l.map (RT.pv r)).length=n2:=by rw [cz,h4];rfl
   have c3:(cf n1 n2&&cf n2 (l.map (RT.pv r)).length)=true:=by simp [c1,c2]
   simp only [wL,h2',h4',c3,if_true,Bool.false_and,de,dz]
 |own t ex=>
  simp only [cM] at h;generalize hst:s[t]? =b at h;cases b with
  |none=>cases h
  |some b=>
   cases b with
   |arr r l=>
    dsimp only at h;obtain ⟨he,hk⟩:=dF h;have he:=bn he;obtain ⟨e',n',hx,hat⟩:=hx;obtain ⟨rfl,rfl⟩:=hat.inv hst;subst he;have hesz:GV s t r.length:= .inl ⟨r,l,hst,rfl⟩;have gen:Z4 e t 0 l.length l.length ex lo hi mx k ρ w=some y->iY s ps (bM pe ps z (.slc r.length x lo hi mx)) k ρ w y:=fun h=>T0 hE hS hx hesz h
    have he:A7 r.length (x.ev pe)=true:=by rw [hx];simp [A7]
    cases mx with
    |some m=>cases lo<;>cases hi<;>exact gen hk
    |none=>
     cases lo with
     |some _=>cases hi<;>exact gen hk
     |none=>
      cases hi with
      |none=>
       refine iY.val hS hk (HP (l:=none) (h:=none) (m:=none) he rfl rfl rfl ?_) ⟨r.length,l.length,rfl,hat⟩;rw [hx];simp [wL]
      |some ho=>
       dsimp only at hk;generalize hh:bZ e ho=vh at hk;cases vh with
       |int kh b=>
        obtain ⟨m,hm,hk⟩:=dA hk;obtain ⟨n1,n2,h0,rfl,c1,c2,rfl⟩:=OI hm;refine iY.val hS hk (HP (l:=none) (h:=some n2) (m:=none) he rfl (by simp only [OH,qN hE hh];rfl) rfl ?_) ⟨r.length,rfl,hesz⟩
        rw [hx];have c3:(cf 0 n2&&cf n2 l.length)=true:=by simp [c2]
        simp only [wL,fa,ge,c3,if_true];rfl
       |_=>cases hk
   |_=>cases h
 |pre t len cap ex=>
  simp only [cM] at h;generalize hst:s[t]? =b at h;cases b with
  |none=>cases h
  |some b=>
   cases b with
   |arr r l=>
    dsimp only at h;obtain ⟨he,hk⟩:=dF h;have he:=bn he;obtain ⟨e',hx,hat⟩:=hx
    have:=hat.inv hst
    subst this;subst he;have gen:Z4 e t 0 len cap ex lo hi mx k ρ w=some y->iY s ps (bM pe ps z (.slc r.length x lo hi mx)) k ρ w y:=fun h=>T0 hE hS hx hat h
    have he:A7 r.length (x.ev pe)=true:=by rw [hx];simp [A7]
    cases mx with
    |some m=>cases lo<;>cases hi<;>exact gen hk
    |none=>
     cases lo with
     |some _=>cases hi<;>exact gen hk
     |none=>
      cases hi with
      |none=>
       obtain ⟨hlc,hk⟩:=jY hk;refine iY.val hS hk (HP (l:=none) (h:=none) (m:=none) he rfl rfl rfl ?_) ⟨r.length,rfl,hat⟩;rw [hx];have c3:(cf 0 len&&cf len cap)=true:=by simp [hlc]
       simp only [wL,fa,c3,if_true];simp
      |some ho=>
       dsimp only at hk;generalize hh:bZ e ho=vh at hk;cases vh with
       |int kh b=>
        obtain ⟨hc,hk⟩:=jY hk;simp only [bo,decide_eq_true_eq] at hc;obtain ⟨c1,c2⟩:=hc;obtain ⟨b,rfl⟩:=cm c1;refine iY.val hS hk (HP (l:=none) (h:=some b) (m:=none) he rfl (by simp only [OH,qN hE hh];rfl) rfl ?_) ⟨r.length,rfl,hat⟩
        rw [hx];have c3:(cf 0 b&&cf b cap)=true:=by
         have c2':(b:Int)<=(cap:Int):=c2
         simp;omega
        simp only [wL,fa,ge,c3,if_true];rfl
       |_=>cases hk
   |_=>cases h
 |part t off len cap ex=>
  simp only [cM] at h;generalize hst:s[t]? =b at h;cases b with
  |none=>cases h
  |some b=>
   cases b with
   |arr r l=>
    dsimp only at h;obtain ⟨he,hk⟩:=dF h;have he:=bn he;obtain ⟨e',hx,hat⟩:=hx
    have:=hat.inv hst
    subst this;subst he;exact T0 hE hS hx hat hk
   |_=>cases h
 |_=>cases h
theorem pP {b:SB}:(s++[b])[s.length]? =some b:=by simp
theorem fT: ∀{v:PV} {p:PT},iU v=some p->p.pv p.zero=v
 | .int k n,p,h=>by
  simp only [iU] at h;split at h
  · injection h with h;subst h;rfl
  cases h
 | .bool b,p,h=>by
  simp only [iU] at h;split at h
  · injection h with h;subst h;rfl
  cases h
 | .undef,_,h| .nul,_,h| .str _,_,h| .agg _,_,h| .tup _,_,h| .sl _ _ _,_,h| .own _ _ _ _ _ _,_,h| .ptr _ _ _ _,_,h| .rptr _ _,_,h| .mp _,_,h| .clo _ _ _,_,h| .nilf,_,h=>by cases h
theorem JA : ∀ {l : List PV} {r : List PT}, N6 l = some r -> RT.pv r (RT.zero r) = l
  | [], r, h => by injection h with h; subst h; rfl
  | v :: vs, r, h => by
    simp only [N6] at h
    split at h
    · rename_i p q h1 h2
      injection h with h; subst h
      have e1 := fT h1
      have e2 := JA h2
      cases q with
      | nil =>
        have : vs = [] := by
          cases vs with
          | nil => rfl
          | cons a b => simp only [RT.pv] at e2; cases e2
        subst this
        show [p.pv p.zero] = _
        rw [e1]
      | cons p2 q2 =>
        show p.pv p.zero :: RT.pv (p2 :: q2) (RT.zero (p2 :: q2)) = _
        rw [e1, e2]
    cases h
theorem aGF (hE:eK s e pe) (hS:cW s ps) {esz:Nat} {zero:qJ} {l c:gH} (h:pL e s z (.mks esz zero l c) k ρ w=some y):iY s ps (bM pe ps z (.mks esz zero l c)) k ρ w y:=by
 simp only [pL] at h;generalize hl:bZ e l=vl at h;cases vl with
 |int kl n=>
  generalize hc:bZ e c=vc at h;cases vc with
  |int kc m=>
   obtain ⟨hnm,h1⟩:=jY h;obtain ⟨r,hr,h2⟩:=bR h1;obtain ⟨he,h3⟩:=dF h2;obtain ⟨x,hx,hk⟩:=dA h3;have hnm:n=m:=by simpa using hnm
   subst hnm;have he:=bn he;subst he;unfold GQ at hx;split at hx
   · rename_i hc2
     injection hx with hx;subst hx;obtain ⟨a,rfl⟩:=cm hc2.1;have h1:(cf a a&&cf a most)=true:=by simp [most];omega
     refine ⟨_,_,?_,iZ.new hS (b:= .arr r (db (dp a).toNat (RT.zero r))) (q:= .arr r.length (db a zero)) (v:= .own s.length true) (p:= .own s.length r.length 0 a a true) (rd:=[]) ?_ ?_,hk⟩
     · have e1:mM (.int kl (a:Int))=some a:=rfl
       have e2:mM (.int kc (a:Int))=some a:=rfl;simp only [bM,qN hE hl,qN hE hc,e1,e2];rw [if_pos h1,hS.len]
     · show _=_
       simp [JA hr]
     exact ⟨r.length,a,rfl,.inl ⟨r,_,pP,rfl,by simp⟩⟩
   cases hx
  |_=>cases h
 |_=>cases h
def CG {α:Type}:List α->List (Nat×α)->List α
 |l,[]=>l
 |l,(i,a)::r=>CG (l.set i a) r
theorem OJ {α : Type} : ∀ (q : List (Nat × α)) (l : List α) (i : Nat), (CG l q)[i]? = (l[i]?).map fun z => L0 i z q
  | [], l, i => by simp [CG, L0]
  | (j, a) :: q, l, i => by
    simp only [CG, L0]
    rw [OJ q (l.set j a) i, ce]
    by_cases hji : j = i
    · subst hji
      cases hl : l[j]? with
      | none =>
        have : ¬ j < l.length := by intro h; rw [bz h] at hl; cases hl
        simp [this]
      | some z =>
        have : j < l.length := (bq.1 hl).1
        simp [this]
    have : ci j i = false := by
      cases hb : ci j i with
      | false => rfl
      | true => exact absurd (bn hb) hji
    simp [hji, this]
theorem WU {α:Type} (f:Nat->α): ∀(n i j:Nat),(TS f i n)[j]? =if j<n then some (f (i+j)) else none
 |0,i,j=>by simp [TS]
 |n+1,i,0=>by simp [TS]
 |n+1,i,j+1=>by
  simp only [TS,dj];rw [WU f n (i+1) j,show i+1+j=i+(j+1) by omega]
  by_cases h:j<n
  · simp [h]
  simp [h]
theorem OK {α:Type} (z:α) (n:Nat) (q:List (Nat×α)):CG (db n z) q=TS (fun i=>L0 i z q) 0 n:=by
 apply fy;intro i;rw [OJ,WU]
 by_cases h:i<n
 · simp [h]
 simp [h]
theorem OL (hE:eK s e pe) {r:List PT} {n:Nat}: ∀{parts:List (Nat×gH)} {q:List (Nat×RT r)} {l:List (RT r)},aBi r e n parts=some q->l.length=n->
 vI (parts.map fun p=>(p.1,p.2.ev pe)) (l.map (RT.pv r)) r.length=some ((CG l q).map (RT.pv r))
 | [],q,l,h,hl=>by injection h with h;subst h;rfl
 |p::parts,q,l,h,hl=>by
  simp only [aBi] at h;split at h
  · rename_i a q' h1 h2
    cases hb:fj p.1 n with
    |false=>rw [hb] at h;cases h
    |true=>
     rw [hb] at h;injection h with h;subst h;have hp:=((eF hE p.2).ofRow h1).1;simp only [c6,vI,hp,RT.pv_len,cz,hl,hb,c8,c7,if_true,CG];rw [<- fw];exact OL hE h2 (by simp [hl])
  cases h
theorem aC7 (hE:eK s e pe) (hS:cW s ps) {esz n:Nat} {zero:qJ} {parts:List (Nat×gH)} (h:pL e s z (.mkrow esz n zero parts) k ρ w=some y):iY s ps (bM pe ps z (.mkrow esz n zero parts)) k ρ w y:=by
 simp only [pL] at h;obtain ⟨r,hr,h1⟩:=bR h;obtain ⟨he,h2⟩:=dF h1;obtain ⟨q,hq,hk⟩:=bR h2;have he:=bn he;subst he;have hf:=OL hE (l:=db n (RT.zero r)) hq (by simp)
 rw [OK] at hf;have hz:(db n (RT.zero r)).map (RT.pv r)=db n zero:=by simp [JA hr]
 rw [hz] at hf;refine ⟨_,_,?_,iZ.new hS (b:= .arr r (TS (fun i=>L0 i (RT.zero r) q) 0 n)) (q:= .arr r.length ((TS (fun i=>L0 i (RT.zero r) q) 0 n).map (RT.pv r))) (v:= .own s.length true) (p:= .own s.length r.length 0 n n true) (rd:=[]) rfl ?_,hk⟩
 · simp only [bM,hf,hS.len]
   rfl
 refine ⟨r.length,n,rfl,.inl ⟨r,_,pP,rfl,?_⟩⟩
 rw [<- OK]
 have: ∀(q:List (Nat×RT r)) (l:List (RT r)),(CG l q).length=l.length:=by
  intro q
  induction q with
  |nil=>intro l;rfl
  |cons p q ih=>intro l;simp [CG,ih]
 rw [this];simp
theorem aBv: ∀{cs:List SV} {q:List PV} {l:List Int},RL s cs q->aBj cs=some l->q=l.map (.int .i64)
 | [],q,l,h,hi=>by injection hi with hi;subst hi;exact h
 |x::xs,q,l,h,hi=>by
  obtain ⟨p,q,rfl,h1,h2⟩:=h.cons_inv;simp only [aBj] at hi;split at hi
  · rename_i n l' hx
    injection hi with hi;subst hi;rw [show p= .int .i64 n from h1,aBv h2 hx];rfl
  cases hi
theorem aEA {v:SV} {p:PV} {n:Option Nat} {l:List Int} (h:R s v p) (hk:aGn n v=some l):p=zJ l/\lS n (zJ l)=true/\(zJ l).storedPlain=some (zJ l).cells/\(zJ l).cells=l.map (.int .i64)/\(n=none->l.length=1)/\(∀m,n=some m->l.length=m/\m≠1):=by
 cases n with
 |none=>
  cases v with
  |int kk a=>
   cases kk with
   |i64=>
    injection hk with hk;subst hk;exact ⟨h,rfl,rfl,rfl,fun _=>rfl,fun m hm=>by cases hm⟩
   |_=>cases hk
  |_=>cases hk
 |some m=>
  cases v with
  |agg cs=>
   simp only [aGn] at hk;cases hc:(ci cs.length m&&!Nat.beq m 1) with
   |false=>rw [hc] at hk;cases hk
   |true=>
    rw [hc] at hk;simp only [cond_true] at hk;simp only [bo,ek,cq] at hc;obtain ⟨c1,c2⟩:=hc;obtain ⟨q,rfl,hq⟩:=h;have hq':=aBv hq hk;have hlen:l.length=m:=by have:=hq.length;rw [hq'] at this;simp at this;omega
    have hm1:m≠1:=by intro e;subst e;cases c2
    have hkl:zJ l= .agg (l.map (.int .i64)):=by
     unfold zJ;split
     · simp at hlen;omega
     rfl
    refine ⟨by rw [hkl,hq'],by rw [hkl];simp [lS,hlen],?_,by rw [hkl];rfl,(fun h=>(by cases h)),fun m' hm=>by injection hm with hm;subst hm;exact ⟨hlen,hm1⟩⟩
    rw [hkl];unfold PV.storedPlain;rw [if_pos];simp [PV.cells,PV.plain]
  |_=>cases hk
theorem CH: ∀(a b:List Int),a.length=b.length->dZ (a.map (.int .i64)) (b.map (.int .i64))=some (a==b)
 | [],[],_=>rfl
 |x::a,y::b,h=>by
  have ih:=CH a b (by simpa using h)
  simp only [c6,dZ,wK,WR,if_true];cases hxy:x==y with
  |true=>simp only [ih];simp [ft,hxy]
  |false=>simp [ft,hxy]
 | [],_::_,h=>by simp at h
 |_::_,[],h=>by simp at h
theorem KV {n : Option Nat} {a : List Int} (ha : (zJ a).cells = a.map (.int .i64)) (hn : (n = none -> a.length = 1) /\ (∀ m, n = some m -> a.length = m /\ m ≠ 1)) : ∀ (l : List (List Int)) (i : Nat), (∀ r, gD n (zJ a) (l.map I6) i = some r -> (match r with | none => ML l a = false | some j => i <= j /\ ML l a = true /\ l[j - i]? = some a))
  | [], i, r, h => by
    simp only [ga, gD, bw] at h
    subst h; rfl
  | b :: l, i, r, h => by
    simp only [c6, I6, gD] at h
    split at h
    · rename_i hk
      have hb : (zJ b).cells = b.map (.int .i64) /\ a.length = b.length := by
        cases n with
        | none =>
          have hl := hn.1 rfl
          unfold zJ at hk ⊢
          split at hk
          · exact ⟨rfl, by simpa using hl⟩
          cases hk
        | some m =>
          obtain ⟨hl, hm⟩ := hn.2 m rfl
          unfold zJ at hk ⊢
          split at hk
          · cases hk
          simp only [lS, cz, ek] at hk
          exact ⟨rfl, by omega⟩
      rw [ha, hb.1, CH a b hb.2] at h
      cases hab : a == b with
      | true =>
        rw [hab] at h
        injection h with h; subst h
        have : a = b := by simpa using hab
        subst this
        exact ⟨fh _, by simp [ML], by simp⟩
      | false =>
        rw [hab] at h
        have := KV ha hn l (i + 1) r h
        cases r with
        | none => simpa [ML, hab] using this
        | some j =>
          obtain ⟨h1, h2, h3⟩ := this
          refine ⟨by omega, by simp only [ML] at h2; simp [ML, h2], ?_⟩
          rw [show j - i = (j - (i + 1)) + 1 by omega]; simpa using h3
    cases h
theorem JB {n:Option Nat} {a:List Int} (ha:(zJ a).cells=a.map (.int .i64)) (hn:(n=none->a.length=1)/\(∀m,n=some m->a.length=m/\m≠1)) {l:List (List Int)} (hl:l.all (fun b=>lS n (zJ b))=true): ∀i,∃r,gD n (zJ a) (l.map I6) i=some r:=by
 induction l with
 |nil=>intro i;exact ⟨none,rfl⟩
 |cons b l ih=>
  intro i;simp only [fo,bo] at hl;obtain ⟨r,hr⟩:=ih hl.2 (i+1);simp only [c6,I6,gD,hl.1,if_true];have hb:(zJ b).cells=b.map (.int .i64)/\a.length=b.length:=by
   have hk:=hl.1;cases n with
   |none=>
    have hl':=hn.1 rfl;unfold zJ at hk ⊢;split at hk
    · exact ⟨rfl,by simpa using hl'⟩
    cases hk
   |some m=>
    obtain ⟨hl',hm⟩:=hn.2 m rfl;unfold zJ at hk ⊢;split at hk
    · cases hk
    simp only [lS,cz,ek] at hk
    exact ⟨rfl,by omega⟩
  rw [ha,hb.1,CH a b hb.2];cases hab:a==b with
  |true=>exact ⟨some i,rfl⟩
  |false=>exact ⟨r,hr⟩
theorem L4 {n:Option Nat} {a:List Int} (hn:(n=none->a.length=1)/\(∀m,n=some m->a.length=m/\m≠1)) {l:List (List Int)} (hl: ∀b∈l,b.length=a.length):l.all (fun b=>lS n (zJ b))=true:=by
 rw [dh];intro b hb;have hlen:=hl b hb;cases n with
 |none=>
  have h1:=hn.1 rfl;rw [h1] at hlen
  match b,hlen with
  | [x],_=>rfl
 |some m=>
  obtain ⟨h1,h2⟩:=hn.2 m rfl;unfold zJ;split
  · rename_i x;simp at hlen;omega
  simp [lS];omega
theorem JC {a:List Int} {l:List (List Int)} (h:rZ a l=true): ∀b∈l,b.length=a.length:=by
 intro b hb;exact bn (dh.1 h b hb)
theorem PT.of_R {s:List SB} {p:PT} {v:SV} {q:PV} {a:p.T} (h:R s v q) (ho:p.of v=some a):q=p.pv a:=by
 cases p with
 |i k=>
  cases v with
  |int l n=>
   simp only [PT.of] at ho;cases hk:gE l k with
   |false=>rw [hk] at ho;cases ho
   |true=>
    rw [hk] at ho;obtain rfl:=fW.1 hk;injection ho with ho;subst ho;exact h
  |_=>cases ho
 |b=>
  cases v with
  |bool x=>
   injection ho with ho;subst ho;exact h
  |_=>cases ho
theorem OM {β:Type} (g:Int×β->PV×PV) (hg: ∀x,(g x).1= .int .i64 x.1) (k:Int): ∀(l:List (Int×β)) (i:Nat),
 (∃j x,gD none (.int .i64 k) (l.map g) i=some (some (i+j))/\l[j]? =some x/\(∀z,vR z l k=x.2)/\ ∀a,tG l k a=l.set j (k,a))\/
 (gD none (.int .i64 k) (l.map g) i=some none/\(∀z,vR z l k=z)/\ ∀a,tG l k a=l++[(k,a)])
 | [],i=> .inr ⟨rfl,fun _=>rfl,fun _=>rfl⟩
 |x::l,i=>by
  have hk:lS none (g x).1=true:=by rw [hg];rfl
  have he:dZ (PV.int .i64 k).cells (g x).1.cells=some (k==x.1):=by
   rw [hg];show dZ [.int .i64 k] [.int .i64 x.1]=_;simp only [dZ,wK,gE,if_true];cases k==x.1<;>rfl
  have hf:gD none (.int .i64 k) ((x::l).map g) i=(match some (k==x.1) with
   |some true=>some (some i)
   |some false=>gD none (.int .i64 k) (l.map g) (i+1)
   |none=>none):=by
   rw [c6];show (if lS none (g x).1 then _ else none)=_
   rw [if_pos hk,he];cases k==x.1<;>rfl
  cases hb:k==x.1 with
  |true=>
   rw [hb] at hf;exact .inl ⟨0,x,hf,rfl,fun z=>by simp only [vR,hb,cond_true],fun a=>by simp only [tG,hb,cond_true,List.set_cons_zero]⟩
  |false=>
   rw [hb] at hf;rcases OM g hg k l (i+1) with ⟨j,y,h1,h2,h3,h4⟩|⟨h1,h2,h3⟩
   · refine .inl ⟨j+1,y,?_,by simpa using h2,fun z=>?_,fun a=>?_⟩
     · rw [hf];show gD none (.int .i64 k) (l.map g) (i+1)=_
       rw [h1,show i+1+j=i+(j+1) by omega]
     · simp only [vR,hb,cond_false,h3]
     simp only [tG,hb,cond_false,h4,List.set_cons_succ]
   exact .inr ⟨hf.trans h1,fun z=>by simp only [vR,hb,cond_false,h2],fun a=>by simp only [tG,hb,cond_false,h3,fb]⟩
theorem ON (p:PT) (k:Int) (l:List (RT [.i .i64,p])):
 (∃(j:Nat) (x:RT [.i .i64,p]),gD none (.int .i64 k) (l.map (MM p)) 0=some (some j)/\l[j]? =some x/\(∀z,p.get z l k=x.2)/\ ∀a,p.put l k a=l.set j (k,a))\/
 (gD none (.int .i64 k) (l.map (MM p)) 0=some none/\(∀z,p.get z l k=z)/\ ∀a,p.put l k a=l++[(k,a)]):=by
 cases p with
 |i d=>
  rcases OM (β:=Int) (MM (.i d)) (fun _=>rfl) k l 0 with ⟨j,x,h1,h2,h3,h4⟩|h
  · exact .inl ⟨j,x,by rw [h1,d9],h2,h3,h4⟩
  exact .inr h
 |b=>
  rcases OM (β:=Bool) (MM .b) (fun _=>rfl) k l 0 with ⟨j,x,h1,h2,h3,h4⟩|h
  · exact .inl ⟨j,x,by rw [h1,d9],h2,h3,h4⟩
  exact .inr h
theorem PT.sv_R {s:List SB} (p:PT) (a:p.T):R s (p.sv a) (p.pv a):=by cases p<;>rfl
theorem PT.pv_plain (p:PT) (a:p.T):(p.pv a).storedPlain=some [p.pv a]:=by cases p<;>rfl
theorem aAg (hE:eK s e pe) (hS:cW s ps) {n:Option Nat} {zero:PV} {ok:Bool} {m q:gH} (h:pL e s z (.lookup n zero ok m q) k ρ w=some y):iY s ps (bM pe ps z (.lookup n zero ok m q)) k ρ w y:=by
 simp only [pL] at h;have hx:=eF hE m;generalize bZ e m=v at h hx;cases v with
 |mp t=>
  simp only [cM] at h;generalize hst:s[t]? =b at h;cases b with
  |none=>cases h
  |some b=>
   cases b with
   |set l=>
    dsimp only at h;unfold aBl at h;cases zero with
    |bool b=>
     cases b with
     |true=>cases h
     |false=>
      cases ok with
      |true=>cases h
      |false=>
       obtain ⟨a,ha,h1⟩:=bR h;obtain ⟨b,hb,hk⟩:=dA h1;obtain ⟨k1,k2,k3,k4,k5⟩:=aEA (eF hE q) ha;unfold WG at hb;cases hlk:rZ a l with
       |false=>rw [hlk] at hb;cases hb
       |true=>
        rw [hlk] at hb;injection hb with hb;subst hb;obtain ⟨r,hr⟩:=JB k4 k5 (L4 k5 (JC hlk)) 0;have hf:=KV k4 k5 l 0 r hr;refine iY.rd hS hk ?_ rfl;show zK ps n (.bool false) false (m.ev pe) (q.ev pe)=_;rw [show m.ev pe=_ from hx,k1];simp only [zK,hS.set_ hst,k2,if_true,hr];cases r with
        |none=>simp only at hf;simp [hf]
        |some j=>
         obtain ⟨_,h2,h3⟩:=hf
         have:(l.map I6)[j]? =some (I6 a):=by simp at h3;simp [h3]
         simp [this,h2,I6]
    |_=>cases h
   |tab p l=>
    dsimp only at h;unfold aBm at h;cases n with
    |some _=>cases h
    |none=>
     cases ok with
     |true=>cases h
     |false=>
      have hq:=eF hE q;generalize bZ e q=u at h hq;cases u with
      |int d a=>
       cases d with
       |i64=>
        obtain ⟨zv,hz,hk⟩:=bR h;have hzero:=PT.of_R (aAe s zero) hz;refine iY.rd hS hk ?_ (PT.sv_R p _);show zK ps none zero false (m.ev pe) (q.ev pe)=_;rw [show m.ev pe=_ from hx,show q.ev pe=_ from hq];rcases ON p a l with ⟨j,x,h1,h2,h3,_⟩|⟨h1,h2,_⟩
        · have h5:(l.map (MM p))[j]? =some (MM p x):=by simp [h2]
          simp only [zK,hS.tab_ hst,lS,if_true,h1,h5,h3,MM,cj,if_false]
        simp only [zK,hS.tab_ hst,lS,if_true,h1,h2,hzero,cj,if_false]
       |_=>cases h
      |_=>cases h
   |_=>cases h
 |_=>cases h
theorem aEB (hE:eK s e pe) (hS:cW s ps) {n:Option Nat} {m q x:gH} (h:pL e s z (.mapu n m q x) k ρ w=some y):iY s ps (bM pe ps z (.mapu n m q x)) k ρ w y:=by
 simp only [pL] at h;have hx:=eF hE m;generalize bZ e m=v at h hx;cases v with
 |mp t=>
  simp only [cM] at h;generalize hst:s[t]? =b at h;cases b with
  |none=>cases h
  |some b=>
   cases b with
   |set l=>
    obtain ⟨hz,h0⟩:=xO h;unfold aEf at h0;have hv:=eF hE x;generalize bZ e x=u at h0 hv;cases u with
    |bool b=>
     cases b with
     |false=>cases h0
     |true=>
      obtain ⟨a,ha,h1⟩:=bR h0;obtain ⟨b,hb,hk⟩:=dA h1;obtain ⟨k1,k2,k3,k4,k5⟩:=aEA (eF hE q) ha;unfold WH at hb;cases hlk:rZ a l with
      |false=>rw [hlk] at hb;cases hb
      |true=>
       rw [hlk] at hb;injection hb with hb;subst hb;obtain ⟨r,hr⟩:=JB k4 k5 (L4 k5 (JC hlk)) 0;have hf:=KV k4 k5 l 0 r hr;refine ⟨_,_,?_,iZ.put0 hS (b:= .set (Z2 l a)) (q:= .map ((Z2 l a).map I6)) (rd:=[]) hst trivial rfl,hk⟩;show LS ps z n (m.ev pe) (q.ev pe) (x.ev pe)=_;rw [show m.ev pe=_ from hx,k1,show x.ev pe= .bool true from hv]
       have p2:(PV.bool true).storedPlain=some [.bool true]:=rfl;simp only [LS,hS.set_ hst,k2,hz,dt,c7,if_true,k3,p2,hr];cases r with
       |none=>simp only at hf;simp [Z2,hf,I6]
       |some j=>
        obtain ⟨_,h2,h3⟩:=hf;have h5:l[j]? =some a:=by simpa using h3
        have:(l.map I6).set j (zJ a,.bool true)=l.map I6:=by
         apply fy;intro i;rw [ce];split
         · rename_i hij
           subst hij;have hlt:=(bq.1 h5).1;have h6:l[j]=a:=(bq.1 h5).2;simp [hlt,h6,I6]
         rfl
        simp [Z2,h2,this]
    |_=>cases h0
   |tab p l=>
    obtain ⟨hz,h0⟩:=xO h;unfold aEg at h0;cases n with
    |some _=>cases h0
    |none=>
     have hq:=eF hE q;generalize bZ e q=u at h0 hq;cases u with
     |int d a=>
      cases d with
      |i64=>
       obtain ⟨xv,hxv,hk⟩:=bR h0;have hval:=PT.of_R (eF hE x) hxv;refine ⟨_,_,?_,iZ.put0 hS (b:= .tab p (p.put l a xv)) (q:= .map ((p.put l a xv).map (MM p))) (rd:=[]) hst trivial rfl,hk⟩;show LS ps z none (m.ev pe) (q.ev pe) (x.ev pe)=_;rw [show m.ev pe=_ from hx,show q.ev pe=_ from hq,hval];have p1:(PV.int .i64 a).storedPlain=some [.int .i64 a]:=rfl
       rcases ON p a l with ⟨j,x,h1,_,_,h3⟩|⟨h1,_,h3⟩
       · simp only [LS,hS.tab_ hst,lS,hz,dt,c7,if_true,p1,PT.pv_plain,h1,h3,fw,MM]
       simp only [LS,hS.tab_ hst,lS,hz,dt,c7,if_true,p1,PT.pv_plain,h1,h3,dm,c6,ga,MM]
      |_=>cases h0
     |_=>cases h0
   |_=>cases h
 |_=>cases h
theorem GV.fr' {s s':List SB} {bad:List Nat} {t e:Nat} (h:GV s t e) (hf:Fr bad s s'):GV s' t e:=by
 rcases h with ⟨r,l,h1,h2⟩|h1|⟨cs,h1,h2⟩
 · rcases hf t _ h1 with ⟨l',k1,_,_⟩|k1
   · exact .inl ⟨r,l',k1,h2⟩
   exact .inr (.inl k1)
 · exact .inr (.inl (hf t _ h1))
 rcases hf t _ h1 with ⟨c2,k1⟩|k1
 · exact .inr (.inr ⟨c2,k1,h2⟩)
 exact .inr (.inl k1)
theorem HQ {α:Type} {l r:List α} (h:bU l=some r):r=l/\l.length<=1048576:=by
 unfold bU at h;split at h
 · injection h with h;exact ⟨h.symm,by assumption⟩
 cases h
theorem EL {α:Type} {l m r:List α} (h:bN l m=some r):r=l++m/\l.length+m.length<=1048576:=by
 unfold bN at h;split at h
 · injection h with h;exact ⟨h.symm,by assumption⟩
 cases h
theorem zS: ∀(m l:List qJ) (n:Nat),n+m.length<=l.length->nY n m l=jQ l n m
 | [],l,n,h=>by simp [nY,jQ]
 |a::m,l,n,h=>by
  simp only [cu] at h;rw [nY,zS m (l.set n a) (n+1) (by simp;omega)]
  unfold jQ;rw [List.take_set,List.drop_set];have hn:n<l.length:=by omega
  have h1: ¬(n+1+m.length<=n):=by omega
  rw [if_pos (by omega)]
  have:(l.take (n+1)).set n a=l.take n++[a]:=by
   rw [List.take_succ_eq_append_getElem hn,List.set_append_right _ _ (by simp;omega)]
   simp [ff (fx hn)]
  rw [this];simp only [cw,fb,List.nil_append,cu];rw [show n+1+m.length=n+(m.length+1) by omega]
theorem OO {α β:Type} (f:α->β) (l m:List α) (n:Nat):(jQ l n m).map f=jQ (l.map f) n (m.map f):=by
 simp [jQ,de,dz]
theorem JD {α:Type} (l m:List α) (n:Nat) (h:n+m.length<=l.length):(jQ l n m).length=l.length:=by
 simp [jQ];omega
theorem aAh (hE:eK s e pe) (hS:cW s ps) {esz:Nat} {x yy:gH} (h:pL e s z (.append esz x yy) k ρ w=some y):iY s ps (bM pe ps z (.append esz x yy)) k ρ w y:=by
 simp only [pL] at h;have hx:=eF hE x;have hyv:=eF hE yy;unfold aBk at h;generalize bZ e yy=vy at h hyv;cases hc:GS s vy with
 |none=>rw [hc] at h;cases h
 |some cc=>
  obtain ⟨q,m⟩:=cc;rw [hc] at h;dsimp only at h;obtain ⟨he,h⟩:=dF h;have he:=bn he;obtain ⟨hro,htk⟩:=aBt hS hyv hc;rw [he] at hro;have pe_app:bM pe ps z (.append esz x yy)=kT ps z esz (x.ev pe) (yy.ev pe):=rfl;generalize bZ e x=v at h hx;cases v with
  |nil e' c=>
   dsimp only at h;obtain ⟨hcl,h⟩:=dF h;obtain ⟨m',hm',hk⟩:=dA h;obtain ⟨rfl,hle⟩:=HQ hm';refine ⟨_,_,?_,iZ.new hS (b:= .arr q m') (q:= .arr esz (m'.map (RT.pv q))) (v:= .own s.length false) (p:= .own s.length esz 0 m'.length m'.length false) (rd:=CC vy) (by rw [<- he];rfl) ⟨esz,m'.length,rfl,.inl ⟨q,m',pP,he.symm,rfl⟩⟩,hk⟩
   rw [pe_app];have hcl':c=true:=hcl;subst hcl';rw [show x.ev pe= .sl e' true [] from hx];unfold kT;rw [hro];cases m' with
   |nil=>simp [hS.len,htk]
   |cons a m'=>
    have h2:cf ((a::m').length) most=true:=by simp [most] at hle ⊢;omega
    simp only [cu] at h2;simp [hS.len,htk,h2]
  |own t ex=>
   dsimp only at h;simp only [cM] at h;generalize hst:s[t]? =b at h;cases b with
   |none=>cases h
   |some b=>
    cases b with
    |arr r l=>
     dsimp only at h;cases hca:xY q r m with
     |none=>rw [hca] at h;cases h
     |some m2=>
      rw [hca] at h;dsimp only at h;obtain ⟨rfl,hmp,hml⟩:=I5 hca;obtain ⟨e',n',hx,hat⟩:=hx;obtain ⟨rfl,rfl⟩:=hat.inv hst;rw [<- hmp] at hro;have harr:=hS.arr hst;cases ex with
      |true=>
       dsimp only at h;rcases fX h with ⟨hl,h⟩|⟨hl,h⟩
       · obtain ⟨m',hm',hk⟩:=dA h
         obtain ⟨rfl,hle⟩:=HQ hm';have hl:l=[]:=by simpa using hl
         subst hl;refine ⟨_,_,?_,iZ.new hS (b:= .arr q m') (q:= .arr q.length (m'.map (RT.pv q))) (v:= .own s.length false) (p:= .own s.length q.length 0 m'.length m'.length false) (rd:=t::CC vy) rfl ⟨q.length,m'.length,rfl,.inl ⟨q,m',pP,rfl,rfl⟩⟩,hk⟩;rw [pe_app,hx];unfold kT;rw [hro];subst he;cases m' with
         |nil=>simp [hS.len,htk]
         |cons a m'=>
          have h2:cf ((a::m').length) most=true:=by simp [most] at hle ⊢;omega
          simp only [cu] at h2;simp [hS.len,htk,h2,harr]
       have hl:l≠[]:=by intro e;subst e;cases hl
       have hl0:l.length≠0:=by intro e;exact hl (d8.1 e)
       have hb0:ci l.length 0=false:=by
        cases hb:ci l.length 0 with
        |false=>rfl
        |true=>exact absurd (bn hb) hl0
       rcases fX h with ⟨hm,h⟩|⟨hm,h⟩
       · have hm:m2=[]:=by simpa using hm
         subst hm;refine iY.rd hS h ?_ ⟨_,_,rfl,hat⟩;rw [pe_app,hx];unfold kT;rw [hro];simp [hb0,htk]
       obtain ⟨l',hl',hk⟩:=dA h
       obtain ⟨rfl,hle⟩:=EL hl';refine ⟨_,_,?_,iZ.new hS (b:= .arr q (l++m2)) (q:= .arr q.length ((l++m2).map (RT.pv q))) (v:= .own s.length false) (p:= .own s.length q.length 0 (l++m2).length (l++m2).length false) (rd:=t::CC vy) rfl ⟨q.length,(l++m2).length,rfl,.inl ⟨q,l++m2,pP,rfl,rfl⟩⟩,hk⟩;rw [pe_app,hx];unfold kT;rw [hro];subst he;cases m2 with
       |nil=>cases hm
       |cons a m2=>
        have h2:cf (l.length+(a::m2).length) most=true:=by simp [most] at hle ⊢;omega
        have h3:cf (l.length+(m2.length+1)) l.length=false:=by
         cases hb:cf (l.length+(m2.length+1)) l.length with
         |false=>rfl
         |true=>have:=ck hb;omega
        simp only [cu] at h2;simp [hS.len,htk,h2,h3,harr,df]
      |false=>
       dsimp only at h;rcases fX h with ⟨hm,h⟩|⟨hm,h⟩
       · have hm:m2=[]:=by simpa using hm
         subst hm;refine iY.rd hS h ?_ ⟨_,_,rfl,hat⟩;rw [pe_app,hx];unfold kT;rw [hro];simp [htk]
       obtain ⟨hz,h⟩:=xO h
       obtain ⟨l',hl',hk⟩:=dA h;obtain ⟨rfl,hle⟩:=EL hl';have hlen:(KA [t] (s.set t .dead)).length=s.length:=by rw [CE];simp
       refine ⟨_,_,?_,iZ.put hS (b:= .dead) (q:= .dead) (l:=[.arr q (l++m2)]) (ql:=[.arr q.length ((l++m2).map (RT.pv q))]) (v:= .own s.length false) (p:= .own s.length q.length 0 (l++m2).length (l++m2).length false) (rd:=CC vy) hst (.inr rfl) rfl rfl
        (fun j b hj=>by
         cases j with
         |zero=>simp at hj;subst hj;exact ⟨_,rfl,rfl⟩
         |succ j=>simp at hj)
        ⟨q.length,(l++m2).length,rfl,.inl ⟨q,l++m2,by rw [<- hlen];exact pP,rfl,rfl⟩⟩,hk⟩
       rw [pe_app,hx];unfold kT;rw [hro];subst he;cases m2 with
       |nil=>cases hm
       |cons a m2=>
        have h2:cf (l.length+(a::m2).length) most=true:=by simp [most] at hle ⊢;omega
        have h3:cf (l.length+(m2.length+1)) l.length=false:=by
         cases hb:cf (l.length+(m2.length+1)) l.length with
         |false=>rfl
         |true=>have:=ck hb;omega
        simp only [cu] at h2;simp [hS.len,htk,h2,h3,harr,hz,df]
    |_=>cases h
  |pre t len cap ex=>
   dsimp only at h;simp only [cM] at h;generalize hst:s[t]? =b at h;cases b with
   |none=>cases h
   |some b=>
    cases b with
    |arr r l=>
     dsimp only at h;cases hca:xY q r m with
     |none=>rw [hca] at h;cases h
     |some m2=>
      rw [hca] at h;dsimp only at h;obtain ⟨rfl,hmp,hml⟩:=I5 hca;obtain ⟨e',hx,hat⟩:=hx
      have:=hat.inv hst
      subst this;rw [<- hmp] at hro;have harr:=hS.arr hst;obtain ⟨hex,h⟩:=xO h;subst hex;rcases fX h with ⟨hm,h⟩|⟨hm,h⟩
      · have hm:m2=[]:=by simpa using hm
        subst hm;refine iY.rd hS h ?_ ⟨_,rfl,hat⟩;rw [pe_app,hx];unfold kT;rw [hro];simp [htk]
      rcases fX h with ⟨c1,h⟩|⟨c1,h⟩
      · obtain ⟨hc2,hk⟩:=jY h
        simp only [bo,cq] at hc2;obtain ⟨c2,c3⟩:=hc2;have c2':=ck c2
        refine ⟨_,_,?_,iZ.put hS (b:= .arr q (jQ l len m2)) (q:= .arr q.length ((jQ l len m2).map (RT.pv q))) (l:=[]) (ql:=[]) (v:= .pre t (len+m2.length) cap false) (p:= .own t q.length 0 (len+m2.length) cap false) (rd:=CC vy) hst (.inl ⟨_,rfl,JD _ _ _ c2'⟩) rfl rfl
         (fun j b hj=>by simp at hj) ⟨q.length,rfl,?_⟩,hk⟩
        · rw [pe_app,hx]
          unfold kT;rw [hro];subst he;have hsr:nY (0+len) (m2.map (RT.pv q)) (l.map (RT.pv q))=(jQ l len m2).map (RT.pv q):=by
           rw [zS _ _ _ (by simp;omega),OO,d9]
          cases m2 with
          |nil=>cases hm
          |cons a m2=>
           simp only [cu] at c1;simp only [c6] at hsr ⊢;simp only [harr,c8,fq,cj,if_false,cu,cz,c1,if_true,c3,hsr,htk]
        have:=GV.fr' (s:=s) (s':=KA [t] (s.set t (.arr q (jQ l len m2)))++[]) hat ((Fr.dg (ts:=[t]) (Fr.set hst (.inl ⟨_,rfl,JD _ _ _ c2'⟩))).trans (Fr.app [t] _ []))
        exact this
      obtain ⟨hz0,h⟩:=xO h
      have hz:has z t=false:=by
       cases hh:has z t with
       |false=>rfl
       |true=>rw [hh] at hz0;cases hz0
      obtain ⟨l',hl',h⟩:=dA h;obtain ⟨hll,hk⟩:=jY h;obtain ⟨hl'e,hle⟩:=EL hl';subst hl'e;have hll':=ck hll;have htl:(l.take len).length=len:=by rw [dd];omega
      rw [htl] at hle;have hlen:(KA [t] (s.set t .dead)).length=s.length:=by rw [CE];simp
      have hal:(l.take len++m2).length=len+m2.length:=by rw [eu,htl]
      refine ⟨_,_,?_,iZ.put hS (b:= .dead) (q:= .dead) (l:=[.arr q (l.take len++m2)]) (ql:=[.arr q.length ((l.take len++m2).map (RT.pv q))]) (v:= .own s.length false) (p:= .own s.length q.length 0 (l.take len++m2).length (l.take len++m2).length false) (rd:=CC vy) hst (.inr rfl) rfl rfl
       (fun j b hj=>by
        cases j with
        |zero=>simp at hj;subst hj;exact ⟨_,rfl,rfl⟩
        |succ j=>simp at hj)
       ⟨q.length,(l.take len++m2).length,rfl,.inl ⟨q,l.take len++m2,by rw [<- hlen];exact pP,rfl,rfl⟩⟩,hk⟩
      rw [pe_app,hx];unfold kT;rw [hro];subst he;cases m2 with
      |nil=>cases hm
      |cons a m2=>
       have h2:cf (len+(m2.length+1)) most=true:=by simp [most] at hle ⊢;omega
       simp only [cu] at c1 hal;simp only [c6,cu,cz,harr,c8,fq,cj,if_false,c1,h2,hz,hS.len,htk,hal,di,dm,de]
    |_=>cases h
  |_=>cases h
end
end Go.Vm
/- Operation by operation: all of them. -/
namespace Go.Vm
section
variable {R' ρ : Type} {w : R' -> ρ} {y : ρ} {s : List SB} {ps : cV} {e : SE} {pe : zE} {z : List Nat} {k : gZ -> iK R'}
theorem aC8 (hE:eK s e pe) (hS:cW s ps) {esz:Nat} {zero:qJ} {x:gH} (h:pL e s z (.clear esz zero x) k ρ w=some y):iY s ps (bM pe ps z (.clear esz zero x)) k ρ w y:=by
 simp only [pL] at h;have hx:=eF hE x;unfold aEe at h;generalize bZ e x=v at h hx;cases v with
 |part t off len cap ex=>
  simp only [cM] at h;generalize hst:s[t]? =b at h;cases b with
  |none=>cases h
  |some b=>
   cases b with
   |arr r l=>
    dsimp only at h;cases hq:N6 zero with
    |none=>rw [hq] at h;cases h
    |some q=>
     rw [hq] at h;dsimp only at h;obtain ⟨hc,h1⟩:=dF h;simp only [bo] at hc;obtain ⟨hqr,he⟩:=hc;have hqr:=BJ hqr;have he:=bn he;obtain ⟨e',hx,hat⟩:=hx
     have:=hat.inv hst
     subst this;subst hqr;subst he;rcases fX h1 with ⟨hl,hk⟩|⟨hl,hk⟩
     · have hl:=bn hl
       subst hl;exact iY.val hS hk (by simp only [bM,hx]) rfl
     obtain ⟨hc2,hk⟩:=jY hk
     simp only [bo,cq] at hc2;obtain ⟨c1,c2⟩:=hc2;have c1':=ck c1;have hlen:=JD l (db len (RT.zero q)) off (by simpa using c1')
     refine ⟨_,_,?_,iZ.put0 hS (b:= .arr q (jQ l off (db len (RT.zero q)))) (q:= .arr q.length ((jQ l off (db len (RT.zero q))).map (RT.pv q))) (rd:=[]) hst (.inl ⟨_,rfl,hlen⟩) rfl,hk⟩;cases len with
     |zero=>cases hl
     |succ len=>
      have hsr:nY off (db (len+1) zero) (l.map (RT.pv q))=(jQ l off (db (len+1) (RT.zero q))).map (RT.pv q):=by
       rw [OO,zS _ _ _ (by simpa using c1')]
       simp [JA hq]
      simp only [bM,hx,hS.arr hst,c8,c2,dt,c7,if_true,hsr]
   |_=>cases h
 |_=>cases h
theorem HR (hS:cW s ps) {t off len cap:Nat} {ex:Bool} {r:List PT} {l:List (RT r)} {x yy:gH} {vy:SV} (hst:s[t]? =some (.arr r l)) (hx:x.ev pe= .own t r.length off len cap ex) (hyv:R s vy (yy.ev pe))
 (h:N7 s z t r l off len vy k ρ w=some y):iY s ps (bM pe ps z (.copy r.length x yy)) k ρ w y:=by
 unfold N7 at h;cases hc:GS s vy with
 |none=>rw [hc] at h;cases h
 |some cc=>
  obtain ⟨q,m⟩:=cc;rw [hc] at h;dsimp only at h;cases hca:xY q r m with
  |none=>rw [hca] at h;cases h
  |some m2=>
   rw [hca] at h;dsimp only at h;obtain ⟨hqr,hmp,hml⟩:=I5 hca;subst hqr;obtain ⟨hro,htk⟩:=aBt hS hyv hc;rw [<- hmp] at hro;have htake:(m2.map (RT.pv q)).take len=(m2.take len).map (RT.pv q):=by rw [de]
   generalize m2.take len=mm at h htake;rcases fX h with ⟨hm,hk⟩|⟨hm,hk⟩
   · have hm:mm=[]:=by simpa using hm
     subst hm;refine iY.rd hS hk ?_ rfl;simp only [bM,hro,hx,htake,ga,htk]
   obtain ⟨hc2,hk⟩:=jY hk
   simp only [bo,cq] at hc2;obtain ⟨c1,c2⟩:=hc2;have c1':=ck c1;have hlen:=JD l mm off c1'
   refine ⟨_,_,?_,iZ.put hS (b:= .arr q (jQ l off mm)) (q:= .arr q.length ((jQ l off mm).map (RT.pv q))) (l:=[]) (ql:=[]) (v:= .int .i64 (.ofNat mm.length)) (p:= .int .i64 (.ofNat mm.length)) (rd:=CC vy) hst (.inl ⟨_,rfl,hlen⟩) rfl rfl (fun j b hj=>by simp at hj) rfl,hk⟩
   have hsr:nY off (mm.map (RT.pv q)) (l.map (RT.pv q))=(jQ l off mm).map (RT.pv q):=by
    rw [OO,zS _ _ _ (by simpa using c1')]
   cases mm with
   |nil=>cases hm
   |cons a mm=>
    simp only [c6] at hsr htake;simp only [bM,hro,hx,htake,hS.arr hst,c8,c2,dt,c7,if_true,hsr,htk,cz,cu]
theorem aEC (hE:eK s e pe) (hS:cW s ps) {esz:Nat} {x yy:gH} (h:pL e s z (.copy esz x yy) k ρ w=some y):iY s ps (bM pe ps z (.copy esz x yy)) k ρ w y:=by
 simp only [pL] at h;have hx:=eF hE x;have hyv:=eF hE yy;unfold aOa at h;generalize bZ e yy=vy at h hyv;generalize bZ e x=v at h hx;cases v with
 |own t ex=>
  simp only [cM] at h;generalize hst:s[t]? =b at h;cases b with
  |none=>cases h
  |some b=>
   cases b with
   |arr r l=>
    obtain ⟨he,hk⟩:=dF h;have he:=bn he;subst he;obtain ⟨e',n',hx,hat⟩:=hx;obtain ⟨rfl,rfl⟩:=hat.inv hst;exact HR hS hst hx hyv hk
   |_=>cases h
 |pre t len cap ex=>
  simp only [cM] at h;generalize hst:s[t]? =b at h;cases b with
  |none=>cases h
  |some b=>
   cases b with
   |arr r l=>
    obtain ⟨he,hk⟩:=dF h;have he:=bn he;subst he;obtain ⟨e',hx,hat⟩:=hx
    have:=hat.inv hst
    subst this;exact HR hS hst hx hyv hk
   |_=>cases h
 |part t off len cap ex=>
  simp only [cM] at h;generalize hst:s[t]? =b at h;cases b with
  |none=>cases h
  |some b=>
   cases b with
   |arr r l=>
    obtain ⟨he,hk⟩:=dF h;have he:=bn he;subst he;obtain ⟨e',hx,hat⟩:=hx
    have:=hat.inv hst
    subst this;exact HR hS hst hx hyv hk
   |_=>cases h
 |_=>cases h
theorem aC9 (hE:eK s e pe) (hS:cW s ps) {x1 x2:gH} (h:pL e s z (.mkbox x1 x2) k ρ w=some y):iY s ps (bM pe ps z (.mkbox x1 x2)) k ρ w y:=by
 simp only [pL] at h;have hx:=eF hE x1;have hy:=eF hE x2;generalize bZ e x1=v at h hx;generalize bZ e x2=u at h hy;cases v with
 |sl r l=>
  cases u with
  |sl q m=>
   have hx:x1.ev pe= .sl r.length false (l.map (RT.pv r)):=hx;have hy:x2.ev pe= .sl q.length false (m.map (RT.pv q)):=hy
   refine ⟨_,_,?_,iZ.new hS (b:= .box [.sl r l,.sl q m]) (q:= .box [.sl r.length false (l.map (RT.pv r)),.sl q.length false (m.map (RT.pv q))]) (v:= .part s.length 0 2 2 true) (p:= .own s.length 1 0 2 2 true) (rd:=[]) ⟨_,rfl,_,_,rfl,rfl,_,_,rfl,rfl,rfl⟩ ⟨1,rfl,.inr (.inr ⟨_,pP,rfl⟩)⟩,h⟩;simp only [bM,hx,hy,hS.len];rfl
  |_=>cases h
 |_=>cases h
theorem aGG (hE:eK s e pe) (hS:cW s ps) {op:nX} (h:pL e s z op k ρ w=some y):iY s ps (bM pe ps z op) k ρ w y:=by
 cases op with
 |mov x=>exact iY.val hS h rfl (eF hE x)
 |pick c a b=>exact aEw hE hS h
 |bin op a b=>exact aGv hE hS h
 |binb n a b=>exact aEr hE hS h
 |eqc n g a b=>exact aGw hE hS h
 |un op a=>exact aOH hE hS h
 |conv a x=>exact aEt hE hS h
 |len x=>exact aGx hE hS h
 |lenc n=>exact iY.val hS h rfl rfl
 |box x=>exact aGy hE hS h
 |alloc c=>exact aC4 hS h
 |build z p=>exact aC3 hE hS h
 |mkrow a b c d=>exact aC7 hE hS h
 |mkbox a b=>exact aC9 hE hS h
 |load a p=>exact aEz hE hS h
 |store a p x=>exact aC6 hE hS h
 |nilc x=>exact aEu hE hS h
 |fadr o x=>exact aEv hE hS h
 |fld a o x=>exact aGz hE hS h
 |iadr a x i=>exact aEx hE hS h
 |iadra n a x i=>exact aC5 hE hS h
 |idx n a g x i=>exact aGD hE hS h
 |sidx x i=>exact aEy hE hS h
 |slc a x l h' m=>exact aGE hE hS h
 |mks a z l c=>exact aGF hE hS h
 |mkf f a b=>exact aGB hE hS h
 |mkm m=>exact aGC hS h
 |lookup n z o m q=>exact aAg hE hS h
 |mapu n m q x=>exact aEB hE hS h
 |ext i x=>exact aGA hE hS h
 |append a x b=>exact aAh hE hS h
 |copy a x b=>exact aEC hE hS h
 |clear a z x=>exact aC8 hE hS h
 |mm m x xs=>exact aOI hE hS h
 |call m f a=>cases h
 |callv x a=>cases h
 |bad=>cases h
mutual
theorem aUM {bx:Nat->Option (List SV)} {pbx:Nat->Option (List PV)} (hS:cW s ps) (hb: ∀t l,bx t=some l-> ∃q,pbx t=some q/\pvL l=some q): ∀{v u:SV} {p:PV},R s v p->RR s bx v=some u-> ∃q,KC ps pbx p=some q/\xZ u=some q
 | .int k n,u,p,h,hx=>by injection hx with hx;subst hx;rw [show p=_ from h];exact ⟨_,rfl,rfl⟩
 | .bool b,u,p,h,hx=>by injection hx with hx;subst hx;rw [show p=_ from h];exact ⟨_,rfl,rfl⟩
 | .str x,u,p,h,hx=>by injection hx with hx;subst hx;rw [show p=_ from h];exact ⟨_,rfl,rfl⟩
 | .nilf,u,p,h,hx=>by injection hx with hx;subst hx;rw [show p=_ from h];exact ⟨_,rfl,rfl⟩
 | .agg cs,u,p,h,hx=>by
  obtain ⟨q,rfl,h⟩:=h;simp only [RR] at hx;split at hx
  · rename_i l hl
    injection hx with hx;subst hx;obtain ⟨q',h1,h2⟩:=exVL_R hS hb h hl;exact ⟨.agg q',by simp only [KC,h1];rfl,by simp only [xZ,h2]⟩
  cases hx
 | .tup cs,u,p,h,hx=>by
  obtain ⟨q,rfl,h⟩:=h;simp only [RR] at hx;split at hx
  · rename_i l hl
    injection hx with hx;subst hx;obtain ⟨q',h1,h2⟩:=exVL_R hS hb h hl;exact ⟨.tup q',by simp only [KC,h1];rfl,by simp only [xZ,h2]⟩
  cases hx
 | .sl r l,u,p,h,hx=>by injection hx with hx;subst hx;rw [show p=_ from h];exact ⟨_,rfl,rfl⟩
 | .nil e c,u,p,h,hx=>by injection hx with hx;subst hx;rw [show p=_ from h];exact ⟨_,rfl,rfl⟩
 | .own t ex,u,p,h,hx=>by
  simp only [RR,cM] at hx;split at hx
  · rename_i r l hst
    injection hx with hx;subst hx;obtain ⟨e,n,rfl,hat⟩:=h;obtain ⟨rfl,rfl⟩:=hat.inv hst;refine ⟨.sl r.length false (l.map (RT.pv r)),?_,rfl⟩;simp only [KC,hS.arr hst,di];rw [df (by simp)]
  cases hx
 | .pre t len cap ex,u,p,h,hx=>by
  simp only [RR,cM] at hx;split at hx
  · rename_i r l hst
    injection hx with hx;subst hx;obtain ⟨e,rfl,hat⟩:=h
    have:=hat.inv hst
    subst this;refine ⟨.sl r.length false ((l.take len).map (RT.pv r)),?_,rfl⟩;simp only [KC,hS.arr hst,di,de]
  cases hx
 | .part t off len cap ex,u,p,h,hx=>by
  simp only [RR,cM] at hx;split at hx
  · rename_i r l hst
    injection hx with hx;subst hx;obtain ⟨e,rfl,hat⟩:=h
    have:=hat.inv hst
    subst this;refine ⟨.sl r.length false (((l.drop off).take len).map (RT.pv r)),?_,rfl⟩;simp only [KC,hS.arr hst,de,dz]
  cases hx
 | .pa t r i a off,u,p,h,hx=>by
  simp only [RR,cM] at hx;split at hx
  · rename_i q l hst
    injection hx with hx;subst hx;obtain ⟨rfl,hat⟩:=h;obtain ⟨rfl,hg⟩:=hat.inv hst;obtain ⟨m,rfl,hm⟩:=qX hg;refine ⟨.rptr (RT.pv r a) off,?_,by simp only [xZ,RT.pv_sv]⟩
    have hm':(l.map (RT.pv r))[m]? =some (RT.pv r a):=by simp [hm]
    have e1:(dp m).toNat=m:=rfl;simp only [KC,hS.arr hst,e1,hm'];rfl
  cases hx
 | .bp t n off,u,p,h,hx=>by
  simp only [RR,cM] at hx;split at hx
  · rename_i cs hst
    split at hx
    · rename_i l hl
      injection hx with hx;subst hx;rw [show p=_ from h];obtain ⟨q,h1,h2⟩:=hb t l hl;obtain ⟨c,h3,_⟩:=hS.box hst;refine ⟨.rptr q off,?_,by simp only [xZ,h2]⟩
      simp only [KC,h3,c8,if_true,h1];rfl
    cases hx
  cases hx
 | .rptr cs off,u,p,h,hx=>by
  obtain ⟨q,rfl,h⟩:=h;simp only [RR] at hx;split at hx
  · rename_i l hl
    injection hx with hx;subst hx;obtain ⟨q',h1,h2⟩:=exVL_R hS hb h hl;exact ⟨.rptr q' off,by simp only [KC,h1];rfl,by simp only [xZ,h2]⟩
  cases hx
 | .clo f a b,u,p,h,hx=>by
  obtain ⟨pa,pb,rfl,h1,h2⟩:=h;simp only [RR] at hx;split at hx
  · rename_i x y' h3 h4
    injection hx with hx;subst hx;obtain ⟨qa,h5,h6⟩:=exVL_R hS hb h1 h3;obtain ⟨qb,h7,h8⟩:=exVL_R hS hb h2 h4;exact ⟨.clo f qa qb,by simp only [KC,h5,h7],by simp only [xZ,h6,h8]⟩
  cases hx
 | .junk,_,_,_,hx| .undef,_,_,_,hx| .nul,_,_,_,hx| .pb _ _ _,_,_,_,hx| .mp _,_,_,_,hx=>by cases hx
theorem exVL_R {bx:Nat->Option (List SV)} {pbx:Nat->Option (List PV)} (hS:cW s ps) (hb: ∀t l,bx t=some l-> ∃q,pbx t=some q/\pvL l=some q): ∀{v u:List SV} {p:List PV},RL s v p->exVL s bx v=some u-> ∃q,exL ps pbx p=some q/\pvL u=some q
 | [],u,p,h,hx=>by injection hx with hx;subst hx;rw [show p=_ from h];exact ⟨_,rfl,rfl⟩
 |x::xs,u,p,h,hx=>by
  obtain ⟨q,qs,rfl,h1,h2⟩:=h.cons_inv;simp only [exVL] at hx;split at hx
  · rename_i y' ys h3 h4
    injection hx with hx;subst hx;obtain ⟨a,h5,h6⟩:=aUM hS hb h1 h3;obtain ⟨as,h7,h8⟩:=exVL_R hS hb h2 h4;exact ⟨a::as,by simp only [exL,h5,h7],fG.2 ⟨a,as,rfl,h6,h8⟩⟩
  cases hx
end
theorem MY (hS:cW s ps): ∀(n t:Nat) (l:List SV),nI s n t=some l-> ∃q,D3 ps n t=some q/\pvL l=some q
 |0,t,l,h=>by cases h
 |n+1,t,l,h=>by
  simp only [nI,cM] at h;split at h
  · rename_i cs hst
    obtain ⟨q,h1,h2⟩:=hS.box hst;obtain ⟨u,h3,h4⟩:=exVL_R hS (MY hS n) h2 h;exact ⟨u,by simp only [D3,h1,h3],h4⟩
  cases h
mutual
theorem aED {bx pbx:Nat->List Nat} (hb: ∀t,bx t=pbx t): ∀{v:SV} {p:PV},R s v p->v.sure=true->Z6 bx v=lB pbx p
 | .junk,_,_,h=>by cases h
 | .undef,p,h,_| .nul,p,h,_| .nilf,p,h,_| .int _ _,p,h,_| .bool _,p,h,_| .str _,p,h,_| .sl _ _,p,h,_| .nil _ _,p,h,_=>by rw [show p=_ from h];rfl
 | .agg cs,p,h,hs=>by obtain ⟨q,rfl,h⟩:=h;exact tkVL_R hb h hs
 | .tup cs,p,h,hs=>by obtain ⟨q,rfl,h⟩:=h;exact tkVL_R hb h hs
 | .own t ex,p,h,_=>by obtain ⟨e,n,rfl,_⟩:=h;rfl
 | .pre t a b c,p,h,_=>by obtain ⟨e,rfl,_⟩:=h;rfl
 | .part t o a b c,p,h,_=>by obtain ⟨e,rfl,_⟩:=h;rfl
 | .pa t r i a o,p,h,_=>by obtain ⟨rfl,_⟩:=h;simp only [Z6,lB,hb]
 | .pb t i o,p,h,_=>by obtain ⟨e,rfl,_⟩:=h;simp only [Z6,lB,hb]
 | .bp t n o,p,h,_=>by rw [show p=_ from h];simp only [Z6,lB,hb]
 | .rptr cs o,p,h,hs=>by obtain ⟨q,rfl,h⟩:=h;exact tkVL_R hb h hs
 | .mp t,p,h,_=>by rw [show p=_ from h];rfl
 | .clo f a b,p,h,hs=>by
  obtain ⟨pa,pb,rfl,h1,h2⟩:=h;simp only [SV.sure,bo] at hs;simp only [Z6,lB,tkVL_R hb h1 hs.1,tkVL_R hb h2 hs.2]
theorem tkVL_R {bx pbx:Nat->List Nat} (hb: ∀t,bx t=pbx t): ∀{v:List SV} {p:List PV},RL s v p->sureL v=true->tkVL bx v=toksL pbx p
 | [],p,h,_=>by rw [show p=_ from h];rfl
 |x::xs,p,h,hs=>by
  obtain ⟨q,qs,rfl,h1,h2⟩:=h.cons_inv;simp only [sureL,bo] at hs;simp only [tkVL,toksL,aED hb h1 hs.1,tkVL_R hb h2 hs.2]
end
end
end Go.Vm
/- The head of a loop: what the typed machine keeps there, the logical machine keeps there. -/
namespace Go.Vm
section
variable {s : List SB} {ps : cV}
mutual
theorem aUN {n:Nat} (hS:cW s ps) (hB: ∀t l,nI s n t=some l->D1 s n t=dQ ps n t): ∀{v u:SV} {p:PV},R s v p->RR s (nI s n) v=some u->Z6 (D1 s n) v=lB (dQ ps n) p
 | .int _ _,_,p,h,_| .bool _,_,p,h,_| .str _,_,p,h,_| .nilf,_,p,h,_| .sl _ _,_,p,h,_| .nil _ _,_,p,h,_=>by rw [show p=_ from h];rfl
 | .agg cs,u,p,h,hx=>by
  obtain ⟨q,rfl,h⟩:=h;simp only [RR] at hx;split at hx
  · rename_i l hl;exact tkExL hS hB h hl
  cases hx
 | .tup cs,u,p,h,hx=>by
  obtain ⟨q,rfl,h⟩:=h;simp only [RR] at hx;split at hx
  · rename_i l hl;exact tkExL hS hB h hl
  cases hx
 | .own t ex,_,p,h,_=>by obtain ⟨e,n,rfl,_⟩:=h;rfl
 | .pre t a b c,_,p,h,_=>by obtain ⟨e,rfl,_⟩:=h;rfl
 | .part t o a b c,_,p,h,_=>by obtain ⟨e,rfl,_⟩:=h;rfl
 | .pa t r i a o,_,p,h,hx=>by
  obtain ⟨rfl,hat⟩:=h;simp only [RR,cM] at hx;split at hx
  · rename_i q l hst
    simp only [Z6,lB];cases n with
    |zero=>rfl
    |succ n=>simp only [D1,dQ,cM,hst,hS.arr hst]
  cases hx
 | .bp t m o,u,p,h,hx=>by
  rw [show p=_ from h];simp only [RR,cM] at hx;split at hx
  · split at hx
    · rename_i l hl
      simp only [Z6,lB,hB t l hl]
    cases hx
  cases hx
 | .rptr cs o,u,p,h,hx=>by
  obtain ⟨q,rfl,h⟩:=h;simp only [RR] at hx;split at hx
  · rename_i l hl;exact tkExL hS hB h hl
  cases hx
 | .clo f a b,u,p,h,hx=>by
  obtain ⟨pa,pb,rfl,h1,h2⟩:=h;simp only [RR] at hx;split at hx
  · rename_i x y h3 h4
    simp only [Z6,lB,tkExL hS hB h1 h3,tkExL hS hB h2 h4]
  cases hx
 | .junk,_,_,_,hx| .undef,_,_,_,hx| .nul,_,_,_,hx| .pb _ _ _,_,_,_,hx| .mp _,_,_,_,hx=>by cases hx
theorem tkExL {n:Nat} (hS:cW s ps) (hB: ∀t l,nI s n t=some l->D1 s n t=dQ ps n t): ∀{v u:List SV} {p:List PV},RL s v p->exVL s (nI s n) v=some u->tkVL (D1 s n) v=toksL (dQ ps n) p
 | [],_,p,h,_=>by rw [show p=_ from h];rfl
 |x::xs,u,p,h,hx=>by
  obtain ⟨q,qs,rfl,h1,h2⟩:=h.cons_inv;simp only [exVL] at hx;split at hx
  · rename_i a b h3 h4
    simp only [tkVL,toksL,aUN hS hB h1 h3,tkExL hS hB h2 h4]
  cases hx
end
theorem aEE {n:Nat} (hS:cW s ps) (hB: ∀t l,nI s n t=some l->D1 s n t=dQ ps n t): ∀{v:List SV} {p:List PV},RL s v p->Z5 s (nI s n) v=true->tkVL (D1 s n) v=toksL (dQ ps n) p
 | [],p,h,_=>by rw [show p=[] from h];rfl
 |x::xs,p,h,hx=>by
  obtain ⟨a,as,rfl,h1,h2⟩:=h.cons_inv;have other: ∀u,RR s (nI s n) x=some u->Z5 s (nI s n) xs=true->tkVL (D1 s n) (x::xs)=toksL (dQ ps n) (a::as):=fun u h3 h4=>by
   simp only [tkVL,toksL,aUN hS hB h1 h3,aEE hS hB h2 h4]
  unfold Z5 at hx;split at hx
  · rename_i t
    rw [show a= .mp t from h1];simp only [tkVL,toksL,Z6,lB,aEE hS hB h2 hx]
  split at hx
  · rename_i u h3
    exact other u h3 hx
  cases hx
theorem OP (hS:cW s ps): ∀(n t:Nat) (l:List SV),nI s n t=some l->D1 s n t=dQ ps n t
 |0,t,l,h=>rfl
 |n+1,t,l,h=>by
  simp only [nI,cM] at h;split at h
  · rename_i cs hst
    obtain ⟨q,h1,h2⟩:=hS.box hst;simp only [D1,dQ,cM,hst,h1];exact tkExL hS (OP hS n) h2 h
  cases h
theorem T1 {b:SB} {q:mK} (h:RB s b q) (hs:FT b=true):N8 b=wX q:=by
 cases b with
 |box cs=>obtain ⟨c,rfl,h⟩:=h;exact tkVL_R (fun _=>rfl) h hs
 |arr r l=>rw [show q=_ from h];rfl
 |set l=>rw [show q=_ from h];rfl
 |tab p l=>rw [show q=_ from h];rfl
 |dead=>rw [show q=_ from h];rfl
theorem OQ (hS:cW s ps): ∀(n:Nat) (ts seen m:List Nat),KS s n ts seen=some m->IM ps n ts seen=some m
 |n,[],seen,m,h=>by
  cases n<;>(simp only [KS] at h;exact h)
 |0,_::_,_,_,h=>by cases h
 |n+1,t::ts,seen,m,h=>by
  simp only [KS,cM] at h;simp only [IM];cases hh:has seen t with
  |true=>rw [hh] at h;simp only [cond_true] at h;simp only [if_true];exact OQ hS n ts seen m h
  |false=>
   rw [hh] at h;simp only [cond_false] at h;simp only [cj,if_false];split at h
   · rename_i b hst
     obtain ⟨q,h1,h2⟩:=hS.at_ t b hst;cases hb:FT b with
     |false=>rw [hb] at h;cases h
     |true=>
      rw [hb] at h;simp only [cond_true] at h;rw [h1,T1 h2 hb] at*;exact OQ hS n _ _ m h
   cases h
theorem OR: ∀{t u:Nat} {m:List Nat},vJ t m=some u->m[u]? =some t
 |t,u,[],h=>by cases h
 |t,u,x::m,h=>by
  simp only [vJ] at h;cases hb:ci x t with
  |true=>rw [hb] at h;simp at h;subst h;simp [bn hb]
  |false=>
   rw [hb] at h;simp only [cj,if_false,c9] at h;obtain ⟨v,hv,rfl⟩:=h;simpa using OR hv
def OS (m:List Nat) (s s':List SB):Prop:= ∀(t u:Nat) (b:SB),vJ t m=some u->s[t]? =some b->match b with
 | .arr r l=>s'[u]? =some (.arr r l)
 | .dead=>s'[u]? =some .dead
 | .box _=> ∃cs,s'[u]? =some (.box cs)
 |_=>True
mutual
theorem aEF {m:List Nat} {s':List SB} (hr:OS m s s'): ∀{v u:SV} {p:PV},R s v p->vT m v=some u-> ∃q,ren m p=some q/\R s' u q
 | .junk,_,_,_,hx=>by cases hx
 | .undef,u,p,h,hx| .nul,u,p,h,hx| .nilf,u,p,h,hx| .int _ _,u,p,h,hx| .bool _,u,p,h,hx| .str _,u,p,h,hx| .sl _ _,u,p,h,hx| .nil _ _,u,p,h,hx=>by
  injection hx with hx;subst hx;rw [show p=_ from h];exact ⟨_,rfl,rfl⟩
 | .agg cs,u,p,h,hx=>by
  obtain ⟨q,rfl,h⟩:=h;simp only [vT] at hx;split at hx
  · rename_i l hl
    injection hx with hx;subst hx;obtain ⟨q',h1,h2⟩:=renVL_R hr h hl;exact ⟨.agg q',by simp only [ren,h1];rfl,q',rfl,h2⟩
  cases hx
 | .tup cs,u,p,h,hx=>by
  obtain ⟨q,rfl,h⟩:=h;simp only [vT] at hx;split at hx
  · rename_i l hl
    injection hx with hx;subst hx;obtain ⟨q',h1,h2⟩:=renVL_R hr h hl;exact ⟨.tup q',by simp only [ren,h1];rfl,q',rfl,h2⟩
  cases hx
 | .own t ex,u,p,h,hx=>by
  obtain ⟨e,n,rfl,hat⟩:=h;simp only [vT] at hx;split at hx
  · rename_i v hv
    injection hx with hx;subst hx;refine ⟨.own v e 0 n n ex,by simp only [ren,hv];rfl,e,n,rfl,?_⟩
    rcases hat with ⟨r,l,h1,h2,h3⟩|h1
    · exact .inl ⟨r,l,hr t v _ hv h1,h2,h3⟩
    exact .inr (hr t v _ hv h1)
  cases hx
 | .pre t len cap ex,u,p,h,hx=>by
  obtain ⟨e,rfl,hat⟩:=h;simp only [vT] at hx;split at hx
  · rename_i v hv
    injection hx with hx;subst hx;refine ⟨.own v e 0 len cap ex,by simp only [ren,hv];rfl,e,rfl,?_⟩
    rcases hat with ⟨r,l,h1,h2⟩|h1|⟨cs,h1,h2⟩
    · exact .inl ⟨r,l,hr t v _ hv h1,h2⟩
    · exact .inr (.inl (hr t v _ hv h1))
    obtain ⟨c2,h3⟩:=hr t v _ hv h1
    exact .inr (.inr ⟨c2,h3,h2⟩)
  cases hx
 | .part t off len cap ex,u,p,h,hx=>by
  obtain ⟨e,rfl,hat⟩:=h;simp only [vT] at hx;split at hx
  · rename_i v hv
    injection hx with hx;subst hx;refine ⟨.own v e off len cap ex,by simp only [ren,hv];rfl,e,rfl,?_⟩
    rcases hat with ⟨r,l,h1,h2⟩|h1|⟨cs,h1,h2⟩
    · exact .inl ⟨r,l,hr t v _ hv h1,h2⟩
    · exact .inr (.inl (hr t v _ hv h1))
    obtain ⟨c2,h3⟩:=hr t v _ hv h1
    exact .inr (.inr ⟨c2,h3,h2⟩)
  cases hx
 | .pa t r i a off,u,p,h,hx=>by
  obtain ⟨rfl,hat⟩:=h;simp only [vT] at hx;split at hx
  · rename_i v hv
    injection hx with hx;subst hx;refine ⟨.ptr v r.length i.toNat off,by simp only [ren,hv];rfl,r.length,rfl,?_⟩
    rcases hat with ⟨l,h1,h2⟩|h1
    · exact .inl ⟨r,l,hr t v _ hv h1,by rw [h2];rfl⟩
    exact .inr (hr t v _ hv h1)
  cases hx
 | .pb t i off,u,p,h,hx=>by
  obtain ⟨e,rfl,hat⟩:=h;simp only [vT] at hx;split at hx
  · rename_i v hv
    injection hx with hx;subst hx;refine ⟨.ptr v e i.toNat off,by simp only [ren,hv];rfl,e,rfl,?_⟩
    rcases hat with ⟨r,l,h1,h2⟩|h1
    · exact .inl ⟨r,l,hr t v _ hv h1,h2⟩
    exact .inr (hr t v _ hv h1)
  cases hx
 | .bp t n off,u,p,h,hx=>by
  rw [show p=_ from h];simp only [vT] at hx;split at hx
  · rename_i v hv
    injection hx with hx;subst hx;exact ⟨.ptr v n 0 off,by simp only [ren,hv];rfl,rfl⟩
  cases hx
 | .rptr cs off,u,p,h,hx=>by
  obtain ⟨q,rfl,h⟩:=h;simp only [vT] at hx;split at hx
  · rename_i l hl
    injection hx with hx;subst hx;obtain ⟨q',h1,h2⟩:=renVL_R hr h hl;exact ⟨.rptr q' off,by simp only [ren,h1];rfl,q',rfl,h2⟩
  cases hx
 | .mp t,u,p,h,hx=>by
  rw [show p=_ from h];simp only [vT] at hx;split at hx
  · rename_i v hv
    injection hx with hx;subst hx;exact ⟨.mp v,by simp only [ren,hv];rfl,rfl⟩
  cases hx
 | .clo f a b,u,p,h,hx=>by
  obtain ⟨pa,pb,rfl,h1,h2⟩:=h;simp only [vT] at hx;split at hx
  · rename_i x y h3 h4
    injection hx with hx;subst hx;obtain ⟨qa,h5,h6⟩:=renVL_R hr h1 h3;obtain ⟨qb,h7,h8⟩:=renVL_R hr h2 h4;exact ⟨.clo f qa qb,by simp only [ren,h5,h7],qa,qb,rfl,h6,h8⟩
  cases hx
theorem renVL_R {m:List Nat} {s':List SB} (hr:OS m s s'): ∀{v u:List SV} {p:List PV},RL s v p->renVL m v=some u-> ∃q,renL m p=some q/\RL s' u q
 | [],u,p,h,hx=>by injection hx with hx;subst hx;rw [show p=_ from h];exact ⟨_,rfl,rfl⟩
 |x::xs,u,p,h,hx=>by
  obtain ⟨q,qs,rfl,h1,h2⟩:=h.cons_inv;simp only [renVL] at hx;split at hx
  · rename_i a b h3 h4
    injection hx with hx;subst hx;obtain ⟨a',h5,h6⟩:=aEF hr h1 h3;obtain ⟨b',h7,h8⟩:=renVL_R hr h2 h4;exact ⟨a'::b',by simp only [renL,h5,h7],RL.cons h6 h8⟩
  cases hx
end
theorem aOJ {m:List Nat} {s':List SB} (hr:OS m s s') {b c:SB} {q:mK} (h:RB s b q) (hx:Z7 m b=some c): ∃q',rU m q=some q'/\RB s' c q':=by
 cases b with
 |box cs=>
  obtain ⟨p,rfl,h⟩:=h;simp only [Z7] at hx;split at hx
  · rename_i l hl
    injection hx with hx;subst hx;obtain ⟨q',h1,h2⟩:=renVL_R hr h hl;exact ⟨.box q',by simp only [rU,h1];rfl,q',rfl,h2⟩
  cases hx
 |arr r l=>injection hx with hx;subst hx;rw [show q=_ from h];exact ⟨_,rfl,rfl⟩
 |set l=>injection hx with hx;subst hx;rw [show q=_ from h];exact ⟨_,rfl,rfl⟩
 |tab p l=>injection hx with hx;subst hx;rw [show q=_ from h];exact ⟨_,rfl,rfl⟩
 |dead=>injection hx with hx;subst hx;rw [show q=_ from h];exact ⟨_,rfl,rfl⟩
theorem EM {m:List Nat}: ∀{ts:List Nat} {s1:List SB},QX s m ts=some s1->s1.length=ts.length/\ ∀(j t:Nat),ts[j]? =some t-> ∃b c,s[t]? =some b/\Z7 m b=some c/\s1[j]? =some c
 | [],s1,h=>by injection h with h;subst h;exact ⟨rfl,fun j t h=>by simp at h⟩
 |t::ts,s1,h=>by
  simp only [QX,cM] at h;split at h
  · rename_i b hb
    split at h
    · rename_i c r hc hr
      injection h with h;subst h;obtain ⟨h1,h2⟩:=EM hr;refine ⟨by simp [h1],fun j u hj=>?_⟩
      cases j with
      |zero=>simp at hj;subst hj;exact ⟨b,c,hb,hc,rfl⟩
      |succ j=>simpa using h2 j u (by simpa using hj)
    cases h
  cases h
theorem KW (hS:cW s ps) {m:List Nat} {s':List SB} (hr:OS m s s'): ∀{ts:List Nat} {s1:List SB},QX s m ts=some s1-> ∃p1,D4 ps m ts=some p1/\p1.length=s1.length/\ ∀(j:Nat) (b:SB),s1[j]? =some b-> ∃q,p1[j]? =some q/\RB s' b q
 | [],s1,h=>by injection h with h;subst h;exact ⟨[],rfl,rfl,fun j b h=>by simp at h⟩
 |t::ts,s1,h=>by
  simp only [QX,cM] at h;split at h
  · rename_i b hb
    split at h
    · rename_i c r hc hr'
      injection h with h;subst h;obtain ⟨q,h1,h2⟩:=hS.at_ t b hb;obtain ⟨q',h3,h4⟩:=aOJ hr h2 hc;obtain ⟨p1,h5,h6,h7⟩:=KW hS hr hr';refine ⟨q'::p1,by simp only [D4,h1,h3,h5],by simp [h6],fun j x hj=>?_⟩
      cases j with
      |zero=>simp at hj;subst hj;exact ⟨q',rfl,h4⟩
      |succ j=>simpa using h7 j x (by simpa using hj)
    cases h
  cases h
theorem OS.of {m:List Nat} {s1 l:List SB} (h:QX s m m=some s1):OS m s (s1++l):=fun t u b hu hb=>by
 have hm:=OR hu;obtain ⟨h1,h2⟩:=EM h;obtain ⟨b',c,h3,h4,h5⟩:=h2 u t hm;rw [hb] at h3;injection h3 with h3;subst h3;have hlt:=(bq.1 h5).1;cases b with
 |arr r l'=>injection h4 with h4;subst h4;rw [bu hlt];exact h5
 |dead=>injection h4 with h4;subst h4;rw [bu hlt];exact h5
 |box cs=>
  simp only [Z7] at h4;split at h4
  · injection h4 with h4;subst h4;exact ⟨_,by rw [bu hlt];exact h5⟩
  cases h4
 |_=>trivial
theorem BL: ∀(rk:List (Nat×List PT)) (n:Nat),(DS rk n).length=n
 | [],n=>by simp [DS]
 |(m,r)::q,n=>by
  simp only [DS];cases hc:(ci m n&&ci r.length n) with
  |true=>simp only [bo] at hc;exact bn hc.2
  |false=>exact BL q n
theorem KX {rk:List (Nat×List PT)} {e:SE} {m:List Nat}: ∀{live:List (Nat×Option Nat)} {nx:Nat} {e1:SE} {s2:List SB},DT rk e m nx live=some (e1,s2)-> ∀(j:Nat) (b:SB),s2[j]? =some b-> ∃r,b= .arr r []
 | [],nx,e1,s2,h,j,b,hj=>by
  simp only [DT,bw,cp] at h;rw [<- h.2] at hj;simp at hj
 |(t,k)::live,nx,e1,s2,h,j,b,hj=>by
  simp only [DT] at h;split at h
  · split at h
    · rename_i p hp
      simp only [bw,cp] at h;obtain ⟨rfl,rfl⟩:=h;cases j with
      |zero=>simp at hj;exact ⟨_,hj.symm⟩
      |succ j=>exact KX (e1:=p.1) (s2:=p.2) hp j b (by simpa using hj)
    cases h
  split at h
  · rename_i v' p hv hp
    simp only [bw,cp] at h;obtain ⟨rfl,rfl⟩:=h;exact KX (e1:=p.1) (s2:=p.2) hp j b hj
  cases h
mutual
theorem KY {m:List Nat}: ∀{v u:SV},vT m v=some u->u.sure=true
 | .junk,_,h=>by cases h
 | .undef,u,h| .nul,u,h| .nilf,u,h| .int _ _,u,h| .bool _,u,h| .str _,u,h| .sl _ _,u,h| .nil _ _,u,h=>by injection h with h;subst h;rfl
 | .agg cs,u,h=>by
  simp only [vT] at h;split at h
  · rename_i l hl;injection h with h;subst h;exact renVL_sure hl
  cases h
 | .tup cs,u,h=>by
  simp only [vT] at h;split at h
  · rename_i l hl;injection h with h;subst h;exact renVL_sure hl
  cases h
 | .rptr cs _,u,h=>by
  simp only [vT] at h;split at h
  · rename_i l hl;injection h with h;subst h;exact renVL_sure hl
  cases h
 | .own _ _,u,h=>by simp only [vT] at h;split at h<;>first|(injection h with h;subst h;rfl)|cases h
 | .pre _ _ _ _,u,h=>by simp only [vT] at h;split at h<;>first|(injection h with h;subst h;rfl)|cases h
 | .part _ _ _ _ _,u,h=>by simp only [vT] at h;split at h<;>first|(injection h with h;subst h;rfl)|cases h
 | .pa _ _ _ _ _,u,h=>by simp only [vT] at h;split at h<;>first|(injection h with h;subst h;rfl)|cases h
 | .pb _ _ _,u,h=>by simp only [vT] at h;split at h<;>first|(injection h with h;subst h;rfl)|cases h
 | .bp _ _ _,u,h=>by simp only [vT] at h;split at h<;>first|(injection h with h;subst h;rfl)|cases h
 | .mp _,u,h=>by simp only [vT] at h;split at h<;>first|(injection h with h;subst h;rfl)|cases h
 | .clo f a b,u,h=>by
  simp only [vT] at h;split at h
  · rename_i x y h1 h2
    injection h with h;subst h;simp only [SV.sure,renVL_sure h1,renVL_sure h2,c7]
  cases h
theorem renVL_sure {m:List Nat}: ∀{v u:List SV},renVL m v=some u->sureL u=true
 | [],u,h=>by injection h with h;subst h;rfl
 |x::xs,u,h=>by
  simp only [renVL] at h;split at h
  · rename_i a b h1 h2
    injection h with h;subst h;simp only [sureL,KY h1,renVL_sure h2,c7]
  cases h
end
theorem aGH {s:List SB} {v:SV} {p:PV} (h:R s v p): ∀k:Option Nat,v.sure=true->R s (TU k v) (exOff k p)
 |none,_=>h
 |some _,hs=>by
  cases v with
  |own t ex=>obtain ⟨e,n,rfl,h⟩:=h;exact ⟨e,n,rfl,h⟩
  |pre t l c ex=>obtain ⟨e,rfl,h⟩:=h;exact ⟨e,rfl,h⟩
  |part t o l c ex=>obtain ⟨e,rfl,h⟩:=h;exact ⟨e,rfl,h⟩
  |junk=>cases hs
  |undef|nul|nilf|int _ _|bool _|str _|bp _ _ _|mp _|sl _ _|nil _ _=>rw [show p=_ from h];rfl
  |agg _|tup _|rptr _ _=>obtain ⟨q,rfl,h⟩:=h;exact ⟨q,rfl,h⟩
  |clo _ _ _=>obtain ⟨q,q2,rfl,h⟩:=h;exact ⟨q,q2,rfl,h⟩
  |pa _ _ _ _ _=>obtain ⟨rfl,h⟩:=h;exact ⟨rfl,h⟩
  |pb _ _ _=>obtain ⟨q,rfl,h⟩:=h;exact ⟨q,rfl,h⟩
theorem aAi {v:SV} (h:v.sure=true) (k:Option Nat):(TU k v).sure=true:=by
 unfold TU;split<;>first|rfl|exact h
theorem T2 {rk:List (Nat×List PT)} {e:SE} {pe:zE} (hE:eK s e pe) {m:List Nat} {s':List SB} (hr:OS m s s'): ∀{live:List (Nat×Option Nat)} {nx:Nat} {e1:SE} {s2:List SB},DT rk e m nx live=some (e1,s2)->(∀(j:Nat) (b:SB),s2[j]? =some b->s'[nx+j]? =some b)->
 ∃p1 q2,wY pe m nx live=some (p1,q2)/\eK s' e1 p1/\q2.length=s2.length/\ ∀(j:Nat) (b:SB),s2[j]? =some b-> ∃q,q2[j]? =some q/\RB s' b q
 | [],nx,e1,s2,h,_=>by
  simp only [DT,bw,cp] at h;obtain ⟨rfl,rfl⟩:=h;exact ⟨[],[],rfl,rfl,rfl,fun j b h=>by simp at h⟩
 |(t,k)::live,nx,e1,s2,h,hs=>by
  have hlk:=hE.lk t;simp only [DT] at h;split at h
  · rename_i kk esz en hv
    split at h
    · rename_i p hp
      simp only [bw,cp] at h;obtain ⟨rfl,rfl⟩:=h;rw [hv] at hlk;obtain ⟨p1,q2,h1,h2,h3,h4⟩:=T2 (live:=live) (nx:=nx+1) (e1:=p.1) (s2:=p.2) hE hr hp (fun j b hj=>by
       have:=hs (j+1) b (by simpa using hj)
       rw [show nx+1+j=nx+(j+1) by omega];exact this)
      refine ⟨(t,.own nx esz 0 0 0 false)::p1,.arr esz []::q2,?_,⟨_,_,rfl,⟨esz,0,rfl,.inl ⟨DS rk esz,[],by simpa using hs 0 _ rfl,(BL rk esz).symm,rfl⟩⟩,h2⟩,by simp [h3],fun j b hj=>?_⟩
      · have hlk':lk t pe= .sl en true []:=hlk
        simp only [wY,hlk',h1];rfl
      cases j with
      |zero=>simp at hj;subst hj;exact ⟨_,rfl,by show _=_;rw [BL];rfl⟩
      |succ j=>simpa using h4 j b (by simpa using hj)
    cases h
  rename_i hne
  split at h
  · rename_i v' p hv hp
    simp only [bw,cp] at h;obtain ⟨rfl,rfl⟩:=h;obtain ⟨q',h5,h6⟩:=aEF hr hlk hv;obtain ⟨p1,q2,h1,h2,h3,h4⟩:=T2 (live:=live) (e1:=p.1) (s2:=p.2) hE hr hp hs;refine ⟨(t,exOff _ q')::p1,q2,?_,⟨_,_,rfl,aGH h6 _ (KY hv),h2⟩,h3,h4⟩;simp only [wY];split
    · rename_i esz x hx
      exfalso;rw [hx] at hlk;generalize QT t e=v0 at hlk hv hne;cases v0 with
      |junk=>cases hv
      |nil e' c=>
       have hlk':PV.sl x true []= .sl e' c []:=hlk;injection hlk' with h1 h2;subst h2;exact hne _ _ rfl rfl
      |undef|nul|nilf|int _ _|bool _|str _|bp _ _ _|mp _=>cases (show PV.sl x true []=_ from hlk)
      |sl r l=>cases (show PV.sl x true []=_ from hlk)
      |agg _|tup _|rptr _ _=>obtain ⟨q,hq,_⟩:=hlk;cases hq
      |clo _ _ _=>obtain ⟨q,q2,hq,_⟩:=hlk;cases hq
      |own _ _=>obtain ⟨q,q2,hq,_⟩:=hlk;cases hq
      |pre _ _ _ _=>obtain ⟨q,hq,_⟩:=hlk;cases hq
      |part _ _ _ _ _=>obtain ⟨q,hq,_⟩:=hlk;cases hq
      |pa _ _ _ _ _=>obtain ⟨hq,_⟩:=hlk;cases hq
      |pb _ _ _=>obtain ⟨q,hq,_⟩:=hlk;cases hq
    simp only [h5,h1]
  cases h
def aOg (s:List SB):Prop:= ∀(t:Nat) (cs:List SV),s[t]? =some (.box cs)->sureL cs=true
def RZ:SE->Prop
 | []=>True
 |(_,v)::r=>v.sure=true/\RZ r
theorem RZ.lk: ∀{e:SE},RZ e-> ∀t,(QT t e).sure=true
 | [],_,t=>rfl
 |(u,v)::r,h,t=>by
  simp only [QT];cases hb:ci u t with
  |true=>exact h.1
  |false=>exact RZ.lk h.2 t
theorem HS {rk:List (Nat×List PT)} {e:SE} {m:List Nat}: ∀{live:List (Nat×Option Nat)} {nx:Nat} {e1:SE} {s2:List SB},DT rk e m nx live=some (e1,s2)->RZ e1
 | [],nx,e1,s2,h=>by
  simp only [DT,bw,cp] at h;rw [<- h.1];trivial
 |(t,k)::live,nx,e1,s2,h=>by
  simp only [DT] at h;split at h
  · split at h
    · rename_i p hp
      simp only [bw,cp] at h;obtain ⟨rfl,rfl⟩:=h;exact ⟨rfl,HS (e1:=p.1) (s2:=p.2) hp⟩
    cases h
  split at h
  · rename_i v' p hv hp
    simp only [bw,cp] at h;obtain ⟨rfl,rfl⟩:=h;exact ⟨aAi (KY hv) _,HS (e1:=p.1) (s2:=p.2) hp⟩
  cases h
theorem R0: ∀{l:List SV},sureL l=true-> ∀{n:Nat} {v:SV},nth l n=some v->v.sure=true
 | [],_,_,_,h=>by cases h
 |x::xs,hs,0,v,h=>by injection h with h;subst h;simp only [sureL,bo] at hs;exact hs.1
 |x::xs,hs,n+1,v,h=>by simp only [sureL,bo] at hs;exact R0 hs.2 (n:=n) h
theorem R2: ∀{l:List SV},sureL l=true-> ∀(n:Nat) {v:SV},v.sure=true->sureL (l.set n v)=true
 | [],_,n,v,_=>rfl
 |x::xs,hs,0,v,h=>by simp only [sureL,bo] at hs;simp [sureL,h,hs.2]
 |x::xs,hs,n+1,v,h=>by simp only [sureL,bo] at hs;simp [sureL,hs.1,R2 hs.2 n h]
theorem RL.set {s:List SB}: ∀{xs:List SV} {ps:List PV},RL s xs ps-> ∀(n:Nat) {v:SV} {p:PV},R s v p->RL s (xs.set n v) (ps.set n p)
 | [],ps,h,n,v,p,_=>by rw [show ps=[] from h];exact RL.nil
 |x::xs,ps,h,0,v,p,hv=>by
  obtain ⟨a,q,rfl,h1,h2⟩:=h.cons_inv;exact RL.cons hv h2
 |x::xs,ps,h,n+1,v,p,hv=>by
  obtain ⟨a,q,rfl,h1,h2⟩:=h.cons_inv;exact RL.cons h1 (RL.set h2 n hv)
structure RSS (st:vS) (p:St):Prop where
 r:GW st p
 s:aOg st.sto
 e:RZ st.env
theorem aAj {rk:List (Nat×List PT)} {st:vS} {p:St} (h:RSS st p) (t c esz:Nat):RSS (N9 rk st t c esz) (wZ p t c esz):=by
 unfold N9 wZ;rw [cM];cases hst:st.sto[t]? with
 |none=>
  have:p.sto[t]? =none:=by
   rw [dy] at hst ⊢;rw [h.r.sto.len];exact hst
  rw [this];exact h
 |some b=>
  obtain ⟨q,h1,h2⟩:=h.r.sto.at_ t b hst;rw [h1];cases b with
  |arr r l=>rw [show q=_ from h2];exact h
  |set l=>rw [show q=_ from h2];exact h
  |tab p l=>rw [show q=_ from h2];exact h
  |dead=>rw [show q=_ from h2];exact h
  |box cs=>
   obtain ⟨pc,rfl,h3⟩:=h2;dsimp only;cases hc:nth cs c with
   |none=>
    have:pc[c]? =none:=by
     rw [cM,dy] at hc;rw [dy,h3.length];exact hc
    rw [this];exact h
   |some v=>
    obtain ⟨pv,h4,h5⟩:=h3.nth hc;rw [h4];have hsure:=R0 (h.s t cs hst) hc;have hcs:=h.s t cs hst;have other:(∀e,pv≠ .sl e true [])->(∀e,v≠ .nil e true)->RSS (match some v with
     |some (.nil _ true)=>{st with sto:=st.sto.set t (.box (cs.set c (.own st.sto.length false)))++[.arr (DS rk esz) []]}
     |_=>st) (match some pv with
     |some (.sl _ true [])=>{p with sto:=p.sto.set t (.box (pc.set c (.own p.sto.length esz 0 0 0 false)))++[.arr esz []]}
     |_=>p):=by
     intro n1 n2;split
     · rename_i e he;injection he with he;exact absurd he (n2 e)
     split
     · rename_i e he;injection he with he;exact absurd he (n1 e)
     exact h
    cases v with
    |junk=>cases hsure
    |nil e' cl=>
     have h5':pv= .sl e' cl []:=h5;subst h5';cases cl with
     |false=>exact other (fun e he=>by cases he) (fun e he=>by cases he)
     |true=>
      dsimp only;have hlt:=(bq.1 hst).1;have hfr:Fr [] st.sto (st.sto.set t (.box (cs.set c (.own st.sto.length false)))++[.arr (DS rk esz) []]):=fun u x hu=>by
       by_cases hut:t=u
       · subst hut;rw [hst] at hu;injection hu with hu;subst hu;exact .inl ⟨_,by rw [bu (by simpa using hlt),ce];simp [hlt];rfl⟩
       have hul:=(bq.1 hu).1
       have:(st.sto.set t (.box (cs.set c (.own st.sto.length false)))++[.arr (DS rk esz) []])[u]? =some x:=by
        rw [bu (by simpa using hul),ce];simp [hut,hu]
       cases x with
       |arr r l=>exact .inl ⟨l,this,rfl,fun _=>rfl⟩
       |dead=>exact this
       |box c2=>exact .inl ⟨c2,this⟩
       |_=>trivial
      have hlen:(st.sto.set t (.box (cs.set c (.own st.sto.length false)))).length=st.sto.length:=by simp
      have hown:R (st.sto.set t (.box (cs.set c (.own st.sto.length false)))++[.arr (DS rk esz) []]) (.own st.sto.length false) (.own p.sto.length esz 0 0 0 false):=by
       refine ⟨esz,0,by rw [h.r.sto.len],.inl ⟨DS rk esz,[],?_,(BL rk esz).symm,rfl⟩⟩
       rw [bv (by simp)];simp
      refine ⟨⟨eK.ext hfr h.r.env,⟨by simp [h.r.sto.len],fun u x hu=>?_⟩,h.r.fz,h.r.kn⟩,fun u x hu=>?_,h.e⟩
      · rcases dw u st.sto.length with hul|hul
        · rw [bu (by simpa using hul),ce] at hu
          by_cases hut:t=u
          · subst hut
            simp [hlt] at hu;subst hu;refine ⟨.box (pc.set c (.own p.sto.length esz 0 0 0 false)),?_,_,rfl,RL.set (RL.ext hfr h3) c hown⟩;rw [bu (by simp [h.r.sto.len,hul]),ce]
            simp [h.r.sto.len,hul]
          simp [hut] at hu
          obtain ⟨q,h6,h7⟩:=h.r.sto.at_ u x hu;refine ⟨q,?_,h7.ext hfr⟩;rw [bu (by simp [h.r.sto.len,hul]),ce]
          simp [hut,h6]
        rw [bv (by simpa using hul)] at hu
        simp only [hlen] at hu;have hu0:u-st.sto.length=0:=by
         rcases fu (u-st.sto.length) with h|h
         · exact h
         rw [List.getElem?_eq_none (by simp;omega)] at hu;cases hu
        rw [hu0] at hu;simp at hu;subst hu;refine ⟨.arr esz [],?_,by show _=_;rw [BL];rfl⟩
        rw [bv (by simp [h.r.sto.len];omega)]
        simp [h.r.sto.len,hu0]
      rcases dw u st.sto.length with hul|hul
      · rw [bu (by simpa using hul),ce] at hu
        by_cases hut:t=u
        · subst hut
          simp [hlt] at hu;subst hu;exact R2 hcs c rfl
        simp [hut] at hu;exact h.s u x hu
      rw [bv (by simpa using hul)] at hu
      cases hj:u- (st.sto.set t (.box (cs.set c (.own st.sto.length false)))).length with
      |zero=>rw [hj] at hu;simp at hu
      |succ j=>rw [hj] at hu;simp at hu
    |undef|nul|nilf|int _ _|bool _|str _|bp _ _ _|mp _=>exact other (fun e he=>by rw [show pv=_ from h5] at he;cases he) (fun e he=>by cases he)
    |sl r l=>exact other (fun e he=>by rw [show pv=_ from h5] at he;cases he) (fun e he=>by cases he)
    |agg _|tup _|rptr _ _=>exact other (fun e he=>by obtain ⟨q,hq,_⟩:=h5;rw [hq] at he;cases he) (fun e he=>by cases he)
    |clo _ _ _=>exact other (fun e he=>by obtain ⟨q,q2,hq,_⟩:=h5;rw [hq] at he;cases he) (fun e he=>by cases he)
    |own _ _=>exact other (fun e he=>by obtain ⟨q,q2,hq,_⟩:=h5;rw [hq] at he;cases he) (fun e he=>by cases he)
    |pre _ _ _ _|part _ _ _ _ _|pb _ _ _=>exact other (fun e he=>by obtain ⟨q,hq,_⟩:=h5;rw [hq] at he;cases he) (fun e he=>by cases he)
    |pa _ _ _ _ _=>exact other (fun e he=>by obtain ⟨hq,_⟩:=h5;rw [hq] at he;cases he) (fun e he=>by cases he)
theorem T3 {p:St} {t c esz:Nat} (h: ∀cs,p.sto[t]?≠some (.box cs)):wZ p t c esz=p:=by
 unfold wZ;split
 · rename_i cs hcs;exact absurd hcs (h cs)
 rfl
theorem aEG {st:vS} {p:St} (h:RSS st p) {v:SV} {q:PV} (hv:R st.sto v q) (hs:v≠ .junk):(∃t,aEi v=some t/\NE q=some t)\/(aEi v=none/\ ∀t,NE q=some t-> ∀cs,p.sto[t]?≠some (.box cs)):=by
 cases v with
 |junk=>exact absurd rfl hs
 |bp u m off=>
  have hq:q= .ptr u m 0 off:=hv;subst hq;cases off with
  |zero=>exact .inl ⟨u,rfl,rfl⟩
  |succ off=>exact .inr ⟨rfl,fun t ht=>by cases ht⟩
 |pb u i off=>
  obtain ⟨e',hq,hat⟩:=hv;subst hq;refine .inr ⟨rfl,fun t ht cs hcs=>?_⟩
  have:t=u:=by
   unfold NE at ht;split at ht
   · rename_i heq;injection heq with e1;injection ht with ht;rw [<- ht,e1]
   cases ht
  subst this;rcases hat with ⟨r,l,h1,_⟩|h1
  · rw [h.r.sto.arr h1] at hcs;cases hcs
  obtain ⟨q,h2,h3⟩:=h.r.sto.at_ t _ h1
  rw [hcs] at h2;injection h2 with h2;subst h2;cases (show mK.box cs= .dead from h3)
 |pa u r i a off=>
  obtain ⟨hq,hat⟩:=hv;subst hq;refine .inr ⟨rfl,fun t ht cs hcs=>?_⟩
  have:t=u:=by
   unfold NE at ht;split at ht
   · rename_i heq;injection heq with e1;injection ht with ht;rw [<- ht,e1]
   cases ht
  subst this;rcases hat with ⟨l,h1,_⟩|h1
  · rw [h.r.sto.arr h1] at hcs;cases hcs
  obtain ⟨q,h2,h3⟩:=h.r.sto.at_ t _ h1
  rw [hcs] at h2;injection h2 with h2;subst h2;cases (show mK.box cs= .dead from h3)
 |undef|nul|nilf|int _ _|bool _|str _|mp _|sl _ _|nil _ _=>exact .inr ⟨rfl,fun t ht=>by rw [show q=_ from hv] at ht;cases ht⟩
 |agg _|tup _|rptr _ _=>exact .inr ⟨rfl,fun t ht=>by obtain ⟨_,rfl,_⟩:=hv;cases ht⟩
 |clo _ _ _=>exact .inr ⟨rfl,fun t ht=>by obtain ⟨_,_,rfl,_⟩:=hv;cases ht⟩
 |own _ _=>exact .inr ⟨rfl,fun t ht=>by obtain ⟨_,_,rfl,_⟩:=hv;cases ht⟩
 |pre _ _ _ _|part _ _ _ _ _=>exact .inr ⟨rfl,fun t ht=>by obtain ⟨_,rfl,_⟩:=hv;cases ht⟩
theorem aOK {st:vS} {p:St} (h:RSS st p) {v:SV} {q:PV} (hv:R st.sto v q) (hs:v.sure=true):(∃t,aGo v=some t/\VL q=some t)\/(aGo v=none/\ ∀t,VL q=some t-> ∀cs,p.sto[t]?≠some (.box cs)):=by
 have hj:v≠ .junk:=fun e=>by subst e;cases hs
 by_cases hc: ∃f a b,v= .clo f a b
 · obtain ⟨f,a,b,rfl⟩:=hc
   obtain ⟨pa,pb,rfl,h1,h2⟩:=hv;cases b with
   |nil=>
    have:pb=[]:=h2
    subst this;exact .inr ⟨rfl,fun t ht=>by cases ht⟩
   |cons y ys=>
    obtain ⟨z,zs,rfl,g1,g2⟩:=h2;exact aEG h g1 (fun e=>by subst e;simp [SV.sure,sureL] at hs)
 have e1:aGo v=aEi v:=by
  cases v with
  |clo f a b=>exact absurd ⟨f,a,b,rfl⟩ hc
  |_=>rfl
 have e2:VL q=NE q:=by
  cases q with
  |clo f a b=>
   exfalso;cases v with
   |junk=>exact hj rfl
   |clo f a b=>exact hc ⟨f,a,b,rfl⟩
   |bp _ _ _|undef|nul|nilf|int _ _|bool _|str _|mp _|sl _ _|nil _ _=>cases (show PV.clo f a b=_ from hv)
   |agg _|tup _|rptr _ _|pre _ _ _ _|part _ _ _ _ _|pb _ _ _=>obtain ⟨_,hq,_⟩:=hv;cases hq
   |own _ _=>obtain ⟨_,_,hq,_⟩:=hv;cases hq
   |pa _ _ _ _ _=>obtain ⟨hq,_⟩:=hv;cases hq
  |_=>rfl
 rw [e1,e2];exact aEG h hv hj
theorem qY {rk:List (Nat×List PT)}: ∀(live:List (Nat×Option Nat)) {st:vS} {p:St},RSS st p->RSS (oZ rk live st) (nF live p)
 | [],st,p,h=>h
 |(t,k)::live,st,p,h=>by
  cases k with
  |none=>simp only [oZ,nF];exact qY live h
  |some n=>
   simp only [oZ,nF];cases hn:cf 1000 n with
   |false=>simp only [cond_false,cj,if_false];exact qY live h
   |true=>
    simp only [cond_true,if_true];have hlk:=h.r.env.lk t;have hsu:=h.e.lk t;rcases aOK h hlk hsu with ⟨u,e1,e2⟩|⟨e1,e2⟩
    · rw [e1,e2]
      exact qY live (aAj h u _ _)
    rw [e1]
    cases hb:VL (lk t p.env) with
    |none=>exact qY live h
    |some u=>
     show RSS (oZ rk live st) (nF live (wZ p u (n / 1000-1) (n%1000)));rw [T3 (e2 u hb)];exact qY live h
theorem WV {e:SE} {pe:zE} (hE:eK s e pe): ∀{live:List (Nat×Option Nat)},I1 e live=true->OA e live=live.flatMap fun p=>lB zF (lk p.1 pe)
 | [],_=>rfl
 |(t,k)::live,h=>by
  simp only [I1,bo] at h;simp only [OA,gb,WV hE h.2];rw [aED (fun _=>rfl) (hE.lk t) h.1]
theorem aEH: ∀{s':List SB} {s:List SB} {ps:cV} (n:Nat),(ps.length=s.length/\ ∀(t:Nat) (b:SB),s[t]? =some b-> ∃q,ps[t]? =some q/\RB s' b q)->OB s n=true->Z8 s n=(ps.take n).flatMap wX
 |s',[],ps,n,h,_=>by
  have:ps=[]:=d8.1 (by simpa using h.1)
  subst this;cases n<;>simp [Z8]
 |s',b::s,ps,0,h,_=>by simp [Z8]
 |s',b::s,ps,n+1,h,hk=>by
  cases ps with
  |nil=>have:=h.1;simp at this
  |cons q ps=>
   simp only [OB,bo] at hk;obtain ⟨q',h1,h2⟩:=h.2 0 b rfl;simp at h1;subst h1;simp only [Z8,fk,gb,T1 h2 hk.1];rw [aEH (s':=s') (ps:=ps) n ⟨by simpa using h.1,fun t x hx=>by simpa using h.2 (t+1) x (by simpa using hx)⟩ hk.2]
theorem aBw {s:List SB} {v:SV} {p:PV} (h:R s v p):R s (RS s v) p:=by
 unfold RS;split
 · rename_i t ex
   rw [cM];split
   · rename_i r l hst
     obtain ⟨e,n,rfl,hat⟩:=h;obtain ⟨rfl,rfl⟩:=hat.inv hst;exact ⟨r.length,rfl,.inl ⟨r,l,hst,rfl⟩⟩
   exact h
 exact h
theorem aBx {s:List SB} (c:Nat): ∀{e:SE} {p:zE},eK s e p->eK s (aBn s c e) p
 | [],_,h=>h
 |(t,v)::r,_,h=>by
  obtain ⟨q,qs,rfl,h1,h2⟩:=h;simp only [aBn];cases hb:ci t c with
  |true=>exact ⟨q,qs,rfl,aBw h1,h2⟩
  |false=>exact ⟨q,qs,rfl,h1,aBx c h2⟩
theorem KZ: ∀(live:List (Nat×Option Nat)) {st:vS} {p:St},GW st p->GW (I0 live st) p
 | [],st,p,h=>h
 |(t,k)::r,st,p,h=>by
  simp only [I0];cases hn:cf 1000000 t with
  |true=>exact KZ r ⟨aBx _ h.env,h.sto,h.fz,h.kn⟩
  |false=>exact KZ r h
theorem WW {rk:List (Nat×List PT)} {live:List (Nat×Option Nat)} {st st1:vS} {p:St} (h:GW st p) (hn:OC rk live st=some st1): ∃p1,NF live p=some p1/\GW st1 p1:=by
 unfold OC at hn;cases hc:(I1 st.env live&&OB st.sto st.kn) with
 |false=>rw [hc] at hn;cases hn
 |true=>
  rw [hc] at hn;simp only [cond_true] at hn;simp only [bo] at hc;split at hn
  · cases hn
  rename_i m hm
  split at hn
  · rename_i s1 e1 s2 h1 h2
    injection hn with hn;subst hn;have ht:Z8 st.sto st.kn++OA st.env live=(p.sto.take p.kn).flatMap wX++live.flatMap fun q=>lB zF (lk q.1 p.env):=by
     rw [WV h.env hc.1,aEH (s':=st.sto) st.kn ⟨h.sto.len,h.sto.at_⟩ hc.2,h.kn]
    rw [ht] at hm;have hm':=OQ h.sto _ _ _ _ hm;have hr:OS m st.sto (s1++s2):=OS.of h1;obtain ⟨p1,a1,a2,a3⟩:=KW h.sto hr h1;have hlen:s1.length=m.length:=(EM h1).1;obtain ⟨pe1,q2,b1,b2,b3,b4⟩:=T2 h.env hr h2 (fun j b hj=>by rw [<- hlen,bv (by omega)];simpa using hj)
    have hsto:cW (s1++s2) (p1++q2):=⟨by simp [a2,b3],fun t b ht=>by
     rcases dw t s1.length with hl|hl
     · rw [bu hl] at ht
       obtain ⟨q,c1,c2⟩:=a3 t b ht;exact ⟨q,by rw [bu (by omega)];exact c1,c2⟩
     rw [bv hl] at ht
     obtain ⟨q,c1,c2⟩:=b4 _ b ht;exact ⟨q,by rw [bv (by omega),a2];exact c1,c2⟩⟩
    have hs:aOg (s1++s2):=fun t cs ht=>by
     rcases dw t s1.length with hl|hl
     · rw [bu hl] at ht
       obtain ⟨b,c,d1,d2,d3⟩:=(EM h1).2 t (m[t]'(by omega)) (bz (by omega))
       rw [ht] at d3;injection d3 with d3;subst d3;cases b with
       |box x=>
        simp only [Z7] at d2;split at d2
        · rename_i l hl';injection d2 with d2;injection d2 with d2;subst d2;exact renVL_sure hl'
        cases d2
       |arr _ _=>injection d2 with d2;cases d2
       |set _=>injection d2 with d2;cases d2
       |tab _ _=>injection d2 with d2;cases d2
       |dead=>injection d2 with d2;cases d2
     rw [bv hl] at ht
     obtain ⟨r,hr'⟩:=KX h2 _ _ ht;cases hr'
    have hR:RSS {env:=e1,sto:=s1++s2,fz:=D5 st.fz 0 m,kn:=st.kn} {env:=pe1,sto:=p1++q2,fz:=D5 p.fz 0 m,kn:=p.kn}:=
     ⟨⟨b2,hsto,by rw [h.fz],h.kn⟩,hs,HS h2⟩
    refine ⟨_,?_,KZ live (qY live hR).r⟩;unfold NF;rw [h.kn] at hm';rw [h.kn];rw [hm'];dsimp only;rw [a1,b1]
  cases hn
theorem aBy {rk:List (Nat×List PT)} {live:List (Nat×Option Nat)} {st st1:vS} {p:St} (h:GW st p) (hn:OD rk live st=some st1): ∃p1,MK live p=some p1/\GW st1 p1:=by
 unfold OD at hn;cases h1:OC rk live st with
 |none=>rw [h1] at hn;cases hn
 |some s=>
  rw [h1] at hn;dsimp only at hn;obtain ⟨p1,h2,h3⟩:=WW h h1;unfold MK;rw [h2];dsimp only;cases ha:(live.any fun p=>p.2.isSome) with
  |true=>
   rw [ha] at hn;simp only [cond_true] at hn;rw [if_pos rfl];exact WW h3 hn
  |false=>
   rw [ha] at hn;injection hn with hn;subst hn;exact ⟨p1,by rw [if_neg (by simp)],h3⟩
mutual
theorem MZ: ∀{a b:SV} (q:List D2),DV a b=true->zI a (KT b++q)=(b,q)
 | .undef,.undef,q,_=>rfl
 | .nul,.nul,q,_=>rfl
 | .nilf,.nilf,q,_=>rfl
 | .int k _,.int l n,q,h=>by rw [fW.1 h];rfl
 | .bool _,.bool _,q,_=>rfl
 | .agg a,.agg b,q,h=>by simp only [zI,KT,put_atsL q h]
 | .tup a,.tup b,q,h=>by simp only [zI,KT,put_atsL q h]
 | .sl r _,.sl r' l,q,h=>rfl
 | .nil e c,.nil f d,q,h=>by
  simp only [DV,bo,beq_iff_eq] at h;rw [bn h.1,h.2];rfl
 | .own t x,.own u y,q,h=>by
  simp only [DV,bo,beq_iff_eq] at h;rw [bn h.1,h.2];rfl
 | .pre t _ _ x,.pre u _ _ y,q,h=>by
  simp only [DV,bo,beq_iff_eq] at h;rw [bn h.1,h.2];rfl
 | .part t _ _ _ x,.part u _ _ _ y,q,h=>by
  simp only [DV,bo,beq_iff_eq] at h;rw [bn h.1,h.2];rfl
 | .pb t _ o,.pb u _ p,q,h=>by
  simp only [DV,bo] at h;rw [bn h.1,bn h.2];rfl
 | .bp t n o,.bp u m p,q,h=>by
  simp only [DV,bo] at h;rw [bn h.1.1,bn h.1.2,bn h.2];rfl
 | .rptr a o,.rptr b p,q,h=>by
  simp only [DV,bo] at h;simp only [zI,KT,put_atsL q h.1,bn h.2]
 | .clo f a b,.clo g c d,q,h=>by
  simp only [DV,bo] at h;simp only [zI,KT,cw,put_atsL _ h.1.2,put_atsL q h.2,bn h.1.1]
 | .mp t,.mp u,q,h=>by rw [bn h];rfl
theorem put_atsL: ∀{a b:List SV} (q:List D2),likeL a b=true->putL a (atsL b++q)=(b,q)
 | [],[],q,_=>rfl
 |x::xs,y::ys,q,h=>by
  simp only [likeL,bo] at h;simp only [putL,atsL,cw,MZ _ h.1,put_atsL q h.2]
 | [],_::_,_,h=>by cases h
 |_::_,[],_,h=>by cases h
end
theorem aEI: ∀{a b:SB} (q:List D2),aOb a b=true->Z9 a (aEj b++q)=(b,q)
 | .arr r _,.arr r' l,q,h=>rfl
 | .box a,.box b,q,h=>by simp only [Z9,aEj,put_atsL q h]
 | .set _,.set _,q,_=>rfl
 | .tab p _,.tab p' l,q,h=>by obtain rfl:p=p':=PT.same_eq h;rfl
 | .dead,.dead,q,_=>rfl
 | .arr _ _,.box _,_,h| .arr _ _,.set _,_,h| .arr _ _,.dead,_,h| .box _,.arr _ _,_,h| .box _,.set _,_,h| .box _,.dead,_,h| .set _,.arr _ _,_,h| .set _,.box _,_,h| .set _,.dead,_,h| .dead,.arr _ _,_,h| .dead,.box _,_,h| .dead,.set _,_,h
 | .tab _ _,.arr _ _,_,h| .tab _ _,.box _,_,h| .tab _ _,.set _,_,h| .tab _ _,.dead,_,h| .arr _ _,.tab _ _,_,h| .box _,.tab _ _,_,h| .set _,.tab _ _,_,h| .dead,.tab _ _,_,h=>by cases h
theorem JE: ∀{a b:List SB} (q:List D2),OE a b=true->HM a (TV b++q)=(b,q)
 | [],[],q,_=>rfl
 |x::xs,y::ys,q,h=>by
  simp only [OE,bo] at h;simp only [HM,TV,cw,aEI _ h.1,JE q h.2]
 | [],_::_,_,h=>by cases h
 |_::_,[],_,h=>by cases h
theorem WX: ∀{a b:SE} (q:List D2),aBo a b=true->WJ a (aC1 b++q)=(b,q)
 | [],[],q,_=>rfl
 |(t,x)::xs,(u,y)::ys,q,h=>by
  simp only [aBo,bo] at h;simp only [WJ,aC1,cw,MZ _ h.1.2,WX q h.2,bn h.1.1]
 | [],_::_,_,h=>by cases h
 |_::_,[],_,h=>by cases h
theorem WY: ∀{a b:List Nat},aBp a b=true->a=b
 | [],[],_=>rfl
 |x::xs,y::ys,h=>by
  simp only [aBp,bo] at h;rw [bn h.1,WY h.2]
 | [],_::_,h=>by cases h
 |_::_,[],h=>by cases h
theorem aDa {a b:vS} (h:OF a b=true):GT a (DU b)=b:=by
 obtain ⟨e1,s1,z1,k1⟩:=a;obtain ⟨e2,s2,z2,k2⟩:=b;simp only [OF,bo] at h;obtain ⟨⟨⟨h1,h2⟩,h3⟩,h4⟩:=h;have hs:=JE [] h2;rw [cy] at hs;simp only [GT,DU,WX _ h1,hs,WY h3,bn h4]
theorem AK.of_at: ∀{a:AK} {x:D2} {y:a.T},a.of x=some y->a.at y=x
 | .i,.i _,y,h=>by injection h with h;subst h;rfl
 | .b,.b _,y,h=>by injection h with h;subst h;rfl
 | .n,.n _,y,h=>by injection h with h;subst h;rfl
 | .l r,.l q x,y,h=>by obtain ⟨rfl,rfl⟩:=tN h;rfl
 | .s,.s _,y,h=>by injection h with h;subst h;rfl
 | .i,.b _,_,h| .i,.n _,_,h| .i,.l _ _,_,h| .i,.s _,_,h| .b,.i _,_,h| .b,.n _,_,h| .b,.l _ _,_,h| .b,.s _,_,h| .n,.i _,_,h| .n,.b _,_,h| .n,.l _ _,_,h| .n,.s _,_,h
 | .l _,.i _,_,h| .l _,.b _,_,h| .l _,.n _,_,h| .l _,.s _,_,h| .s,.i _,_,h| .s,.b _,_,h| .s,.n _,_,h| .s,.l _ _,_,h=>by cases h
theorem yA: ∀{ks:List AK} {l:List D2} {y:mO ks},wN ks l=some y->pO ks y=l
 | [],[],y,_=>rfl
 | [a],[x],y,h=>by
  have:=AK.of_at (a:=a) h
  simp only [pO,this]
 |a::q::r,x::xs,y,h=>by
  simp only [wN] at h;split at h
  · rename_i u v h1 h2
    injection h with h;subst h;simp only [pO,AK.of_at h1,yA h2]
  cases h
 | [],_::_,_,h=>by cases h
 | [_],[],_,h=>by cases h
 | [_],_::_::_,_,h=>by cases h
 |_::_::_,[],_,h=>by cases h
end
end Go.Vm
/- What is known of functions, and what a call of one comes to. -/
namespace Go.Vm
mutual
def OT:Nat->PV->Option (PV×cV)
 |_,.int k n=>some (.int k n,[])
 |_,.bool b=>some (.bool b,[])
 |nx,.agg cs=>match ownPL nx cs with|some r=>some (.agg r.1,r.2)|none=>none
 |nx,.tup cs=>match ownPL nx cs with|some r=>some (.tup r.1,r.2)|none=>none
 |nx,.sl e false rows=>some (.own nx e 0 rows.length rows.length false,[.arr e rows])
 |_,_=>none
def ownPL:Nat->List PV->Option (List PV×cV)
 |_,[]=>some ([],[])
 |nx,x::xs=>match OT nx x with
  |some a=>match ownPL (nx+a.2.length) xs with
   |some b=>some (a.1::b.1,a.2++b.2)
   |none=>none
  |none=>none
end
def CI (s:List SB) (n:Nat) (l:List SB):Prop:= ∀(j:Nat) (b:SB),l[j]? =some b->s[n+j]? =some b
theorem CI.left {s:List SB} {n:Nat} {l m:List SB} (h:CI s n (l++m)):CI s n l:=fun j b hj=>h j b (by
 rw [bu (bq.1 hj).1];exact hj)
theorem CI.right {s:List SB} {n:Nat} {l m:List SB} (h:CI s n (l++m)):CI s (n+l.length) m:=fun j b hj=>by
 have:=h (l.length+j) b (by rw [bv (by omega)];simpa using hj)
 rwa [Nat.add_assoc]
def RBs (s:List SB) (l:List SB) (q:cV):Prop:=q.length=l.length/\ ∀(j:Nat) (b:SB),l[j]? =some b-> ∃x,q[j]? =some x/\RB s b x
theorem RBs.append {s l m:List SB} {q r:cV} (h:RBs s l q) (k:RBs s m r):RBs s (l++m) (q++r):=by
 refine ⟨by simp [h.1,k.1],fun j b hj=>?_⟩
 rcases dw j l.length with hl|hl
 · rw [bu hl] at hj
   obtain ⟨x,h1,h2⟩:=h.2 j b hj;exact ⟨x,by rw [bu (by rw [h.1];exact hl)];exact h1,h2⟩
 rw [bv hl] at hj
 obtain ⟨x,h1,h2⟩:=k.2 _ b hj;exact ⟨x,by rw [bv (by rw [h.1];exact hl),h.1];exact h1,h2⟩
theorem RBs.nil {s:List SB}:RBs s [] []:=⟨rfl,fun j b h=>by simp at h⟩
theorem RBs.one {s:List SB} {b:SB} {x:mK} (h:RB s b x):RBs s [b] [x]:=⟨rfl,fun j c hc=>by
 cases j with
 |zero=>simp at hc;subst hc;exact ⟨x,rfl,h⟩
 |succ j=>simp at hc⟩
mutual
theorem aBz: ∀{v:SV} {nx:Nat} {p0 p:PV} {q:cV},xZ v=some p0->OT nx p0=some (p,q)-> ∀{s:List SB},CI s nx (EJ nx v).2->R s (EJ nx v).1 p/\RBs s (EJ nx v).2 q
 | .int k n,nx,p0,p,q,h0,h,s,_=>by injection h0 with h0;subst h0;injection h with h;injection h with h1 h2;subst h1 h2;exact ⟨rfl,RBs.nil⟩
 | .bool b,nx,p0,p,q,h0,h,s,_=>by injection h0 with h0;subst h0;injection h with h;injection h with h1 h2;subst h1 h2;exact ⟨rfl,RBs.nil⟩
 | .agg cs,nx,p0,p,q,h0,h,s,hb=>by
  simp only [xZ] at h0;split at h0
  · rename_i l hl
    injection h0 with h0;subst h0;simp only [OT] at h;split at h
    · rename_i r hr
      injection h with h;injection h with h1 h2;subst h1 h2;obtain ⟨h3,h4⟩:=ownOfL_R (p:=r.1) (q:=r.2) hl hr hb;exact ⟨⟨r.1,rfl,h3⟩,h4⟩
    cases h
  cases h0
 | .tup cs,nx,p0,p,q,h0,h,s,hb=>by
  simp only [xZ] at h0;split at h0
  · rename_i l hl
    injection h0 with h0;subst h0;simp only [OT] at h;split at h
    · rename_i r hr
      injection h with h;injection h with h1 h2;subst h1 h2;obtain ⟨h3,h4⟩:=ownOfL_R (p:=r.1) (q:=r.2) hl hr hb;exact ⟨⟨r.1,rfl,h3⟩,h4⟩
    cases h
  cases h0
 | .sl r l,nx,p0,p,q,h0,h,s,hb=>by
  injection h0 with h0;subst h0;injection h with h;injection h with h1 h2;subst h1 h2;refine ⟨⟨r.length,l.length,by simp,.inl ⟨r,l,hb 0 _ rfl,rfl,rfl⟩⟩,RBs.one rfl⟩
 | .nil e c,nx,p0,p,q,h0,h,s,hb=>by
  injection h0 with h0;subst h0;cases c with
  |true=>simp [OT] at h
  |false=>
   injection h with h;injection h with h1 h2;subst h1 h2;exact ⟨⟨e,0,rfl,.inl ⟨_,[],hb 0 _ rfl,by simp,rfl⟩⟩,RBs.one (by show _=_;simp)⟩
 | .str _,nx,p0,p,q,h0,h,s,_=>by injection h0 with h0;subst h0;cases h
 | .nilf,nx,p0,p,q,h0,h,s,_=>by injection h0 with h0;subst h0;cases h
 | .rptr cs o,nx,p0,p,q,h0,h,s,_=>by
  simp only [xZ] at h0;split at h0
  · injection h0 with h0;subst h0;cases h
  cases h0
 | .clo f a b,nx,p0,p,q,h0,h,s,_=>by
  simp only [xZ] at h0;split at h0
  · injection h0 with h0;subst h0;cases h
  cases h0
 | .junk,_,_,_,_,h0,_,_,_| .undef,_,_,_,_,h0,_,_,_| .nul,_,_,_,_,h0,_,_,_| .own _ _,_,_,_,_,h0,_,_,_| .pre _ _ _ _,_,_,_,_,h0,_,_,_| .part _ _ _ _ _,_,_,_,_,h0,_,_,_
 | .pa _ _ _ _ _,_,_,_,_,h0,_,_,_| .pb _ _ _,_,_,_,_,h0,_,_,_| .bp _ _ _,_,_,_,_,h0,_,_,_| .mp _,_,_,_,_,h0,_,_,_=>by cases h0
theorem ownOfL_R: ∀{v:List SV} {nx:Nat} {p0 p:List PV} {q:cV},pvL v=some p0->ownPL nx p0=some (p,q)-> ∀{s:List SB},CI s nx (ownOfL nx v).2->RL s (ownOfL nx v).1 p/\RBs s (ownOfL nx v).2 q
 | [],nx,p0,p,q,h0,h,s,_=>by injection h0 with h0;subst h0;injection h with h;injection h with h1 h2;subst h1 h2;exact ⟨rfl,RBs.nil⟩
 |x::xs,nx,p0,p,q,h0,h,s,hb=>by
  obtain ⟨a,as,rfl,h1,h2⟩:=fG.1 h0;simp only [ownPL] at h;split at h
  · rename_i ra hra
    split at h
    · rename_i rb hrb
      injection h with h;injection h with e1 e2;subst e1 e2;simp only [ownOfL] at hb ⊢;obtain ⟨k1,k2⟩:=aBz (p:=ra.1) (q:=ra.2) h1 hra hb.left;rw [k2.1] at hrb;obtain ⟨k3,k4⟩:=ownOfL_R (p:=rb.1) (q:=rb.2) h2 hrb hb.right;exact ⟨RL.cons k1 k3,k2.append k4⟩
    cases h
  cases h
end
mutual
theorem aEJ {s:List SB} {ps:cV} {z:List Nat} (hS:cW s ps): ∀{v v':SV} {p:PV} {seen seen':List Nat} (nx:Nat),R s v p->aC0 s z seen v=some (v',seen')-> ∃p0 p' q,xZ v'=some p0/\OT nx p0=some (p',q)/\GJ ps z nx seen p=some (p',q,seen')
 | .int k n,v',p,seen,seen',nx,h,hx=>by injection hx with hx;injection hx with h1 h2;subst h1 h2;rw [show p=_ from h];exact ⟨_,_,_,rfl,rfl,rfl⟩
 | .bool k,v',p,seen,seen',nx,h,hx=>by injection hx with hx;injection hx with h1 h2;subst h1 h2;rw [show p=_ from h];exact ⟨_,_,_,rfl,rfl,rfl⟩
 | .agg cs,v',p,seen,seen',nx,h,hx=>by
  obtain ⟨q,rfl,h⟩:=h;simp only [aC0] at hx;split at hx
  · rename_i r hr
    injection hx with hx;injection hx with h1 h2;subst h1 h2;obtain ⟨p0,p',q',h3,h4,h5⟩:=imOVL_R hS (v':=r.1) (seen':=r.2) nx h hr;exact ⟨.agg p0,.agg p',q',by simp only [xZ,h3],by simp only [OT,h4],by simp only [GJ,h5];rfl⟩
  cases hx
 | .tup cs,v',p,seen,seen',nx,h,hx=>by
  obtain ⟨q,rfl,h⟩:=h;simp only [aC0] at hx;split at hx
  · rename_i r hr
    injection hx with hx;injection hx with h1 h2;subst h1 h2;obtain ⟨p0,p',q',h3,h4,h5⟩:=imOVL_R hS (v':=r.1) (seen':=r.2) nx h hr;exact ⟨.tup p0,.tup p',q',by simp only [xZ,h3],by simp only [OT,h4],by simp only [GJ,h5];rfl⟩
  cases hx
 | .nil e c,v',p,seen,seen',nx,h,hx=>by
  cases c with
  |false=>cases hx
  |true=>injection hx with hx;injection hx with h1 h2;subst h1 h2;rw [show p=_ from h];exact ⟨_,_,_,rfl,rfl,rfl⟩
 | .own t ex,v',p,seen,seen',nx,h,hx=>by
  obtain ⟨e,n,rfl,hat⟩:=h;simp only [aC0,cM] at hx;split at hx
  · rename_i r l hst
    obtain ⟨rfl,rfl⟩:=hat.inv hst;cases hc:(has seen t||has z t) with
    |true=>rw [hc] at hx;cases hx
    |false=>
     rw [hc] at hx;injection hx with hx;injection hx with h1 h2;subst h1 h2;refine ⟨_,_,_,rfl,rfl,?_⟩;simp only [GJ,hS.arr hst,hc];simp
  cases hx
 | .junk,_,_,_,_,_,_,hx| .undef,_,_,_,_,_,_,hx| .nul,_,_,_,_,_,_,hx| .nilf,_,_,_,_,_,_,hx| .str _,_,_,_,_,_,_,hx| .sl _ _,_,_,_,_,_,_,hx| .pre _ _ _ _,_,_,_,_,_,_,hx| .part _ _ _ _ _,_,_,_,_,_,_,hx
 | .pa _ _ _ _ _,_,_,_,_,_,_,hx| .pb _ _ _,_,_,_,_,_,_,hx| .bp _ _ _,_,_,_,_,_,_,hx| .rptr _ _,_,_,_,_,_,_,hx| .clo _ _ _,_,_,_,_,_,_,hx| .mp _,_,_,_,_,_,_,hx=>by cases hx
theorem imOVL_R {s:List SB} {ps:cV} {z:List Nat} (hS:cW s ps): ∀{v v':List SV} {p:List PV} {seen seen':List Nat} (nx:Nat),RL s v p->imOVL s z seen v=some (v',seen')-> ∃p0 p' q,pvL v'=some p0/\ownPL nx p0=some (p',q)/\imOL ps z nx seen p=some (p',q,seen')
 | [],v',p,seen,seen',nx,h,hx=>by injection hx with hx;injection hx with h1 h2;subst h1 h2;rw [show p=_ from h];exact ⟨_,_,_,rfl,rfl,rfl⟩
 |x::xs,v',p,seen,seen',nx,h,hx=>by
  obtain ⟨a,as,rfl,h1,h2⟩:=h.cons_inv;simp only [imOVL] at hx;split at hx
  · rename_i r hr
    split at hx
    · rename_i r2 hr2
      injection hx with hx;injection hx with e1 e2;subst e1 e2;obtain ⟨p0,p',q,k1,k2,k3⟩:=aEJ hS (v':=r.1) (seen':=r.2) nx h1 hr;obtain ⟨p02,p'2,q2,k4,k5,k6⟩:=imOVL_R hS (v':=r2.1) (seen':=r2.2) (nx+q.length) h2 hr2;exact ⟨p0::p02,p'::p'2,q++q2,fG.2 ⟨_,_,rfl,k1,k4⟩,by simp only [ownPL,k2,k5],by simp only [imOL,k3,k6]⟩
    cases hx
  cases hx
end
mutual
theorem WZ {s:List SB}: ∀{v:SV} {p:PV},R s v p->HL v=true->p.noref=true
 | .int _ _,p,h,_| .bool _,p,h,_| .str _,p,h,_=>by rw [show p=_ from h];rfl
 | .agg cs,p,h,hn=>by obtain ⟨q,rfl,h⟩:=h;exact norefSL_R h hn
 | .tup cs,p,h,hn=>by obtain ⟨q,rfl,h⟩:=h;exact norefSL_R h hn
 | .junk,_,_,h| .undef,_,_,h| .nul,_,_,h| .nilf,_,_,h| .sl _ _,_,_,h| .nil _ _,_,_,h| .own _ _,_,_,h| .pre _ _ _ _,_,_,h| .part _ _ _ _ _,_,_,h| .pa _ _ _ _ _,_,_,h| .pb _ _ _,_,_,h| .bp _ _ _,_,_,h| .rptr _ _,_,_,h| .clo _ _ _,_,_,h| .mp _,_,_,h=>by cases h
theorem norefSL_R {s:List SB}: ∀{v:List SV} {p:List PV},RL s v p->norefSL v=true->norefL p=true
 | [],p,h,_=>by rw [show p=_ from h];rfl
 |x::xs,p,h,hn=>by
  obtain ⟨a,as,rfl,h1,h2⟩:=h.cons_inv;simp only [norefSL,bo] at hn;simp only [norefL,WZ h1 hn.1,norefSL_R h2 hn.2,c7]
end
mutual
theorem R3 {s:List SB} {u:SV}: ∀{v:SV} {p:PV},R s v p->HL v=false->imV s v=some u->p.noref=false
 | .int _ _,p,h,hn,_| .bool _,p,h,hn,_| .str _,p,h,hn,_=>by cases hn
 | .agg cs,p,h,hn,hi=>by
  obtain ⟨q,rfl,h⟩:=h;simp only [imV] at hi;split at hi
  · rename_i l hl;exact yesrefSL_R h hn hl
  cases hi
 | .tup cs,p,h,hn,hi=>by
  obtain ⟨q,rfl,h⟩:=h;simp only [imV] at hi;split at hi
  · rename_i l hl;exact yesrefSL_R h hn hl
  cases hi
 | .sl _ _,p,h,_,_=>by rw [show p=_ from h];rfl
 | .nil _ _,p,h,_,_=>by rw [show p=_ from h];rfl
 | .own _ _,p,h,_,_=>by obtain ⟨e,n,rfl,_⟩:=h;rfl
 | .pre _ _ _ _,p,h,_,_=>by obtain ⟨e,rfl,_⟩:=h;rfl
 | .part _ _ _ _ _,p,h,_,_=>by obtain ⟨e,rfl,_⟩:=h;rfl
 | .junk,_,_,_,h| .undef,_,_,_,h| .nul,_,_,_,h| .nilf,_,_,_,h| .pa _ _ _ _ _,_,_,_,h| .pb _ _ _,_,_,_,h| .bp _ _ _,_,_,_,h| .rptr _ _,_,_,_,h| .clo _ _ _,_,_,_,h| .mp _,_,_,_,h=>by cases h
theorem yesrefSL_R {s:List SB}: ∀{v u:List SV} {p:List PV},RL s v p->norefSL v=false->imVL s v=some u->norefL p=false
 | [],u,p,h,hn,_=>by cases hn
 |x::xs,u,p,h,hn,hi=>by
  obtain ⟨a,as,rfl,h1,h2⟩:=h.cons_inv;simp only [imVL] at hi;split at hi
  · rename_i y ys h3 h4
    simp only [norefSL] at hn;simp only [norefL];cases hx:HL x with
    |false=>rw [R3 h1 hx h3];rfl
    |true=>rw [hx] at hn;rw [yesrefSL_R h2 (by simpa using hn) h4];simp
  cases hi
end
mutual
theorem aOh {s:List SB} {ps:cV} (hS:cW s ps): ∀{v u:SV} {p:PV},R s v p->imV s v=some u-> ∃q,FJ ps p=some q/\xZ u=some q
 | .int k n,u,p,h,hx=>by injection hx with hx;subst hx;rw [show p=_ from h];exact ⟨_,rfl,rfl⟩
 | .bool b,u,p,h,hx=>by injection hx with hx;subst hx;rw [show p=_ from h];exact ⟨_,rfl,rfl⟩
 | .str x,u,p,h,hx=>by injection hx with hx;subst hx;rw [show p=_ from h];exact ⟨_,rfl,rfl⟩
 | .agg cs,u,p,h,hx=>by
  obtain ⟨q,rfl,h⟩:=h;simp only [imV] at hx;split at hx
  · rename_i l hl
    injection hx with hx;subst hx;obtain ⟨q',h1,h2⟩:=imVL_R hS h hl;exact ⟨.agg q',by simp only [FJ,h1];rfl,by simp only [xZ,h2]⟩
  cases hx
 | .tup cs,u,p,h,hx=>by
  obtain ⟨q,rfl,h⟩:=h;simp only [imV] at hx;split at hx
  · rename_i l hl
    injection hx with hx;subst hx;obtain ⟨q',h1,h2⟩:=imVL_R hS h hl;exact ⟨.tup q',by simp only [FJ,h1];rfl,by simp only [xZ,h2]⟩
  cases hx
 | .sl r l,u,p,h,hx=>by injection hx with hx;subst hx;rw [show p=_ from h];exact ⟨_,rfl,rfl⟩
 | .nil e c,u,p,h,hx=>by injection hx with hx;subst hx;rw [show p=_ from h];exact ⟨_,rfl,rfl⟩
 | .own t ex,u,p,h,hx=>by
  simp only [imV,cM] at hx;split at hx
  · rename_i r l hst
    injection hx with hx;subst hx;obtain ⟨e,n,rfl,hat⟩:=h;obtain ⟨rfl,rfl⟩:=hat.inv hst;refine ⟨.sl r.length false (l.map (RT.pv r)),?_,rfl⟩;simp only [FJ,hS.arr hst,di];rw [df (by simp)]
  cases hx
 | .pre t len cap ex,u,p,h,hx=>by
  simp only [imV,cM] at hx;split at hx
  · rename_i r l hst
    injection hx with hx;subst hx;obtain ⟨e,rfl,hat⟩:=h
    have:=hat.inv hst
    subst this;refine ⟨.sl r.length false ((l.take len).map (RT.pv r)),?_,rfl⟩;simp only [FJ,hS.arr hst,di,de]
  cases hx
 | .part t off len cap ex,u,p,h,hx=>by
  simp only [imV,cM] at hx;split at hx
  · rename_i r l hst
    injection hx with hx;subst hx;obtain ⟨e,rfl,hat⟩:=h
    have:=hat.inv hst
    subst this;refine ⟨.sl r.length false (((l.drop off).take len).map (RT.pv r)),?_,rfl⟩;simp only [FJ,hS.arr hst,de,dz]
  cases hx
 | .junk,_,_,_,hx| .undef,_,_,_,hx| .nul,_,_,_,hx| .nilf,_,_,_,hx| .pa _ _ _ _ _,_,_,_,hx| .pb _ _ _,_,_,_,hx| .bp _ _ _,_,_,_,hx| .rptr _ _,_,_,_,hx| .clo _ _ _,_,_,_,hx| .mp _,_,_,_,hx=>by cases hx
theorem imVL_R {s:List SB} {ps:cV} (hS:cW s ps): ∀{v u:List SV} {p:List PV},RL s v p->imVL s v=some u-> ∃q,imFL ps p=some q/\pvL u=some q
 | [],u,p,h,hx=>by injection hx with hx;subst hx;rw [show p=_ from h];exact ⟨_,rfl,rfl⟩
 |x::xs,u,p,h,hx=>by
  obtain ⟨a,as,rfl,h1,h2⟩:=h.cons_inv;simp only [imVL] at hx;split at hx
  · rename_i y ys h3 h4
    injection hx with hx;subst hx;obtain ⟨q,h5,h6⟩:=aOh hS h1 h3;obtain ⟨qs,h7,h8⟩:=imVL_R hS h2 h4;exact ⟨q::qs,by simp only [imFL,h5,h7],fG.2 ⟨_,_,rfl,h6,h8⟩⟩
  cases hx
end
mutual
theorem aEK {s:List SB}: ∀{v:SV} {p:PV},xZ v=some p->R s v p
 | .int _ _,p,h| .bool _,p,h| .str _,p,h| .nilf,p,h| .sl _ _,p,h| .nil _ _,p,h=>by injection h with h;exact h.symm
 | .agg cs,p,h=>by
  simp only [xZ] at h;split at h
  · rename_i l hl;injection h with h;exact ⟨l,h.symm,pvL_R hl⟩
  cases h
 | .tup cs,p,h=>by
  simp only [xZ] at h;split at h
  · rename_i l hl;injection h with h;exact ⟨l,h.symm,pvL_R hl⟩
  cases h
 | .rptr cs o,p,h=>by
  simp only [xZ] at h;split at h
  · rename_i l hl;injection h with h;exact ⟨l,h.symm,pvL_R hl⟩
  cases h
 | .clo f a b,p,h=>by
  simp only [xZ] at h;split at h
  · rename_i x y h1 h2;injection h with h;exact ⟨x,y,h.symm,pvL_R h1,pvL_R h2⟩
  cases h
 | .junk,_,h| .undef,_,h| .nul,_,h| .own _ _,_,h| .pre _ _ _ _,_,h| .part _ _ _ _ _,_,h| .pa _ _ _ _ _,_,h| .pb _ _ _,_,h| .bp _ _ _,_,h| .mp _,_,h=>by cases h
theorem pvL_R {s:List SB}: ∀{v:List SV} {p:List PV},pvL v=some p->RL s v p
 | [],p,h=>by injection h with h;exact h.symm
 |x::xs,p,h=>by
  obtain ⟨a,as,rfl,h1,h2⟩:=fG.1 h;exact RL.cons (aEK h1) (pvL_R h2)
end
def aOi (kd:Kd) (n:Nat) (tk:List Nat) (v:SV) (r:rT):Prop:=
 match kd with
 | .pure=> ∃p,xZ v=some p/\r={v:=p,rd:=tk}
 | .frz=> ∃p,xZ v=some p/\r={v:=p,rd:=tk,fr:=tk}
 | .own=> ∃p0 p q,xZ v=some p0/\OT n p0=some (p,q)/\r={v:=p,news:=q,rd:=tk}
def aI (F : qK) (f : FuncId) (c : bI) : Prop :=
  ∀ (a : c.α) (b : c.β) (as args : List PV) (sto : cV) (fz : List Nat), c.fn a = some b -> pvL (c.args.enc a) = some args -> exL sto (D3 sto fH) as = some args ->
    ∃ n r, callPure F (run F n) c.ow f as sto fz = some r /\ aOi c.kd sto.length (toksL (dQ sto fH) as) (c.res.enc b) r
def eM.va (c:eM) (a:mO c.ka):List SV:=(putL c.ta (pO c.ka a)).1
def eM.sa (c:eM) (a:mO c.ka):List SB:=(HM c.tb (putL c.ta (pO c.ka a)).2).1
def eM.vb (c:eM) (b:mO c.ko):SV:=(zI c.tv (pO c.ko b)).1
def eM.sb (c:eM) (b:mO c.ko):List SB:=(HM c.to (zI c.tv (pO c.ko b)).2).1
def aEL:SB->SB->Prop
 | .arr r l,.arr q m=>r=q/\m.length=l.length
 | .box _,.box _=>True
 | .set _,.set _=>True
 | .tab _ _,.tab _ _=>True
 | .dead,.dead=>True
 |_,_=>False
def nJ (F : qK) (f : FuncId) (c : eM) : Prop :=
  ∀ (a : mO c.ka) (b : mO c.ko) (pa : List PV) (ps : cV), c.fn a = some b -> RL (c.sa a) (c.va a) pa -> cW (c.sa a) ps ->
    ∃ n v s, run F n (.func f pa ps []) = some (.func v s []) /\ jW (c.sa a).length v s = true /\ R (c.sb b) (c.vb b) v /\ cW (c.sb b) (s.take (c.sa a).length) /\ (c.sb b).length = (c.sa a).length /\
      ∀ (t : Nat) (x y : SB), (c.sa a)[t]? = some x -> (c.sb b)[t]? = some y -> aEL x y
def HT (F:qK):List (Nat×bI)->Prop
 | []=>True
 |(f,c)::r=>aI F f c/\HT F r
def R4 (F:qK):List (Nat×eM)->Prop
 | []=>True
 |(f,c)::r=>nJ F f c/\R4 F r
def JF (F:qK):List (Nat×Cd)->Prop
 | []=>True
 |(f,x)::r=>F f=some x.ent/\JF F r
structure jZ (F:qK) (cx:Ctx):Prop where
 con: ∀f c,c∈cx.con f->aI F f c
 fpc: ∀f c,c∈cx.fpc f->nJ F f c
 code: ∀f x,cx.code f=some x->F f=some x.ent
theorem HT.mem {F:qK}: ∀{l:List (Nat×bI)},HT F l-> ∀f c,c∈WN l f->aI F f c
 | [],_,f,c,h=>by cases h
 |(g,d)::r,hl,f,c,h=>by
  simp only [WN] at h;cases hb:ci g f with
  |true=>
   rw [hb] at h
   have:=bn hb
   subst this;simp only [cond_true] at h;rcases h with _|⟨_,h⟩
   · exact hl.1
   exact HT.mem hl.2 _ c h
  |false=>rw [hb] at h;exact HT.mem hl.2 f c h
theorem R4.mem {F:qK}: ∀{l:List (Nat×eM)},R4 F l-> ∀f c,c∈WQ l f->nJ F f c
 | [],_,f,c,h=>by cases h
 |(g,d)::r,hl,f,c,h=>by
  simp only [WQ] at h;cases hb:ci g f with
  |true=>
   rw [hb] at h
   have:=bn hb
   subst this;simp only [cond_true] at h;rcases h with _|⟨_,h⟩
   · exact hl.1
   exact R4.mem hl.2 _ c h
  |false=>rw [hb] at h;exact R4.mem hl.2 f c h
theorem JF.mem {F:qK}: ∀{l:List (Nat×Cd)},JF F l-> ∀f x,TY l f=some x->F f=some x.ent
 | [],_,f,c,h=>by cases h
 |(g,d)::r,hl,f,c,h=>by
  simp only [TY] at h;cases hb:ci g f with
  |true=>
   rw [hb] at h
   have:=bn hb
   subst this;injection h with h;subst h;exact hl.1
  |false=>rw [hb] at h;exact JF.mem hl.2 f c h
theorem jZ.make {F:qK} {lp:Option Nat} {c:List (Nat×bI)} {p:List (Nat×eM)} {x:List (Nat×Cd)} {rk:List (Nat×List PT)} (h1:HT F c) (h2:R4 F p) (h3:JF F x):jZ F (mJ lp c p x rk):=
 ⟨h1.mem,h2.mem,h3.mem⟩
section
variable {F : qK} {R' ρ : Type} {w : R' -> ρ} {y : ρ} {s : List SB} {ps : cV} {z : List Nat}
theorem EN {f:FuncId} {m:Bool} {tk:List Nat} {vs:List SV} {k:XRS->iK R'} (hS:cW s ps) {as args:List PV} (hx:exL ps (D3 ps fH) as=some args) (hv:pvL vs=some args) (htk:tk=toksL (dQ ps fH) as):
 ∀{l:List bI},(∀c∈l,aI F f c)->aAb f m s tk vs k l ρ w=some y-> ∃sr pr,(∃n,callPure F (run F n) m f as ps z=some pr)/\iZ s ps sr pr/\k (.loc sr) ρ w=some y
 | [],_,h=>by cases h
 |c::l,hl,h=>by
  simp only [aAb] at h;cases hd:c.args.dec vs with
  |none=>rw [hd] at h;exact EN hS hx hv htk (fun c hc=>hl c (eg _ hc)) h
  |some a=>
   rw [hd] at h;cases hmo:(m==c.ow) with
   |false=>
    rw [hmo] at h;exact EN hS hx hv htk (fun c hc=>hl c (eg _ hc)) h
   |true=>
   rw [hmo] at h;obtain ⟨b,hb,h2⟩:=dA h;have hm:m=c.ow:=by simpa using hmo
   subst hm;have henc:=c.args.law hd hv;obtain ⟨n,r,hr,hres⟩:=hl c (d6 ..) a b as args ps z hb henc hx;cases hkd:c.kd with
   |pure=>
    rw [hkd] at h2 hres;obtain ⟨p,h3,rfl⟩:=hres;exact ⟨_,_,⟨n,hr⟩,by rw [<- htk];exact iZ.val hS (aEK h3),h2⟩
   |frz=>
    rw [hkd] at h2 hres;obtain ⟨p,h3,rfl⟩:=hres;exact ⟨_,_,⟨n,hr⟩,by rw [<- htk];exact iZ.val hS (aEK h3),h2⟩
   |own=>
    rw [hkd] at h2 hres;obtain ⟨p0,p,q,h3,h4,rfl⟩:=hres;rw [hS.len] at h4;have hbh:CI (s++(EJ s.length (c.res.enc b)).2) s.length (EJ s.length (c.res.enc b)).2:=fun j x hj=>by
     rw [bv (by omega)];simpa using hj
    obtain ⟨k1,k2⟩:=aBz h3 h4 hbh;exact ⟨_,_,⟨n,hr⟩,by rw [<- htk];exact iZ.news hS k2.1 k2.2 k1,h2⟩
end
end Go.Vm
/- A call of a function that works on the blocks that are lent to it. -/
namespace Go.Vm
def wP {α:Type}:List (Nat×α)->List α->List α
 | [],s=>s
 |(t,b)::r,s=>wP r (s.set t b)
theorem CJ: ∀(l:List (Nat×SB)) (s:List SB),wO l s=wP l s
 | [],s=>rfl
 |(t,b)::r,s=>by simp only [wO,wP,I7,CJ r]
theorem L5: ∀(l:List (Nat×mK)) (s:cV),hZ l s=wP l s
 | [],s=>rfl
 |(t,b)::r,s=>by simp only [hZ,wP,L5 r]
theorem HU {α:Type}: ∀(l:List (Nat×α)) (s:List α),(wP l s).length=s.length
 | [],s=>rfl
 |(t,b)::r,s=>by simp [wP,HU r]
theorem CK {α:Type}: ∀(l:List (Nat×α)) (s:List α) (t:Nat),t∉l.map (·.1)->(wP l s)[t]? =s[t]?
 | [],s,t,_=>rfl
 |(u,b)::r,s,t,h=>by
  simp only [c6,List.mem_cons,not_or] at h;simp only [wP];rw [CK r _ t h.2,ce];simp [Ne.symm h.1]
theorem K0 {α:Type}: ∀(l:List (Nat×α)) (s:List α) (j t:Nat) (b:α),(l.map (·.1)).Nodup->l[j]? =some (t,b)->t<s.length->(wP l s)[t]? =some b
 | [],s,j,t,b,_,h,_=>by simp at h
 |(u,c)::r,s,0,t,b,hn,h,ht=>by
  simp at h;obtain ⟨rfl,rfl⟩:=h;simp only [c6,fg] at hn;simp only [wP];rw [CK r _ u hn.1,ce];simp [ht]
 |(u,c)::r,s,j+1,t,b,hn,h,ht=>by
  simp only [c6,fg] at hn;simp only [wP];exact K0 r _ j t b hn.2 (by simpa using h) (by simpa using ht)
theorem JG: ∀(l:List (Nat×SB)),EK l=l.map (·.1)
 | []=>rfl
 |(t,b)::r=>by simp [EK,JG r]
theorem R5 (g:Nat->Nat): ∀(tk:List Nat) (s:List SB),s.length=tk.length->(GU g tk s).map (·.1)=tk/\ ∀(j t:Nat) (b:SB),tk[j]? =some t->s[j]? =some b->(GU g tk s)[j]? =some (t,aEm g b)
 | [],s,h=>⟨by simp [GU],fun j t b hj=>by simp at hj⟩
 |t::tk,[],h=>by simp at h
 |t::tk,b::s,h=>by
  obtain ⟨h1,h2⟩:=R5 g tk s (by simpa using h)
  refine ⟨by simp [GU,h1],fun j u c hj hc=>?_⟩
  cases j with
  |zero=>simp at hj hc;subst hj hc;rfl
  |succ j=>simp only [GU,dj];exact h2 j u c (by simpa using hj) (by simpa using hc)
theorem OU (g:Nat->Nat): ∀(tk:List Nat) (s:cV),tk.length<=s.length->(tJ g tk s).map (·.1)=tk/\ ∀(j t:Nat) (b:mK),tk[j]? =some t->s[j]? =some b->(tJ g tk s)[j]? =some (t,GK g b)
 | [],s,h=>⟨by simp [tJ],fun j t b hj=>by simp at hj⟩
 |t::tk,[],h=>by simp at h
 |t::tk,b::s,h=>by
  obtain ⟨h1,h2⟩:=OU g tk s (by simpa using h)
  refine ⟨by simp [tJ,h1],fun j u c hj hc=>?_⟩
  cases j with
  |zero=>simp at hj hc;subst hj hc;rfl
  |succ j=>simp only [tJ,dj];exact h2 j u c (by simpa using hj) (by simpa using hc)
theorem R6: ∀{l:List (Nat×mK)},(l.map (·.1)).Nodup->B1 l=true
 | [],_=>rfl
 |p::r,h=>by
  simp only [c6,fg] at h;simp only [B1,bo,dh,cq];refine ⟨fun q hq=>?_,R6 h.2⟩
  cases hb:ci q.1 p.1 with
  |false=>rfl
  |true=>exact absurd (gc.2 ⟨q,hq,bn hb⟩) h.1
theorem T4: ∀(s:List SB),KA [] s=s
 | []=>rfl
 |b::r=>by
  simp only [KA,T4 r];cases b<;>simp [dgB,dgL_nil]
theorem W0 (s:List SB) (r:gZ):r.stoOf s=KA (EK r.wr) (wO r.wr s)++r.news:=by
 unfold gZ.stoOf;split
 · rename_i h;rw [h];simp only [EK,wO,T4,pM]
 simp only [pM]
def aOL (g:Nat->Nat) (s s2:List SB):Prop:= ∀(u:Nat) (x:SB),s[u]? =some x->match x with
 | .arr r l=>s2[g u]? =some (.arr r l)
 | .dead=>s2[g u]? =some .dead
 | .box _=> ∃cs,s2[g u]? =some (.box cs)
 |_=>True
mutual
theorem aBA {g:Nat->Nat} {s s2:List SB} (hb:aOL g s s2): ∀{v:SV} {p:PV},R s v p->R s2 (WK g v) (renF g p)
 | .junk,_,_=>trivial
 | .undef,p,h| .nul,p,h| .nilf,p,h| .int _ _,p,h| .bool _,p,h| .str _,p,h| .sl _ _,p,h| .nil _ _,p,h| .bp _ _ _,p,h| .mp _,p,h=>by rw [show p=_ from h];rfl
 | .agg cs,p,h=>by obtain ⟨q,rfl,h⟩:=h;exact ⟨_,rfl,backL_R hb h⟩
 | .tup cs,p,h=>by obtain ⟨q,rfl,h⟩:=h;exact ⟨_,rfl,backL_R hb h⟩
 | .rptr cs o,p,h=>by obtain ⟨q,rfl,h⟩:=h;exact ⟨_,rfl,backL_R hb h⟩
 | .clo f a b,p,h=>by obtain ⟨pa,pb,rfl,h1,h2⟩:=h;exact ⟨_,_,rfl,backL_R hb h1,backL_R hb h2⟩
 | .own t ex,p,h=>by
  obtain ⟨e,n,rfl,hat⟩:=h;refine ⟨e,n,rfl,?_⟩;rcases hat with ⟨r,l,h1,h2,h3⟩|h1
  · exact .inl ⟨r,l,hb t _ h1,h2,h3⟩
  exact .inr (hb t _ h1)
 | .pre t a b c,p,h=>by
  obtain ⟨e,rfl,hat⟩:=h;refine ⟨e,rfl,?_⟩;rcases hat with ⟨r,l,h1,h2⟩|h1|⟨cs,h1,h2⟩
  · exact .inl ⟨r,l,hb t _ h1,h2⟩
  · exact .inr (.inl (hb t _ h1))
  obtain ⟨c2,h3⟩:=hb t _ h1
  exact .inr (.inr ⟨c2,h3,h2⟩)
 | .part t o a b c,p,h=>by
  obtain ⟨e,rfl,hat⟩:=h;refine ⟨e,rfl,?_⟩;rcases hat with ⟨r,l,h1,h2⟩|h1|⟨cs,h1,h2⟩
  · exact .inl ⟨r,l,hb t _ h1,h2⟩
  · exact .inr (.inl (hb t _ h1))
  obtain ⟨c2,h3⟩:=hb t _ h1
  exact .inr (.inr ⟨c2,h3,h2⟩)
 | .pa t r i a o,p,h=>by
  obtain ⟨rfl,hat⟩:=h;refine ⟨_,rfl,?_⟩;rcases hat with ⟨l,h1,h2⟩|h1
  · exact .inl ⟨r,l,hb t _ h1,by rw [h2];rfl⟩
  exact .inr (hb t _ h1)
 | .pb t i o,p,h=>by
  obtain ⟨e,rfl,hat⟩:=h;refine ⟨e,rfl,?_⟩;rcases hat with ⟨r,l,h1,h2⟩|h1
  · exact .inl ⟨r,l,hb t _ h1,h2⟩
  exact .inr (hb t _ h1)
theorem backL_R {g:Nat->Nat} {s s2:List SB} (hb:aOL g s s2): ∀{v:List SV} {p:List PV},RL s v p->RL s2 (backL g v) (renFL g p)
 | [],p,h=>by rw [show p=_ from h];rfl
 |x::xs,p,h=>by
  obtain ⟨a,as,rfl,h1,h2⟩:=h.cons_inv;exact RL.cons (aBA hb h1) (backL_R hb h2)
end
theorem OV: ∀{a b:cV},(∀(t:Nat) (x:mK),a[t]? =some x-> ∃y,b[t]? =some y/\x.solid=y.solid)->B0 a b=true
 | [],b,_=>by cases b<;>rfl
 |x::a,[],h=>by obtain ⟨y,hy,_⟩:=h 0 x rfl;simp at hy
 |x::a,y::b,h=>by
  obtain ⟨y',h1,h2⟩:=h 0 x rfl;simp at h1;subst h1
  have:=OV (a:=a) (b:=b) (fun t x hx=>by simpa using h (t+1) x (by simpa using hx))
  simp only [B0,this,ec,h2];cases y.solid<;>rfl
section
variable {F : qK} {R' ρ : Type} {w : R' -> ρ} {y : ρ} {s : List SB} {ps : cV} {z : List Nat}
theorem aBB {f:FuncId} {tk:List Nat} {vals vs:List SV} {s0:List SB} {k:XRS->iK R'} (hS:cW s ps) {pas:List PV} (hv:RL s vals pas) (htk:tk=tF (toksL (dQ ps fH) pas)) (hz:(tk.all fun t=>!has z t)=true)
 (h1:renVL tk vals=some vs) (h2:QX s tk tk=some s0):
 ∀{l:List eM},(∀c∈l,nJ F f c)->fpS f s.length tk vs s0 k l ρ w=some y-> ∃sr pr,(∃n,AJ (run F n) f pas ps z=some pr)/\iZ s ps sr pr/\k (.loc sr) ρ w=some y
 | [],_,h=>by cases h
 |c::l,hl,h=>by
  have next:fpS f s.length tk vs s0 k l ρ w=some y-> ∃sr pr,(∃n,AJ (run F n) f pas ps z=some pr)/\iZ s ps sr pr/\k (.loc sr) ρ w=some y:=
   fun h=>aBB hS hv htk hz h1 h2 (fun c hc=>hl c (eg _ hc)) h
  simp only [fpS] at h;cases hlk:(likeL c.ta vs&&OE c.tb s0) with
  |false=>rw [hlk] at h;exact next h
  |true=>
   rw [hlk] at h;simp only [cond_true] at h;cases hpo:wN c.ka (atsL vs++TV s0) with
   |none=>rw [hpo] at h;exact next h
   |some a=>
    rw [hpo] at h;obtain ⟨b,hb,h3⟩:=dA h;simp only [bo] at hlk;have hats:=yA hpo;have hva:c.va a=vs:=by unfold eM.va;rw [hats,put_atsL _ hlk.1]
    have hsa:c.sa a=s0:=by
     unfold eM.sa;rw [hats,put_atsL _ hlk.1]
     have:=JE [] hlk.2
     rw [cy] at this;rw [this]
    have hren:OS tk s s0:=by have:=OS.of (l:=[]) h2;rwa [cy] at this
    obtain ⟨pa',a1,a2⟩:=renVL_R hren hv h1;obtain ⟨p0,b1,b2,b3⟩:=KW hS hren h2;have hs0:cW s0 p0:=⟨b2,b3⟩;obtain ⟨hs0l,hs0g⟩:=EM h2;obtain ⟨n,v,sr,r1,r2,r3,r4,r5,r6⟩:=hl c (d6 ..) a b pa' p0 hb (by rw [hva,hsa];exact a2) (by rw [hsa];exact hs0)
    rw [hsa] at r2 r4 r5 r6;have hnd:tk.Nodup:=by rw [htk];exact zP
    have htl: ∀t∈tk,t<s.length:=fun t ht=>by
     obtain ⟨j,hj,he⟩:=ei ht;obtain ⟨x,c',d1,_,_⟩:=hs0g j t (by rw [bz hj,he])
     exact (bq.1 d1).1
    have hsbl:(c.sb b).length=tk.length:=by rw [r5,hs0l]
    have hsrl:tk.length<=sr.length:=by
     have:=r4.len
     rw [dd,hsbl] at this;rw [hs0l] at this;omega
    have htake: ∀j,j<tk.length->(sr.take s0.length)[j]? =sr[j]?:=fun j hj=>cd (by rw [hs0l];exact hj)
    have hfirm:B0 p0 sr=true:=OV (fun t x hx=>by
     have htl':t<s0.length:=by have:=(bq.1 hx).1;rw [b2] at this;exact this
     obtain ⟨x0,hx0⟩: ∃x0,s0[t]? =some x0:=⟨s0[t],bz htl'⟩;obtain ⟨q,q1,q2⟩:=b3 t x0 hx0;rw [hx] at q1;injection q1 with q1;subst q1;obtain ⟨y0,hy0⟩: ∃y0,(c.sb b)[t]? =some y0:=⟨(c.sb b)[t]'(by omega),bz (by omega)⟩
     obtain ⟨q',q3,q4⟩:=r4.at_ t y0 hy0;rw [htake t (by omega)] at q3
     refine ⟨q',q3,?_⟩;have hfm:=r6 t x0 y0 hx0 hy0;cases x0 with
     |arr r l=>cases y0 with
      |arr r' l'=>
       obtain ⟨rfl,hll⟩:=hfm;rw [show x=_ from q2,show q'=_ from q4];cases l<;>cases l'<;>simp_all [mK.solid]
      |_=>exact hfm.elim
     |box cs=>cases y0 with
      |box cs'=>obtain ⟨_,rfl,_⟩:=q2;obtain ⟨_,rfl,_⟩:=q4;rfl
      |_=>exact hfm.elim
     |set l=>cases y0 with
      |set l'=>rw [show x=_ from q2,show q'=_ from q4];rfl
      |_=>exact hfm.elim
     |tab p l=>cases y0 with
      |tab p' l'=>rw [show x=_ from q2,show q'=_ from q4];rfl
      |_=>exact hfm.elim
     |dead=>cases y0 with
      |dead=>rw [show x=_ from q2,show q'=_ from q4]
      |_=>exact hfm.elim)
    let g:=mT tk s.length
    have hg: ∀j t,tk[j]? =some t->g j=t:=fun j t hj=>by show mT tk s.length j=t;unfold mT;rw [hj]
    obtain ⟨w1,w2⟩:=R5 g tk (c.sb b) hsbl;obtain ⟨u1,u2⟩:=OU g tk sr hsrl
    let s2:=KA tk (wO (GU g tk (c.sb b)) s)
    have hin: ∀(j t:Nat) (x:SB),tk[j]? =some t->(c.sb b)[j]? =some x->s2[t]? =some (dgB tk (aEm g x)):=fun j t x hj hx=>by
     show (KA tk _)[t]? =_;rw [xF,CJ,K0 _ s j t _ (by rw [w1];exact hnd) (w2 j t x hj hx) (htl t (dv hj))]
     rfl
    have hout: ∀(t:Nat),t∉tk->s2[t]? =(s[t]?).map (dgB tk):=fun t ht=>by
     show (KA tk _)[t]? =_;rw [xF,CJ,CK _ s t (by rw [w1];exact ht)]
    have hmem: ∀t∈tk,∃j,tk[j]? =some t:=fun t ht=>by
     obtain ⟨j,hj,he⟩:=ei ht;exact ⟨j,by rw [bz hj,he]⟩
    have hfr:Fr tk s s2:=fun t x hx=>by
     by_cases ht:t∈tk
     · obtain ⟨j,hj⟩:=hmem t ht
       have hjl:j<tk.length:=(bq.1 hj).1;obtain ⟨x',c',d1,d2,d3⟩:=hs0g j t hj;rw [hx] at d1;injection d1 with d1;subst d1;obtain ⟨y0,hy0⟩: ∃y0,(c.sb b)[j]? =some y0:=⟨(c.sb b)[j]'(by omega),bz (by omega)⟩
       have hfm:=r6 j c' y0 d3 hy0;have hs2:=hin j t y0 hj hy0;cases x with
       |arr r l=>
        injection d2 with d2;subst d2;cases y0 with
        |arr r' l'=>
         obtain ⟨rfl,hll⟩:=hfm;refine .inl ⟨l',hs2,hll,fun hb=>?_⟩
         exfalso
         have:has tk t=true:=by unfold has;rw [gf];exact ⟨t,ht,by simp⟩
         rw [this] at hb;cases hb
        |_=>exact hfm.elim
       |dead=>
        injection d2 with d2;subst d2;cases y0 with
        |dead=>exact hs2
        |_=>exact hfm.elim
       |box cs=>
        simp only [Z7] at d2;split at d2
        · injection d2 with d2;subst d2
          cases y0 with
          |box c2=>exact .inl ⟨_,hs2⟩
          |_=>exact hfm.elim
        cases d2
       |_=>trivial
     have:=hout t ht
     rw [hx] at this;cases x with
     |arr r l=>exact .inl ⟨l,this,rfl,fun _=>rfl⟩
     |dead=>exact this
     |box c2=>exact .inl ⟨_,this⟩
     |_=>trivial
    have hback:aOL g (c.sb b) s2:=fun u x hx=>by
     have hul:u<tk.length:=by have:=(bq.1 hx).1;omega
     have hj:tk[u]? =some tk[u]:=bz hul
     have:=hin u _ x hj hx
     rw [hg u _ hj];cases x with
     |arr r l=>exact this
     |dead=>exact this
     |box cs=>exact ⟨_,this⟩
     |_=>trivial
    have hRes:(∃n,AJ (run F n) f pas ps z=some {v:=renF g v,wr:=tJ g tk sr}):=by
     refine ⟨n,?_⟩;unfold AJ aGd;rw [<- htk,if_pos hz,a1,b1];dsimp only;rw [r1];dsimp only;unfold NH;rw [if_pos hfirm,hS.len]
     have:jW tk.length v sr=true:=by rw [<- hs0l];exact r2
     rw [if_pos this]
    refine ⟨{v:=WK g (c.vb b),wr:=GU g tk (c.sb b)},_,hRes,?_,h3⟩;have hst:gZ.stoOf s {v:=WK g (c.vb b),wr:=GU g tk (c.sb b)}=s2:=by
     rw [W0,cy,JG,w1]
    exact {
     rd:=rfl
     fr:=rfl
     wr:=by rw [JG,w1];exact u1
     nw:=R6 (by rw [u1];exact hnd)
     nl:=rfl
     sto:=by
      rw [hst];show cW s2 (hZ (tJ g tk sr) ps);rw [L5];refine ⟨by rw [HU,CE,CJ,HU,hS.len],fun t x hx=>?_⟩
      by_cases ht:t∈tk
      · obtain ⟨j,hj⟩:=hmem t ht
        have hjl:j<tk.length:=(bq.1 hj).1;obtain ⟨y0,hy0⟩: ∃y0,(c.sb b)[j]? =some y0:=⟨(c.sb b)[j]'(by omega),bz (by omega)⟩
        have hs2:=hin j t y0 hj hy0;rw [hx] at hs2;injection hs2 with hs2;subst hs2;obtain ⟨q',q3,q4⟩:=r4.at_ j y0 hy0;rw [htake j hjl] at q3;refine ⟨GK g q',K0 _ ps j t _ (by rw [u1];exact hnd) (u2 j t q' hj q3) (by rw [hS.len];exact htl t ht),?_⟩
        cases y0 with
        |box cs=>
         obtain ⟨pc,rfl,hpc⟩:=q4;exact ⟨_,rfl,RL.fr (Fr.refl tk s2) (backL_R hback hpc)⟩
        |arr r l=>rw [show q'=_ from q4];rfl
        |set l=>rw [show q'=_ from q4];rfl
        |tab p l=>rw [show q'=_ from q4];rfl
        |dead=>rw [show q'=_ from q4];rfl
      rw [hout t ht,c9] at hx
      obtain ⟨x0,hx0,rfl⟩:=hx;obtain ⟨q,q1,q2⟩:=hS.at_ t x0 hx0;exact ⟨q,by rw [CK _ ps t (by rw [u1];exact ht)];exact q1,q2.fr hfr⟩
     v:=by rw [hst];exact aBA hback r3
     fra:=by rw [hst,JG,w1];exact hfr}
end
end Go.Vm
/- What the typed machine makes of a function is what the logical machine runs. -/
namespace Go.Vm
section
variable {F : qK}
theorem WO.shrAny {o:bX} {r:List bX} {st:St} {tr:List Tr} {Q:St->List Tr->Prop} {f:FuncId} {args:List PV}
 (hw:wanted o.guard st.env=some true) (hop: ∀n,DL F (run F n) st.env st.sto st.fz o.op=gY (run F n) f args st.sto st.fz)
 (h:HB F f args st.sto st.fz fun v s z=>(cf st.sto.length s.length&&st.fz.all (has z))=true/\WO F r {st with env:=kM o.dst v st.env,sto:=s,fz:=z} (aEl::tr) Q):
 WO F (o::r) st tr Q:=by
 obtain ⟨n,v,s,z,hr,hc,hk⟩:=h;refine WO.call (.shr v s z) hw ⟨n,?_⟩ rfl hk;rw [hop];simp only [gY,hr];rw [if_pos hc]
theorem WP.again {live:List (Nat×Option Nat)} {b:mL} {st s1:St} {Q:jM->St->Prop} (h0:MK live st=some s1) (h:WP F b s1 (MU (fun s=>WP F (.loop live b) s Q) Q)):WP F (.loop live b) st Q:=by
 obtain ⟨m,e,s,he,hq⟩:=h;cases e with
 |normal=>
  obtain ⟨k,e',s',he',hq'⟩:=hq;refine ⟨max m k+1,e',s',?_,hq'⟩;simp only [zH] at he' ⊢;rw [oF];simp only [step,h0];rw [vL (vM F (Nat.le_max_left m k)) _ _ _ he];dsimp only;split at he'
  · rename_i e1 s1 hr1
    rw [vM F (Nat.le_max_right m k) _ _ hr1];exact he'
  cases he'
 |exit i=>exact ⟨m+1,.exit i,s,by simp only [zH];rw [oF];simp only [step,h0,he],hq⟩
 |ret=>exact ⟨m+1,.ret,s,by simp only [zH];rw [oF];simp only [step,h0,he],hq⟩
def W3 (F : qK) (inl : Inl) : Prop :=
  ∀ (f : FuncId) (args : List SV) (s : List SB) (z : List Nat) (R' : Type) (k : SV -> List SB -> List Nat -> iK R') (ρ : Type) (w : R' -> ρ) (y : ρ) (pa : List PV) (ps : cV) (Q : R' -> PV -> cV -> List Nat -> Prop),
    RL s args pa -> cW s ps -> inl f args s z R' k ρ w = some y ->
    (∀ v s' z' p ps' ρ' (w' : R' -> ρ') y', R s' v p -> cW s' ps' -> k v s' z' ρ' w' = some y' -> ∃ r, y' = w' r /\ Q r p ps' z') ->
    ∃ r, y = w r /\ HB F f pa ps z (fun p ps' z' => Q r p ps' z')
def aBC:SB->SB->Prop
 | .arr r l,b=>(∃l',b= .arr r l'/\l'.length=l.length)\/b= .dead
 | .dead,b=>b= .dead
 | .box _,b=>(∃cs,b= .box cs)\/b= .dead
 |_,_=>True
theorem JH {R' ρ:Type} {w:R'->ρ} {y:ρ}: ∀{s s':List SB} {k:iK R'},uK s s' k ρ w=some y->k ρ w=some y/\s.length<=s'.length/\
 ∀(t:Nat) (b:SB),s[t]? =some b-> ∃b',s'[t]? =some b'/\aBC b b'
 | [],s',k,h=>⟨by cases s'<;>exact h,Nat.zero_le _,fun t b ht=>by simp at ht⟩
 |x::xs,[],k,h=>by cases h
 |x::xs,y'::ys,k,h=>by
  have step: ∀(_:uK xs ys k ρ w=some y) (_:aBC x y'),k ρ w=some y/\(x::xs).length<=(y'::ys).length/\ ∀(t:Nat) (b:SB),(x::xs)[t]? =some b-> ∃b',(y'::ys)[t]? =some b'/\aBC b b':=by
   intro h hx;obtain ⟨h1,h2,h3⟩:=JH h;refine ⟨h1,by simpa using h2,fun t b ht=>?_⟩
   cases t with
   |zero=>simp at ht;subst ht;exact ⟨y',rfl,hx⟩
   |succ t=>simpa using h3 t b (by simpa using ht)
  cases x with
  |arr r l=>
   cases y' with
   |arr q m=>
    obtain ⟨hr,h2⟩:=dF (a:=iO (m.length==l.length) (uK xs ys k) aP) h;obtain ⟨hl,h3⟩:=jY h2
    have:=BJ hr
    subst this;exact step h3 (.inl ⟨m,rfl,by simpa using hl⟩)
   |dead=>exact step h (.inr rfl)
   |_=>cases h
  |dead=>
   cases y' with
   |dead=>exact step h rfl
   |_=>cases h
  |box cs=>
   cases y' with
   |box c2=>exact step h (.inl ⟨c2,rfl⟩)
   |dead=>exact step h (.inr rfl)
   |_=>cases h
  |set l=>exact step h trivial
  |tab p l=>exact step h trivial
theorem aEM {n t:Nat} (h:t<n):has (A8 n) t=true:=by
 induction n with
 |zero=>omega
 |succ n ih=>
  unfold has at ih ⊢;rw [gf] at*;simp only [A8,gl,d7];rcases dw t n with h1|h1
  · obtain ⟨x,h2,h3⟩:=ih h1
    exact ⟨x,.inl h2,h3⟩
  have:t=n:=by omega
  subst this;exact ⟨t,.inr rfl,by simp⟩
theorem aAl {s s':List SB} (h: ∀(t:Nat) (b:SB),s[t]? =some b-> ∃b',s'[t]? =some b'/\aBC b b'):Fr (A8 s.length) s s':=fun t b hb=>by
 obtain ⟨b',h1,h2⟩:=h t b hb;have hlt:=(bq.1 hb).1;cases b with
 |arr r l=>
  rcases h2 with ⟨l',rfl,h3⟩|rfl
  · exact .inl ⟨l',h1,h3,fun hx=>by rw [aEM hlt] at hx;cases hx⟩
  exact .inr h1
 |dead=>rw [show b'= .dead from h2] at h1;exact h1
 |box cs=>
  rcases h2 with ⟨c2,rfl⟩|rfl
  · exact .inl ⟨c2,h1⟩
  exact .inr h1
 |_=>trivial
theorem aUO {s:List SB} {ps:cV} {sr:gZ} {pr:rT} (G:iZ s ps sr pr) (hS:cW s ps):(XR.loc pr).tr ps.length=sr.tr s.length:=by
 simp only [XR.tr,gZ.tr,G.rd,G.fr,hS.len,<- G.wr,G.nl,gq]
 have:pr.news.isEmpty=sr.news.isEmpty:=by
  have:=G.nl
  cases h1:pr.news<;>cases h2:sr.news<;>simp_all
 rw [this];rfl
theorem aOM {st:vS} {p:St} (h:GW st p) {sr:gZ} {pr:rT} (G:iZ st.sto p.sto sr pr) (d:Option Nat):GW (sr.next d st) ((XR.loc pr).next d p):=by
 have hput: ∀{s:List SB} {e:SE} {pe:zE} {v:SV} {q:PV},eK s e pe->R s v q->eK s (TX d v e) (kM d q pe):=by
  intro s e pe v q he hv;cases d with
  |none=>exact he
  |some t=>exact ⟨q,pe,rfl,hv,he⟩
 have hs:=W0 st.sto sr;unfold gZ.next
 split
 · rename_i hw
   rw [hw] at hs;simp only [EK,wO,T4] at hs;have hsto:=G.sto;have hv:=G.v;have hfr:=G.fra;rw [hs] at hsto hv hfr;rw [hw] at hfr;exact ⟨by simp only [pM];exact hput (eK.ext hfr h.env) hv,by simp only [pM];exact hsto,by simp only [XR.next,G.fr,h.fz],h.kn⟩
 have hsto:=G.sto
 have hv:=G.v;have hfr:=G.fra;rw [hs] at hsto hv hfr;exact ⟨by simp only [pM];exact hput (eK.fr hfr h.env) hv,by simp only [pM];exact hsto,by simp only [XR.next,G.fr,h.fz],h.kn⟩
theorem aUP {s:List SB} {ps:cV} {sr:gZ} {pr:rT} (G:iZ s ps sr pr) {z:List Nat} (h:sr.ok z=true):(XR.loc pr).ok z=true:=by
 simp only [XR.ok,G.nw,ec];unfold gZ.ok at h;rw [<- G.wr,gq] at h;exact h
section
variable {cx : Ctx} {inl : Inl} {R' : Type}
def aXd (_F:qK) (k:vS->List Tr->iK R') (Q:R'->St->List Tr->Prop):Prop:=
 ∀st p tr ρ (w:R'->ρ) y,GW st p->k st tr ρ w=some y-> ∃r,y=w r/\Q r p tr
theorem CL {o:bX} {l:List bX} {st:vS} {p:St} {tr:List Tr} {k:vS->List Tr->iK R'} {ρ:Type} {w:R'->ρ} {y:ρ} {Q:R'->St->List Tr->Prop}
 (hl: ∀st p tr ρ (w:R'->ρ) y,GW st p->k st tr ρ w=some y-> ∃r,y=w r/\WO F l p tr (Q r)) (h:GW st p) {sr:gZ} {pr:rT} (hw:wanted o.guard p.env=some true)
 (hx: ∃n,DL F (run F n) p.env p.sto p.fz o.op=some (.loc pr)) (G:iZ st.sto p.sto sr pr) (hg:goS o.dst st tr k (.loc sr) ρ w=some y): ∃r,y=w r/\WO F (o::l) p tr (Q r):=by
 unfold goS at hg;dsimp only at hg;obtain ⟨hok,hg⟩:=dF hg;rw [TR] at hg;have hR:=aOM h G o.dst;obtain ⟨r,hr,hwo⟩:=hl _ _ _ _ _ _ hR hg;refine ⟨r,hr,WO.call (.loc pr) hw hx (by rw [h.fz];exact aUP G hok) ?_⟩
 rw [aUO G h.sto];exact hwo
theorem W4 (hcx:jZ F cx) (hinl:W3 F inl) {o:bX} {l:List bX} {st:vS} {p:St} {tr:List Tr} {k:vS->List Tr->iK R'} {ρ:Type} {w:R'->ρ} {y:ρ} {Q:R'->St->List Tr->Prop}
 (hl: ∀st p tr ρ (w:R'->ρ) y,GW st p->k st tr ρ w=some y-> ∃r,y=w r/\WO F l p tr (Q r)) (h:GW st p) (hw:wanted o.guard p.env=some true)
 (hg:RU cx inl st.env st.sto st.fz o.op (goS o.dst st tr k) ρ w=some y): ∃r,y=w r/\WO F (o::l) p tr (Q r):=by
 have hS:=h.sto;have hE:=h.env;have shr: ∀(f:FuncId) (vals:List SV) (pas:List PV),RL st.sto vals pas->(∀n,DL F (run F n) p.env p.sto p.fz o.op=gY (run F n) f pas p.sto p.fz)->
  inl f vals st.sto st.fz R' (fun v s' z'=>goS o.dst st tr k (.shr v s' z')) ρ w=some y-> ∃r,y=w r/\WO F (o::l) p tr (Q r):=by
  intro f vals pas hv hop hi;obtain ⟨r,hr,hd⟩:=hinl f vals st.sto st.fz R' _ ρ w y pas p.sto (fun r v s z=>(cf p.sto.length s.length&&p.fz.all (has z))=true/\WO F l {p with env:=kM o.dst v p.env,sto:=s,fz:=z} (aEl::tr) (Q r)) hv hS hi
   (fun v s' z' pv ps' ρ' w' y' hR hS' hk=>by
    unfold goS at hk;dsimp only at hk;rw [TR] at hk;obtain ⟨hk,hlen,hsame⟩:=JH hk;obtain ⟨hz,hk⟩:=dF hk;have hfr:=aAl hsame;have hput:eK s' (TX o.dst v (dgE (A8 st.sto.length) st.env)) (kM o.dst pv p.env):=by
     cases o.dst with
     |none=>exact eK.fr hfr hE
     |some t=>exact ⟨pv,p.env,rfl,hR,eK.fr hfr hE⟩
    have hR':GW {env:=TX o.dst v (dgE (A8 st.sto.length) st.env),sto:=s',fz:=z',kn:=st.kn} {p with env:=kM o.dst pv p.env,sto:=ps',fz:=z'}:=⟨hput,hS',rfl,h.kn⟩;obtain ⟨r,hr,hwo⟩:=hl _ _ _ _ _ _ hR' hk;refine ⟨r,hr,?_,hwo⟩;rw [h.fz,hz,ec,hS.len,hS'.len];simpa using hlen)
  refine ⟨r,hr,WO.shrAny hw hop ?_⟩;rw [h.fz];rw [h.fz] at hd;exact hd
 have loc: ∀{k':gZ->iK R'},pL st.env st.sto st.fz o.op k' ρ w=some y->KQ o.op=false->(∀sr,k' sr=goS o.dst st tr k (.loc sr))-> ∃r,y=w r/\WO F (o::l) p tr (Q r):=by
  intro k' hv hc hk;obtain ⟨sr,pr,h1,G,h2⟩:=aGG hE hS (pe:=p.env) hv;rw [hk] at h2;exact CL hl h hw ⟨0,by rw [TP hc,h.fz,h1];rfl⟩ G h2
 generalize hop:o.op=op at hg;cases op with
 |call m f args=>
  have hargs:=FV hE args;simp only [RU] at hg;cases m with
  |pur=>
   dsimp only at hg;cases hx:exVL st.sto (nI st.sto fH) (lV st.env args) with
   |none=>rw [hx] at hg;cases hg
   |some vs=>
    rw [hx] at hg;obtain ⟨q,h1,h2⟩:=exVL_R hS (MY hS fH) hargs hx;obtain ⟨sr,pr,⟨n,h3⟩,G,h4⟩:=EN (f:=f) (z:=st.fz) hS h1 h2 (tkExL hS (OP hS fH) hargs hx) (fun c hc=>hcx.con f c hc) hg
    exact CL hl h hw ⟨n,by rw [hop,h.fz];simp only [DL,h3];rfl⟩ G h4
  |own=>
   dsimp only at hg;cases hx:exVL st.sto (nI st.sto fH) (lV st.env args) with
   |none=>rw [hx] at hg;cases hg
   |some vs=>
    rw [hx] at hg;obtain ⟨q,h1,h2⟩:=exVL_R hS (MY hS fH) hargs hx;obtain ⟨sr,pr,⟨n,h3⟩,G,h4⟩:=EN (f:=f) (z:=st.fz) hS h1 h2 (tkExL hS (OP hS fH) hargs hx) (fun c hc=>hcx.con f c hc) hg
    exact CL hl h hw ⟨n,by rw [hop,h.fz];simp only [DL,h3];rfl⟩ G h4
  |shr=>exact shr f _ _ hargs (fun n=>by rw [hop];rfl) hg
  |fp=>
   dsimp only at hg;cases hx:Z5 st.sto (nI st.sto fH) (lV st.env args) with
   |false=>rw [hx] at hg;cases hg
   |true=>
    rw [hx] at hg;dsimp only at hg;obtain ⟨hz,hg⟩:=dF hg;cases h1:renVL (tF (tkVL (D1 st.sto fH) (lV st.env args))) (lV st.env args) with
    |none=>rw [h1] at hg;cases hg
    |some vs=>
     cases h2:QX st.sto (tF (tkVL (D1 st.sto fH) (lV st.env args))) (tF (tkVL (D1 st.sto fH) (lV st.env args))) with
     |none=>rw [h1,h2] at hg;cases hg
     |some s0=>
      rw [h1,h2] at hg;obtain ⟨sr,pr,⟨n,h3⟩,G,h4⟩:=aBB (f:=f) (z:=st.fz) hS hargs (by rw [aEE hS (OP hS fH) hargs hx]) hz h1 h2 (fun c hc=>hcx.fpc f c hc) hg
      exact CL hl h hw ⟨n,by rw [hop,h.fz];simp only [DL,h3];rfl⟩ G h4
 |callv x args=>
  have hargs:=FV hE args;simp only [RU] at hg;have hx:=eF hE x;generalize bZ st.env x=v at hg hx;cases v with
  |clo f a b=>
   dsimp only at hg;obtain ⟨pa,pb,hx,ha,hb⟩:=hx;have hany: ∀{vs:List SV} {q:List PV},RL st.sto vs q->(anyPtr vs=true->q.any NG=true):=by
    intro vs
    induction vs with
    |nil=>intro q _ h;cases h
    |cons v vs ih=>
     intro q hq hp;obtain ⟨a,as,rfl,h1,h2⟩:=hq.cons_inv;simp only [anyPtr,gm] at hp;simp only [gn,gm];rcases hp with hp|hp
     · left
       cases v with
       |own _ _=>obtain ⟨_,_,rfl,_⟩:=h1;rfl
       |pre _ _ _ _=>obtain ⟨_,rfl,_⟩:=h1;rfl
       |part _ _ _ _ _=>obtain ⟨_,rfl,_⟩:=h1;rfl
       |pa _ _ _ _ _=>obtain ⟨rfl,_⟩:=h1;rfl
       |pb _ _ _=>obtain ⟨_,rfl,_⟩:=h1;rfl
       |bp _ _ _=>rw [show a=_ from h1];rfl
       |mp _=>rw [show a=_ from h1];rfl
       |_=>cases hp
     right;exact ih h2 hp
   cases hp:anyPtr (lV st.env args++b) with
   |true=>
    rw [hp] at hg
    have:=hany (hargs.append hb) hp
    exact shr f _ _ ((ha.append hargs).append hb) (fun n=>by rw [hop];simp only [DL,hx,this,if_true]) hg
   |false=>
    rw [hp] at hg;simp only [cond_false] at hg;cases hxx:exVL st.sto (nI st.sto fH) (a++lV st.env args++b) with
    |none=>rw [hxx] at hg;cases hg
    |some vs=>
     rw [hxx] at hg;have hno: ∀{vs u:List SV} {q:List PV},RL st.sto vs q->anyPtr vs=false->exVL st.sto (nI st.sto fH) vs=some u->q.any NG=false:=by
      intro vs
      induction vs with
      |nil=>intro u q hq _ _;rw [show q=[] from hq];rfl
      |cons v vs ih=>
       intro u q hq hp hu;obtain ⟨a,as,rfl,h1,h2⟩:=hq.cons_inv;simp only [anyPtr,Bool.or_eq_false_iff] at hp;simp only [exVL] at hu;split at hu
       · rename_i y1 y2 e1 e2
         simp only [gn,ih h2 hp.2 e2,Bool.or_false];cases v with
         |agg _|tup _|rptr _ _=>obtain ⟨_,rfl,_⟩:=h1;rfl
         |clo _ _ _=>obtain ⟨_,_,rfl,_⟩:=h1;rfl
         |int _ _|bool _|str _|nilf|sl _ _|nil _ _|undef|nul=>rw [show a=_ from h1];rfl
         |junk=>cases e1
         |own _ _|pre _ _ _ _|part _ _ _ _ _|pa _ _ _ _ _|pb _ _ _|bp _ _ _|mp _=>cases hp.1
       cases hu
     have hsplit: ∃u2,exVL st.sto (nI st.sto fH) (lV st.env args++b)=some u2:=by
      have: ∀(l:List SV) {m u:List SV},exVL st.sto (nI st.sto fH) (l++m)=some u-> ∃u2,exVL st.sto (nI st.sto fH) m=some u2:=by
       intro l
       induction l with
       |nil=>intro m u h;exact ⟨u,h⟩
       |cons x l ih=>
        intro m u h;simp only [fb,exVL] at h;split at h
        · rename_i e1 e2;exact ih e2
        cases h
      rw [cw] at hxx;exact this a hxx
     obtain ⟨u2,hu2⟩:=hsplit;have hno':=hno (hargs.append hb) hp hu2;have hall:=(ha.append hargs).append hb;obtain ⟨q,h1,h2⟩:=exVL_R hS (MY hS fH) hall hxx;obtain ⟨sr,pr,⟨n,h3⟩,G,h4⟩:=EN (f:=f) (z:=st.fz) hS h1 h2 (tkExL hS (OP hS fH) hall hxx) (fun c hc=>hcx.con f c hc) hg
     exact CL hl h hw ⟨n,by rw [hop,h.fz];simp only [DL,hx,hno',cj,if_false,h3];rfl⟩ G h4
  |_=>cases hg
 |_=>exact loc (k':=fun r=>goS o.dst st tr k (.loc r)) (by rw [hop];exact hg) (by rw [hop];rfl) (fun _=>rfl)
theorem CN (hcx:jZ F cx) (hinl:W3 F inl): ∀(ops:List bX) {st:vS} {p:St} {tr:List Tr} {k:vS->List Tr->iK R'} {ρ:Type} {w:R'->ρ} {y:ρ} {Q:R'->St->List Tr->Prop},
 aXd F k Q->GW st p->tM cx inl ops st tr k ρ w=some y-> ∃r,y=w r/\WO F ops p tr (Q r)
 | [],st,p,tr,k,ρ,w,y,Q,hk,h,he=>by
  obtain ⟨r,hr,hq⟩:=hk st p tr ρ w y h he;exact ⟨r,hr,WO.nil hq⟩
 |o::l,st,p,tr,k,ρ,w,y,Q,hk,h,he=>by
  have hl: ∀st p tr ρ (w:R'->ρ) y,GW st p->tM cx inl l st tr k ρ w=some y-> ∃r,y=w r/\WO F l p tr (Q r):=fun st p tr ρ w y h he=>CN hcx hinl l hk h he
  have setR: ∀{st:vS} {c:Nat} {v:SV},GW st p->R st.sto v (lk c p.env)->GW {st with env:=setS c v st.env} p:=fun h hv=>⟨h.env.setS hv,h.sto,h.fz,h.kn⟩
  have run': ∀{st:vS},GW st p->wanted o.guard p.env=some true->(match o.op with
   | .pick (.t c) a b=>match QT c st.env with
    | .bool x=>iO x (goS o.dst {st with env:=setS c (.bool true) st.env} tr (tM cx inl l · · k) (.loc {v:=bZ st.env a}))
     (goS o.dst {st with env:=setS c (.bool false) st.env} tr (tM cx inl l · · k) (.loc {v:=bZ st.env b}))
    |_=>aP
   |op=>RU cx inl st.env st.sto st.fz op (goS o.dst st tr (tM cx inl l · · k))) ρ w=some y-> ∃r,y=w r/\WO F (o::l) p tr (Q r):=by
   intro st h hw he;have plain:RU cx inl st.env st.sto st.fz o.op (goS o.dst st tr (tM cx inl l · · k)) ρ w=some y-> ∃r,y=w r/\WO F (o::l) p tr (Q r):=fun he=>W4 hcx hinl hl h hw he
   generalize hop:o.op=op at he;cases op with
   |pick c a b=>
    cases c with
    |c v=>exact plain (by rw [hop];exact he)
    |t c=>
     dsimp only at he;generalize hv:QT c st.env=v at he;cases v with
     |bool x=>
      have hx:lk c p.env= .bool x:=by have:=h.env.lk c;rw [hv] at this;exact this
      rcases fX he with ⟨rfl,he⟩|⟨rfl,he⟩
      · have hR:=setR h (c:=c) (v:= .bool true) hx
        exact CL (o:=o) hl hR hw ⟨0,by rw [hop];simp only [DL,bM,gH.ev,hx];rfl⟩ (iZ.val hR.sto (eF h.env a)) he
      have hR:=setR h (c:=c) (v:= .bool false) hx
      exact CL (o:=o) hl hR hw ⟨0,by rw [hop];simp only [DL,bM,gH.ev,hx];rfl⟩ (iZ.val hR.sto (eF h.env b)) he
     |_=>cases he
   |_=>exact plain (by rw [hop];exact he)
  have skip': ∀{st:vS},GW st p->wanted o.guard p.env=some false->tM cx inl l {st with env:=TX o.dst .nul st.env} (Tr.idle::tr) k ρ w=some y-> ∃r,y=w r/\WO F (o::l) p tr (Q r):=by
   intro st h hw he;have hR:GW {st with env:=TX o.dst .nul st.env} {p with env:=kM o.dst .nul p.env}:=by
    refine ⟨?_,h.sto,h.fz,h.kn⟩;cases o.dst with
    |none=>exact h.env
    |some t=>exact ⟨.nul,p.env,rfl,rfl,h.env⟩
   obtain ⟨r,hr,hwo⟩:=hl _ _ _ _ _ _ hR he;exact ⟨r,hr,WO.skip hw hwo⟩
  simp only [tM] at he;cases hgd:o.guard with
  |none=>
   rw [hgd] at he;exact run' h (by rw [hgd];rfl) he
  |some g=>
   obtain ⟨c,want⟩:=g;rw [hgd] at he;dsimp only at he;generalize hv:QT c st.env=v at he;cases v with
   |bool x=>
    have hx:lk c p.env= .bool x:=by have:=h.env.lk c;rw [hv] at this;exact this
    have hwx: ∀b,x=b->wanted o.guard p.env=some (b==want):=fun b hb=>by rw [hgd];simp only [wanted,hx,hb]
    cases want with
    |true=>
     simp only [cond_true] at he;rcases fX he with ⟨rfl,he⟩|⟨rfl,he⟩
     · exact run' (setR h (v:= .bool true) hx) (hwx true rfl) he
     exact skip' (setR h (v:= .bool false) hx) (hwx false rfl) he
    |false=>
     simp only [cond_false] at he;rcases fX he with ⟨rfl,he⟩|⟨rfl,he⟩
     · exact skip' (setR h (v:= .bool true) hx) (hwx true rfl) he
     exact run' (setR h (v:= .bool false) hx) (hwx false rfl) he
   |nul=>
    have hx:lk c p.env= .nul:=by have:=h.env.lk c;rw [hv] at this;exact this
    exact skip' h (by rw [hgd];simp only [wanted,hx]) he
   |_=>cases he
theorem OW {e:SE}: ∀{keep:List Nat} {k:SE->iK R'} {ρ:Type} {w:R'->ρ} {y:ρ},WL e keep k ρ w=some y->k (keep.map fun s=>(s,QT s e)) ρ w=some y
 | [],k,ρ,w,y,h=>h
 |s::r,k,ρ,w,y,h=>by
  simp only [WL] at h;rw [TR] at h
  have:=OW h
  exact this
theorem aEN {s:List SB} {e:SE} {pe:zE} (h:eK s e pe): ∀(keep:List Nat),eK s (keep.map fun t=>(t,QT t e)) (keep.map fun t=>(t,lk t pe))
 | []=>rfl
 |t::r=>⟨_,_,rfl,h.lk t,aEN h r⟩
end
mutual
theorem R7: ∀(v:SV) (q:List D2),zI v (KT v++q)=(v,q)
 | .junk,q| .undef,q| .nul,q| .nilf,q| .int _ _,q| .bool _,q| .str _,q| .sl _ _,q| .nil _ _,q| .own _ _,q| .pre _ _ _ _,q| .part _ _ _ _ _,q| .pa _ _ _ _ _,q| .pb _ _ _,q| .bp _ _ _,q| .mp _,q=>rfl
 | .agg cs,q=>by simp only [zI,KT,put_selfL]
 | .tup cs,q=>by simp only [zI,KT,put_selfL]
 | .rptr cs o,q=>by simp only [zI,KT,put_selfL]
 | .clo f a b,q=>by simp only [zI,KT,cw,put_selfL]
theorem put_selfL: ∀(v:List SV) (q:List D2),putL v (atsL v++q)=(v,q)
 | [],q=>rfl
 |x::xs,q=>by simp only [putL,atsL,cw,R7,put_selfL]
end
theorem R8: ∀(v:List SB) (q:List D2),HM v (TV v++q)=(v,q)
 | [],q=>rfl
 |x::xs,q=>by
  have: ∀q,Z9 x (aEj x++q)=(x,q):=by
   intro q;cases x<;>first|rfl|simp only [Z9,aEj,put_selfL]
  simp only [HM,TV,cw,this,R8]
theorem R9: ∀(v:SE) (q:List D2),WJ v (aC1 v++q)=(v,q)
 | [],q=>rfl
 |(t,x)::xs,q=>by simp only [WJ,aC1,cw,R7,R9]
theorem aAm (st:vS):GT st (DU st)=st:=by
 have hs:=R8 st.sto [];rw [cy] at hs;simp only [GT,DU,R9,hs]
theorem aDb {cx:Ctx} {inl:Inl} (hcx:jZ F cx) (hinl:W3 F inl): ∀(c:mL) (R':Type) {st:vS} {p:St} {k:jM->vS->iK R'} {ρ:Type} {w:R'->ρ} {y:ρ} {Q:R'->jM->St->Prop},
 (∀e st p ρ (w:R'->ρ) y,GW st p->k e st ρ w=some y-> ∃r,y=w r/\Q r e p)->GW st p->I3 cx inl c R' st k ρ w=some y-> ∃r,y=w r/\WP F c p (Q r):=by
 intro c
 induction c with
 |skip=>
  intro R' st p k ρ w y Q hk h he;obtain ⟨r,hr,hq⟩:=hk _ _ _ _ _ _ h he;exact ⟨r,hr,WP.skip hq⟩
 |ret=>
  intro R' st p k ρ w y Q hk h he;obtain ⟨r,hr,hq⟩:=hk _ _ _ _ _ _ h he;exact ⟨r,hr,WP.ret hq⟩
 |exit id=>
  intro R' st p k ρ w y Q hk h he;obtain ⟨r,hr,hq⟩:=hk _ _ _ _ _ _ h he;exact ⟨r,hr,WP.exit hq⟩
 |region d ops keep=>
  intro R' st p k ρ w y Q hk h he;simp only [I3] at he;have fin: ∀st p ρ (w:R'->ρ) y,GW st p->WL st.env keep (fun e=>k .normal {st with env:=e}) ρ w=some y-> ∃r,y=w r/\Q r .normal (vN keep p):=by
   intro st p ρ w y h he
   have:=OW he
   have hR:GW {st with env:=keep.map fun t=>(t,QT t st.env)} (vN keep p):=⟨aEN h.env keep,h.sto,h.fz,h.kn⟩
   exact hk _ _ _ _ _ _ hR this
  cases d with
  |none=>
   obtain ⟨r,hr,hwo⟩:=CN hcx hinl ops (Q:=fun r s _=>Q r .normal (vN keep s)) (fun st p tr ρ w y h he=>fin st p ρ w y h he) h he
   exact ⟨r,hr,WP.region hwo⟩
  |some bf=>
   obtain ⟨r,hr,hwo⟩:=CN hcx hinl ops (Q:=fun r s t=>xB 0 (t.reverse.zip bf)=true/\Q r .normal (vN keep s)) (fun st p tr ρ w y h he=>by
    dsimp only at he;cases ho:xB 0 (tr.reverse.zip bf) with
    |false=>rw [ho] at he;cases he
    |true=>
     rw [ho] at he;obtain ⟨r,hr,hq⟩:=fin st p ρ w y h he;exact ⟨r,hr,ho,hq⟩) h he
   exact ⟨r,hr,WP.regionD hwo⟩
 |seq a b iha ihb=>
  intro R' st p k ρ w y Q hk h he;simp only [I3] at he;obtain ⟨r,hr,hwp⟩:=iha R' (Q:=fun r=>MU (fun s=>WP F b s (Q r)) (Q r)) (fun e st p ρ w y h he=>by
   cases e with
   |normal=>exact ihb R' hk h he
   |exit i=>exact hk _ _ _ _ _ _ h he
   |ret=>exact hk _ _ _ _ _ _ h he) h he
  exact ⟨r,hr,WP.seq hwp⟩
 |cond c a b iha ihb=>
  intro R' st p k ρ w y Q hk h he;simp only [I3] at he;have hx:=eF h.env c;generalize bZ st.env c=v at he hx;cases v with
  |bool x=>
   rcases fX he with ⟨rfl,he⟩|⟨rfl,he⟩
   · obtain ⟨r,hr,hwp⟩:=iha R' hk h he
     exact ⟨r,hr,WP.condT hx hwp⟩
   obtain ⟨r,hr,hwp⟩:=ihb R' hk h he
   exact ⟨r,hr,WP.condF hx hwp⟩
  |_=>cases he
 |block id b ih=>
  intro R' st p k ρ w y Q hk h he;simp only [I3] at he;obtain ⟨r,hr,hwp⟩:=ih R' (Q:=fun r=>inBlock id (Q r)) (fun e st p ρ w y h he=>by
   cases e with
   |normal=>exact hk _ _ _ _ _ _ h he
   |ret=>exact hk _ _ _ _ _ _ h he
   |exit j=>
    dsimp only at he;cases hj:ci j id with
    |true=>
     rw [hj] at he;obtain ⟨r,hr,hq⟩:=hk _ _ _ _ _ _ h he;have hji:=bn hj;exact ⟨r,hr,by simpa [inBlock,hji] using hq⟩
    |false=>
     rw [hj] at he;obtain ⟨r,hr,hq⟩:=hk _ _ _ _ _ _ h he
     have:j≠id:=by intro e;subst e;simp at hj
     exact ⟨r,hr,by simpa [inBlock,this] using hq⟩) h he
  exact ⟨r,hr,WP.block hwp⟩
 |loop live b ih=>
  intro R' st p k ρ w y Q hk h he;simp only [I3] at he;cases hn:OD cx.rk live st with
  |none=>rw [hn] at he;cases he
  |some st1=>
   rw [hn] at he;dsimp only at he;have ksK_eq: ∀{β:Type 1} (l:List AK) (c:List AK->β),ksK l c=c l:=by
    intro β l;have rK_eq: ∀{β:Type 1} (l:List PT) (c:List PT->β),rK l c=c l:=by
     intro β l
     induction l with
     |nil=>intro c;rfl
     |cons p r ih=>intro c;cases p<;>simp only [rK,ptK,ih]
    induction l with
    |nil=>intro c;rfl
    |cons a r ih=>intro c;cases a<;>simp only [ksK,rK_eq,ih]
   rw [ksK_eq] at he;generalize aOA (DU st1)=ks at he;cases hp:wN ks (DU st1) with
   |none=>rw [hp] at he;cases he
   |some y0=>
    rw [hp] at he;dsimp only at he;obtain ⟨p1,hp1,hR1⟩:=aBy h hn;have hlike: ∀(st3:vS) (y':mO ks),OF st1 st3=true->wN ks (DU st3)=some y'->GT st1 (pO ks y')=st3:=fun st3 y' h1 h2=>by
     rw [yA h2,aDa h1]
    obtain ⟨n,hit⟩:=aEc he;have h0:GW (GT st1 (pO ks y0)) p1:=by rw [yA hp,aAm];exact hR1
    clear he hp hn h hR1
    induction n generalizing y0 p p1 with
    |zero=>cases hit
    |succ n ihn=>
     have body: ∀zr,I3 cx inl b (bQ (mO ks) ρ) (GT st1 (pO ks y0)) (fun e st2=>match e with
      | .normal=>match OD cx.rk live st2 with
       |some st3=>bif OF st1 st3 then (match wN ks (DU st3) with
        |some y'=>RQ (.next y')
        |none=>aP) else aP
       |none=>aP
      |e=>fun ρ' w'=>k e st2 ρ' fun r=>w' (.done (w r))) (bQ (mO ks) ρ) (fun z=>z)=some zr->
      WP F b p1 (fun e s=>match zr with
       | .next y'=>e= .normal/\ ∃p3,MK live s=some p3/\GW (GT st1 (pO ks y')) p3
       | .done x=>e≠ .normal/\ ∃r,x=w r/\Q r e s):=by
      intro zr hbody;obtain ⟨zr',hzr,hwp⟩:=ih (bQ (mO ks) ρ) (Q:=fun zr e s=>match zr with
       | .next y'=>e= .normal/\ ∃p3,MK live s=some p3/\GW (GT st1 (pO ks y')) p3
       | .done x=>e≠ .normal/\ ∃r,x=w r/\Q r e s) (fun e st2 p2 ρ' w' y2 h2 he2=>by
       cases e with
       |normal=>
        dsimp only at he2;cases hn3:OD cx.rk live st2 with
        |none=>rw [hn3] at he2;cases he2
        |some st3=>
         rw [hn3] at he2;obtain ⟨hlk,he2⟩:=dF he2;cases hp3:wN ks (DU st3) with
         |none=>rw [hp3] at he2;cases he2
         |some y3=>
          rw [hp3] at he2;injection he2 with he2;obtain ⟨p3,hp3',hR3⟩:=aBy h2 hn3;exact ⟨.next y3,he2.symm,rfl,p3,hp3',by rw [hlike st3 y3 hlk hp3];exact hR3⟩
       |exit i=>
        obtain ⟨r,hr,hq⟩:=hk _ _ _ _ _ _ h2 he2;exact ⟨.done (w r),hr,(by intro e;cases e),r,rfl,hq⟩
       |ret=>
        obtain ⟨r,hr,hq⟩:=hk _ _ _ _ _ _ h2 he2;exact ⟨.done (w r),hr,(by intro e;cases e),r,rfl,hq⟩) h0 hbody
      subst hzr;exact hwp
     simp only [vQ] at hit;split at hit
     · rename_i y' hbody
       obtain ⟨m,e,s,hrun,rfl,p3,hp3,hR3⟩:=body _ hbody;obtain ⟨r,hr,hwp⟩:=ihn y' p3 hp3 hit hR3;exact ⟨r,hr,WP.again hp1 ⟨m,.normal,s,hrun,hwp⟩⟩
     · rename_i x hbody
       injection hit with hit;obtain ⟨m,e,s,hrun,hne,r,hr,hq⟩:=body _ hbody;refine ⟨r,by rw [<- hit];exact hr,WP.again hp1 ⟨m,e,s,hrun,?_⟩⟩
       cases e with
       |normal=>exact absurd rfl hne
       |exit i=>exact hq
       |ret=>exact hq
     cases hit
end
end Go.Vm
/- Contracts from the typed machine. -/
namespace Go.Vm
section
variable {F : qK} {cx : Ctx} {inl : Inl}
theorem W5 {s:List SB}: ∀{l:List SV} {q:List PV} (i:Nat),RL s l q->eK s (aAd i l) (A9 i q)
 | [],q,i,h=>by rw [show q=[] from h];rfl
 |x::xs,q,i,h=>by
  obtain ⟨a,as,rfl,h1,h2⟩:=h.cons_inv;exact ⟨a,A9 (i+1) as,rfl,h1,W5 (i+1) h2⟩
theorem aEO {st:vS} {p:St} (h:GW st p) {r:RV} {v:SV} (hr:aAc st r=some v): ∃q,NI p r=some q/\R st.sto v q:=by
 cases r with
 |tmp t=>injection hr with hr;subst hr;exact ⟨_,rfl,h.env.lk t⟩
 |cell t agg=>
  simp only [aAc] at hr;have hlk:=h.env.lk t;split at hr
  · rename_i u n off hv
    rw [hv] at hlk;rw [cM] at hr;split at hr
    · rename_i cs hst
      obtain ⟨q,h1,h2⟩:=h.sto.box hst;obtain ⟨x,h3,h4⟩:=zR h2 hr;refine ⟨x,?_,h4⟩;simp only [NI,show lk t p.env=_ from hlk,tD,h1,c8,if_true,h3];rfl
    cases hr
  · rename_i cs off hv
    rw [hv] at hlk;obtain ⟨q,h1,h2⟩:=hlk;obtain ⟨x,h3,h4⟩:=zR h2 hr;refine ⟨x,?_,h4⟩;simp only [NI,h1,tD,h3];rfl
  cases hr
theorem SA {st:vS} {p:St} (h:GW st p): ∀{l:List RV} {vs:List SV},FU st l=some vs-> ∃q,rV p l=some q/\RL st.sto vs q
 | [],vs,hr=>by injection hr with hr;subst hr;exact ⟨[],rfl,rfl⟩
 |r::l,vs,hr=>by
  simp only [FU] at hr;split at hr
  · rename_i v vs' h1 h2
    injection hr with hr;subst hr;obtain ⟨q,h3,h4⟩:=aEO h h1;obtain ⟨qs,h5,h6⟩:=SA h h2;exact ⟨q::qs,by simp only [rV,h3,h5],RL.cons h4 h6⟩
  cases hr
theorem W6 {s:List SB} {vs:List SV} {q:List PV} (h:RL s vs q):R s (KU vs) (vK q):=by
 match vs,q,h with
 | [],q,h=>rw [show q=[] from h];exact ⟨[],rfl,rfl⟩
 | [v],q,h=>
  obtain ⟨a,as,rfl,h1,h2⟩:=h.cons_inv;rw [show as=[] from h2];exact h1
 |v::u::r,q,h=>
  have hall:=h;obtain ⟨a,as,rfl,h1,h2⟩:=h.cons_inv;obtain ⟨b,bs,rfl,h3,h4⟩:=h2.cons_inv;exact ⟨_,rfl,hall⟩
theorem EO (hcx:jZ F cx) (hinl:W3 F inl) {f:FuncId} {x:aM} (hf:F f=some (.code x)) {R':Type} {args:List SV} {s:List SB} {z:List Nat} {k:SV->List SB->List Nat->iK R'} {ρ:Type} {w:R'->ρ} {y:ρ} {pa:List PV} {ps:cV}
 {Q:R'->PV->cV->List Nat->Prop} (ha:RL s args pa) (hS:cW s ps) (he:WM cx inl x R' args s z k ρ w=some y)
 (hk: ∀v s' z' p ps' ρ' (w':R'->ρ') y',R s' v p->cW s' ps'->k v s' z' ρ' w'=some y'-> ∃r,y'=w' r/\Q r p ps' z'): ∃r,y=w r/\HB F f pa ps z (fun p ps' z'=>Q r p ps' z'):=by
 unfold WM at he;obtain ⟨hn,he⟩:=dF he;have fin: ∀st p ρ' (w':R'->ρ') y',GW st p->(match FU st x.res with
  |some vs=>k (KU vs) st.sto st.fz
  |none=>aP) ρ' w'=some y'-> ∃r,y'=w' r/\ ∃vs,rV p x.res=some vs/\Q r (vK vs) p.sto p.fz:=by
  intro st p ρ' w' y' h he;cases hr:FU st x.res with
  |none=>rw [hr] at he;cases he
  |some vs=>
   rw [hr] at he;obtain ⟨q,h1,h2⟩:=SA h hr;obtain ⟨r,h3,h4⟩:=hk _ _ _ _ _ _ _ _ (W6 h2) h.sto he;exact ⟨r,h3,q,h1,by rw [h.fz];exact h4⟩
 obtain ⟨r,hr,hwp⟩:=aDb hcx hinl x.code R' (Q:=fun r=>TC x fun p ps' z'=>Q r p ps' z') (p:={env:=A9 0 pa,sto:=ps,fz:=z,kn:=ps.length}) (fun e st p ρ' w' y' h he=>by
  cases e with
  |normal=>exact fin st p ρ' w' y' h he
  |ret=>exact fin st p ρ' w' y' h he
  |exit i=>cases he) ⟨W5 0 ha,hS,rfl,hS.len⟩ he
 exact ⟨r,hr,HB.of hf (by rw [ha.length];exact hn) hwp⟩
theorem T5 {α:Type} {l m r:List α} {i:Int} (h:FQ l i m=some r):0<=i/\i.toNat<=l.length/\m.length=1/\l.length+1<=1048576/\r=l.take i.toNat++m++l.drop i.toNat:=by
 unfold FQ at h;split at h
 · rename_i hc
   injection h with h;exact ⟨hc.1,hc.2.1,hc.2.2.1,hc.2.2.2,h.symm⟩
 cases h
theorem aDc {e:Nat} {args:List SV} {s:List SB} {z:List Nat} {a:aUK} (h:aGs e args s z=some a):
 ∃x u x2 m,args=[.own a.t x,.int .i64 a.i,.own u x2]/\nth s a.t=some (.arr a.r a.l)/\nth s u=some (.arr a.r m)/\a.m=m/\a.r.length=e/\ci a.t u=false/\has z a.t=false:=by
 unfold aGs at h;split at h
 case h_2=>cases h
 split at h
 case h_2=>cases h
 split at h
 case h_2=>cases h
 split at h
 case h_2=>cases h
 rename_i m' hm;cases hc:(ci _ e&&_&&_) with
 |false=>rw [hc] at h;cases h
 |true=>
  rw [hc] at h;injection h with h;subst h;simp only [bo,ek,cq] at hc;obtain ⟨rfl,rfl⟩:=tN hm;exact ⟨_,_,_,_,rfl,by assumption,by assumption,rfl,hc.1.1,hc.1.2,hc.2⟩
theorem aAn {e:Nat} {f:FuncId} (hf:F f=some (.shp (TB e))) {R':Type} {args:List SV} {s:List SB} {z:List Nat} {k:SV->List SB->List Nat->iK R'} {ρ:Type} {w:R'->ρ} {y:ρ} {pa:List PV} {ps:cV}
 {Q:R'->PV->cV->List Nat->Prop} (ha:RL s args pa) (hS:cW s ps) (he:aOD e args s z k ρ w=some y)
 (hk: ∀v s' z' p ps' ρ' (w':R'->ρ') y',R s' v p->cW s' ps'->k v s' z' ρ' w'=some y'-> ∃r,y'=w' r/\Q r p ps' z'): ∃r,y=w r/\HB F f pa ps z (fun p ps' z'=>Q r p ps' z'):=by
 unfold aOD at he;cases hA:aGs e args s z with
 |none=>rw [hA] at he;cases he
 |some a=>
 rw [hA] at he;dsimp only at he;obtain ⟨l',hl,he⟩:=dA he;obtain ⟨x,u,x2,m0,rfl,ht,hu,hm,he1,htu,hz⟩:=aDc hA;obtain ⟨t,q,l,i,m⟩:=a;dsimp only at*;subst hm he1;obtain ⟨i0,il,m1,hle,rfl⟩:=T5 hl;obtain ⟨p0,pr0,rfl,h0,ha⟩:=ha;obtain ⟨p1,pr1,rfl,h1,ha⟩:=ha;obtain ⟨p2,pr2,rfl,h2,ha⟩:=ha;obtain rfl:pr2=[]:=ha;obtain rfl:p1= .int .i64 i:=h1
 have ht':s[t]? =some (.arr q l):=by rw [<- cM];exact ht
 have hu':s[u]? =some (.arr q m):=by rw [<- cM];exact hu
 obtain ⟨e0,n0,rfl,o0⟩:=h0;obtain ⟨e2,n2,rfl,o2⟩:=h2;obtain ⟨rfl,rfl⟩:e0=q.length/\n0=l.length:=by
  rcases o0 with ⟨r1,l1,a,b,c⟩|a
  · rw [ht'] at a;injection a with a;injection a with a1 a2;subst a1;subst a2;exact ⟨b,c⟩
  rw [ht'] at a;cases a
 obtain ⟨rfl,rfl⟩:e2=q.length/\n2=m.length:=by
  rcases o2 with ⟨r1,l1,a,b,c⟩|a
  · rw [hu'] at a;injection a with a;injection a with a1 a2;subst a1;subst a2;exact ⟨b,c⟩
  rw [hu'] at a;cases a
 obtain ⟨b1,hb1,hb1'⟩:=hS.at_ t _ ht';obtain ⟨b2,hb2,hb2'⟩:=hS.at_ u _ hu';have hb1':b1= .arr q.length (l.map (RT.pv q)):=hb1';have hb2':b2= .arr q.length (m.map (RT.pv q)):=hb2';subst hb1' hb2';have hlen:(KA [t] (s.set t .dead)).length=s.length:=by rw [CE];simp
 obtain ⟨L,hL⟩: ∃L,L=l.take i.toNat++m++l.drop i.toNat:=⟨_,rfl⟩;rw [<- hL] at he;have G:=iZ.put hS (b:= .dead) (q:= .dead) (l:=[.arr q L]) (ql:=[.arr q.length (L.map (RT.pv q))]) (v:= .own s.length false)
  (p:= .own s.length q.length 0 L.length L.length false) (rd:=[]) ht' (.inr rfl) rfl rfl
  (fun j b hj=>by
   cases j with
   |zero=>simp at hj;subst hj;exact ⟨_,rfl,rfl⟩
   |succ j=>simp at hj)
  ⟨q.length,L.length,rfl,.inl ⟨q,L,by rw [<- hlen];exact pP,rfl,rfl⟩⟩
 have hll:L.length=l.length+1:=by
  rw [hL];simp only [eu,dd,gg,m1];omega
 obtain ⟨rr,hr,hq⟩:=hk _ _ _ _ _ _ _ _ G.v G.sto he;refine ⟨rr,hr,1,_,_,_,?_,hq⟩;rw [oF];have hmost:cf (l.length+1) most=true:=by simp [most];omega
 have hbl:cf i.toNat l.length=true:=by simpa using il
 have hLm:L.map (RT.pv q)=(l.map (RT.pv q)).take i.toNat++m.map (RT.pv q)++(l.map (RT.pv q)).drop i.toNat:=by
  rw [hL,dm,dm,de,dz]
 simp [step,hf,TB,hb1,hb2,m1,htu,hz,i0,hmost,il,hll,hS.len,hZ,VM,hLm]
theorem aDd {α:Type} {l m r:List α} (h:aCZ l m=some r):1<=l.length+m.length/\l.length+m.length<=1048576/\r=l++m:=by
 unfold aCZ at h;split at h
 · rename_i hc
   injection h with h;exact ⟨hc.1,hc.2,h.symm⟩
 cases h
theorem aDe {args:List SV} {s:List SB} {z:List Nat} {a:aUL} (h:aGt args s z=some a):
 ∃cap x m,args=[.part a.t 0 2 cap x]/\nth s a.t=some (.box [.sl a.r a.l,.sl a.r m])/\a.m=m/\a.r.length=1/\has z a.t=false:=by
 unfold aGt at h;split at h
 case h_2=>cases h
 split at h
 case h_2=>cases h
 split at h
 case h_2=>cases h
 rename_i m' hm;cases hc:(ci _ 1&&ci _ 0&&ci _ 2&&_) with
 |false=>rw [hc] at h;cases h
 |true=>
  rw [hc] at h;injection h with h;subst h;simp only [bo,ek,cq] at hc;obtain ⟨rfl,rfl⟩:=tN hm;obtain ⟨⟨⟨h1,rfl⟩,rfl⟩,h2⟩:=hc;exact ⟨_,_,_,rfl,by assumption,rfl,h1,h2⟩
theorem SC {r:List PT} (h:r.length=1) (l:List (RT r)):B2 (l.map (RT.pv r))=true:=by
 unfold B2;rw [dh];intro x hx;obtain ⟨a,_,rfl⟩:=gc.1 hx
 match r,h with
 | [p],_=>
  show (ci [p.pv a].length 1&&[p.pv a].all PV.plain)=true;cases p<;>rfl
theorem aAo {f:FuncId} (hf:F f=some (.shp S9)) {R':Type} {args:List SV} {s:List SB} {z:List Nat} {k:SV->List SB->List Nat->iK R'} {ρ:Type} {w:R'->ρ} {y:ρ} {pa:List PV} {ps:cV}
 {Q:R'->PV->cV->List Nat->Prop} (ha:RL s args pa) (hS:cW s ps) (he:aOE args s z k ρ w=some y)
 (hk: ∀v s' z' p ps' ρ' (w':R'->ρ') y',R s' v p->cW s' ps'->k v s' z' ρ' w'=some y'-> ∃r,y'=w' r/\Q r p ps' z'): ∃r,y=w r/\HB F f pa ps z (fun p ps' z'=>Q r p ps' z'):=by
 unfold aOE at he;cases hA:aGt args s z with
 |none=>rw [hA] at he;cases he
 |some a=>
 rw [hA] at he;dsimp only at he;obtain ⟨l',hl,he⟩:=dA he;obtain ⟨cap,x,m0,rfl,ht,hm,he1,hz⟩:=aDe hA;obtain ⟨t,q,l,m⟩:=a;dsimp only at*;subst hm;obtain ⟨hp,hle,rfl⟩:=aDd hl;obtain ⟨p0,pr0,rfl,h0,ha⟩:=ha;obtain rfl:pr0=[]:=ha;have ht':s[t]? =some (.box [.sl q l,.sl q m]):=by rw [<- cM];exact ht
 obtain ⟨e0,rfl,o0⟩:=h0;obtain rfl:e0=1:=by
  rcases o0 with ⟨r1,l1,a,b⟩|a|⟨_,a,b⟩
  · rw [ht'] at a;cases a
  · rw [ht'] at a;cases a
  exact b
 obtain ⟨b1,hb1,hb1'⟩:=hS.at_ t _ ht';obtain ⟨ps1,rfl,p1,q1,rfl,hp1,p2,q2,rfl,hp2,rfl⟩:=hb1';have hp1:p1= .sl q.length false (l.map (RT.pv q)):=hp1;have hp2:p2= .sl q.length false (m.map (RT.pv q)):=hp2;subst hp1 hp2;have hlen:(KA [t] (s.set t .dead)).length=s.length:=by rw [CE];simp
 obtain ⟨L,hL⟩: ∃L,L=l++m:=⟨_,rfl⟩;rw [<- hL] at he;have G:=iZ.put hS (b:= .dead) (q:= .dead) (l:=[.arr q L]) (ql:=[.arr q.length (L.map (RT.pv q))]) (v:= .own s.length false)
  (p:= .own s.length q.length 0 L.length L.length false) (rd:=[]) ht' (.inr rfl) rfl rfl
  (fun j b hj=>by
   cases j with
   |zero=>simp at hj;subst hj;exact ⟨_,rfl,rfl⟩
   |succ j=>simp at hj)
  ⟨q.length,L.length,rfl,.inl ⟨q,L,by rw [<- hlen];exact pP,rfl,rfl⟩⟩
 have hll:L.length=l.length+m.length:=by rw [hL];simp
 obtain ⟨rr,hr,hq⟩:=hk _ _ _ _ _ _ _ _ G.v G.sto he;refine ⟨rr,hr,1,_,_,_,?_,hq⟩;rw [oF];have hmost:cf (l.length+m.length) most=true:=by simp [most];omega
 have hpos:cf 1 (l.length+m.length)=true:=by simpa using hp
 have hLm:L.map (RT.pv q)=l.map (RT.pv q)++m.map (RT.pv q):=by rw [hL,dm]
 have hc:(ci 1 1&&ci 0 0&&ci 2 2&&!has z t&&B2 (l.map (RT.pv q))&&B2 (m.map (RT.pv q))&&cf 1 ((l.map (RT.pv q)).length+(m.map (RT.pv q)).length)&&cf ((l.map (RT.pv q)).length+(m.map (RT.pv q)).length) most&&(ci q.length 1||(l.map (RT.pv q)).isEmpty)&&(ci q.length 1||(m.map (RT.pv q)).isEmpty))=true:=by
  rw [SC he1,SC he1,hz,cz,cz,hpos,hmost,he1];rfl
 simp only [step,hf];unfold S9
 dsimp only;rw [hb1];dsimp only;rw [hc];simp [hS.len,hZ,VM,hLm,hll,he1]
theorem W7: ∀(p:PT) (a:p.T),I2 p (p.pv a)=some a
 | .i k,a=>by
  have:gE k k=true:=fW.2 rfl
  simp [I2,PT.pv,this]
 | .b,a=>rfl
theorem aBD: ∀(r:List PT) (a:RT r),QY r (RT.pv r a)=some a
 | [],a=>rfl
 | [p],a=>W7 p a
 |p::q::r,a=>by
  show (match I2 p (p.pv a.1),QY (q::r) (RT.pv (q::r) a.2) with
   |some a,some b=>some (a,b)
   |_,_=>none)=_
  rw [W7,aBD (q::r)]
theorem W8 (r:List PT): ∀l:List (RT r),L1 r (l.map (RT.pv r))=some l
 | []=>rfl
 |a::l=>by
  show (match QY r (RT.pv r a),L1 r (l.map (RT.pv r)) with
   |some a,some l=>some (a::l)
   |_,_=>none)=_
  rw [aBD,W8 r l]
theorem aGJ {s:List SB} {g:Option FuncId} {a:List SV} {p:List PV} (h:L2 g a=true) (hr:RL s a p):aGp g p=true:=by
 unfold L2 at h;split at h
 · obtain rfl:p=[]:=hr
   rfl
 · obtain ⟨p0,pr,rfl,h0,hr⟩:=hr
   obtain rfl:pr=[]:=hr;obtain ⟨x,y,rfl,hx,hy⟩:=h0;obtain rfl:x=[]:=hx;obtain rfl:y=[]:=hy;exact h
 cases h
theorem aDf {r:List PT} {g:Option FuncId} {args:List SV} {s:List SB} {z:List Nat} {t:Nat} {o:Option Nat} {l:List (RT r)} (h:aGu r g args s z=some (t,o,l)):
 ∃x a,args=x::a/\nth s t=some (.arr r l)/\has z t=false/\L2 g a=true/\((o=none/\ ∃ex,x= .own t ex)\/ ∃len cap ex,o=some len/\x= .pre t len cap ex):=by
 unfold aGu at h;split at h
 · split at h
   · split at h
     · rename_i hm
       cases hc:(!has z _&&L2 g _) with
       |false=>rw [hc] at h;cases h
       |true=>
        rw [hc] at h;simp only [cond_true,bw,cp] at h;obtain ⟨rfl,rfl,rfl⟩:=h;simp only [bo,cq] at hc;obtain ⟨rfl,rfl⟩:=tN hm;exact ⟨_,_,rfl,by assumption,hc.1,hc.2,.inl ⟨rfl,_,rfl⟩⟩
     cases h
   cases h
 · split at h
   · split at h
     · rename_i hm
       cases hc:(!has z _&&L2 g _) with
       |false=>rw [hc] at h;cases h
       |true=>
        rw [hc] at h;simp only [cond_true,bw,cp] at h;obtain ⟨rfl,rfl,rfl⟩:=h;simp only [bo,cq] at hc;obtain ⟨rfl,rfl⟩:=tN hm;exact ⟨_,_,rfl,by assumption,hc.1,hc.2,.inr ⟨_,_,_,rfl,rfl⟩⟩
     cases h
   cases h
 cases h
theorem aAp {α:Type} {f:List α->Option (List α)} {l m:List α} (h:LZ f l=some m):l.length<=1048576/\f l=some m/\m.length=l.length:=by
 unfold LZ at h;split at h
 · rename_i hl
   split at h
   · rename_i m' hm
     split at h
     · rename_i he
       injection h with h;subst h;exact ⟨hl,hm,he⟩
     cases h
   cases h
 cases h
theorem T6 {α:Type} {f:List α->Option (List α)} {n:Nat} {l m:List α} (h:F0s f n l=some m):n<=l.length/\ ∃m',LZ f (l.take n)=some m'/\m=m'++l.drop n:=by
 unfold F0s at h;split at h
 · rename_i hn
   cases hm:LZ f (l.take n) with
   |none=>rw [hm] at h;cases h
   |some m'=>
    rw [hm] at h;injection h with h;exact ⟨hn,m',rfl,h.symm⟩
 cases h
theorem aAq {q:Srt} {f:FuncId} (hf:F f=some (.shp (TW q))) {R':Type} {args:List SV} {s:List SB} {z:List Nat} {k:SV->List SB->List Nat->iK R'} {ρ:Type} {w:R'->ρ} {y:ρ} {pa:List PV} {ps:cV}
 {Q:R'->PV->cV->List Nat->Prop} (ha:RL s args pa) (hS:cW s ps) (he:aOF q args s z k ρ w=some y)
 (hk: ∀v s' z' p ps' ρ' (w':R'->ρ') y',R s' v p->cW s' ps'->k v s' z' ρ' w'=some y'-> ∃r,y'=w' r/\Q r p ps' z'): ∃r,y=w r/\HB F f pa ps z (fun p ps' z'=>Q r p ps' z'):=by
 have key: ∀(t len:Nat) (l m':List (RT q.r)) (ex:Bool) (cap:Nat) (pr:List PV) (a:List SV),s[t]? =some (.arr q.r l)->has z t=false->L2 q.g a=true->RL s a pr->pa= .own t q.r.length 0 len cap ex::pr->len<=l.length->LZ q.fn (l.take len)=some m'->
  k (.tup []) (gZ.stoOf s {v:= .tup [],wr:=[(t,.arr q.r (m'++l.drop len))]}) z ρ w=some y-> ∃r,y=w r/\HB F f pa ps z (fun p ps' z'=>Q r p ps' z'):=by
  intro t len l m' ex cap pr a ht hz hg har hpa hlen hso he;subst hpa;obtain ⟨s1,s2,s3⟩:=aAp hso;obtain ⟨b1,hb1,hb1'⟩:=hS.at_ t _ ht;have hb1':b1= .arr q.r.length (l.map (RT.pv q.r)):=hb1';subst hb1';have hll:(l.take len).length=len:=by rw [dd];omega
  have hml:(m'++l.drop len).length=l.length:=by rw [eu,gg,s3,hll];omega
  have G:=iZ.put hS (b:= .arr q.r (m'++l.drop len)) (q:= .arr q.r.length ((m'++l.drop len).map (RT.pv q.r))) (l:=[]) (ql:=[]) (v:= .tup []) (p:= .tup []) (rd:=[]) ht (.inl ⟨_,rfl,hml⟩) rfl rfl
   (fun j b hj=>by simp at hj) ⟨[],rfl,rfl⟩
  obtain ⟨rr,hr,hq⟩:=hk _ _ _ _ _ _ _ _ G.v G.sto he;refine ⟨rr,hr,1,_,_,_,?_,hq⟩;rw [oF];have hg':=aGJ hg har;have hrt:L1 q.r ((l.map (RT.pv q.r)).take len)=some (l.take len):=by rw [<- de];exact W8 q.r _
  have hbl:cf len l.length=true:=by simpa using hlen
  have hmo:cf len most=true:=by simp [most];omega
  have hbe:ci m'.length (l.take len).length=true:=by rw [s3];exact c8 _
  simp only [step,hf,TW,hb1,cz,c8,hbl,hmo,hz,hg',hrt,s2,hbe,dt,ec,if_true,Option.map_some,hZ,VM,dm,dz]
 unfold aOF at he;cases hA:aGu q.r q.g args s z with
 |none=>rw [hA] at he;cases he
 |some u=>
  obtain ⟨t,o,l⟩:=u;rw [hA] at he;obtain ⟨x,a,rfl,ht,hz,hg,h⟩:=aDf hA;obtain ⟨p0,pr,rfl,h0,ha⟩:=ha;rw [cM] at ht;rcases h with ⟨rfl,ex,rfl⟩|⟨len,cap,ex,rfl,rfl⟩
  · obtain ⟨m,hm,he⟩:=dA he
    obtain ⟨e0,n0,rfl,o0⟩:=h0;obtain ⟨rfl,rfl⟩:e0=q.r.length/\n0=l.length:=by
     rcases o0 with ⟨r1,l1,a,b,c⟩|a
     · rw [ht] at a;injection a with a;injection a with a1 a2;subst a1;cases a2;exact ⟨b,c⟩
     rw [ht] at a;cases a
    refine key t l.length l m ex l.length pr a ht hz hg ha rfl (fh _) (by rw [List.take_length];exact hm) ?_
    rw [List.drop_length,cy];exact he
  obtain ⟨m,hm,he⟩:=dA he
  obtain ⟨e0,rfl,o0⟩:=h0;obtain rfl:e0=q.r.length:=by
   rcases o0 with ⟨r1,l1,a,b⟩|a|⟨_,a,_⟩
   · rw [ht] at a;injection a with a;injection a with a1 a2;subst a1;exact b
   · rw [ht] at a;cases a
   rw [ht] at a;cases a
  obtain ⟨hn,m',hso,rfl⟩:=T6 hm;exact key t len l m' ex cap pr a ht hz hg ha rfl hn hso he
theorem T7 (hcx:jZ F cx): ∀n,W3 F (aEn cx n)
 |0=>fun f args s z R' k ρ w y pa ps Q _ _ h _=>by cases h
 |n+1=>fun f args s z R' k ρ w y pa ps Q ha hS h hk=>by
  simp only [aEn] at h;cases hx:cx.code f with
  |none=>rw [hx] at h;cases h
  |some x=>
   rw [hx] at h;cases x with
   |code x=>exact EO hcx (T7 hcx n) (hcx.code f _ hx) ha hS h hk
   |ins e=>exact aAn (hcx.code f _ hx) ha hS h hk
   |srt q=>exact aAq (hcx.code f _ hx) ha hS h hk
   |cat=>exact aAo (hcx.code f _ hx) ha hS h hk
def aGK:Kd->Bool->Bool
 | .own,b=>b
 |_,b=>!b
def aEP (kd:Kd) {β:Type} (res:aK β) (b:β) (p:PV) (ps:cV) (z:List Nat):Prop:=
 match kd with
 | .pure=>p.noref=true/\xZ (res.enc b)=some p
 | .frz=>p.noref=false/\ ∃q,FJ ps p=some q/\xZ (res.enc b)=some q
 | .own=> ∀nx,∃p0 p' q seen,GJ ps z nx [] p=some (p',q,seen)/\xZ (res.enc b)=some p0/\OT nx p0=some (p',q)
mutual
theorem W9 {s:List SB}: ∀{v:SV} {p:PV},R s v p->HL v=true->xZ v=some p
 | .int _ _,p,h,_| .bool _,p,h,_| .str _,p,h,_=>by rw [show p=_ from h];rfl
 | .agg cs,p,h,hn=>by obtain ⟨q,rfl,h⟩:=h;simp only [xZ,pure_pvL h hn]
 | .tup cs,p,h,hn=>by obtain ⟨q,rfl,h⟩:=h;simp only [xZ,pure_pvL h hn]
 | .junk,_,_,h| .undef,_,_,h| .nul,_,_,h| .nilf,_,_,h| .sl _ _,_,_,h| .nil _ _,_,_,h| .own _ _,_,_,h| .pre _ _ _ _,_,_,h| .part _ _ _ _ _,_,_,h| .pa _ _ _ _ _,_,_,h| .pb _ _ _,_,_,h| .bp _ _ _,_,_,h| .rptr _ _,_,_,h| .clo _ _ _,_,_,h| .mp _,_,_,h=>by cases h
theorem pure_pvL {s:List SB}: ∀{v:List SV} {p:List PV},RL s v p->norefSL v=true->pvL v=some p
 | [],p,h,_=>by rw [show p=_ from h];rfl
 |x::xs,p,h,hn=>by
  obtain ⟨a,as,rfl,h1,h2⟩:=h.cons_inv;simp only [norefSL,bo] at hn;exact fG.2 ⟨_,_,rfl,W9 h1 hn.1,pure_pvL h2 hn.2⟩
end
theorem aAr {kd:Kd} {β:Type} {res:aK β} {v:SV} {s:List SB} {z:List Nat} {p:PV} {ps:cV} {ρ:Type} {w:β->ρ} {y:ρ} (hv:R s v p) (hS:cW s ps) (h:aEo kd res v s z ρ w=some y):
 ∃b,y=w b/\aEP kd res b p ps z:=by
 unfold aEo at h;cases kd with
 |pure=>
  dsimp only at h;obtain ⟨h1,h2⟩:=dF h;obtain ⟨b,h3,h4⟩:=bR h2;injection h4 with h4;exact ⟨b,h4.symm,WZ hv h1,res.law h3 (W9 hv h1)⟩
 |frz=>
  dsimp only at h;obtain ⟨h1,h2⟩:=xO h;obtain ⟨u,h3,h4⟩:=bR h2;obtain ⟨b,h5,h6⟩:=bR h4;injection h6 with h6;obtain ⟨q,h7,h8⟩:=aOh hS hv h3;exact ⟨b,h6.symm,R3 hv h1 h3,q,h7,res.law h5 h8⟩
 |own=>
  dsimp only at h;obtain ⟨u,h3,h4⟩:=bR h;obtain ⟨b,h5,h6⟩:=bR h4;injection h6 with h6;refine ⟨b,h6.symm,fun nx=>?_⟩
  obtain ⟨p0,p',q,h7,h8,h9⟩:=aEJ hS (v':=u.1) (seen':=u.2) nx hv h3;exact ⟨p0,p',q,u.2,h9,res.law h5 h7,h8⟩
theorem cW.nil:cW [] []:=⟨rfl,fun t b h=>by simp at h⟩
theorem aI.of {f:FuncId} {x:aM} {α β:Type} {args:aC α} {res:aK β} {kd:Kd} {fn:α->Option β} {ow:Bool} (hf:F f=some (.code x)) (ho:aGK kd ow=true) (hcx:jZ F cx)
 (h: ∀a,aOe cx x args res kd a=fn a):aI F f ⟨args,res,fn,kd,ow⟩:=by
 intro a b as pa sto fz hb hpa hex;have hb:fn a=some b:=hb;rw [<- h a] at hb;obtain ⟨r,hr,n,v,s,z,hrun,hl⟩:=EO hcx (T7 hcx 8) hf (Q:=fun r p ps z=>aEP kd res r p ps z) (pvL_R hpa) cW.nil hb (fun v s' z' p ps' ρ' w' y' hv hS hk=>aAr hv hS hk)
 have hr':b=r:=hr;subst hr';cases kd with
 |pure=>
  obtain ⟨h1,h2⟩:=hl;have how:ow=false:=by simpa [aGK] using ho
  subst how;refine ⟨n,{v:=v,rd:=toksL (dQ sto fH) as},?_,v,h2,rfl⟩;simp only [callPure,hex,hf,hrun,cj,if_false,h1,if_true]
 |frz=>
  obtain ⟨h1,q,h2,h3⟩:=hl;have how:ow=false:=by simpa [aGK] using ho
  subst how;refine ⟨n,{v:=q,rd:=toksL (dQ sto fH) as,fr:=toksL (dQ sto fH) as},?_,q,h3,rfl⟩;simp only [callPure,hex,hf,hrun,cj,if_false,h1,h2]
 |own=>
  have how:ow=true:=ho;subst how;obtain ⟨p0,p',q,seen,h1,h2,h3⟩:=hl sto.length;refine ⟨n,{v:=p',news:=q,rd:=toksL (dQ sto fH) as},?_,p0,p',q,h2,h3,rfl⟩;simp only [callPure,hex,hf,hrun,if_true,h1]
theorem XA: ∀(s:List SB) (q:List D2),(HM s q).1.length=s.length
 | [],q=>rfl
 |b::r,q=>by simp only [HM,cu,XA r]
mutual
theorem R.take {s:List SB} {k:Nat}: ∀{v:SV} {p:PV},R s v p->(∀t∈Z6 zF v,t<k)->R (s.take k) v p
 | .junk,_,_,_=>trivial
 | .undef,_,h,_| .nul,_,h,_| .nilf,_,h,_| .int _ _,_,h,_| .bool _,_,h,_| .str _,_,h,_| .sl _ _,_,h,_| .nil _ _,_,h,_| .bp _ _ _,_,h,_| .mp _,_,h,_=>h
 | .agg cs,_,h,ht=>by obtain ⟨q,rfl,h⟩:=h;exact ⟨q,rfl,RL.takeS h ht⟩
 | .tup cs,_,h,ht=>by obtain ⟨q,rfl,h⟩:=h;exact ⟨q,rfl,RL.takeS h ht⟩
 | .rptr cs o,_,h,ht=>by obtain ⟨q,rfl,h⟩:=h;exact ⟨q,rfl,RL.takeS h ht⟩
 | .clo f a b,_,h,ht=>by
  obtain ⟨pa,pb,rfl,h1,h2⟩:=h;exact ⟨pa,pb,rfl,RL.takeS h1 (fun t h=>ht t (eh _ h)),RL.takeS h2 (fun t h=>ht t (eb _ h))⟩
 | .own t ex,_,h,ht=>by
  obtain ⟨e,n,rfl,hat⟩:=h;have hk:=ht t (d7.2 rfl);refine ⟨e,n,rfl,?_⟩;rcases hat with ⟨r,l,h1,h2,h3⟩|h1
  · exact .inl ⟨r,l,by rw [cd hk];exact h1,h2,h3⟩
  exact .inr (by rw [cd hk];exact h1)
 | .pre t a b c,_,h,ht=>by
  obtain ⟨e,rfl,hat⟩:=h;have hk:=ht t (d7.2 rfl);refine ⟨e,rfl,?_⟩;rcases hat with ⟨r,l,h1,h2⟩|h1
  · exact .inl ⟨r,l,by rw [cd hk];exact h1,h2⟩
  exact .inr (by rw [cd hk];exact h1)
 | .part t o a b c,_,h,ht=>by
  obtain ⟨e,rfl,hat⟩:=h;have hk:=ht t (d7.2 rfl);refine ⟨e,rfl,?_⟩;rcases hat with ⟨r,l,h1,h2⟩|h1
  · exact .inl ⟨r,l,by rw [cd hk];exact h1,h2⟩
  exact .inr (by rw [cd hk];exact h1)
 | .pa t r i a o,_,h,ht=>by
  obtain ⟨rfl,hat⟩:=h;have hk:=ht t (d6 ..);refine ⟨rfl,?_⟩;rcases hat with ⟨l,h1,h2⟩|h1
  · exact .inl ⟨l,by rw [cd hk];exact h1,h2⟩
  exact .inr (by rw [cd hk];exact h1)
 | .pb t i o,_,h,ht=>by
  obtain ⟨e,rfl,hat⟩:=h;have hk:=ht t (d6 ..);refine ⟨e,rfl,?_⟩;rcases hat with ⟨r,l,h1,h2⟩|h1
  · exact .inl ⟨r,l,by rw [cd hk];exact h1,h2⟩
  exact .inr (by rw [cd hk];exact h1)
theorem RL.takeS {s:List SB} {k:Nat}: ∀{v:List SV} {p:List PV},RL s v p->(∀t∈tkVL zF v,t<k)->RL (s.take k) v p
 | [],_,h,_=>h
 |x::xs,_,h,ht=>by
  obtain ⟨a,as,rfl,h1,h2⟩:=h.cons_inv;exact RL.cons (R.take h1 (fun t h=>ht t (eh _ h))) (RL.takeS h2 (fun t h=>ht t (eb _ h)))
end
theorem OX {R' ρ:Type} {w:R'->ρ} {y:ρ}: ∀{s s':List SB} {k:iK R'},I4 s s' k ρ w=some y->k ρ w=some y/\s'.length=s.length/\ ∀(t:Nat) (x z:SB),s[t]? =some x->s'[t]? =some z->aEL x z
 | [],[],k,h=>⟨h,rfl,fun t x z h=>by simp at h⟩
 | [],_::_,k,h=>by cases h
 |_::_,[],k,h=>by cases h
 |x::xs,y'::ys,k,h=>by
  have step: ∀(_:I4 xs ys k ρ w=some y) (_:aEL x y'),k ρ w=some y/\(y'::ys).length=(x::xs).length/\ ∀(t:Nat) (a b:SB),(x::xs)[t]? =some a->(y'::ys)[t]? =some b->aEL a b:=by
   intro h hx;obtain ⟨h1,h2,h3⟩:=OX h;refine ⟨h1,by simpa using h2,fun t a b ha hb=>?_⟩
   cases t with
   |zero=>simp at ha hb;subst ha hb;exact hx
   |succ t=>exact h3 t a b (by simpa using ha) (by simpa using hb)
  cases x with
  |arr r l=>
   cases y' with
   |arr q m=>
    obtain ⟨hr,h2⟩:=dF (a:=iO (m.length==l.length) (I4 xs ys k) aP) h;obtain ⟨hl,h3⟩:=jY h2;exact step h3 ⟨BJ hr,by simpa using hl⟩
   |_=>cases h
  |dead=>cases y' with
   |dead=>exact step h trivial
   |_=>cases h
  |box cs=>cases y' with
   |box _=>exact step h trivial
   |_=>cases h
  |set l=>cases y' with
   |set _=>exact step h trivial
   |_=>cases h
  |tab p l=>cases y' with
   |tab _ _=>exact step h trivial
   |_=>cases h
theorem OY: ∀{s:List SB},OG s=true-> ∀(t:Nat) (b:SB),s[t]? =some b->FT b=true
 | [],_,t,b,h=>by simp at h
 |x::xs,hs,0,b,h=>by simp only [OG,bo] at hs;simp at h;subst h;exact hs.1
 |x::xs,hs,t+1,b,h=>by simp only [OG,bo] at hs;exact OY hs.2 t b (by simpa using h)
theorem nJ.of {f:FuncId} {x:aM} {wd:Bool} {ka ko:List AK} {ta:List SV} {tb to:List SB} {tv:SV} {fn:mO ka->Option (mO ko)} (hf:F f=some (.code x)) (hcx:jZ F cx)
 (h: ∀a,aXc wd cx x ka ta tb ko tv to a=fn a):nJ F f ⟨ka,ta,tb,ko,tv,to,fn⟩:=by
 intro a b pa ps hb ha hS;rw [show (⟨ka,ta,tb,ko,tv,to,fn⟩:eM).fn a=fn a from rfl,<- h a] at hb;have hlen:(eM.sa ⟨ka,ta,tb,ko,tv,to,fn⟩ a).length=tb.length:=XA _ _;obtain ⟨r,hr,n,v,s,z,hrun,hz,hq⟩:=EO hcx (T7 hcx 8) hf (Q:=fun (r:mO ko) p ps' z'=>z'=[]/\jW tb.length p ps'=true/\
  R (eM.sb ⟨ka,ta,tb,ko,tv,to,fn⟩ r) (eM.vb ⟨ka,ta,tb,ko,tv,to,fn⟩ r) p/\cW (eM.sb ⟨ka,ta,tb,ko,tv,to,fn⟩ r) (ps'.take tb.length)/\
  (eM.sb ⟨ka,ta,tb,ko,tv,to,fn⟩ r).length=(eM.sa ⟨ka,ta,tb,ko,tv,to,fn⟩ a).length/\
  ∀(t:Nat) (x y:SB),(eM.sa ⟨ka,ta,tb,ko,tv,to,fn⟩ a)[t]? =some x->(eM.sb ⟨ka,ta,tb,ko,tv,to,fn⟩ r)[t]? =some y->aEL x y) ha hS hb (fun v s' z' p ps' ρ' w' y' hv hS' hk=>by
  cases z' with
  |cons _ _=>cases hk
  |nil=>
   dsimp only at hk;obtain ⟨hc,hk⟩:=dF hk;simp only [bo] at hc;obtain ⟨⟨⟨⟨c1,c2⟩,c3⟩,c4⟩,c5⟩:=hc;obtain ⟨hk,f1,f2⟩:=OX hk;obtain ⟨r,hr,hk⟩:=bR hk;injection hk with hk;have hu:R s' (bif wd then RS s' v else v) p:=by
    cases wd with
    |true=>exact aBw hv
    |false=>exact hv
   generalize (bif wd then RS s' v else v)=u at c1 c3 c4 hr hu
   have hats:=yA hr;have hvb:eM.vb ⟨ka,ta,tb,ko,tv,to,fn⟩ r=u:=by
    show (zI tv (pO ko r)).1=u;rw [hats,MZ _ c1]
   have hsb:eM.sb ⟨ka,ta,tb,ko,tv,to,fn⟩ r=s'.take tb.length:=by
    show (HM to (zI tv (pO ko r)).2).1=_;rw [hats,MZ _ c1]
    have:=JE [] c2
    rw [cy] at this;rw [this]
   have hle:tb.length<=s'.length:=by
    have:=f1
    rw [dd] at this;have h2:(eM.sa ⟨ka,ta,tb,ko,tv,to,fn⟩ a).length=tb.length:=hlen;have h3:min tb.length s'.length=tb.length:=by rw [this];exact h2
    omega
   unfold aOd at c3;rw [dh] at c3;have hkv: ∀t∈Z6 zF u,t<tb.length:=fun t ht=>by simpa using c3 t (eh _ ht)
   have hkb: ∀b∈s'.take tb.length,∀t∈N8 b,t<tb.length:=fun b hb t ht=>by simpa using c3 t (eb _ (gi.2 ⟨b,hb,ht⟩))
   have hsto:cW (s'.take tb.length) (ps'.take tb.length):=⟨by simp [hS'.len],fun t x hx=>by
    have hlt:t<tb.length:=by
     have:=(bq.1 hx).1
     rw [dd] at this;omega
    have hx':=hx;rw [cd hlt] at hx';obtain ⟨q,q1,q2⟩:=hS'.at_ t x hx';refine ⟨q,by rw [cd hlt];exact q1,?_⟩
    cases x with
    |box cs=>
     obtain ⟨pc,rfl,hpc⟩:=q2;exact ⟨pc,rfl,RL.takeS hpc (hkb _ (dv hx))⟩
    |_=>exact q2⟩
   refine ⟨r,hk.symm,rfl,?_,by rw [hvb,hsb];exact R.take hu hkv,by rw [hsb];exact hsto,by rw [hsb];exact f1,by rw [hsb];exact f2⟩
   unfold jW;rw [dh];intro t ht;rw [gl] at ht;rcases ht with ht|ht
   · rw [<- aED (bx:=zF) (fun _=>rfl) hu c4] at ht
     simpa using hkv t ht
   rw [gi] at ht
   obtain ⟨q,hq,ht⟩:=ht;obtain ⟨j,hj,he⟩:=ei hq;have hjl:j<(s'.take tb.length).length:=by rw [<- hsto.len];exact hj
   obtain ⟨x,hx⟩: ∃x,(s'.take tb.length)[j]? =some x:=⟨_,bz hjl⟩;obtain ⟨q',q1,q2⟩:=hsto.at_ j x hx;rw [bz hj,he] at q1;injection q1 with q1;subst q1;rw [<- T1 q2 (OY c5 j x hx)] at ht;simpa using hkb x (dv hx) t ht)
 have hr':b=r:=hr;subst hr';subst hz;refine ⟨n,v,s,hrun,?_⟩;rw [hlen];obtain ⟨h1,h2,h3,h4,h5⟩:=hq;exact ⟨h1,h2,h3,by rw [h4,hlen],h5⟩
theorem aAs {f:FuncId} {r:List PT} (hf:F f=some (.prim false (gI r.length))) (l:List (RT r)) (hl:l.length<=1048576) {as:List PV} {sto:cV} {fz:List Nat} (hex:exL sto (D3 sto fH) as=some [.sl r.length false (l.map (RT.pv r))]):
 ∃n x,callPure F (run F n) false f as sto fz=some x/\aOi .own sto.length (toksL (dQ sto fH) as) (.sl r l) x:=by
 refine ⟨0,{v:= .own sto.length r.length 0 l.length l.length false,news:=[.arr r.length (l.map (RT.pv r))],rd:=toksL (dQ sto fH) as},?_,.sl r.length false (l.map (RT.pv r)),.own sto.length r.length 0 l.length l.length false,[.arr r.length (l.map (RT.pv r))],rfl,by simp only [OT,cz],rfl⟩
 simp only [callPure,hex,hf];cases l with
 |nil=>rfl
 |cons a l=>
  have h2:cf ((l.map (RT.pv r)).length+1) most=true:=by simp [most] at hl ⊢;omega
  simp only [c6,gI,c8,h2,c7,if_true,GJ];simp [has]
theorem aI.clone {f:FuncId} {n:Nat} {r:List PT} (hf:F f=some (.prim false (gI n))) (hn:n=r.length):aI F f (bI.clone r):=by
 intro (a:List (RT r)) (b:List (RT r)) as pa sto fz hb hpa hex;subst hn;have hb:bU a=some b:=hb;obtain ⟨rfl,hl⟩:=HQ hb;have hpa':pa=[.sl r.length false (b.map (RT.pv r))]:=by
  have:some [PV.sl r.length false (b.map (RT.pv r))]=some pa:=hpa
  exact (d5 this).symm
 subst hpa';exact aAs hf b hl hex
theorem aI.add64 {f:FuncId} (hf:F f=some (.prim false HA)):aI F f bI.add64:=by
 intro a b as pa sto fz hb hpa hex;obtain ⟨x,y,c⟩:=a;have hb':tO x y c=some b:=hb;unfold tO at hb';cases hc:(decide (0<=x)&&decide (0<=y)&&decide (0<=c)&&decide (c<=1)) with
 |false=>rw [hc] at hb';cases hb'
 |true=>
  rw [hc] at hb';injection hb' with hb';subst hb';simp only [bo,decide_eq_true_eq] at hc;obtain ⟨⟨⟨h1,h2⟩,h3⟩,h4⟩:=hc;obtain ⟨x,rfl⟩:=cm h1;obtain ⟨y,rfl⟩:=cm h2;obtain ⟨c,rfl⟩:=cm h3;have hpa':pa=[.int .u64 (.ofNat x),.int .u64 (.ofNat y),.int .u64 (.ofNat c)]:=by
   have:some [PV.int .u64 (x:Int),.int .u64 (y:Int),.int .u64 (c:Int)]=some pa:=hpa
   exact (d5 this).symm
  subst hpa';have hcb:cf c 1=true:=by simp;omega
  refine ⟨0,{v:= .tup [.int .u64 (.ofNat ((x+y+c)%18446744073709551616)),.int .u64 (.ofNat ((x+y+c) / 18446744073709551616))],rd:=toksL (dQ sto fH) as},?_,_,rfl,rfl⟩;show callPure F (run F 0) false f as sto fz=_;simp only [callPure,hex,hf,HA,hcb,if_true];rfl
theorem nJ.zero {f:FuncId} {c:eM} (h: ∀a,c.fn a=none):nJ F f c:=fun a b pa ps hb=>by rw [h a] at hb;cases hb
theorem aI.zero {f:FuncId} {c:bI} (h: ∀a,c.fn a=none):aI F f c:=fun a b as pa sto fz hb=>by rw [h a] at hb;cases hb
end
end Go.Vm
/- What comes in to a law, as typed values; a law from a contract. -/
namespace Go.Vm
open Go.ChangeShapes Go.WideShapes Go.ChangeAt Go.RowKit
def PT.wf:(p:PT)->p.T->Prop
 | .i k,n=>(Lit.int k n).wf=true
 | .b,_=>True
def RT.wf:(r:List PT)->RT r->Prop
 | [],_=>True
 | [p],a=>p.wf a
 |p::q::r,a=>p.wf a.1/\RT.wf (q::r) a.2
def jA (r:List PT) (vs:List SV):Prop:= ∃a:RT r,vs=RT.sv r a/\RT.wf r a
def XB (r:List PT) (vs:List SV):Prop:= ∃l:List (RT r),vs=[.sl r l]/\ ∀a∈l,RT.wf r a
def aGL:List (List SV->Prop)->List SV->Prop
 | [],vs=>vs=[]
 |K::Ks,vs=> ∃a b,vs=a++b/\K a/\aGL Ks b
theorem jA.cons {p:PT}: ∀{r:List PT} {a b:List SV},jA [p] a->jA r b->jA (p::r) (a++b)
 | [],a,b,⟨x,hx,wx⟩,⟨y,hy,_⟩=>⟨x,by rw [hx,hy];rfl,wx⟩
 |q::r,a,b,⟨x,hx,wx⟩,⟨y,hy,wy⟩=>⟨(x,y),by rw [hx,hy];rfl,wx,wy⟩
theorem jA.split {p q:PT} {r:List PT} {vs:List SV}:jA (p::q::r) vs-> ∃a b,vs=a++b/\jA [p] a/\jA (q::r) b
 |⟨x,hx,wx⟩=>⟨[p.sv x.1],RT.sv (q::r) x.2,hx,⟨x.1,rfl,wx.1⟩,⟨x.2,rfl,wx.2⟩⟩
theorem jA.app: ∀{r s:List PT} {a b:List SV},jA r a->jA s b->jA (r++s) (a++b)
 | [],s,a,b,⟨x,hx,_⟩,h=>by
  have:a=[]:=hx
  subst this;exact h
 | [p],s,a,b,h,k=>jA.cons h k
 |p::q::r,s,a,b,h,k=>by
  obtain ⟨a1,a2,rfl,h1,h2⟩:=jA.split h
  rw [cw];exact jA.cons h1 (jA.app h2 k)
theorem qZ: ∀{rs:List (List PT)} {vs:List SV},aGL (rs.map jA) vs->jA rs.flatten vs
 | [],vs,h=>by
  have:vs=[]:=h
  subst this;exact ⟨(),rfl,trivial⟩
 |r::rs,vs,⟨a,b,h1,h2,h3⟩=>by
  subst h1;rw [List.flatten_cons];exact jA.app h2 (qZ h3)
def cX (P : Program) (t : TypeId) (K : List SV -> Prop) : Prop :=
  ∀ (H : Type) (enc : TypeId × Value -> H) (w : World) (fuel : Nat) (cs : List Value) (x : DataW H × List MemPlace), DataW.trod enc P w 0 (fun _ => true) true fuel t cs = some x ->
    ∃ vs q, K vs /\ pvL vs = some q /\ VRL (QW w) iD q cs
section
variable {P : Program}
theorem cX.mono {t:TypeId} {K K':List SV->Prop} (h:cX P t K) (hk: ∀vs,K vs->K' vs):cX P t K':=fun H enc w fuel cs x hx=>by
 obtain ⟨vs,q,h1,h2,h3⟩:=h H enc w fuel cs x hx;exact ⟨vs,q,hk vs h1,h2,h3⟩
theorem cX.int {t:TypeId} {k:IntKind} (ht:P.underlying t=some (.int k)):cX P t (jA [.i k]):=fun H enc w fuel cs x h=>by
 obtain ⟨n,rfl,_,hw⟩:=DataW.trod_int ht h;exact ⟨[.int k n],[.int k n],⟨n,rfl,hw⟩,rfl,.cons _ _ _ _ (.int k n) .nil⟩
theorem cX.bool {t:TypeId} (ht:P.underlying t=some .bool):cX P t (jA [.b]):=fun H enc w fuel cs x h=>by
 obtain ⟨b,rfl,_⟩:=DataW.trod_bool ht h;exact ⟨[.bool b],[.bool b],⟨b,rfl,trivial⟩,rfl,.cons _ _ _ _ (.bool b) .nil⟩
def bD (P:Program):List Field->List (List SV->Prop)->Nat->Prop
 | [],[],_=>True
 |f::fs,K::Ks,off=>f.offset=off/\cX P f.type K/\bD P fs Ks (off+P.cellsOf f.type)
 |_,_,_=>False
theorem bD.nil {off:Nat}:bD P [] [] off:=trivial
theorem bD.cons {f:Field} {fs:List Field} {K:List SV->Prop} {Ks:List (List SV->Prop)} {off:Nat} (h1:f.offset=off) (h2:cX P f.type K) (h3:bD P fs Ks (off+P.cellsOf f.type)):bD P (f::fs) (K::Ks) off:=⟨h1,h2,h3⟩
def EP (P:Program):List Field->Nat
 | []=>0
 |f::fs=>P.cellsOf f.type+EP P fs
theorem OZ {im:Im} {loc:dN}: ∀{p:List PV} {vs:List Value} {q:List PV} {us:List Value},VRL im loc p vs->VRL im loc q us->VRL im loc (p++q) (vs++us)
 | [],[],_,_,.nil,h=>h
 |_::_,_::_,_,_,.cons x v xs ws h hs,k=> .cons x v _ _ h (OZ hs k)
theorem O0 {H:Type} {enc:TypeId×Value->H} {w:World} {n:Nat} {cs:List Value}: ∀{fs:List Field} {Ks:List (List SV->Prop)} {off:Nat},bD P fs Ks off->cs.length=off+EP P fs->
 (∀f∈fs,∃x,DataW.trod enc P w 0 (fun _=>true) true n f.type ((cs.drop f.offset).take (P.cellsOf f.type))=some x)-> ∃vs q,aGL Ks vs/\pvL vs=some q/\VRL (QW w) iD q (cs.drop off)
 | [],[],off,_,hl,_=>⟨[],[],rfl,rfl,by rw [List.drop_eq_nil_of_le (by simp [EP] at hl;omega)];exact .nil⟩
 |f::fs,K::Ks,off,⟨h1,h2,h3⟩,hl,hx=>by
  obtain ⟨x,hx1⟩:=hx f (by simp)
  obtain ⟨vs,q,k1,k2,k3⟩:=h2 H enc w n _ x hx1;obtain ⟨vs',q',k1',k2',k3'⟩:=O0 (n:=n) h3 (by simp only [EP] at hl;omega) (fun g hg=>hx g (by simp [hg]))
  refine ⟨vs++vs',q++q',⟨vs,vs',rfl,k1,k1'⟩,HN k2 k2',?_⟩;rw [h1] at k3
  have:cs.drop off=(cs.drop off).take (P.cellsOf f.type)++cs.drop (off+P.cellsOf f.type):=by
   rw [<- List.drop_drop,List.take_append_drop]
  rw [this];exact OZ k3 k3'
 | [],_::_,_,h,_,_=>h.elim
 |_::_,[],_,h,_,_=>h.elim
theorem cX.struct {t:TypeId} {fs:Array Field} {Ks:List (List SV->Prop)} (ht:P.underlying t=some (.struct fs)) (hF:bD P fs.toList Ks 0) (hc:P.cellsOf t=EP P fs.toList):cX P t (aGL Ks):=fun H enc w fuel cs x h=>by
 obtain ⟨xs,n,rfl,_,hl,hxl,hall⟩:=DataW.trod_struct ht h
 have:=O0 (P:=P) (enc:=enc) (w:=w) (n:=n) (cs:=cs) hF (by omega) (fun f hf=>by
  obtain ⟨i,hi,he⟩:=List.mem_iff_getElem.1 hf;have hi':i<fs.size:=by simpa using hi
  have hg:fs[i]? =some f:=by rw [Array.getElem?_eq_getElem hi'];simpa using he
  have:=hall i f hg
  rw [bz (by omega)] at this
  exact ⟨_,this⟩)
 rwa [di] at this
theorem RT.vrl {r:List PT} {a:RT r} {q:List PV} (h:pvL (RT.sv r a)=some q):q=RT.pv r a:=by
 rw [RT.pv_sv] at h;exact (d5 h).symm
theorem VRL.nth {im:Im} {loc:dN}: ∀{p:List PV} {vs:List Value},VRL im loc p vs-> ∀(k:Nat) (c:PV),p[k]? =some c-> ∃v,vs[k]? =some v/\VR im loc c v
 |_::_,_::_,.cons x v xs ws h hs,0,c,hc=>by
  simp at hc;subst hc;exact ⟨v,by simp,h⟩
 |_::_,_::_,.cons x v xs ws h hs,k+1,c,hc=>by
  obtain ⟨u,h1,h2⟩:=VRL.nth hs k c (by simpa using hc)
  exact ⟨u,by simpa using h1,h2⟩
theorem cX.slice {t e:TypeId} {r:List PT} (ht:P.underlying t=some (.slice e)) (he:cX P e (jA r)) (hc:P.cellsOf e=r.length) (hr:0<r.length):cX P t (XB r):=fun H enc w fuel cs x h=>by
 rcases Go.Deep.open_slice ht h with ⟨rfl,_⟩|⟨a,len,cap,m,n,D,Pl,rfl,_,hl,hm,hmm,_,hx⟩
 · exact ⟨[.sl r []],[.sl r.length false []],⟨[],rfl,by simp⟩,rfl,.cons _ _ _ _ (.sl r.length false [] none 0 (fh _) (fun h=>by cases h) (fun h=>absurd rfl h)) .nil⟩
 have hm':len<=m:=by rw [hmm];split<;>omega
 have each: ∀i,i<len-> ∃A:RT r,RT.wf r A/\ ∃cs',w.cells? 0 (a.add (i*r.length)) r.length=some cs'/\VRL (QW w) iD (RT.pv r A) cs':=by
  intro i hi;obtain ⟨cs',h1,h2⟩:=hx i (by omega)
  obtain ⟨vs,q,⟨A,hA,wA⟩,k2,k3⟩:=he H enc w n cs' _ h2;subst hA;rw [RT.vrl k2] at k3;rw [hc] at h1;exact ⟨A,wA,cs',h1,k3⟩
 have ch: ∃A:Nat->RT r,∀i,i<len->RT.wf r (A i)/\ ∃cs',w.cells? 0 (a.add (i*r.length)) r.length=some cs'/\VRL (QW w) iD (RT.pv r (A i)) cs':=by
  classical
  refine ⟨fun i=>if h:i<len then (each i h).choose else RT.zero r,fun i hi=>?_⟩
  simp only [dif_pos hi];exact (each i hi).choose_spec
 obtain ⟨A,hA⟩:=ch;refine ⟨[.sl r ((fv len).map A)],[.sl r.length false (((fv len).map A).map (RT.pv r))],⟨_,rfl,fun x hx=>?_⟩,rfl,.cons _ _ _ _ ?_ .nil⟩
 · obtain ⟨i,hi,rfl⟩:=gc.1 hx
   exact (hA i (List.mem_range.1 hi)).1
 have hlen:(((fv len).map A).map (RT.pv r)).length=len:=by simp
 have:=VR.sl (im:=QW w) (loc:=iD) r.length false (((fv len).map A).map (RT.pv r)) (some a) cap (by rw [hlen];exact hl) (fun h=>by cases h) (fun hne=>by
  have hpos:0<len:=by
   rcases fu len with h|h
   · subst h;exact absurd rfl hne
   exact h
  obtain ⟨_,cs0,h0,_⟩:=hA 0 hpos;obtain ⟨_,hl0,hc0⟩:=gd h0;obtain ⟨b,off,spot⟩:=a;have hspot:spot=none:=by
   have h1:=hc0 0 hr;rw [bz (by omega)] at h1
   simpa [Addr.add] using World.cell?_spot h1
  subst hspot;refine ⟨b,off,rfl,fun i row hrow=>?_⟩
  simp only [List.map_map,List.getElem?_map,c9] at hrow;obtain ⟨j,hj,rfl⟩:=hrow;have hjl:=cY hj
  have:j=i:=by
   rw [List.getElem?_range (by simpa using hjl)] at hj
   exact (d5 hj).symm
  subst this;have hjlen:j<len:=by simpa using hjl
  obtain ⟨_,cs',h1,h2⟩:=hA j hjlen;obtain ⟨_,hl1,hc1⟩:=gd h1;refine ⟨RT.pv_len r (A j),fun k c hk=>?_⟩
  obtain ⟨v,hv,hvr⟩:=VRL.nth h2 k c hk;have hkr:k<r.length:=by
   have:=cY hk
   rwa [Function.comp,RT.pv_len] at this
  have cc:=hc1 k hkr;rw [hv] at cc;rw [Go.WideShapes.add_plain,Go.WideShapes.add_plain] at cc;have hpl:c.plain=true:=dh.1 (RT.plain r (A j)) c (dv hk);exact ⟨v,hvr.plain hpl,aCW cc⟩)
 rw [hlen] at this;exact this
theorem cX.argS {t:TypeId} {fs:Array Field} {K:List SV->Prop} (h:cX P t K) (ht:P.underlying t=some (.struct fs)) {H:Type} {enc:TypeId×Value->H} {w:World} {base:Nat} {v:Value} {d:DataW H} {p:List MemPlace}
 (hv:Value.okWide P w .any base t v) (hd:DataW.Trod enc P w 0 (fun _=>true) true t v d p): ∃vs q,K vs/\pvL vs=some q/\VR (QW w) iD (.agg q) v:=by
 obtain ⟨cs,rfl,_⟩:=okWide_struct ht hv;obtain ⟨fuel,hf⟩:=hd;obtain ⟨vs,q,k1,k2,k3⟩:=h H enc w fuel _ _ hf;exact ⟨vs,q,k1,k2,.agg q _ k3⟩
theorem T8 {n:Int} (h:(Lit.int .i64 n).wf=true): -9223372036854775808<=n/\n<9223372036854775808:=by
 simp only [Lit.wf,bo,decide_eq_true_eq] at h;have e1:IntKind.i64.min= -9223372036854775808:=by decide
 have e2:IntKind.i64.max=9223372036854775807:=by decide
 rw [e1,e2] at h;omega
end
theorem aI.runA {F:qK} {f:FuncId} {x:aM} {α:Type} {A:aC α} {fn:α->Option Bool} (h:aI F f ⟨A,aK.bool,fn,.pure,false⟩) (hf:F f=some (.code x)) {a:α} (hb:fn a=some true) {ps:List PV} (hp:pvL (A.enc a)=some ps) (hx:exL [] (D3 [] fH) ps=some ps):
 ∃n s z,run F n (.func f ps [] [])=some (.func (.bool true) s z):=by
 obtain ⟨n,r,h1,p,h2,rfl⟩:=h a true ps ps [] [] hb hp hx;have hp':p= .bool true:=(d5 h2).symm;subst hp';refine ⟨n,?_⟩;simp only [callPure,hx,hf] at h1;split at h1
 · rename_i v s z hr
   simp only [cj,if_false] at h1;split at h1
   · injection h1 with h1
     injection h1 with h1;subst h1;exact ⟨s,z,hr⟩
   rename_i hn
   split at h1
   · rename_i v' hv
     injection h1 with h1;injection h1 with h1;subst h1;exfalso;cases v with
     |bool b=>exact hn rfl
     |int _ _|str _|sl _ _ _=>injection hv with hv;cases hv
     |agg cs=>simp only [FJ,c9] at hv;obtain ⟨_,_,hv⟩:=hv;cases hv
     |tup cs=>simp only [FJ,c9] at hv;obtain ⟨_,_,hv⟩:=hv;cases hv
     |own t e off len cap ex=>simp only [FJ] at hv;split at hv<;>first|(injection hv with hv;cases hv)|cases hv
     |_=>cases hv
   cases h1
 cases h1
end Go.Vm
