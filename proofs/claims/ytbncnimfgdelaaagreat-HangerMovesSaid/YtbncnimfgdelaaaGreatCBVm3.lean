/- The logical machine, part 3: SvCod, SvRel, SvOps1, SvOps2, SvOps3, SvOps4, SvNorm, SvCall, SvFp, SvRun, SvCon, SvLaw. -/
import Derived.Test.YtbncnimfgdelaaaGreatCBVm2
/- The types of arguments and results, as cells. -/
namespace Go.Vm
theorem G2 {r q:List PT} {l:List (RT r)} {m:List (RT q)} (h:DO r q l=some m): ∃e:r=q,m=e▸l:=by
 unfold DO at h;split at h
 · rename_i hs
   injection h with h;exact ⟨BI hs,h.symm⟩
 · cases h
theorem II {r q:List PT} {l:List (RT r)} {m:List (RT q)} (h:DO r q l=some m):r=q/\m.map (RT.pv q)=l.map (RT.pv r)/\m.length=l.length:=by
 obtain ⟨rfl,rfl⟩:=G2 h;exact ⟨rfl,rfl,rfl⟩
theorem fF {x:SV} {xs:List SV} {ps:List PV}:pvL (x::xs)=some ps↔ ∃p qs,ps=p::qs/\yD x=some p/\pvL xs=some qs:=by
 simp only [pvL];constructor
 · intro h
   split at h
   · rename_i y ys h1 h2
     injection h with h;exact ⟨y,ys,h.symm,h1,h2⟩
   · cases h
 · rintro ⟨p,qs,rfl,h1,h2⟩
   rw [h1,h2]
theorem G3: ∀{xs ys:List SV} {p q:List PV},pvL xs=some p->pvL ys=some q->pvL (xs++ys)=some (p++q)
 | [],ys,p,q,h,k=>by simp only [pvL,Option.some.injEq] at h;subst h;exact k
 |x::xs,ys,p,q,h,k=>by
  obtain ⟨a,as,rfl,h1,h2⟩:=fF.1 h;exact fF.2 ⟨a,as++q,rfl,h1,G3 h2 k⟩
theorem PT.of_some: ∀{p:PT} {v:SV} {a:p.T},p.of v=some a->v=p.sv a
 | .i k,.int l n,a,h=>by
  simp only [PT.of] at h;cases hk:iG l k with
  |false=>rw [hk] at h;cases h
  |true=>
   rw [hk] at h;injection h with h;subst h;rw [hZ.1 hk];rfl
 | .b,.bool x,a,h=>by injection h with h;subst h;rfl
 | .i k,.bool _,a,h=>by cases h
 | .b,.int _ _,a,h=>by cases h
 | .i _,.junk,a,h| .i _,.undef,a,h| .i _,.nul,a,h| .i _,.nilf,a,h| .i _,.str _,a,h| .i _,.agg _,a,h| .i _,.tup _,a,h| .i _,.sl _ _,a,h| .i _,.nil _ _,a,h| .i _,.own _ _,a,h| .i _,.pre _ _ _ _,a,h| .i _,.part _ _ _ _ _,a,h| .i _,.pa _ _ _ _ _,a,h| .i _,.pb _ _ _,a,h| .i _,.bp _ _ _,a,h| .i _,.rptr _ _,a,h| .i _,.clo _ _ _,a,h| .i _,.mp _,a,h=>by cases h
 | .b,.junk,a,h| .b,.undef,a,h| .b,.nul,a,h| .b,.nilf,a,h| .b,.str _,a,h| .b,.agg _,a,h| .b,.tup _,a,h| .b,.sl _ _,a,h| .b,.nil _ _,a,h| .b,.own _ _,a,h| .b,.pre _ _ _ _,a,h| .b,.part _ _ _ _ _,a,h| .b,.pa _ _ _ _ _,a,h| .b,.pb _ _ _,a,h| .b,.bp _ _ _,a,h| .b,.rptr _ _,a,h| .b,.clo _ _ _,a,h| .b,.mp _,a,h=>by cases h
theorem RT.of_some: ∀{r:List PT} {vs:List SV} {a:RT r},RT.of r vs=some a->vs=RT.sv r a
 | [],[],a,_=>rfl
 | [p],[v],a,h=>by
  have:=PT.of_some (p:=p) h
  rw [this];rfl
 |p::q::r,v::vs,a,h=>by
  simp only [RT.of] at h;split at h
  · rename_i x y h1 h2
    injection h with h;subst h;rw [PT.of_some h1,RT.of_some h2];rfl
  · cases h
 | [],_::_,a,h=>by simp [RT.of] at h
 | [p],[],a,h=>by simp [RT.of] at h
 | [p],_::_::_,a,h=>by simp [RT.of] at h
 |_::_::_,[],a,h=>by simp [RT.of] at h
theorem PT.pv_sv (p:PT) (a:p.T):yD (p.sv a)=some (p.pv a):=by cases p<;>rfl
theorem RT.pv_sv: ∀(r:List PT) (a:RT r),pvL (RT.sv r a)=some (RT.pv r a)
 | [],_=>rfl
 | [p],a=>fF.2 ⟨_,_,rfl,PT.pv_sv p a,rfl⟩
 |p::q::r,a=>fF.2 ⟨_,_,rfl,PT.pv_sv p a.1,RT.pv_sv (q::r) a.2⟩
theorem RT.pv_len: ∀(r:List PT) (a:RT r),(RT.pv r a).length=r.length
 | [],_=>rfl
 | [p],a=>rfl
 |p::q::r,a=>by simp [RT.pv,RT.pv_len (q::r) a.2]
theorem RT.sv_len: ∀(r:List PT) (a:RT r),(RT.sv r a).length=r.length
 | [],_=>rfl
 | [p],a=>rfl
 |p::q::r,a=>by simp [RT.sv,RT.sv_len (q::r) a.2]
theorem QK: ∀(n:Nat) {vs:List SV} {ps:List PV},pvL vs=some ps-> ∃p q,ps=p++q/\pvL (vs.take n)=some p/\pvL (vs.drop n)=some q
 |0,vs,ps,h=>⟨[],ps,rfl,by simp [pvL],by simpa using h⟩
 |n+1,[],ps,h=>⟨[],ps,rfl,by simp [pvL],by simpa using h⟩
 |n+1,v::vs,ps,h=>by
  obtain ⟨p,qs,rfl,h1,h2⟩:=fF.1 h;obtain ⟨a,b,rfl,h3,h4⟩:=QK n h2;exact ⟨p::a,b,rfl,by rw [List.take_succ_cons];exact fF.2 ⟨p,a,rfl,h1,h3⟩,by simpa using h4⟩
def cD.int (k:IntKind):cD Int where
 enc n:=[.int k n]
 dec vs:=match vs with
  | .int l n::r=>bif iG l k then some (n,r) else none
  |_=>none
 law:=fun {vs a rest ps} h hp=>by
  split at h
  · rename_i l n r
    cases hk:iG l k with
    |false=>rw [hk] at h;cases h
    |true=>
     rw [hk] at h;simp only [cond_true,Option.some.injEq,Prod.mk.injEq] at h;obtain ⟨rfl,rfl⟩:=h;obtain ⟨p,qs,rfl,h1,h2⟩:=fF.1 hp;rw [hZ.1 hk] at h1;exact ⟨[p],qs,rfl,fF.2 ⟨p,[],rfl,h1,rfl⟩,h2⟩
  · cases h
def cD.bool:cD Bool where
 enc n:=[.bool n]
 dec vs:=match vs with
  | .bool n::r=>some (n,r)
  |_=>none
 law:=fun {vs a rest ps} h hp=>by
  split at h
  · simp only [Option.some.injEq,Prod.mk.injEq] at h
    obtain ⟨rfl,rfl⟩:=h;obtain ⟨p,qs,rfl,h1,h2⟩:=fF.1 hp;exact ⟨[p],qs,rfl,fF.2 ⟨p,[],rfl,h1,rfl⟩,h2⟩
  · cases h
def aAr (r:List PT):SV->Option (List (RT r))
 | .sl q l=>DO q r l
 | .nil e c=>bif Nat.beq e r.length&&!c then some [] else none
 |_=>none
theorem QL {r:List PT} {v:SV} {l:List (RT r)} {p:PV} (h:aAr r v=some l) (hp:yD v=some p):yD (.sl r l)=some p:=by
 cases v with
 |sl q m=>
  obtain ⟨rfl,h2,_⟩:=II h;rw [<- hp];simp only [yD,h2]
 |nil e c=>
  simp only [aAr] at h;cases hc:(Nat.beq e r.length&&!c) with
  |false=>rw [hc] at h;cases h
  |true=>
   rw [hc] at h;injection h with h;subst h;simp only [Bool.and_eq_true,Nat.beq_eq,Bool.not_eq_true'] at hc;obtain ⟨rfl,rfl⟩:=hc;rw [<- hp];rfl
 |_=>cases h
def cD.sl (r:List PT):cD (List (RT r)) where
 enc l:=[.sl r l]
 dec vs:=match vs with
  |v::rest=>match aAr r v with
   |some l=>some (l,rest)
   |none=>none
  | []=>none
 law:=fun {vs a rest ps} h hp=>by
  split at h
  · split at h
    · rename_i v r' x l hl
      simp only [Option.some.injEq,Prod.mk.injEq] at h;obtain ⟨rfl,rfl⟩:=h;obtain ⟨p,qs,rfl,h1,h2⟩:=fF.1 hp;exact ⟨[p],qs,rfl,fF.2 ⟨p,[],rfl,QL hl h1,rfl⟩,h2⟩
    · cases h
  · cases h
def cD.row (r:List PT):cD (RT r) where
 enc:=RT.sv r
 dec vs:=match RT.of r (vs.take r.length) with
  |some a=>some (a,vs.drop r.length)
  |none=>none
 law:=fun {vs a rest ps} h hp=>by
  split at h
  · rename_i x hx
    simp only [Option.some.injEq,Prod.mk.injEq] at h;obtain ⟨rfl,rfl⟩:=h;obtain ⟨p,q,rfl,h1,h2⟩:=QK r.length hp;rw [RT.of_some hx] at h1;exact ⟨p,q,rfl,h1,h2⟩
  · cases h
def cD.prod {α β:Type} (A:cD α) (B:cD β):cD (α×β) where
 enc p:=A.enc p.1++B.enc p.2
 dec vs:=match A.dec vs with
  |some p=>match B.dec p.2 with
   |some q=>some ((p.1,q.1),q.2)
   |none=>none
  |none=>none
 law:=fun {vs a rest ps} h hp=>by
  split at h
  · rename_i p hA
    split at h
    · rename_i q hB
      simp only [Option.some.injEq,Prod.mk.injEq] at h;obtain ⟨rfl,rfl⟩:=h;obtain ⟨p1,p2,rfl,h1,h2⟩:=A.law (a:=p.1) (rest:=p.2) hA hp;obtain ⟨q1,q2,rfl,h3,h4⟩:=B.law (a:=q.1) (rest:=q.2) hB h2;exact ⟨p1++q1,q2,by simp,G3 h1 h3,h4⟩
    · cases h
  · cases h
def cD.iso {α β:Type} (A:cD α) (f:α->β) (g:β->α) (h: ∀a,g (f a)=a):cD β where
 enc b:=A.enc (g b)
 dec vs:=match A.dec vs with
  |some p=>some (f p.1,p.2)
  |none=>none
 law:=fun {vs a rest ps} hd hp=>by
  split at hd
  · rename_i p hA
    simp only [Option.some.injEq,Prod.mk.injEq] at hd;obtain ⟨rfl,rfl⟩:=hd;rw [h];exact A.law hA hp
  · cases hd
def aH.int (k:IntKind):aH Int where
 enc n:= .int k n
 dec v:=match v with
  | .int l n=>bif iG l k then some n else none
  |_=>none
 law:=fun {v a p} h hp=>by
  split at h
  · rename_i l n
    cases hk:iG l k with
    |false=>rw [hk] at h;cases h
    |true=>rw [hk] at h;injection h with h;subst h;rw [hZ.1 hk] at hp;exact hp
  · cases h
def aH.bool:aH Bool where
 enc n:= .bool n
 dec v:=match v with
  | .bool n=>some n
  |_=>none
 law:=fun {v a p} h hp=>by
  split at h
  · injection h with h;subst h;exact hp
  · cases h
def aH.sl (r:List PT):aH (List (RT r)) where
 enc l:= .sl r l
 dec:=aAr r
 law:=QL
def aH.agg {α:Type} (A:cD α):aH α where
 enc a:= .agg (A.enc a)
 dec v:=match v with
  | .agg cs=>match A.dec cs with
   |some p=>match p.2 with
    | []=>some p.1
    |_=>none
   |none=>none
  |_=>none
 law:=fun {v a p} h hp=>by
  split at h
  · rename_i cs
    split at h
    · rename_i q hA
      obtain ⟨x,rest⟩:=q;dsimp only at h;cases rest with
      |cons _ _=>cases h
      |nil=>
       injection h with h;subst h;simp only [yD] at hp;cases hc:pvL cs with
       |none=>rw [hc] at hp;cases hp
       |some l=>
        rw [hc] at hp;injection hp with hp;subst hp;obtain ⟨p1,p2,rfl,h1,h2⟩:=A.law hA hc;simp only [pvL,Option.some.injEq] at h2;subst h2;simp only [yD,h1,List.append_nil]
    · cases h
  · cases h
def aH.ref {α:Type} (A:cD α):aH α where
 enc a:= .rptr (A.enc a) 0
 dec v:=match v with
  | .rptr cs 0=>match A.dec cs with
   |some p=>match p.2 with
    | []=>some p.1
    |_=>none
   |none=>none
  |_=>none
 law:=fun {v a p} h hp=>by
  split at h
  · rename_i cs
    split at h
    · rename_i q hA
      obtain ⟨x,rest⟩:=q;dsimp only at h;cases rest with
      |cons _ _=>cases h
      |nil=>
       injection h with h;subst h;simp only [yD] at hp;cases hc:pvL cs with
       |none=>rw [hc] at hp;cases hp
       |some l=>
        rw [hc] at hp;injection hp with hp;subst hp;obtain ⟨p1,p2,rfl,h1,h2⟩:=A.law hA hc;simp only [pvL,Option.some.injEq] at h2;subst h2;simp only [yD,h1,List.append_nil]
    · cases h
  · cases h
def aC.nil:aC Unit where
 enc _:=[]
 dec vs:=match vs with
  | []=>some ()
  |_=>none
 law:=fun {vs a ps} h hp=>by
  split at h
  · exact hp
  · cases h
def aC.one {α:Type} (A:aH α):aC α where
 enc a:=[A.enc a]
 dec vs:=match vs with
  | [v]=>A.dec v
  |_=>none
 law:=fun {vs a ps} h hp=>by
  split at h
  · obtain ⟨p,qs,rfl,h1,h2⟩:=fF.1 hp
    exact fF.2 ⟨p,qs,rfl,A.law h h1,h2⟩
  · cases h
def aC.cons {α β:Type} (A:aH α) (B:aC β):aC (α×β) where
 enc a:=A.enc a.1::B.enc a.2
 dec vs:=match vs with
  |v::r=>match A.dec v with
   |some x=>match B.dec r with
    |some y=>some (x,y)
    |none=>none
   |none=>none
  | []=>none
 law:=fun {vs a ps} h hp=>by
  split at h
  · split at h
    · rename_i x hx
      split at h
      · rename_i y hy
        injection h with h;subst h;obtain ⟨p,qs,rfl,h1,h2⟩:=fF.1 hp;exact fF.2 ⟨p,qs,rfl,A.law hx h1,B.law hy h2⟩
      · cases h
    · cases h
  · cases h
def aH.tup {α:Type} (A:aC α):aH α where
 enc a:= .tup (A.enc a)
 dec v:=match v with
  | .tup vs=>A.dec vs
  |_=>none
 law:=fun {v a p} h hp=>by
  split at h
  · rename_i vs
    simp only [yD] at hp;cases hc:pvL vs with
    |none=>rw [hc] at hp;cases hp
    |some l=>
     rw [hc] at hp;injection hp with hp;subst hp;simp only [yD,A.law h hc]
  · cases h
def aH.clo {α:Type} (f:FuncId) (A:aC α):aH α where
 enc a:= .clo f [] (A.enc a)
 dec v:=match v with
  | .clo g [] b=>bif Nat.beq g f then A.dec b else none
  |_=>none
 law:=fun {v a p} h hp=>by
  split at h
  · rename_i g b
    cases hg:Nat.beq g f with
    |false=>rw [hg] at h;cases h
    |true=>
     rw [hg] at h
     have:=Nat.eq_of_beq_eq_true hg
     subst this;simp only [yD,pvL] at hp ⊢;cases hc:pvL b with
     |none=>rw [hc] at hp;cases hp
     |some l=>
      rw [hc] at hp;rw [A.law h hc];exact hp
  · cases h
def bM.clone (r:List PT):bM:=⟨.one (.sl r),.sl r,bX,.own,false⟩
def tU (a b c:Int):Option (Int×Int):=bif decide (0<=a)&&decide (0<=b)&&decide (0<=c)&&decide (c<=1) then some ((a+b+c)%18446744073709551616,(a+b+c) / 18446744073709551616) else none
def bM.add64:bM:=⟨.cons (.int .u64) (.cons (.int .u64) (.one (.int .u64))),.tup (.cons (.int .u64) (.one (.int .u64))),fun a=>tU a.1 a.2.1 a.2.2,.pure,false⟩
def U1:List (Nat×bM)->FuncId->List bM
 | [],_=>[]
 |(g,c)::r,f=>bif Nat.beq g f then c::U1 r f else U1 r f
def U2:List (Nat×eH)->FuncId->List eH
 | [],_=>[]
 |(g,c)::r,f=>bif Nat.beq g f then c::U2 r f else U2 r f
def SD:List (Nat×Cd)->FuncId->Option Cd
 | [],_=>none
 |(g,c)::r,f=>bif Nat.beq g f then some c else SD r f
def pQ (lp:Option Nat) (c:List (Nat×bM)) (p:List (Nat×eH)) (x:List (Nat×Cd)) (rk:List (Nat×List PT)):Ctx:=⟨lp,U1 c,U2 p,SD x,rk⟩
end Go.Vm
/- What a typed value says of a value of the logical machine. -/
namespace Go.Vm
def aDk (s:List SB) (t e n:Nat):Prop:=(∃r l,s[t]? =some (.arr r l)/\e=r.length/\n=l.length)\/s[t]? =some .dead
def GF (s:List SB) (t e:Nat):Prop:=(∃r l,s[t]? =some (.arr r l)/\e=r.length)\/s[t]? =some .dead
def aDl (s:List SB) (t:Nat) (r:List PT) (i:Int) (a:RT r):Prop:=(∃l,s[t]? =some (.arr r l)/\aN l i=some a)\/s[t]? =some .dead
def aMA (s:List SB) (t:Nat) (i:Int):Prop:=(∃r l,s[t]? =some (.arr r l)/\(aN l i).isSome=true)\/s[t]? =some .dead
mutual
def R (s:List SB):SV->PV->Prop
 | .junk,_=>True
 | .undef,v=>v= .undef
 | .nul,v=>v= .nul
 | .nilf,v=>v= .nilf
 | .int k n,v=>v= .int k n
 | .bool b,v=>v= .bool b
 | .str x,v=>v= .str x
 | .agg cs,v=> ∃ps,v= .agg ps/\RL s cs ps
 | .tup cs,v=> ∃ps,v= .tup ps/\RL s cs ps
 | .sl r l,v=>v= .sl r.length false (l.map (RT.pv r))
 | .nil e c,v=>v= .sl e c []
 | .own t ex,v=> ∃e n,v= .own t e 0 n n ex/\aDk s t e n
 | .pre t len cap ex,v=> ∃e,v= .own t e 0 len cap ex/\GF s t e
 | .part t off len cap ex,v=> ∃e,v= .own t e off len cap ex/\GF s t e
 | .pa t r i a off,v=>v= .ptr t r.length i.toNat off/\aDl s t r i a
 | .pb t i off,v=> ∃e,v= .ptr t e i.toNat off/\aMA s t i
 | .bp t n off,v=>v= .ptr t n 0 off
 | .rptr cs off,v=> ∃ps,v= .rptr ps off/\RL s cs ps
 | .clo f a b,v=> ∃pa pb,v= .clo f pa pb/\RL s a pa/\RL s b pb
 | .mp t,v=>v= .mp t
def RL (s:List SB):List SV->List PV->Prop
 | [],ps=>ps=[]
 |x::xs,ps=> ∃p q,ps=p::q/\R s x p/\RL s xs q
end
def zG:List Int->PV
 | [a]=> .int .i64 a
 |l=> .agg (l.map (.int .i64))
def IJ (k:List Int):PV×PV:=(zG k,.bool true)
def L6 (p:PT) (a:RT [.i .i64,p]):PV×PV:=(.int .i64 a.1,p.pv a.2)
def RB (s:List SB):SB->oC->Prop
 | .arr r l,b=>b= .arr r.length (l.map (RT.pv r))
 | .box cs,b=> ∃ps,b= .box ps/\RL s cs ps
 | .set l,b=>b= .map (l.map IJ)
 | .tab p l,b=>b= .map (l.map (L6 p))
 | .dead,b=>b= .dead
structure cX (s:List SB) (p:cV):Prop where
 len:p.length=s.length
 at_: ∀(t:Nat) (b:SB),s[t]? =some b-> ∃q,p[t]? =some q/\RB s b q
def eL (s:List SB):SE->zA->Prop
 | [],e=>e=[]
 |(t,v)::r,e=> ∃p q,e=(t,p)::q/\R s v p/\eL s r q
structure GG (st:vV) (p:St):Prop where
 env:eL st.sto st.env p.env
 sto:cX st.sto p.sto
 fz:p.fz=st.fz
 kn:p.kn=st.kn
theorem qC: ∀(s l:List SB),apS s l=s++l
 | [],_=>rfl
 |b::r,l=>by simp [apS,qC r l]
theorem IK: ∀(s:List SB) (t:Nat) (b:SB),aDf s t b=s.set t b
 | [],_,_=>by simp [aDf]
 |_::_,0,_=>rfl
 |x::r,n+1,b=>by simp [aDf,IK r n b]
theorem RL.nil {s:List SB}:RL s [] []:=rfl
theorem RL.cons {s:List SB} {x:SV} {xs:List SV} {p:PV} {q:List PV} (h:R s x p) (k:RL s xs q):RL s (x::xs) (p::q):=⟨p,q,rfl,h,k⟩
theorem RL.cons_inv {s:List SB} {x:SV} {xs:List SV} {ps:List PV} (h:RL s (x::xs) ps): ∃p q,ps=p::q/\R s x p/\RL s xs q:=h
theorem RL.length {s:List SB}: ∀{xs:List SV} {ps:List PV},RL s xs ps->ps.length=xs.length
 | [],ps,h=>by rw [show ps=[] from h];rfl
 |x::xs,ps,h=>by
  obtain ⟨p,q,rfl,_,h2⟩:=h.cons_inv;simp [h2.length]
theorem RL.append {s:List SB}: ∀{xs:List SV} {ps:List PV},RL s xs ps-> ∀{ys:List SV} {qs:List PV},RL s ys qs->RL s (xs++ys) (ps++qs)
 | [],ps,h,_,_,k=>by rw [show ps=[] from h];exact k
 |x::xs,ps,h,_,_,k=>by
  obtain ⟨p,q,rfl,h1,h2⟩:=h.cons_inv;exact RL.cons h1 (h2.append k)
theorem RL.take {s:List SB}: ∀{xs:List SV} {ps:List PV},RL s xs ps-> ∀n,RL s (xs.take n) (ps.take n)
 | [],ps,h,n=>by rw [show ps=[] from h];simp;exact RL.nil
 |x::xs,ps,h,0=>by simp;exact RL.nil
 |x::xs,ps,h,n+1=>by
  obtain ⟨p,q,rfl,h1,h2⟩:=h.cons_inv;exact RL.cons h1 (h2.take n)
theorem RL.drop {s:List SB}: ∀{xs:List SV} {ps:List PV},RL s xs ps-> ∀n,RL s (xs.drop n) (ps.drop n)
 | [],ps,h,n=>by rw [show ps=[] from h];simp;exact RL.nil
 |x::xs,ps,h,0=>h
 |x::xs,ps,h,n+1=>by
  obtain ⟨p,q,rfl,h1,h2⟩:=h.cons_inv;exact h2.drop n
theorem RL.nth {s:List SB}: ∀{xs:List SV} {ps:List PV},RL s xs ps-> ∀{n:Nat} {v:SV},Vm.nth xs n=some v-> ∃p,ps[n]? =some p/\R s v p
 | [],_,_,_,_,e=>by cases e
 |x::xs,ps,h,0,v,e=>by
  obtain ⟨p,q,rfl,h1,_⟩:=h.cons_inv;injection e with e;subst e;exact ⟨p,rfl,h1⟩
 |x::xs,ps,h,n+1,v,e=>by
  obtain ⟨p,q,rfl,_,h2⟩:=h.cons_inv;obtain ⟨p',h3,h4⟩:=h2.nth (n:=n) e;exact ⟨p',by simpa using h3,h4⟩
mutual
theorem YG (s:List SB): ∀v:PV,R s (aFb v) v
 | .undef=>rfl
 | .nul=>rfl
 | .nilf=>rfl
 | .int _ _=>rfl
 | .bool _=>rfl
 | .str _=>rfl
 | .agg cs=>⟨cs,rfl,ofPVL_R s cs⟩
 | .tup cs=>⟨cs,rfl,ofPVL_R s cs⟩
 | .sl e c rows=>by
  cases rows with
  |nil=>exact rfl
  |cons _ _=>trivial
 | .clo f a b=>⟨a,b,rfl,ofPVL_R s a,ofPVL_R s b⟩
 | .own .. =>trivial
 | .ptr .. =>trivial
 | .rptr .. =>trivial
 | .mp _=>trivial
theorem ofPVL_R (s:List SB): ∀l:List PV,RL s (ofPVL l) l
 | []=>rfl
 |x::xs=>RL.cons (YG s x) (ofPVL_R s xs)
end
theorem eL.lk {s:List SB}: ∀{e:SE} {p:zA},eL s e p-> ∀t,R s (PU t e) (Vm.lk t p)
 | [],p,h,t=>by rw [show p=[] from h];rfl
 |(u,v)::r,p,h,t=>by
  obtain ⟨q,qs,rfl,h1,h2⟩:=h;simp only [PU,Vm.lk];cases hb:Nat.beq u t with
  |true=>exact h1
  |false=>exact eL.lk h2 t
theorem eL.setS {s:List SB}: ∀{e:SE} {p:zA},eL s e p-> ∀{t:Nat} {v:SV},R s v (Vm.lk t p)->eL s (Vm.setS t v e) p
 | [],p,h,t,v,_=>h
 |(u,x)::r,p,h,t,v,hv=>by
  obtain ⟨q,qs,rfl,h1,h2⟩:=h;simp only [Vm.setS];simp only [Vm.lk] at hv;cases hb:Nat.beq u t with
  |true=>rw [hb] at hv;exact ⟨q,qs,rfl,hv,h2⟩
  |false=>rw [hb] at hv;exact ⟨q,qs,rfl,h1,eL.setS h2 hv⟩
theorem eJ {s:List SB} {e:SE} {p:zA} (h:eL s e p): ∀x:gU,R s (cB e x) (x.ev p)
 | .t n=>h.lk n
 | .c v=>YG s v
theorem FG {s:List SB} {e:SE} {p:zA} (h:eL s e p): ∀l:List gU,RL s (mE e l) (MS p l)
 | []=>rfl
 |x::xs=>RL.cons (eJ h x) (FG h xs)
def Fr (bad:List Nat) (s s':List SB):Prop:= ∀(t:Nat) (b:SB),s[t]? =some b->match b with
 | .arr r l=>(∃l',s'[t]? =some (.arr r l')/\l'.length=l.length/\(has bad t=false->l'=l))\/s'[t]? =some .dead
 | .dead=>s'[t]? =some .dead
 |_=>True
theorem Fr.refl (bad:List Nat) (s:List SB):Fr bad s s:=fun t b h=>by
 cases b with
 |arr r l=>exact .inl ⟨l,h,rfl,fun _=>rfl⟩
 |dead=>exact h
 |_=>trivial
theorem Fr.app (bad:List Nat) (s l:List SB):Fr bad s (s++l):=fun t b h=>by
 have h':(s++l)[t]? =some b:=by
  have:=(List.getElem?_eq_some_iff.1 h).1
  rw [List.getElem?_append_left this];exact h
 cases b with
 |arr r l=>exact .inl ⟨l,h',rfl,fun _=>rfl⟩
 |dead=>exact h'
 |_=>trivial
theorem Fr.trans {bad:List Nat} {a b c:List SB} (h:Fr bad a b) (k:Fr bad b c):Fr bad a c:=fun t x hx=>by
 have h1:=h t x hx;cases x with
 |arr r l=>
  rcases h1 with ⟨l',h2,h3,h4⟩|h2
  · have k1:=k t _ h2
    rcases k1 with ⟨l2,k2,k3,k4⟩|k2
    · exact .inl ⟨l2,k2,k3.trans h3,fun hb=>(k4 hb).trans (h4 hb)⟩
    · exact .inr k2
  · exact .inr (k t _ h2)
 |dead=>exact k t _ h1
 |_=>trivial
theorem LJ {α:Type} {l m:List α} {i:Int} (h:(aN l i).isSome=true) (hl:m.length=l.length):(aN m i).isSome=true:=by
 cases i with
 |ofNat n=>
  simp only [aN] at h ⊢;rw [Option.isSome_iff_exists] at h;obtain ⟨a,ha⟩:=h
  have:=(List.getElem?_eq_some_iff.1 ha).1
  rw [List.getElem?_eq_getElem (by omega)];rfl
 |negSucc n=>simp [aN] at h
mutual
theorem R.fr {bad:List Nat} {s s':List SB} (hf:Fr bad s s'): ∀{v:SV} {p:PV},R s v p->R s' (dgV bad v) p
 | .junk,_,_=>trivial
 | .undef,_,h=>h
 | .nul,_,h=>h
 | .nilf,_,h=>h
 | .int _ _,_,h=>h
 | .bool _,_,h=>h
 | .str _,_,h=>h
 | .agg cs,_,h=>by obtain ⟨ps,rfl,h⟩:=h;exact ⟨ps,rfl,RL.fr hf h⟩
 | .tup cs,_,h=>by obtain ⟨ps,rfl,h⟩:=h;exact ⟨ps,rfl,RL.fr hf h⟩
 | .sl _ _,_,h=>h
 | .nil _ _,_,h=>h
 | .own t ex,_,h=>by
  obtain ⟨e,n,rfl,h⟩:=h;refine ⟨e,n,rfl,?_⟩;rcases h with ⟨r,l,h1,h2,h3⟩|h1
  · rcases hf t _ h1 with ⟨l',k1,k2,_⟩|k1
    · exact .inl ⟨r,l',k1,h2,by rw [h3,k2]⟩
    · exact .inr k1
  · exact .inr (hf t _ h1)
 | .pre t len cap ex,_,h=>by
  obtain ⟨e,rfl,h⟩:=h;refine ⟨e,rfl,?_⟩;rcases h with ⟨r,l,h1,h2⟩|h1
  · rcases hf t _ h1 with ⟨l',k1,_,_⟩|k1
    · exact .inl ⟨r,l',k1,h2⟩
    · exact .inr k1
  · exact .inr (hf t _ h1)
 | .part t off len cap ex,_,h=>by
  obtain ⟨e,rfl,h⟩:=h;refine ⟨e,rfl,?_⟩;rcases h with ⟨r,l,h1,h2⟩|h1
  · rcases hf t _ h1 with ⟨l',k1,_,_⟩|k1
    · exact .inl ⟨r,l',k1,h2⟩
    · exact .inr k1
  · exact .inr (hf t _ h1)
 | .pa t r i a off,_,h=>by
  obtain ⟨rfl,h⟩:=h;simp only [dgV];cases hb:has bad t with
  |true=>
   refine ⟨_,rfl,?_⟩;rcases h with ⟨l,h1,h2⟩|h1
   · rcases hf t _ h1 with ⟨l',k1,k2,_⟩|k1
     · exact .inl ⟨r,l',k1,LJ (by rw [h2];rfl) k2⟩
     · exact .inr k1
   · exact .inr (hf t _ h1)
  |false=>
   refine ⟨rfl,?_⟩;rcases h with ⟨l,h1,h2⟩|h1
   · rcases hf t _ h1 with ⟨l',k1,_,k3⟩|k1
     · exact .inl ⟨l',k1,by rw [k3 hb];exact h2⟩
     · exact .inr k1
   · exact .inr (hf t _ h1)
 | .pb t i off,_,h=>by
  obtain ⟨e,rfl,h⟩:=h;refine ⟨e,rfl,?_⟩;rcases h with ⟨r,l,h1,h2⟩|h1
  · rcases hf t _ h1 with ⟨l',k1,k2,_⟩|k1
    · exact .inl ⟨r,l',k1,LJ h2 k2⟩
    · exact .inr k1
  · exact .inr (hf t _ h1)
 | .bp _ _ _,_,h=>h
 | .rptr cs off,_,h=>by obtain ⟨ps,rfl,h⟩:=h;exact ⟨ps,rfl,RL.fr hf h⟩
 | .clo f a b,_,h=>by obtain ⟨pa,pb,rfl,h1,h2⟩:=h;exact ⟨pa,pb,rfl,RL.fr hf h1,RL.fr hf h2⟩
 | .mp _,_,h=>h
theorem RL.fr {bad:List Nat} {s s':List SB} (hf:Fr bad s s'): ∀{v:List SV} {p:List PV},RL s v p->RL s' (dgL bad v) p
 | [],_,h=>h
 |x::xs,_,h=>by
  obtain ⟨p,q,rfl,h1,h2⟩:=h.cons_inv;exact RL.cons (R.fr hf h1) (RL.fr hf h2)
end
mutual
theorem aAs: ∀v:SV,dgV [] v=v
 | .junk| .undef| .nul| .nilf| .int _ _| .bool _| .str _| .sl _ _| .nil _ _| .own _ _| .pre _ _ _ _| .part _ _ _ _ _| .pb _ _ _| .bp _ _ _| .mp _=>rfl
 | .agg cs=>by simp only [dgV,dgL_nil cs]
 | .tup cs=>by simp only [dgV,dgL_nil cs]
 | .rptr cs _=>by simp only [dgV,dgL_nil cs]
 | .clo _ a b=>by simp only [dgV,dgL_nil a,dgL_nil b]
 | .pa t r i a off=>by simp [dgV,has]
theorem dgL_nil: ∀v:List SV,dgL [] v=v
 | []=>rfl
 |x::xs=>by simp only [dgL,aAs x,dgL_nil xs]
end
theorem R.ext {s s':List SB} (hf:Fr [] s s') {v:SV} {p:PV} (h:R s v p):R s' v p:=by
 have:=R.fr hf h
 rwa [aAs] at this
theorem RL.ext {s s':List SB} (hf:Fr [] s s') {v:List SV} {p:List PV} (h:RL s v p):RL s' v p:=by
 have:=RL.fr hf h
 rwa [dgL_nil] at this
theorem RB.fr {bad:List Nat} {s s':List SB} (hf:Fr bad s s') {b:SB} {p:oC} (h:RB s b p):RB s' (dgB bad b) p:=by
 cases b with
 |box cs=>obtain ⟨ps,rfl,h⟩:=h;exact ⟨ps,rfl,RL.fr hf h⟩
 |_=>exact h
theorem RB.ext {s s':List SB} (hf:Fr [] s s') {b:SB} {p:oC} (h:RB s b p):RB s' b p:=by
 cases b with
 |box cs=>obtain ⟨ps,rfl,h⟩:=h;exact ⟨ps,rfl,RL.ext hf h⟩
 |_=>exact h
theorem eL.fr {bad:List Nat} {s s':List SB} (hf:Fr bad s s'): ∀{e:SE} {p:zA},eL s e p->eL s' (dgE bad e) p
 | [],_,h=>h
 |(t,v)::r,_,h=>by
  obtain ⟨p,q,rfl,h1,h2⟩:=h;exact ⟨p,q,rfl,R.fr hf h1,eL.fr hf h2⟩
theorem eL.ext {s s':List SB} (hf:Fr [] s s'): ∀{e:SE} {p:zA},eL s e p->eL s' e p
 | [],_,h=>h
 |(t,v)::r,_,h=>by
  obtain ⟨p,q,rfl,h1,h2⟩:=h;exact ⟨p,q,rfl,R.ext hf h1,eL.ext hf h2⟩
theorem cX.app {s:List SB} {p:cV} (h:cX s p) {l:List SB} {q:cV} (hl:q.length=l.length) (hb: ∀(j:Nat) (b:SB),l[j]? =some b-> ∃x,q[j]? =some x/\RB (s++l) b x):cX (s++l) (p++q) where
 len:=by simp [h.len,hl]
 at_:=fun t b ht=>by
  rcases Nat.lt_or_ge t s.length with hlt|hge
  · rw [List.getElem?_append_left hlt] at ht
    obtain ⟨x,h1,h2⟩:=h.at_ t b ht;exact ⟨x,by rw [List.getElem?_append_left (by rw [h.len];exact hlt)];exact h1,h2.ext (Fr.app [] s l)⟩
  · rw [List.getElem?_append_right hge] at ht
    obtain ⟨x,h1,h2⟩:=hb _ b ht;exact ⟨x,by rw [List.getElem?_append_right (by rw [h.len];exact hge),h.len];exact h1,h2⟩
theorem CD (ts:List Nat): ∀(s:List SB) (t:Nat),(KB ts s)[t]? =(s[t]?).map (dgB ts)
 | [],t=>by simp [KB]
 |b::r,0=>by simp [KB]
 |b::r,t+1=>by simp [KB,CD ts r t]
theorem FH (ts:List Nat): ∀(s:List SB),(KB ts s).length=s.length
 | []=>rfl
 |b::r=>by simp [KB,FH ts r]
theorem Fr.dg {bad ts:List Nat} {s s':List SB} (h:Fr bad s s'):Fr bad s (KB ts s'):=fun t b hb=>by
 have h1:=h t b hb;cases b with
 |arr r l=>
  rcases h1 with ⟨l',h2,h3,h4⟩|h2
  · exact .inl ⟨l',by rw [CD,h2];rfl,h3,h4⟩
  · exact .inr (by rw [CD,h2];rfl)
 |dead=>show (KB ts s')[t]? =_;rw [CD,h1];rfl
 |_=>trivial
theorem QM {s:List SB}: ∀(r:List PT) (a:RT r),RL s (RT.sv r a) (RT.pv r a)
 | [],_=>rfl
 | [p],a=>by refine RL.cons ?_ RL.nil;cases p<;>rfl
 |p::q::r,a=>by refine RL.cons ?_ (QM (q::r) a.2);cases p<;>rfl
theorem FI {s:List SB}: ∀(r:List PT) (a:RT r) {ps:List PV},RL s (RT.sv r a) ps->ps=RT.pv r a
 | [],_,ps,h=>h
 | [p],a,ps,h=>by
  obtain ⟨x,q,rfl,h1,h2⟩:=h.cons_inv;have h2':q=[]:=h2;subst h2';cases p<;>(have h1':=h1;simp only [PT.sv,R] at h1';rw [h1'];rfl)
 |p::q::r,a,ps,h=>by
  obtain ⟨x,qs,rfl,h1,h2⟩:=h.cons_inv;rw [FI (q::r) a.2 h2];cases p<;>(have h1':=h1;simp only [PT.sv,R] at h1';rw [h1'];rfl)
theorem RT.plain: ∀(r:List PT) (a:RT r),(RT.pv r a).all PV.plain=true
 | [],_=>rfl
 | [p],a=>by cases p<;>rfl
 |p::q::r,a=>by
  have:=RT.plain (q::r) a.2
  cases p<;>(simp only [RT.pv,List.all_cons,this,Bool.and_true];rfl)
theorem R.cells {s:List SB} {v:SV} {p:PV} (h:R s v p) (hj:v≠ .junk):RL s v.cells p.cells:=by
 cases v with
 |junk=>exact absurd rfl hj
 |agg cs=>obtain ⟨ps,rfl,h⟩:=h;exact h
 |undef=>rw [show p= .undef from h];exact RL.cons rfl RL.nil
 |nul=>rw [show p= .nul from h];exact RL.cons rfl RL.nil
 |nilf=>rw [show p= .nilf from h];exact RL.cons rfl RL.nil
 |int k n=>rw [show p= .int k n from h];exact RL.cons rfl RL.nil
 |bool b=>rw [show p= .bool b from h];exact RL.cons rfl RL.nil
 |str x=>rw [show p= .str x from h];exact RL.cons rfl RL.nil
 |sl r l=>rw [show p=_ from h];exact RL.cons rfl RL.nil
 |nil e c=>rw [show p=_ from h];exact RL.cons rfl RL.nil
 |bp t n o=>rw [show p=_ from h];exact RL.cons rfl RL.nil
 |mp t=>rw [show p=_ from h];exact RL.cons rfl RL.nil
 |tup cs=>obtain ⟨ps,rfl,h⟩:=h;exact RL.cons ⟨ps,rfl,h⟩ RL.nil
 |own t ex=>obtain ⟨e,n,rfl,h⟩:=h;exact RL.cons ⟨e,n,rfl,h⟩ RL.nil
 |pre t a b c=>obtain ⟨e,rfl,h⟩:=h;exact RL.cons ⟨e,rfl,h⟩ RL.nil
 |part t o a b c=>obtain ⟨e,rfl,h⟩:=h;exact RL.cons ⟨e,rfl,h⟩ RL.nil
 |pa t r i a o=>obtain ⟨rfl,h⟩:=h;exact RL.cons ⟨rfl,h⟩ RL.nil
 |pb t i o=>obtain ⟨e,rfl,h⟩:=h;exact RL.cons ⟨e,rfl,h⟩ RL.nil
 |rptr cs o=>obtain ⟨ps,rfl,h⟩:=h;exact RL.cons ⟨ps,rfl,h⟩ RL.nil
 |clo f a b=>obtain ⟨pa,pb,rfl,h⟩:=h;exact RL.cons ⟨pa,pb,rfl,h⟩ RL.nil
theorem R.isOne {s:List SB} {v:SV} {p:PV} (h:R s v p) (ho:v.isOne=true):p.isOne=true:=by
 cases v with
 |junk|undef|nul|agg _|tup _=>cases ho
 |nilf|int _ _|bool _|str _|sl _ _|nil _ _|bp _ _ _|mp _=>rw [show p=_ from h];rfl
 |own t ex=>obtain ⟨e,n,rfl,h⟩:=h;rfl
 |pre t a b c=>obtain ⟨e,rfl,h⟩:=h;rfl
 |part t o a b c=>obtain ⟨e,rfl,h⟩:=h;rfl
 |pa t r i a o=>obtain ⟨rfl,h⟩:=h;rfl
 |pb t i o=>obtain ⟨e,rfl,h⟩:=h;rfl
 |rptr cs o=>obtain ⟨ps,rfl,h⟩:=h;rfl
 |clo f a b=>obtain ⟨pa,pb,rfl,h⟩:=h;rfl
theorem RL.allOne {s:List SB}: ∀{cs:List SV} {ps:List PV},RL s cs ps->Vm.allOne cs=true->ps.all PV.isOne=true
 | [],ps,h,_=>by rw [show ps=[] from h];rfl
 |x::xs,ps,h,ho=>by
  obtain ⟨p,q,rfl,h1,h2⟩:=h.cons_inv;simp only [Vm.allOne,Bool.and_eq_true] at ho;simp only [List.all_cons,Bool.and_eq_true];exact ⟨h1.isOne ho.1,h2.allOne ho.2⟩
theorem R.stored {s:List SB} {v:SV} {p:PV} {w:List SV} (h:R s v p) (hs:v.stored=some w): ∃q,p.stored=some q/\RL s w q:=by
 unfold SV.stored at hs;cases ha:Vm.allOne v.cells with
 |false=>rw [ha] at hs;cases hs
 |true=>
  rw [ha] at hs;injection hs with hs;subst hs;have hj:v≠ .junk:=by intro e;subst e;cases ha
  have hc:=h.cells hj;exact ⟨p.cells,by unfold PV.stored;rw [if_pos (hc.allOne ha)],hc⟩
theorem R.ofRow {s:List SB} {v:SV} {p:PV} {r:List PT} {a:RT r} (h:R s v p) (hr:RT.of r v.cells=some a):p.storedPlain=some (RT.pv r a)/\v.cells.length=r.length:=by
 have hc:=RT.of_some hr;have hl:v.cells.length=r.length:=by rw [hc,RT.sv_len]
 refine ⟨?_,hl⟩;have hj:v≠ .junk:=by
  intro e;subst e;cases r with
  |nil=>simp [SV.cells,RT.of] at hr
  |cons p q=>cases q with
   |nil=>cases p<;>simp [SV.cells,RT.of,PT.of] at hr
   |cons _ _=>simp only [SV.cells,RT.of] at hr;split at hr<;>cases hr<;>(rename_i x y h1 h2;simp at h2)
 have h1:=h.cells hj;rw [hc] at h1;have h2:=FI r a h1;unfold PV.storedPlain;rw [h2,if_pos (RT.plain r a)]
theorem zO {s:List SB} {agg:Option Nat} {off:Nat} {cs:List SV} {ps:List PV} {v:SV} (h:RL s cs ps) (hp:GB agg off cs=some v): ∃p,part agg off ps=some p/\R s v p:=by
 cases agg with
 |none=>
  obtain ⟨p,h1,h2⟩:=h.nth hp;exact ⟨p,h1,h2⟩
 |some n=>
  simp only [GB] at hp;cases hb:Nat.ble (off+n) cs.length with
  |false=>rw [hb] at hp;cases hp
  |true=>
   rw [hb] at hp;injection hp with hp;subst hp
   have:off+n<=ps.length:=by rw [h.length];exact Nat.le_of_ble_eq_true hb
   exact ⟨.agg ((ps.drop off).take n),by simp only [part,if_pos this],_,rfl,(h.drop off).take n⟩
theorem FJ {s:List SB} {off:Nat} {new old:List SV} {pn po:List PV} (h:RL s new pn) (k:RL s old po):RL s (uR off new old) (tL off pn po):=by
 unfold uR tL;rw [h.length];exact ((k.take off).append h).append (k.drop _)
theorem aAt {s:List SB} {ps:cV} {v:SV} {p:PV} {r:List PT} {l:List (RT r)} (hs:cX s ps) (h:R s v p) (hc:GC s v=some ⟨r,l⟩):
 sC ps r.length p=some (l.map (RT.pv r))/\kN p=CB v:=by
 cases v with
 |sl q m=>
  have hc':(⟨q,m⟩:Rows)=⟨r,l⟩:=by injection hc
  cases hc';rw [show p=_ from h];refine ⟨?_,rfl⟩;cases l with
  |nil=>rfl
  |cons a l=>simp [sC]
 |own t ex=>
  simp only [GC,cK] at hc;split at hc
  · rename_i q m hst
    have hc':(⟨q,m⟩:Rows)=⟨r,l⟩:=by injection hc
    cases hc';obtain ⟨e,n,rfl,hat⟩:=h;rcases hat with ⟨q',m',h1,rfl,rfl⟩|h1
    · rw [hst] at h1
      injection h1 with h1;cases h1;obtain ⟨b,h2,h3⟩:=hs.at_ t _ hst;rw [show b=_ from h3] at h2;refine ⟨?_,rfl⟩;simp only [sC,Nat.beq_refl,if_true,h2,List.drop_zero];rw [List.take_of_length_le (by simp)]
    · rw [hst] at h1;cases h1
  · cases hc
 |pre t len cap ex=>
  simp only [GC,cK] at hc;split at hc
  · rename_i q m hst
    have hc':(⟨q,m.take len⟩:Rows)=⟨r,l⟩:=by injection hc
    cases hc';obtain ⟨e,rfl,hat⟩:=h;rcases hat with ⟨q',m',h1,rfl⟩|h1
    · rw [hst] at h1
      injection h1 with h1;cases h1;obtain ⟨b,h2,h3⟩:=hs.at_ t _ hst;rw [show b=_ from h3] at h2;refine ⟨?_,rfl⟩;simp only [sC,Nat.beq_refl,if_true,h2];simp
    · rw [hst] at h1;cases h1
  · cases hc
 |part t off len cap ex=>
  simp only [GC,cK] at hc;split at hc
  · rename_i q m hst
    have hc':(⟨q,(m.drop off).take len⟩:Rows)=⟨r,l⟩:=by injection hc
    cases hc';obtain ⟨e,rfl,hat⟩:=h;rcases hat with ⟨q',m',h1,rfl⟩|h1
    · rw [hst] at h1
      injection h1 with h1;cases h1;obtain ⟨b,h2,h3⟩:=hs.at_ t _ hst;rw [show b=_ from h3] at h2;refine ⟨?_,rfl⟩;simp only [sC,Nat.beq_refl,if_true,h2];simp
    · rw [hst] at h1;cases h1
  · cases hc
 |_=>cases hc
end Go.Vm
/- Operation by operation: what the typed machine does, the logical machine does; the easy ones. -/
namespace Go.Vm
structure jU (s:List SB) (ps:cV) (sr:jA) (pr:tH):Prop where
 rd:pr.rd=sr.rd
 fr:pr.fr=sr.fr
 wr:pr.wr.map (·.1)=EE sr.wr
 nw:B1 pr.wr=true
 nl:pr.news.length=sr.news.length
 sto:cX (sr.stoOf s) (aBv (jJ pr.wr ps) pr.news)
 v:R (sr.stoOf s) sr.v pr.v
 fra:Fr (EE sr.wr) s (sr.stoOf s)
section
variable {s : List SB} {ps : cV}
theorem jU.val (hS:cX s ps) {v:SV} {p:PV} {rd fr:List Nat} (hv:R s v p):jU s ps {v,rd,fr} {v:=p,rd,fr} where
 rd:=rfl
 fr:=rfl
 wr:=rfl
 nw:=rfl
 nl:=rfl
 sto:=by simp only [jA.stoOf,qC,List.append_nil,jJ,aBv];exact hS
 v:=by simp only [jA.stoOf,qC,List.append_nil];exact hv
 fra:=by simp only [jA.stoOf,qC,List.append_nil];exact Fr.refl _ _
theorem jU.news (hS:cX s ps) {v:SV} {p:PV} {l:List SB} {q:cV} {rd:List Nat} (hl:q.length=l.length) (hb: ∀(j:Nat) (b:SB),l[j]? =some b-> ∃x,q[j]? =some x/\RB (s++l) b x) (hv:R (s++l) v p):
 jU s ps {v,news:=l,rd} {v:=p,news:=q,rd} where
 rd:=rfl
 fr:=rfl
 wr:=rfl
 nw:=rfl
 nl:=hl
 sto:=by simp only [jA.stoOf,qC,jJ,xC];exact hS.app hl hb
 v:=by simp only [jA.stoOf,qC];exact hv
 fra:=by simp only [jA.stoOf,qC];exact Fr.app _ _ _
theorem jU.new (hS:cX s ps) {v:SV} {p:PV} {b:SB} {q:oC} {rd:List Nat} (hb:RB (s++[b]) b q) (hv:R (s++[b]) v p):jU s ps {v,news:=[b],rd} {v:=p,news:=[q],rd}:=
 jU.news hS rfl (fun j x h=>by
  cases j with
  |zero=>simp at h;subst h;exact ⟨q,rfl,hb⟩
  |succ j=>simp at h) hv
def aAu (b0 b:SB):Prop:=
 match b0 with
 | .arr r l=>(∃l',b= .arr r l'/\l'.length=l.length)\/b= .dead
 | .dead=>b= .dead
 |_=>True
theorem Fr.set {t:Nat} {b0 b:SB} (h0:s[t]? =some b0) (hk:aAu b0 b):Fr [t] s (s.set t b):=fun u x hu=>by
 by_cases hut:t=u
 · subst hut
   rw [h0] at hu;injection hu with hu;subst hu;have hlt:=(List.getElem?_eq_some_iff.1 h0).1;have hb:(s.set t b)[t]? =some b:=by simp [hlt]
   cases b0 with
   |arr r l=>
    rcases hk with ⟨l',rfl,hl⟩|rfl
    · exact .inl ⟨l',hb,hl,fun h=>by simp [has] at h⟩
    · exact .inr hb
   |dead=>rw [show b= .dead from hk] at hb ⊢;exact hb
   |_=>trivial
 · have hb:(s.set t b)[u]? =some x:=by rw [List.getElem?_set];simp [hut,hu]
   cases x with
   |arr r l=>exact .inl ⟨l,hb,rfl,fun _=>rfl⟩
   |dead=>exact hb
   |_=>trivial
theorem cX.put (hS:cX s ps) {t:Nat} {b0 b:SB} {q:oC} (h0:s[t]? =some b0) (hk:aAu b0 b) (hq:RB (KB [t] (s.set t b)) (dgB [t] b) q):cX (KB [t] (s.set t b)) (ps.set t q) where
 len:=by simp [FH,hS.len]
 at_:=fun u x hu=>by
  have hlt:=(List.getElem?_eq_some_iff.1 h0).1;rw [CD] at hu
  by_cases hut:t=u
  · subst hut
    have hb:(s.set t b)[t]? =some b:=by simp [hlt]
    rw [hb] at hu;simp at hu;subst hu;exact ⟨q,by rw [List.getElem?_set];simp [hS.len,hlt],hq⟩
  · rw [List.getElem?_set] at hu
    simp only [hut,if_false,Option.map_eq_some_iff] at hu;obtain ⟨y,hy,rfl⟩:=hu;obtain ⟨q',h1,h2⟩:=hS.at_ u y hy;exact ⟨q',by rw [List.getElem?_set];simp [hut,h1],h2.fr (Fr.dg (Fr.set h0 hk))⟩
theorem jU.put (hS:cX s ps) {v:SV} {p:PV} {t:Nat} {b0 b:SB} {q:oC} {l:List SB} {ql:cV} {rd:List Nat} (h0:s[t]? =some b0) (hk:aAu b0 b) (hq:RB (KB [t] (s.set t b)) (dgB [t] b) q)
 (hl:ql.length=l.length) (hb: ∀(j:Nat) (x:SB),l[j]? =some x-> ∃y,ql[j]? =some y/\RB (KB [t] (s.set t b)++l) x y) (hv:R (KB [t] (s.set t b)++l) v p):
 jU s ps {v,wr:=[(t,b)],news:=l,rd} {v:=p,wr:=[(t,q)],news:=ql,rd} where
 rd:=rfl
 fr:=rfl
 wr:=rfl
 nw:=rfl
 nl:=hl
 sto:=by
  simp only [jA.stoOf,qC,jJ,xC,EE,wR,IK];exact (hS.put h0 hk hq).app hl hb
 v:=by simp only [jA.stoOf,qC,EE,wR,IK];exact hv
 fra:=by
  simp only [jA.stoOf,qC,EE,wR,IK];exact (Fr.dg (Fr.set h0 hk)).trans (Fr.app _ _ _)
theorem jU.put0 (hS:cX s ps) {t:Nat} {b0 b:SB} {q:oC} {rd:List Nat} (h0:s[t]? =some b0) (hk:aAu b0 b) (hq:RB (KB [t] (s.set t b)) (dgB [t] b) q):
 jU s ps {v:= .undef,wr:=[(t,b)],rd} {v:= .undef,wr:=[(t,q)],rd}:=
 jU.put hS h0 hk hq rfl (fun j x h=>by simp at h) rfl
end
section
variable {R' ρ : Type} {w : R' -> ρ} {y : ρ}
theorem bS {α:Type} {x:Option α} {k:α->jM R'} (h:oU x k ρ w=some y): ∃a,x=some a/\k a ρ w=some y:=by
 cases x with
 |none=>cases h
 |some a=>exact ⟨a,rfl,h⟩
theorem dM {α:Type} {x:Option α} {k:α->jM R'} (h:qF x k ρ w=some y): ∃a,x=some a/\k a ρ w=some y:=X4 h
theorem fX {c:Bool} {a b:jM R'} (h:iU c a b ρ w=some y):(c=true/\a ρ w=some y)\/(c=false/\b ρ w=some y):=X5 h
theorem cY {c:Bool} {a:jM R'} (h:(bif c then a else aR) ρ w=some y):c=true/\a ρ w=some y:=by
 cases c
 · cases h
 · exact ⟨rfl,h⟩
theorem xT {c:Bool} {a:jM R'} (h:(bif c then aR else a) ρ w=some y):c=false/\a ρ w=some y:=by
 cases c
 · exact ⟨rfl,h⟩
 · cases h
theorem jV {c:Bool} {a:jM R'} (h:iU c a aR ρ w=some y):c=true/\a ρ w=some y:=by
 rcases fX h with ⟨h1,h2⟩|⟨_,h2⟩
 · exact ⟨h1,h2⟩
 · cases h2
theorem CE {c:Bool} {a:jM R'} (h:iU c aR a ρ w=some y):c=false/\a ρ w=some y:=by
 rcases fX h with ⟨_,h2⟩|⟨h1,h2⟩
 · cases h2
 · exact ⟨h1,h2⟩
end
def jF {R':Type} (s:List SB) (ps:cV) (po:Option tH) (k:jA->jM R') (ρ:Type) (w:R'->ρ) (y:ρ):Prop:=
 ∃sr pr,po=some pr/\jU s ps sr pr/\k sr ρ w=some y
section
variable {R' ρ : Type} {w : R' -> ρ} {y : ρ} {s : List SB} {ps : cV} {e : SE} {pe : zA} {z : List Nat} {k : jA -> jM R'}
theorem jF.val (hS:cX s ps) {po:Option tH} {v:SV} {p:PV} (h:k {v} ρ w=some y) (hp:po=some {v:=p}) (hv:R s v p):jF s ps po k ρ w y:=
 ⟨_,_,hp,jU.val hS hv,h⟩
theorem jF.rd (hS:cX s ps) {po:Option tH} {v:SV} {p:PV} {rd:List Nat} (h:k {v,rd} ρ w=some y) (hp:po=some {v:=p,rd}) (hv:R s v p):jF s ps po k ρ w y:=
 ⟨_,_,hp,jU.val hS hv,h⟩
theorem rA (hE:eL s e pe) {x:gU} {a:IntKind} {n:Int} (h:cB e x= .int a n):x.ev pe= .int a n:=by
 have:=eJ hE x;rw [h] at this;exact this
theorem IL (hE:eL s e pe) {x:gU} {b:Bool} (h:cB e x= .bool b):x.ev pe= .bool b:=by
 have:=eJ hE x;rw [h] at this;exact this
theorem aBU (hE:eL s e pe) {x:gU} {v:SV} (h:cB e x=v):R s v (x.ev pe):=by
 have:=eJ hE x;rwa [h] at this
theorem U3 (k:IntKind):iG k k=true:=by cases k<;>rfl
theorem YH (hS:cX s ps) {op:BinOp} {a:IntKind} {m n:Int} (h:X7 op a m n (ofV k) ρ w=some y): ∃p,T3 op a m n=some p/\jF s ps (some {v:=p}) k ρ w y:=by
 cases op with
 |quo=>
  obtain ⟨h1,h2⟩:=CE h;have hn:n≠0:=by intro e;subst e;cases h1
  exact ⟨_,by simp only [T3,if_neg hn],jF.val hS h2 rfl rfl⟩
 |rem=>
  obtain ⟨h1,h2⟩:=CE h;have hn:n≠0:=by intro e;subst e;cases h1
  exact ⟨_,by simp only [T3,if_neg hn],jF.val hS h2 rfl rfl⟩
 |shl=>cases h
 |shr=>cases h
 |_=>exact ⟨_,rfl,jF.val hS h rfl rfl⟩
theorem aFi (hE:eL s e pe) (hS:cX s ps) {op:BinOp} {a b:gU} (h:qG e s z (.bin op a b) k ρ w=some y):jF s ps (bO pe ps z (.bin op a b)) k ρ w y:=by
 simp only [qG] at h;generalize ha:cB e a=va at h;cases va with
 |int ka m=>
  generalize hb:cB e b=vb at h;cases vb with
  |int kb n=>
   have h1:=rA hE ha;have h2:=rA hE hb;have key:(op≠ .shl)->(op≠ .shr)->(bif iG ka kb then X7 op ka m n (ofV k) else aR) ρ w=some y->jF s ps (bO pe ps z (.bin op a b)) k ρ w y:=by
    intro n1 n2 h;obtain ⟨hk,h⟩:=cY h;obtain ⟨p,hp,hs⟩:=YH hS h
    have:bO pe ps z (.bin op a b)=some {v:=p}:=by
     simp only [bO,h1,h2];cases op<;>first|exact absurd rfl n1|exact absurd rfl n2|(simp only [aBu,hk,if_true,hp];rfl)
    rw [this];exact hs
   cases op with
   |shl=>
    obtain ⟨hc,h⟩:=CE h;have hc': ¬n<0:=by simpa using hc
    exact jF.val hS h (by simp only [bO,h1,h2,aBu,JR,if_neg hc'];rfl) rfl
   |shr=>
    obtain ⟨hc,h⟩:=CE h;have hc': ¬n<0:=by simpa using hc
    exact jF.val hS h (by simp only [bO,h1,h2,aBu,JR,if_neg hc'];rfl) rfl
   |_=>exact key (by intro e;cases e) (by intro e;cases e) h
  |_=>cases h
 |_=>cases h
theorem aDm (hE:eL s e pe) (hS:cX s ps) {neg:Bool} {a b:gU} (h:qG e s z (.binb neg a b) k ρ w=some y):jF s ps (bO pe ps z (.binb neg a b)) k ρ w y:=by
 simp only [qG] at h;generalize ha:cB e a=va at h;cases va with
 |bool x=>
  generalize hb:cB e b=vb at h;cases vb with
  |bool x'=>
   refine jF.val hS h ?_ rfl;simp only [bO,IL hE ha,IL hE hb];cases neg<;>rfl
  |_=>cases h
 |_=>cases h
theorem aDn: ∀{xs ys:List SV} {ps qs:List PV} {r:Bool},RL s xs ps->RL s ys qs->eqS xs ys=some r->dU ps qs=some r
 | [],[],ps,qs,r,h1,h2,h=>by rw [show ps=[] from h1,show qs=[] from h2];exact h
 |x::xs,b::ys,ps,qs,r,h1,h2,h=>by
  obtain ⟨p,ps,rfl,a1,a2⟩:=h1.cons_inv;obtain ⟨q,qs,rfl,b1,b2⟩:=h2.cons_inv;simp only [eqS] at h;split at h
  · rename_i ka m kb n
    have a1':p= .int ka m:=a1;have b1':q= .int kb n:=b1;subst a1' b1';cases hk:iG ka kb with
    |false=>rw [hk] at h;cases h
    |true=>
     rw [hk] at h;have hc:wN (.int ka m) (.int kb n)=some (m==n):=by simp only [wN,hk,if_true]
     simp only [dU,hc];cases xs with
     |nil=>
      cases ys with
      |nil=>
       simp only [cond_true,Option.some.injEq] at h;subst h;rw [show ps=[] from a2,show qs=[] from b2];cases m==n<;>rfl
      |cons _ _=>cases h
     |cons x2 xs2=>
      simp only [cond_true] at h;split at h
      · rename_i r' hr
        injection h with h;subst h;rw [aDn a2 b2 hr];cases m==n<;>rfl
      · cases h
  · cases h
 | [],_::_,ps,qs,r,h1,h2,h=>by cases h
 |_::_,[],ps,qs,r,h1,h2,h=>by cases h
theorem aFj (hE:eL s e pe) (hS:cX s ps) {n:Nat} {neg:Bool} {a b:gU} (h:qG e s z (.eqc n neg a b) k ρ w=some y):jF s ps (bO pe ps z (.eqc n neg a b)) k ρ w y:=by
 simp only [qG] at h;generalize ha:cB e a=va at h;cases va with
 |agg xs=>
  generalize hb:cB e b=vb at h;cases vb with
  |agg ys=>
   obtain ⟨hl,h⟩:=cY h;obtain ⟨r,hr,h⟩:=bS h;obtain ⟨p,hp,h1⟩:=aBU hE ha;obtain ⟨q,hq,h2⟩:=aBU hE hb;refine jF.val hS h ?_ rfl;simp only [bO,hp,hq,h1.length,h2.length];rw [if_pos hl,aDn h1 h2 hr];cases neg<;>rfl
  |_=>cases h
 |_=>cases h
theorem aMB (hE:eL s e pe) (hS:cX s ps) {op:UnOp} {a:gU} (h:qG e s z (.un op a) k ρ w=some y):jF s ps (bO pe ps z (.un op a)) k ρ w y:=by
 simp only [qG] at h;cases op with
 |neg=>
  dsimp only at h;generalize ha:cB e a=va at h;cases va with
  |int ka n=>exact jF.val hS h (by simp only [bO,rA hE ha];rfl) rfl
  |_=>cases h
 |not=>
  dsimp only at h;generalize ha:cB e a=va at h;cases va with
  |bool b=>exact jF.val hS h (by simp only [bO,IL hE ha];rfl) rfl
  |_=>cases h
 |_=>cases h
theorem aDo (hE:eL s e pe) (hS:cX s ps) {a:IntKind} {x:gU} (h:qG e s z (.conv a x) k ρ w=some y):jF s ps (bO pe ps z (.conv a x)) k ρ w y:=by
 simp only [qG] at h;generalize ha:cB e x=va at h;cases va with
 |int ka n=>exact jF.val hS h (by simp only [bO,rA hE ha]) rfl
 |_=>cases h
theorem aFk (hE:eL s e pe) (hS:cX s ps) {x:gU} (h:qG e s z (.len x) k ρ w=some y):jF s ps (bO pe ps z (.len x)) k ρ w y:=by
 simp only [qG] at h;have hx:=eJ hE x;generalize cB e x=v at h hx;cases v with
 |nil e' c=>exact jF.val hS h (by simp only [bO,show x.ev pe= .sl e' c [] from hx];rfl) rfl
 |pre t len cap ex=>
  obtain ⟨e',hx,_⟩:=hx;exact jF.val hS h (by simp only [bO,hx]) rfl
 |part t off len cap ex=>
  obtain ⟨e',hx,_⟩:=hx;exact jF.val hS h (by simp only [bO,hx]) rfl
 |sl q m=>
  exact jF.val hS h (by simp only [bO,show x.ev pe=_ from hx,List.length_map]) rfl
 |own t ex=>
  obtain ⟨c,hc,h⟩:=bS h;simp only [GC,cK] at hc;split at hc
  · rename_i q m hst
    injection hc with hc;subst hc;obtain ⟨e',n,hx,hat⟩:=hx;rcases hat with ⟨q',m',h1,rfl,rfl⟩|h1
    · rw [hst] at h1;injection h1 with h1;cases h1
      exact jF.val hS h (by simp only [bO,hx]) rfl
    · rw [hst] at h1;cases h1
  · cases hc
 |_=>obtain ⟨c,hc,h⟩:=bS h;cases hc
theorem IM: ∀{l:List (Nat×Nat×SV)} {pl:List (Nat×Nat×PV)} {cs:List SV} {pc:List PV} {r:List SV},
 (pl.length=l.length/\ ∀(j:Nat) (a:Nat×Nat×SV),l[j]? =some a-> ∃b,pl[j]? =some (a.1,a.2.1,b)/\R s a.2.2 b)->RL s cs pc->CC l cs=some r-> ∃q,rH pl pc=some q/\RL s r q
 | [],pl,cs,pc,r,hl,hc,h=>by
  have:pl=[]:=List.length_eq_zero_iff.1 hl.1
  subst this;injection h with h;subst h;exact ⟨pc,rfl,hc⟩
 |(off,sz,v)::l,pl,cs,pc,r,hl,hc,h=>by
  cases pl with
  |nil=>simp at hl
  |cons p pl=>
   obtain ⟨b,h1,h2⟩:=hl.2 0 _ rfl;simp at h1;subst h1;simp only [CC] at h;split at h
   · rename_i w hw
     obtain ⟨q,hq,hqr⟩:=h2.stored hw;cases hcnd:(Nat.beq w.length sz&&Nat.ble (off+sz) cs.length) with
     |false=>rw [hcnd] at h;cases h
     |true=>
      rw [hcnd] at h;simp only [cond_true] at h;obtain ⟨q2,h3,h4⟩:=IM (pl:=pl) ⟨by simpa using hl.1,fun j a ha=>hl.2 (j+1) a (by simpa using ha)⟩ (FJ hqr hc) h
      refine ⟨q2,?_,h4⟩;simp only [rH,hq,hqr.length,hc.length];rw [if_pos hcnd];exact h3
   · cases h
theorem U4 (hE:eL s e pe): ∀(l:List (Nat×Nat×gU)),((l.map fun p=>(p.1,p.2.1,p.2.2.ev pe)).length=(EC e l).length/\ ∀(j:Nat) (a:Nat×Nat×SV),(EC e l)[j]? =some a-> ∃b,(l.map fun p=>(p.1,p.2.1,p.2.2.ev pe))[j]? =some (a.1,a.2.1,b)/\R s a.2.2 b)
 | []=>⟨rfl,fun j a h=>by simp [EC] at h⟩
 |p::l=>by
  obtain ⟨h1,h2⟩:=U4 hE l;refine ⟨by simp [EC] at h1 ⊢;omega,fun j a h=>?_⟩
  cases j with
  |zero=>simp [EC] at h;subst h;exact ⟨_,rfl,eJ hE _⟩
  |succ j=>simp only [EC,List.getElem?_cons_succ] at h;obtain ⟨b,h3,h4⟩:=h2 j a h;exact ⟨b,by simpa using h3,h4⟩
theorem aBV (hE:eL s e pe) (hS:cX s ps) {zero:List PV} {parts:List (Nat×Nat×gU)} (h:qG e s z (.build zero parts) k ρ w=some y):jF s ps (bO pe ps z (.build zero parts)) k ρ w y:=by
 simp only [qG] at h;obtain ⟨cs,hc,h⟩:=bS h;obtain ⟨q,hq,hr⟩:=IM (U4 hE parts) (ofPVL_R s zero) hc;exact jF.val hS h (by simp only [bO,hq];rfl) ⟨q,rfl,hr⟩
theorem aFl (hE:eL s e pe) (hS:cX s ps) {x:gU} (h:qG e s z (.box x) k ρ w=some y):jF s ps (bO pe ps z (.box x)) k ρ w y:=by
 simp only [qG] at h;obtain ⟨cs,hc,h⟩:=bS h;obtain ⟨q,hq,hr⟩:=(eJ hE x).stored hc;refine ⟨_,_,?_,jU.new hS (b:= .box cs) (q:= .box q) (v:= .bp s.length cs.length 0) (p:= .ptr s.length cs.length 0 0) (rd:=[]) ⟨q,rfl,hr.ext (Fr.app _ _ _)⟩ rfl,h⟩;simp only [bO,hq,hS.len,hr.length]
theorem aBW (hS:cX s ps) {cells:List PV} (h:qG e s z (.alloc cells) k ρ w=some y):jF s ps (bO pe ps z (.alloc cells)) k ρ w y:=by
 simp only [qG] at h;refine ⟨_,_,?_,jU.new hS (b:= .box (ofPVL cells)) (q:= .box cells) (v:= .bp s.length cells.length 0) (p:= .ptr s.length cells.length 0 0) (rd:=[]) ⟨cells,rfl,ofPVL_R _ _⟩ rfl,h⟩;simp only [bO,hS.len]
theorem aDp (hE:eL s e pe) (hS:cX s ps) {x:gU} (h:qG e s z (.nilc x) k ρ w=some y):jF s ps (bO pe ps z (.nilc x)) k ρ w y:=by
 simp only [qG] at h;have hx:=eJ hE x;generalize cB e x=v at h hx;cases v with
 |pa t r i a o=>exact jF.val hS h (by simp only [bO,hx.1]) ⟨rfl,hx.2⟩
 |pb t i o=>
  obtain ⟨e',h1,h2⟩:=hx;exact jF.val hS h (by simp only [bO,h1]) ⟨e',rfl,h2⟩
 |bp t n o=>exact jF.val hS h (by simp only [bO,show x.ev pe=_ from hx]) rfl
 |rptr c o=>
  obtain ⟨q,h1,h2⟩:=hx;exact jF.val hS h (by simp only [bO,h1]) ⟨q,rfl,h2⟩
 |clo f a b=>
  obtain ⟨pa,pb,h1,h2⟩:=hx;exact jF.val hS h (by simp only [bO,h1]) ⟨pa,pb,rfl,h2⟩
 |_=>cases h
theorem aDq (hE:eL s e pe) (hS:cX s ps) {off:Nat} {x:gU} (h:qG e s z (.fadr off x) k ρ w=some y):jF s ps (bO pe ps z (.fadr off x)) k ρ w y:=by
 simp only [qG] at h;have hx:=eJ hE x;generalize cB e x=v at h hx;cases v with
 |pa t r i a o=>exact jF.val hS h (by simp only [bO,hx.1]) ⟨rfl,hx.2⟩
 |pb t i o=>
  obtain ⟨e',h1,h2⟩:=hx;exact jF.val hS h (by simp only [bO,h1]) ⟨e',rfl,h2⟩
 |bp t n o=>exact jF.val hS h (by simp only [bO,show x.ev pe=_ from hx]) rfl
 |rptr c o=>
  obtain ⟨q,h1,h2⟩:=hx;exact jF.val hS h (by simp only [bO,h1]) ⟨q,rfl,h2⟩
 |_=>cases h
theorem aFm (hE:eL s e pe) (hS:cX s ps) {agg:Option Nat} {off:Nat} {x:gU} (h:qG e s z (.fld agg off x) k ρ w=some y):jF s ps (bO pe ps z (.fld agg off x)) k ρ w y:=by
 simp only [qG] at h;generalize hv:cB e x=v at h;cases v with
 |agg cs=>
  obtain ⟨v,h1,h⟩:=bS h;obtain ⟨q,h2,h3⟩:=aBU hE hv;obtain ⟨p,h4,h5⟩:=zO h3 h1;exact jF.val hS h (by simp only [bO,h2,h4];rfl) h5
 |_=>cases h
theorem aFn (hE:eL s e pe) (hS:cX s ps) {i:Nat} {x:gU} (h:qG e s z (.ext i x) k ρ w=some y):jF s ps (bO pe ps z (.ext i x)) k ρ w y:=by
 simp only [qG] at h;generalize hv:cB e x=v at h;cases v with
 |tup cs=>
  obtain ⟨v,h1,h⟩:=bS h;obtain ⟨q,h2,h3⟩:=aBU hE hv;obtain ⟨p,h4,h5⟩:=h3.nth h1;exact jF.val hS h (by simp only [bO,h2,h4];rfl) h5
 |_=>cases h
theorem aFo (hE:eL s e pe) (hS:cX s ps) {f:FuncId} {a b:List gU} (h:qG e s z (.mkf f a b) k ρ w=some y):jF s ps (bO pe ps z (.mkf f a b)) k ρ w y:=by
 simp only [qG] at h;exact jF.val hS h rfl ⟨_,_,rfl,FG hE a,FG hE b⟩
theorem aFp (hS:cX s ps) {m:Option PV} (h:qG e s z (.mkm m) k ρ w=some y):jF s ps (bO pe ps z (.mkm m)) k ρ w y:=by
 simp only [qG] at h;cases m with
 |none=>
  refine ⟨_,_,?_,jU.new hS (b:= .set []) (q:= .map []) (v:= .mp s.length) (p:= .mp s.length) (rd:=[]) rfl rfl,h⟩;simp only [bO,hS.len]
 |some m=>
  obtain ⟨p,_,h⟩:=bS h;refine ⟨_,_,?_,jU.new hS (b:= .tab p []) (q:= .map []) (v:= .mp s.length) (p:= .mp s.length) (rd:=[]) rfl rfl,h⟩;simp only [bO,hS.len]
theorem aMb: ∀{l:List SV} {q:List PV} {m:Bool} {a:IntKind} {n:Int} {v:SV},RL s l q->mmS m a n l=some v-> ∃p,mmE m a n q=some p/\R s v p
 | [],q,m,a,n,v,hl,h=>by
  rw [show q=[] from hl];injection h with h;subst h;exact ⟨_,rfl,rfl⟩
 |x::l,q,m,a,n,v,hl,h=>by
  obtain ⟨p,q,rfl,h1,h2⟩:=hl.cons_inv;simp only [mmS] at h;split at h
  · rename_i b c
    have h1':p= .int b c:=h1;subst h1';cases hk:iG a b with
    |true=>
     rw [hk] at h;obtain ⟨p,h3,h4⟩:=aMb h2 h;refine ⟨p,?_,h4⟩;simp only [mmE,hk,if_true];rw [<- h3];cases m<;>rfl
    |false=>rw [hk] at h;cases h
  · cases h
theorem aMC (hE:eL s e pe) (hS:cX s ps) {m:Bool} {x:gU} {xs:List gU} (h:qG e s z (.mm m x xs) k ρ w=some y):jF s ps (bO pe ps z (.mm m x xs)) k ρ w y:=by
 simp only [qG] at h;generalize hv:cB e x=v at h;cases v with
 |int a n=>
  obtain ⟨v,h1,h⟩:=bS h;obtain ⟨p,h2,h3⟩:=aMb (FG hE xs) h1;exact jF.val hS h (by simp only [bO,rA hE hv,h2];rfl) h3
 |_=>cases h
theorem aDr (hE:eL s e pe) (hS:cX s ps) {c a b:gU} (h:qG e s z (.pick c a b) k ρ w=some y):jF s ps (bO pe ps z (.pick c a b)) k ρ w y:=by
 simp only [qG] at h;generalize hv:cB e c=v at h;cases v with
 |bool x=>
  rcases fX h with ⟨rfl,h⟩|⟨rfl,h⟩
  · exact jF.val hS h (by simp only [bO,IL hE hv]) (eJ hE a)
  · exact jF.val hS h (by simp only [bO,IL hE hv]) (eJ hE b)
 |_=>cases h
end
end Go.Vm
/- Operation by operation, second part: elements, blocks, slices, sets. -/
namespace Go.Vm
section
variable {R' ρ : Type} {w : R' -> ρ} {y : ρ} {s : List SB} {ps : cV} {e : SE} {pe : zA} {z : List Nat} {k : jA -> jM R'}
theorem cX.arr (hS:cX s ps) {t:Nat} {r:List PT} {l:List (RT r)} (h:s[t]? =some (.arr r l)):ps[t]? =some (.arr r.length (l.map (RT.pv r))):=by
 obtain ⟨q,h1,h2⟩:=hS.at_ t _ h;rw [show q=_ from h2] at h1;exact h1
theorem cX.box (hS:cX s ps) {t:Nat} {cs:List SV} (h:s[t]? =some (.box cs)): ∃q,ps[t]? =some (.box q)/\RL s cs q:=by
 obtain ⟨q,h1,q',rfl,h2⟩:=hS.at_ t _ h;exact ⟨q',h1,h2⟩
theorem cX.set_ (hS:cX s ps) {t:Nat} {l:List (List Int)} (h:s[t]? =some (.set l)):ps[t]? =some (.map (l.map IJ)):=by
 obtain ⟨q,h1,h2⟩:=hS.at_ t _ h;rw [show q=_ from h2] at h1;exact h1
theorem cX.tab_ (hS:cX s ps) {t:Nat} {p:PT} {l:List (RT [.i .i64,p])} (h:s[t]? =some (.tab p l)):ps[t]? =some (.map (l.map (L6 p))):=by
 obtain ⟨q,h1,h2⟩:=hS.at_ t _ h;rw [show q=_ from h2] at h1;exact h1
theorem aDk.inv {t e n:Nat} {r:List PT} {l:List (RT r)} (h:aDk s t e n) (hs:s[t]? =some (.arr r l)):e=r.length/\n=l.length:=by
 rcases h with ⟨q,m,h1,rfl,rfl⟩|h1
 · rw [hs] at h1;injection h1 with h1;cases h1;exact ⟨rfl,rfl⟩
 · rw [hs] at h1;cases h1
theorem GF.inv {t e:Nat} {r:List PT} {l:List (RT r)} (h:GF s t e) (hs:s[t]? =some (.arr r l)):e=r.length:=by
 rcases h with ⟨q,m,h1,rfl⟩|h1
 · rw [hs] at h1;injection h1 with h1;cases h1;rfl
 · rw [hs] at h1;cases h1
theorem aDl.inv {t:Nat} {q r:List PT} {i:Int} {a:RT q} {l:List (RT r)} (h:aDl s t q i a) (hs:s[t]? =some (.arr r l)): ∃e:q=r,aN l i=some (e▸a):=by
 rcases h with ⟨m,h1,h2⟩|h1
 · rw [hs] at h1;injection h1 with h1;cases h1;exact ⟨rfl,h2⟩
 · rw [hs] at h1;cases h1
theorem aMA.inv {t:Nat} {r:List PT} {i:Int} {l:List (RT r)} (h:aMA s t i) (hs:s[t]? =some (.arr r l)):(aN l i).isSome=true:=by
 rcases h with ⟨q,m,h1,h2⟩|h1
 · rw [hs] at h1;injection h1 with h1;cases h1;exact h2
 · rw [hs] at h1;cases h1
theorem gV {α:Type} {l:List α} {n:Nat} {i:Int} {a:α} (h:aN (l.take n) i=some a): ∃m:Nat,i=Int.ofNat m/\m<n/\l[m]? =some a:=by
 obtain ⟨m,rfl,hm⟩:=rM h;have hlt:=(List.getElem?_eq_some_iff.1 hm).1;rw [List.length_take] at hlt;have hmn:m<n:=by omega
 rw [List.getElem?_take_of_lt hmn] at hm;exact ⟨m,rfl,hmn,hm⟩
theorem aDs (hE:eL s e pe) (hS:cX s ps) {esz:Nat} {x i:gU} (h:qG e s z (.iadr esz x i) k ρ w=some y):jF s ps (bO pe ps z (.iadr esz x i)) k ρ w y:=by
 simp only [qG] at h;generalize hi:cB e i=vi at h;cases vi with
 |int ki n=>
  have hi:=rA hE hi;have hx:=eJ hE x;dsimp only at h;unfold aL4 at h;generalize cB e x=v at h hx;cases v with
  |sl r l=>
   obtain ⟨he,h⟩:=cY h;obtain ⟨a,ha,hk⟩:=dM h;obtain ⟨m,rfl,hm⟩:=rM ha;refine jF.val hS (p:= .rptr (RT.pv r a) 0) hk ?_ ⟨_,rfl,QM r a⟩;have hr:(l.map (RT.pv r))[m]? =some (RT.pv r a):=by simp [hm]
   simp only [bO,hi,mX,show x.ev pe=_ from hx,hr,he,if_true]
  |own t ex=>
   simp only [cK] at h;generalize hst:s[t]? =b at h;cases b with
   |none=>cases h
   |some b=>
    cases b with
    |arr r l=>
     obtain ⟨he,h⟩:=cY h;obtain ⟨a,ha,hk⟩:=dM h;obtain ⟨m,rfl,hm⟩:=rM ha;obtain ⟨e',n',hx,hat⟩:=hx;obtain ⟨rfl,rfl⟩:=hat.inv hst;have hlt:=(List.getElem?_eq_some_iff.1 hm).1;have h1:Nat.blt m l.length=true:=by simpa using hlt
     refine jF.val hS (p:= .ptr t r.length m 0) hk ?_ ⟨rfl,.inl ⟨l,hst,ha⟩⟩;simp only [bO,hi,mX,hx,h1,he,Bool.and_self,if_true,Nat.zero_add]
    |_=>cases h
  |pre t len cap ex=>
   simp only [cK] at h;generalize hst:s[t]? =b at h;cases b with
   |none=>cases h
   |some b=>
    cases b with
    |arr r l=>
     obtain ⟨he,h⟩:=cY h;obtain ⟨a,ha,hk⟩:=dM h;obtain ⟨m,rfl,hlt,hm⟩:=gV ha;obtain ⟨e',hx,hat⟩:=hx
     have:=hat.inv hst
     subst this;have h1:Nat.blt m len=true:=by simpa using hlt
     refine jF.val hS (p:= .ptr t r.length m 0) hk ?_ ⟨rfl,.inl ⟨l,hst,hm⟩⟩;simp only [bO,hi,mX,hx,h1,he,Bool.and_self,if_true,Nat.zero_add]
    |_=>cases h
  |part t off len cap ex=>
   simp only [cK] at h;generalize hst:s[t]? =b at h;cases b with
   |none=>cases h
   |some b=>
    cases b with
    |arr r l=>
     obtain ⟨he,h⟩:=cY h;obtain ⟨a,ha,hk⟩:=dM h;obtain ⟨m,rfl,hlt,hm⟩:=gV ha;rw [List.getElem?_drop] at hm;obtain ⟨e',hx,hat⟩:=hx
     have:=hat.inv hst
     subst this;have h1:Nat.blt m len=true:=by simpa using hlt
     refine jF.val hS (p:= .ptr t r.length (off+m) 0) hk ?_ ⟨rfl,.inl ⟨l,hst,hm⟩⟩;simp only [bO,hi,mX,hx,h1,he,Bool.and_self,if_true]
    |_=>cases h
  |_=>cases h
 |_=>cases h
theorem G4 {n:Nat} {i:Int} {j:Nat} {f:Nat->jM R'}:UV n i j f ρ w=some y-> ∃m,i=Int.ofNat m/\j<=m/\m<j+n/\f m ρ w=some y:=by
 induction n generalizing j with
 |zero=>intro h;cases h
 |succ n ih=>
  intro h;rcases fX h with ⟨h1,h2⟩|⟨_,h2⟩
  · exact ⟨j,by simpa using h1,Nat.le_refl _,by omega,h2⟩
  · obtain ⟨m,h3,h4,h5,h6⟩:=ih h2
    exact ⟨m,h3,by omega,by omega,h6⟩
theorem aBX (hE:eL s e pe) (hS:cX s ps) {n esz:Nat} {p i:gU} (h:qG e s z (.iadra n esz p i) k ρ w=some y):jF s ps (bO pe ps z (.iadra n esz p i)) k ρ w y:=by
 simp only [qG] at h;generalize hi:cB e i=vi at h;cases vi with
 |int ki j=>
  have hi:=rA hE hi;have hx:=eJ hE p;generalize cB e p=v at h hx;cases v with
  |bp t m o=>
   obtain ⟨j',rfl,_,h2,h⟩:=G4 h;have h1:Nat.blt j' n=true:=by simp;omega
   exact jF.val hS h (by simp only [bO,hi,mX,h1,if_true,show p.ev pe=_ from hx]) rfl
  |rptr c o=>
   obtain ⟨j',rfl,_,h2,h⟩:=G4 h;have h1:Nat.blt j' n=true:=by simp;omega
   obtain ⟨q,hq,hr⟩:=hx;exact jF.val hS h (by simp only [bO,hi,mX,h1,if_true,hq]) ⟨q,rfl,hr⟩
  |_=>cases h
 |_=>cases h
theorem aFq (hE:eL s e pe) (hS:cX s ps) {n esz:Nat} {agg:Option Nat} {x i:gU} (h:qG e s z (.idx n esz agg x i) k ρ w=some y):jF s ps (bO pe ps z (.idx n esz agg x i)) k ρ w y:=by
 simp only [qG] at h;generalize hi:cB e i=vi at h;cases vi with
 |int ki j=>
  have hi:=rA hE hi;generalize hx:cB e x=v at h;cases v with
  |agg cs=>
   obtain ⟨j',rfl,_,h2,h⟩:=G4 h;have h1:Nat.blt j' n=true:=by simp;omega
   obtain ⟨v,hv,h⟩:=bS h;obtain ⟨q,hq,hr⟩:=aBU hE hx;obtain ⟨p,hp,hpr⟩:=zO hr hv;exact jF.val hS h (by simp only [bO,hi,mX,h1,if_true,hq,hp];rfl) hpr
  |_=>cases h
 |_=>cases h
theorem aDt (hE:eL s e pe) (hS:cX s ps) {x i:gU} (h:qG e s z (.sidx x i) k ρ w=some y):jF s ps (bO pe ps z (.sidx x i)) k ρ w y:=by
 simp only [qG] at h;generalize hi:cB e i=vi at h;cases vi with
 |int ki j=>
  have hi:=rA hE hi;generalize hx:cB e x=v at h;cases v with
  |str t=>
   obtain ⟨b,hb,h⟩:=dM h;have hx:=aBU hE hx;cases j with
   |negSucc _=>cases hb
   |ofNat m=>
    simp only [aL3,Option.map_eq_some_iff] at hb;obtain ⟨c,hc,rfl⟩:=hb;exact jF.val hS h (by simp only [bO,hi,mX,show x.ev pe=_ from hx,hc]) rfl
  |_=>cases h
 |_=>cases h
theorem aDu (hE:eL s e pe) (hS:cX s ps) {agg:Option Nat} {p:gU} (h:qG e s z (.load agg p) k ρ w=some y):jF s ps (bO pe ps z (.load agg p)) k ρ w y:=by
 simp only [qG] at h;have hx:=eJ hE p;unfold aL5 at h;generalize cB e p=v at h hx;cases v with
 |bp t n off=>
  simp only [cK] at h;generalize hst:s[t]? =b at h;cases b with
  |none=>cases h
  |some b=>
   cases b with
   |box cs=>
    obtain ⟨v,hv,h⟩:=bS h;obtain ⟨q,h1,h2⟩:=hS.box hst;obtain ⟨u,h3,h4⟩:=zO h2 hv;refine jF.rd hS h ?_ h4;show tI ps agg (p.ev pe)=_;rw [show p.ev pe=_ from hx];simp only [tI,h1,Nat.beq_refl,if_true,h3];rfl
   |_=>cases h
 |pa t r i a off=>
  simp only [cK] at h;generalize hst:s[t]? =b at h;cases b with
  |none=>cases h
  |some b=>
   cases b with
   |arr q l=>
    obtain ⟨v,hv,hk⟩:=bS h;obtain ⟨hx,hat⟩:=hx;obtain ⟨rfl,hg⟩:=hat.inv hst;obtain ⟨u,h3,h4⟩:=zO (QM r a) hv;obtain ⟨m,rfl,hm⟩:=rM hg;refine jF.rd hS hk ?_ h4;show tI ps agg (p.ev pe)=_;rw [hx];have hm':(l.map (RT.pv r))[m]? =some (RT.pv r a):=by simp [hm]
    have e1:(Int.ofNat m).toNat=m:=rfl;simp only [tI,hS.arr hst,e1,hm',h3];rfl
   |_=>cases h
 |pb t i off=>
  simp only [cK] at h;generalize hst:s[t]? =b at h;cases b with
  |none=>cases h
  |some b=>
   cases b with
   |arr r l=>
    obtain ⟨a,ha,h⟩:=dM h;obtain ⟨v,hv,hk⟩:=bS h;obtain ⟨e',hx,hat⟩:=hx;obtain ⟨u,h3,h4⟩:=zO (QM r a) hv;obtain ⟨m,rfl,hm⟩:=rM ha;refine jF.rd hS hk ?_ h4;show tI ps agg (p.ev pe)=_;rw [hx];have hm':(l.map (RT.pv r))[m]? =some (RT.pv r a):=by simp [hm]
    have e1:(Int.ofNat m).toNat=m:=rfl;simp only [tI,hS.arr hst,e1,hm',h3];rfl
   |_=>cases h
 |rptr cs off=>
  obtain ⟨v,hv,h⟩:=bS h;obtain ⟨q,hq,hr⟩:=hx;obtain ⟨u,h3,h4⟩:=zO hr hv;refine jF.val hS h ?_ h4;show tI ps agg (p.ev pe)=_;rw [hq];simp only [tI,h3];rfl
 |_=>cases h
theorem SF (hS:cX s ps) {t:Nat} {r:List PT} {l:List (RT r)} (hst:s[t]? =some (.arr r l)) {i:Int} {b:RT r} {rd:List Nat}:
 jU s ps {v:= .undef,wr:=[(t,.arr r (cP l i b))],rd} {v:= .undef,wr:=[(t,.arr r.length ((l.map (RT.pv r)).set i.toNat (RT.pv r b)))],rd}:=
 jU.put0 hS hst (.inl ⟨_,rfl,by simp⟩) (by show _=_;simp [cP,List.map_set])
theorem aBY (hE:eL s e pe) (hS:cX s ps) {sz:Nat} {p x:gU} (h:qG e s z (.store sz p x) k ρ w=some y):jF s ps (bO pe ps z (.store sz p x)) k ρ w y:=by
 simp only [qG] at h;have hx:=eJ hE p;have hv:=eJ hE x;unfold aC7 at h;generalize cB e p=v at h hx;generalize cB e x=u at h hv;cases v with
 |bp t n off=>
  simp only [cK] at h;generalize hst:s[t]? =b at h;cases b with
  |none=>cases h
  |some b=>
   cases b with
   |box cs=>
    obtain ⟨w',hw,h⟩:=bS h;obtain ⟨hc,h⟩:=cY h;obtain ⟨q,h1,h2⟩:=hv.stored hw;obtain ⟨b,h3,h4⟩:=hS.box hst;have hfr:=Fr.dg (ts:=[t]) (Fr.set (b:= .box (uR off w' cs)) hst trivial);refine ⟨_,_,?_,jU.put0 hS (b:= .box (uR off w' cs)) (q:= .box (tL off q b)) (rd:=[]) hst trivial ⟨_,rfl,RL.fr hfr (FJ h2 h4)⟩,h⟩
    · show xZ ps z sz (x.ev pe) (p.ev pe)=_
      rw [show p.ev pe=_ from hx];simp only [xZ,h3,h1,h2.length,h4.length];rw [if_pos (by simpa using hc)]
   |_=>cases h
 |pa t r i a off=>
  simp only [cK] at h;generalize hst:s[t]? =b at h;cases b with
  |none=>cases h
  |some b=>
   cases b with
   |arr q l=>
    obtain ⟨hc,h⟩:=cY h;obtain ⟨a',ha',hk⟩:=bS h;obtain ⟨hx,hat⟩:=hx;obtain ⟨rfl,hg⟩:=hat.inv hst;obtain ⟨m,rfl,hm⟩:=rM hg;refine ⟨_,_,?_,SF hS hst (rd:=[]),hk⟩;show xZ ps z sz (x.ev pe) (p.ev pe)=_;rw [hx];have hm':(l.map (RT.pv r))[m]? =some (RT.pv r a):=by simp [hm]
    have e1:(Int.ofNat m).toNat=m:=rfl;simp only [Bool.and_eq_true,Bool.not_eq_true'] at hc;obtain ⟨⟨c1,c2⟩,c3⟩:=hc;have hj:u≠ .junk:=by
     intro e;subst e
     have:=RT.of_some ha'
     have hq:=congrArg (fun l=>l[off]?) this
     have hle:=Nat.le_of_ble_eq_true c2;have hsz:sz=1:=by have:=Nat.eq_of_beq_eq_true c1;simpa [SV.cells] using this.symm
     have hlt:off<r.length:=by omega
     have hl1:off<(RT.sv r a).length:=by rw [RT.sv_len];exact hlt
     simp only [uR,SV.cells] at hq;rw [List.getElem?_append_left (by simp;omega),List.getElem?_append_right (by simp;omega)] at hq
     simp only [List.length_take,Nat.min_eq_left (Nat.le_of_lt hl1),Nat.sub_self,List.getElem?_cons_zero] at hq
     have: ∀(r:List PT) (b:RT r) (n:Nat),(RT.sv r b)[n]?≠some .junk:=by
      intro r
      induction r with
      |nil=>intro b n h;simp [RT.sv] at h
      |cons p rest ih=>
       intro b n;cases rest with
       |nil=>cases n<;>cases p<;>simp [RT.sv,PT.sv]
       |cons p2 rest2=>cases n with
        |zero=>cases p<;>simp [RT.sv,PT.sv]
        |succ n=>simpa [RT.sv] using ih b.2 n
     exact this r a' off hq.symm
    have hcells:=hv.cells hj;have hrow:=RT.of_some ha';have h5:RL s (RT.sv r a') (tL off (x.ev pe).cells (RT.pv r a)):=by
     rw [<- hrow];exact FJ hcells (QM r a)
    have h6:=FI r a' h5;have hplain:(x.ev pe).storedPlain=some (x.ev pe).cells:=by
     unfold PV.storedPlain;rw [if_pos ?_];have hall:=RT.plain r a';rw [<- h6] at hall;unfold tL at hall;simp only [List.all_append,Bool.and_eq_true] at hall;exact hall.1.2
    simp only [xZ,hS.arr hst,e1,hm',hplain,hcells.length,RT.pv_len];rw [if_pos (by simp [c1,c2,c3])]
    simp only [h6]
   |_=>cases h
 |pb t i off=>
  simp only [cK] at h;generalize hst:s[t]? =b at h;cases b with
  |none=>cases h
  |some b=>
   cases b with
   |arr r l=>
    obtain ⟨hc,h⟩:=cY h;obtain ⟨e',hx,hat⟩:=hx;have hin:=hat.inv hst;rw [Option.isSome_iff_exists] at hin;obtain ⟨a0,hg⟩:=hin;obtain ⟨m,rfl,hm⟩:=rM hg;have hm':(l.map (RT.pv r))[m]? =some (RT.pv r a0):=by simp [hm]
    have e1:(Int.ofNat m).toNat=m:=rfl;simp only [Bool.and_eq_true,Bool.not_eq_true'] at hc;obtain ⟨⟨c1,c2⟩,c3⟩:=hc;cases hsz:Nat.beq sz r.length with
    |true=>
     rw [hsz] at h;obtain ⟨a',ha',hk⟩:=bS h;obtain ⟨hp,hl⟩:=hv.ofRow ha';have hszr:=Nat.eq_of_beq_eq_true hsz;have hoff:off=0:=by have:=Nat.le_of_ble_eq_true c2;omega
     subst hoff;refine ⟨_,_,?_,SF hS hst (rd:=[]),hk⟩;show xZ ps z sz (x.ev pe) (p.ev pe)=_;rw [hx];simp only [xZ,hS.arr hst,e1,hm',hp,RT.pv_len];rw [if_pos (by rw [Nat.zero_add,hszr];simp [c3])]
     have:tL 0 (RT.pv r a') (RT.pv r a0)=RT.pv r a':=by
      unfold tL;rw [RT.pv_len,List.drop_of_length_le (by rw [RT.pv_len];omega)];simp
     rw [this]
    |false=>
     rw [hsz] at h;obtain ⟨a,ha,h⟩:=dM h;obtain ⟨a',ha',hk⟩:=bS h;rw [hg] at ha;injection ha with ha;subst ha;refine ⟨_,_,?_,SF hS hst (rd:=[]),hk⟩;show xZ ps z sz (x.ev pe) (p.ev pe)=_;rw [hx];have hj:u≠ .junk:=by
      intro e;subst e
      have:=RT.of_some ha'
      have hq:=congrArg (fun l=>l[off]?) this
      have hle:=Nat.le_of_ble_eq_true c2;have hsz:sz=1:=by have:=Nat.eq_of_beq_eq_true c1;simpa [SV.cells] using this.symm
      have hlt:off<r.length:=by omega
      have hl1:off<(RT.sv r a0).length:=by rw [RT.sv_len];exact hlt
      simp only [uR,SV.cells] at hq;rw [List.getElem?_append_left (by simp;omega),List.getElem?_append_right (by simp;omega)] at hq
      simp only [List.length_take,Nat.min_eq_left (Nat.le_of_lt hl1),Nat.sub_self,List.getElem?_cons_zero] at hq
      have: ∀(r:List PT) (b:RT r) (n:Nat),(RT.sv r b)[n]?≠some .junk:=by
       intro r
       induction r with
       |nil=>intro b n h;simp [RT.sv] at h
       |cons p rest ih=>
        intro b n;cases rest with
        |nil=>cases n<;>cases p<;>simp [RT.sv,PT.sv]
        |cons p2 rest2=>cases n with
         |zero=>cases p<;>simp [RT.sv,PT.sv]
         |succ n=>simpa [RT.sv] using ih b.2 n
      exact this r a' off hq.symm
     have hcells:=hv.cells hj;have hrow:=RT.of_some ha';have h5:RL s (RT.sv r a') (tL off (x.ev pe).cells (RT.pv r a0)):=by
      rw [<- hrow];exact FJ hcells (QM r a0)
     have h6:=FI r a' h5;have hplain:(x.ev pe).storedPlain=some (x.ev pe).cells:=by
      unfold PV.storedPlain;rw [if_pos ?_];have hall:=RT.plain r a';rw [<- h6] at hall;unfold tL at hall;simp only [List.all_append,Bool.and_eq_true] at hall;exact hall.1.2
     simp only [xZ,hS.arr hst,e1,hm',hplain,hcells.length,RT.pv_len];rw [if_pos (by simp [c1,c2,c3])]
     simp only [h6]
   |_=>cases h
 |_=>cases h
end
end Go.Vm
/- Operation by operation, third part: slices, new blocks, append, sets; all of them together. -/
namespace Go.Vm
section
variable {R' ρ : Type} {w : R' -> ρ} {y : ρ} {s : List SB} {ps : cV} {e : SE} {pe : zA} {z : List Nat} {k : jA -> jM R'}
def N0 (pe:zA) (o:Option gU):Option (Option Nat):=match o with|none=>some none|some a=>(mX (a.ev pe)).map some
theorem BJ (hE:eL s e pe) {o:Option gU} {d a:Int} {n:Nat} (h:J8 e d o=some a) (hd:d=Int.ofNat n) (h0:0<=a): ∃b,N0 pe o=some b/\b.getD n=a.toNat:=by
 cases o with
 |none=>
  injection h with h;subst h hd;exact ⟨none,rfl,rfl⟩
 |some x=>
  simp only [J8] at h;split at h
  · rename_i ka m hx
    injection h with h;subst h;obtain ⟨b,rfl⟩:=Int.eq_ofNat_of_zero_le h0;refine ⟨some b,?_,rfl⟩;simp only [N0,rA hE hx];rfl
  · cases h
theorem G5 {esz:Nat} {x:gU} {lo hi mx:Option gU} {l h m:Option Nat} {v:PV} (he:A7 esz (x.ev pe)=true) (h1:N0 pe lo=some l) (h2:N0 pe hi=some h) (h3:N0 pe mx=some m) (hv:wO (x.ev pe) l h m=some v):
 bO pe ps z (.slc esz x lo hi mx)=some {v:=v}:=by
 have e:bO pe ps z (.slc esz x lo hi mx)=(match N0 pe lo,N0 pe hi,N0 pe mx with|some l,some h,some m=>(wO (x.ev pe) l h m).map fun v=>({v}:tH)|_,_,_=>none):=by
  simp only [bO,he,Bool.not_true,Bool.false_eq_true,if_false];rfl
 rw [e,h1,h2,h3];simp only [hv];rfl
theorem N1 {α:Type} {l r:List α} {lo hi:Int} (h:jL l lo hi=some r): ∃a b:Nat,lo=Int.ofNat a/\hi=Int.ofNat b/\a<=b/\b<=l.length/\r=(l.drop a).take (b-a):=by
 unfold jL at h;split at h
 · rename_i hc
   obtain ⟨a,rfl⟩:=Int.eq_ofNat_of_zero_le hc.1;obtain ⟨b,rfl⟩:=Int.eq_ofNat_of_zero_le (Int.le_trans hc.1 hc.2.1);injection h with h;exact ⟨a,b,rfl,rfl,by omega,by omega,by rw [<- h];simp⟩
 · cases h
theorem SG (hE:eL s e pe) (hS:cX s ps) {esz t off len cap:Nat} {ex:Bool} {x:gU} {lo hi mx:Option gU} (hx:x.ev pe= .own t esz off len cap ex) (hat:GF s t esz) (h:X8 e t off len cap ex lo hi mx k ρ w=some y):
 jF s ps (bO pe ps z (.slc esz x lo hi mx)) k ρ w y:=by
 unfold X8 at h;obtain ⟨a,ha,h⟩:=bS h;obtain ⟨b,hb,h⟩:=bS h;have he:A7 esz (x.ev pe)=true:=by rw [hx];simp [A7]
 cases mx with
 |none=>
  obtain ⟨hc,h⟩:=jV h;simp only [Bool.and_eq_true,decide_eq_true_eq] at hc;obtain ⟨⟨c1,c2⟩,c3⟩:=hc;obtain ⟨l,h1,h2⟩:=BJ hE (n:=0) ha rfl c1;obtain ⟨u,h3,h4⟩:=BJ hE (n:=len) hb rfl (Int.le_trans c1 c2);refine jF.val hS h (G5 he h1 h3 (m:=none) rfl ?_) ⟨esz,rfl,hat⟩;rw [hx];have c4:(Nat.ble a.toNat b.toNat&&Nat.ble b.toNat cap)=true:=by
   have c3':b<=(cap:Int):=c3
   simp;omega
  simp only [wO,h2,h4,c4,if_true]
 |some mo=>
  dsimp only at h;generalize hm:cB e mo=vm at h;cases vm with
  |int km c=>
   obtain ⟨hc,h⟩:=jV h;simp only [Bool.and_eq_true,decide_eq_true_eq] at hc;obtain ⟨⟨⟨c1,c2⟩,c3⟩,c4⟩:=hc;obtain ⟨l,h1,h2⟩:=BJ hE (n:=0) ha rfl c1;obtain ⟨u,h3,h4⟩:=BJ hE (n:=len) hb rfl (Int.le_trans c1 c2);have hc0:0<=c:=Int.le_trans (Int.le_trans c1 c2) c3;obtain ⟨c,rfl⟩:=Int.eq_ofNat_of_zero_le hc0
   refine jF.val hS h (G5 he h1 h3 (m:=some c) (by simp only [N0,rA hE hm];rfl) ?_) ⟨esz,rfl,hat⟩
   rw [hx];have c5:(Nat.ble a.toNat b.toNat&&Nat.ble b.toNat c&&Nat.ble c cap)=true:=by
    have c4':(c:Int)<=(cap:Int):=c4
    simp;omega
   simp only [wO,h2,h4,c5,if_true];rfl
  |_=>cases h
theorem aFr (hE:eL s e pe) (hS:cX s ps) {esz:Nat} {x:gU} {lo hi mx:Option gU} (h:qG e s z (.slc esz x lo hi mx) k ρ w=some y):jF s ps (bO pe ps z (.slc esz x lo hi mx)) k ρ w y:=by
 simp only [qG] at h;have hx:=eJ hE x;unfold aSz at h;generalize cB e x=v at h hx;cases v with
 |sl r l=>
  cases mx with
  |some _=>cases h
  |none=>
   dsimp only at h;obtain ⟨he,h⟩:=cY h;have he:=Nat.eq_of_beq_eq_true he;obtain ⟨a,ha,h⟩:=bS h;obtain ⟨b,hb,h⟩:=bS h;obtain ⟨m,hm,hk⟩:=dM h;obtain ⟨n1,n2,rfl,rfl,c1,c2,rfl⟩:=N1 hm;obtain ⟨u1,h1,h2⟩:=BJ hE (n:=0) ha rfl (by simp)
   obtain ⟨u2,h3,h4⟩:=BJ hE (n:=l.length) hb rfl (by simp)
   have hx':x.ev pe= .sl r.length false (l.map (RT.pv r)):=hx;subst he;refine jF.val hS (p:= .sl r.length false ((((l.drop n1).take (n2-n1))).map (RT.pv r))) hk (G5 (m:=none) (by rw [hx'];simp [A7]) h1 h3 rfl ?_) rfl
   rw [hx'];have h2':u1.getD 0=n1:=by rw [h2];rfl
   have h4':u2.getD (l.map (RT.pv r)).length=n2:=by rw [List.length_map,h4];rfl
   have c3:(Nat.ble n1 n2&&Nat.ble n2 (l.map (RT.pv r)).length)=true:=by simp [c1,c2]
   simp only [wO,h2',h4',c3,if_true,Bool.false_and,List.map_take,List.map_drop]
 |own t ex=>
  simp only [cK] at h;generalize hst:s[t]? =b at h;cases b with
  |none=>cases h
  |some b=>
   cases b with
   |arr r l=>
    dsimp only at h;obtain ⟨he,hk⟩:=cY h;have he:=Nat.eq_of_beq_eq_true he;obtain ⟨e',n',hx,hat⟩:=hx;obtain ⟨rfl,rfl⟩:=hat.inv hst;subst he;have hesz:GF s t r.length:= .inl ⟨r,l,hst,rfl⟩;have gen:X8 e t 0 l.length l.length ex lo hi mx k ρ w=some y->jF s ps (bO pe ps z (.slc r.length x lo hi mx)) k ρ w y:=fun h=>SG hE hS hx hesz h
    have he:A7 r.length (x.ev pe)=true:=by rw [hx];simp [A7]
    cases mx with
    |some m=>cases lo<;>cases hi<;>exact gen hk
    |none=>
     cases lo with
     |some _=>cases hi<;>exact gen hk
     |none=>
      cases hi with
      |none=>
       refine jF.val hS hk (G5 (l:=none) (h:=none) (m:=none) he rfl rfl rfl ?_) ⟨r.length,l.length,rfl,hat⟩;rw [hx];simp [wO]
      |some ho=>
       dsimp only at hk;generalize hh:cB e ho=vh at hk;cases vh with
       |int kh b=>
        obtain ⟨m,hm,hk⟩:=dM hk;obtain ⟨n1,n2,h0,rfl,c1,c2,rfl⟩:=N1 hm;refine jF.val hS hk (G5 (l:=none) (h:=some n2) (m:=none) he rfl (by simp only [N0,rA hE hh];rfl) rfl ?_) ⟨r.length,rfl,hesz⟩
        rw [hx];have c3:(Nat.ble 0 n2&&Nat.ble n2 l.length)=true:=by simp [c2]
        simp only [wO,Option.getD_none,Option.getD_some,c3,if_true];rfl
       |_=>cases hk
   |_=>cases h
 |pre t len cap ex=>
  simp only [cK] at h;generalize hst:s[t]? =b at h;cases b with
  |none=>cases h
  |some b=>
   cases b with
   |arr r l=>
    dsimp only at h;obtain ⟨he,hk⟩:=cY h;have he:=Nat.eq_of_beq_eq_true he;obtain ⟨e',hx,hat⟩:=hx
    have:=hat.inv hst
    subst this;subst he;have gen:X8 e t 0 len cap ex lo hi mx k ρ w=some y->jF s ps (bO pe ps z (.slc r.length x lo hi mx)) k ρ w y:=fun h=>SG hE hS hx hat h
    have he:A7 r.length (x.ev pe)=true:=by rw [hx];simp [A7]
    cases mx with
    |some m=>cases lo<;>cases hi<;>exact gen hk
    |none=>
     cases lo with
     |some _=>cases hi<;>exact gen hk
     |none=>
      cases hi with
      |none=>
       obtain ⟨hlc,hk⟩:=jV hk;refine jF.val hS hk (G5 (l:=none) (h:=none) (m:=none) he rfl rfl rfl ?_) ⟨r.length,rfl,hat⟩;rw [hx];have c3:(Nat.ble 0 len&&Nat.ble len cap)=true:=by simp [hlc]
       simp only [wO,Option.getD_none,c3,if_true];simp
      |some ho=>
       dsimp only at hk;generalize hh:cB e ho=vh at hk;cases vh with
       |int kh b=>
        obtain ⟨hc,hk⟩:=jV hk;simp only [Bool.and_eq_true,decide_eq_true_eq] at hc;obtain ⟨c1,c2⟩:=hc;obtain ⟨b,rfl⟩:=Int.eq_ofNat_of_zero_le c1;refine jF.val hS hk (G5 (l:=none) (h:=some b) (m:=none) he rfl (by simp only [N0,rA hE hh];rfl) rfl ?_) ⟨r.length,rfl,hat⟩
        rw [hx];have c3:(Nat.ble 0 b&&Nat.ble b cap)=true:=by
         have c2':(b:Int)<=(cap:Int):=c2
         simp;omega
        simp only [wO,Option.getD_none,Option.getD_some,c3,if_true];rfl
       |_=>cases hk
   |_=>cases h
 |part t off len cap ex=>
  simp only [cK] at h;generalize hst:s[t]? =b at h;cases b with
  |none=>cases h
  |some b=>
   cases b with
   |arr r l=>
    dsimp only at h;obtain ⟨he,hk⟩:=cY h;have he:=Nat.eq_of_beq_eq_true he;obtain ⟨e',hx,hat⟩:=hx
    have:=hat.inv hst
    subst this;subst he;exact SG hE hS hx hat hk
   |_=>cases h
 |_=>cases h
theorem vX {b:SB}:(s++[b])[s.length]? =some b:=by simp
theorem eX: ∀{v:PV} {p:PT},fE v=some p->p.pv p.zero=v
 | .int k n,p,h=>by
  simp only [fE] at h;split at h
  · injection h with h;subst h;rfl
  · cases h
 | .bool b,p,h=>by
  simp only [fE] at h;split at h
  · injection h with h;subst h;rfl
  · cases h
 | .undef,_,h| .nul,_,h| .str _,_,h| .agg _,_,h| .tup _,_,h| .sl _ _ _,_,h| .own _ _ _ _ _ _,_,h| .ptr _ _ _ _,_,h| .rptr _ _,_,h| .mp _,_,h| .clo _ _ _,_,h| .nilf,_,h=>by cases h
theorem IN : ∀ {l : List PV} {r : List PT}, NP l = some r -> RT.pv r (RT.zero r) = l
  | [], r, h => by injection h with h; subst h; rfl
  | v :: vs, r, h => by
    simp only [NP] at h
    split at h
    · rename_i p q h1 h2
      injection h with h; subst h
      have e1 := eX h1
      have e2 := IN h2
      cases q with
      | nil =>
        have : vs = [] := by
          cases vs with
          | nil => rfl
          | cons a b => simp only [RT.pv] at e2; cases e2
        subst this
        show [p.pv p.zero] = _
        rw [e1]
      | cons p2 q2 =>
        show p.pv p.zero :: RT.pv (p2 :: q2) (RT.zero (p2 :: q2)) = _
        rw [e1, e2]
    · cases h
theorem aFs (hE:eL s e pe) (hS:cX s ps) {esz:Nat} {zero:sB} {l c:gU} (h:qG e s z (.mks esz zero l c) k ρ w=some y):jF s ps (bO pe ps z (.mks esz zero l c)) k ρ w y:=by
 simp only [qG] at h;generalize hl:cB e l=vl at h;cases vl with
 |int kl n=>
  generalize hc:cB e c=vc at h;cases vc with
  |int kc m=>
   obtain ⟨hnm,h1⟩:=jV h;obtain ⟨r,hr,h2⟩:=bS h1;obtain ⟨he,h3⟩:=cY h2;obtain ⟨x,hx,hk⟩:=dM h3;have hnm:n=m:=by simpa using hnm
   subst hnm;have he:=Nat.eq_of_beq_eq_true he;subst he;unfold EB at hx;split at hx
   · rename_i hc2
     injection hx with hx;subst hx;obtain ⟨a,rfl⟩:=Int.eq_ofNat_of_zero_le hc2.1;have h1:(Nat.ble a a&&Nat.ble a tM)=true:=by simp [tM];omega
     refine ⟨_,_,?_,jU.new hS (b:= .arr r (List.replicate (Int.ofNat a).toNat (RT.zero r))) (q:= .arr r.length (List.replicate a zero)) (v:= .own s.length true) (p:= .own s.length r.length 0 a a true) (rd:=[]) ?_ ?_,hk⟩
     · have e1:mX (.int kl (a:Int))=some a:=rfl
       have e2:mX (.int kc (a:Int))=some a:=rfl;simp only [bO,rA hE hl,rA hE hc,e1,e2];rw [if_pos h1,hS.len]
     · show _=_
       simp [IN hr]
     · exact ⟨r.length,a,rfl,.inl ⟨r,_,vX,rfl,by simp⟩⟩
   · cases hx
  |_=>cases h
 |_=>cases h
def CF {α:Type}:List α->List (Nat×α)->List α
 |l,[]=>l
 |l,(i,a)::r=>CF (l.set i a) r
theorem N2 {α : Type} : ∀ (q : List (Nat × α)) (l : List α) (i : Nat), (CF l q)[i]? = (l[i]?).map fun z => LH i z q
  | [], l, i => by simp [CF, LH]
  | (j, a) :: q, l, i => by
    simp only [CF, LH]
    rw [N2 q (l.set j a) i, List.getElem?_set]
    by_cases hji : j = i
    · subst hji
      cases hl : l[j]? with
      | none =>
        have : ¬ j < l.length := by intro h; rw [List.getElem?_eq_getElem h] at hl; cases hl
        simp [this]
      | some z =>
        have : j < l.length := (List.getElem?_eq_some_iff.1 hl).1
        simp [this]
    · have : Nat.beq j i = false := by
        cases hb : Nat.beq j i with
        | false => rfl
        | true => exact absurd (Nat.eq_of_beq_eq_true hb) hji
      simp [hji, this]
theorem U5 {α:Type} (f:Nat->α): ∀(n i j:Nat),(R8 f i n)[j]? =if j<n then some (f (i+j)) else none
 |0,i,j=>by simp [R8]
 |n+1,i,0=>by simp [R8]
 |n+1,i,j+1=>by
  simp only [R8,List.getElem?_cons_succ];rw [U5 f n (i+1) j,show i+1+j=i+(j+1) by omega]
  by_cases h:j<n
  · simp [h]
  · simp [h]
theorem N3 {α:Type} (z:α) (n:Nat) (q:List (Nat×α)):CF (List.replicate n z) q=R8 (fun i=>LH i z q) 0 n:=by
 apply List.ext_getElem?;intro i;rw [N2,U5]
 by_cases h:i<n
 · simp [h]
 · simp [h]
theorem N4 (hE:eL s e pe) {r:List PT} {n:Nat}: ∀{parts:List (Nat×gU)} {q:List (Nat×RT r)} {l:List (RT r)},aAi r e n parts=some q->l.length=n->
 vN (parts.map fun p=>(p.1,p.2.ev pe)) (l.map (RT.pv r)) r.length=some ((CF l q).map (RT.pv r))
 | [],q,l,h,hl=>by injection h with h;subst h;rfl
 |p::parts,q,l,h,hl=>by
  simp only [aAi] at h;split at h
  · rename_i a q' h1 h2
    cases hb:Nat.blt p.1 n with
    |false=>rw [hb] at h;cases h
    |true=>
     rw [hb] at h;injection h with h;subst h;have hp:=((eJ hE p.2).ofRow h1).1;simp only [List.map_cons,vN,hp,RT.pv_len,List.length_map,hl,hb,Nat.beq_refl,Bool.and_self,if_true,CF];rw [<- List.map_set];exact N4 hE h2 (by simp [hl])
  · cases h
theorem aBZ (hE:eL s e pe) (hS:cX s ps) {esz n:Nat} {zero:sB} {parts:List (Nat×gU)} (h:qG e s z (.mkrow esz n zero parts) k ρ w=some y):jF s ps (bO pe ps z (.mkrow esz n zero parts)) k ρ w y:=by
 simp only [qG] at h;obtain ⟨r,hr,h1⟩:=bS h;obtain ⟨he,h2⟩:=cY h1;obtain ⟨q,hq,hk⟩:=bS h2;have he:=Nat.eq_of_beq_eq_true he;subst he;have hf:=N4 hE (l:=List.replicate n (RT.zero r)) hq (by simp)
 rw [N3] at hf;have hz:(List.replicate n (RT.zero r)).map (RT.pv r)=List.replicate n zero:=by simp [IN hr]
 rw [hz] at hf;refine ⟨_,_,?_,jU.new hS (b:= .arr r (R8 (fun i=>LH i (RT.zero r) q) 0 n)) (q:= .arr r.length ((R8 (fun i=>LH i (RT.zero r) q) 0 n).map (RT.pv r))) (v:= .own s.length true) (p:= .own s.length r.length 0 n n true) (rd:=[]) rfl ?_,hk⟩
 · simp only [bO,hf,hS.len]
   rfl
 · refine ⟨r.length,n,rfl,.inl ⟨r,_,vX,rfl,?_⟩⟩
   rw [<- N3]
   have: ∀(q:List (Nat×RT r)) (l:List (RT r)),(CF l q).length=l.length:=by
    intro q
    induction q with
    |nil=>intro l;rfl
    |cons p q ih=>intro l;simp [CF,ih]
   rw [this];simp
theorem aAv: ∀{cs:List SV} {q:List PV} {l:List Int},RL s cs q->aAj cs=some l->q=l.map (.int .i64)
 | [],q,l,h,hi=>by injection hi with hi;subst hi;exact h
 |x::xs,q,l,h,hi=>by
  obtain ⟨p,q,rfl,h1,h2⟩:=h.cons_inv;simp only [aAj] at hi;split at hi
  · rename_i n l' hx
    injection hi with hi;subst hi;rw [show p= .int .i64 n from h1,aAv h2 hx];rfl
  · cases hi
theorem aDv {v:SV} {p:PV} {n:Option Nat} {l:List Int} (h:R s v p) (hk:aFd n v=some l):p=zG l/\mA n (zG l)=true/\(zG l).storedPlain=some (zG l).cells/\(zG l).cells=l.map (.int .i64)/\(n=none->l.length=1)/\(∀m,n=some m->l.length=m/\m≠1):=by
 cases n with
 |none=>
  cases v with
  |int kk a=>
   cases kk with
   |i64=>
    injection hk with hk;subst hk;exact ⟨h,rfl,rfl,rfl,fun _=>rfl,fun m hm=>by cases hm⟩
   |_=>cases hk
  |_=>cases hk
 |some m=>
  cases v with
  |agg cs=>
   simp only [aFd] at hk;cases hc:(Nat.beq cs.length m&&!Nat.beq m 1) with
   |false=>rw [hc] at hk;cases hk
   |true=>
    rw [hc] at hk;simp only [cond_true] at hk;simp only [Bool.and_eq_true,Nat.beq_eq,Bool.not_eq_true'] at hc;obtain ⟨c1,c2⟩:=hc;obtain ⟨q,rfl,hq⟩:=h;have hq':=aAv hq hk;have hlen:l.length=m:=by have:=hq.length;rw [hq'] at this;simp at this;omega
    have hm1:m≠1:=by intro e;subst e;cases c2
    have hkl:zG l= .agg (l.map (.int .i64)):=by
     unfold zG;split
     · simp at hlen;omega
     · rfl
    refine ⟨by rw [hkl,hq'],by rw [hkl];simp [mA,hlen],?_,by rw [hkl];rfl,(fun h=>(by cases h)),fun m' hm=>by injection hm with hm;subst hm;exact ⟨hlen,hm1⟩⟩
    rw [hkl];unfold PV.storedPlain;rw [if_pos];simp [PV.cells,PV.plain]
  |_=>cases hk
theorem CG: ∀(a b:List Int),a.length=b.length->dU (a.map (.int .i64)) (b.map (.int .i64))=some (a==b)
 | [],[],_=>rfl
 |x::a,y::b,h=>by
  have ih:=CG a b (by simpa using h)
  simp only [List.map_cons,dU,wN,U3,if_true];cases hxy:x==y with
  |true=>simp only [ih];simp [List.cons_beq_cons,hxy]
  |false=>simp [List.cons_beq_cons,hxy]
 | [],_::_,h=>by simp at h
 |_::_,[],h=>by simp at h
theorem KD {n : Option Nat} {a : List Int} (ha : (zG a).cells = a.map (.int .i64)) (hn : (n = none -> a.length = 1) /\ (∀ m, n = some m -> a.length = m /\ m ≠ 1)) : ∀ (l : List (List Int)) (i : Nat), (∀ r, gG n (zG a) (l.map IJ) i = some r -> (match r with | none => L5 l a = false | some j => i <= j /\ L5 l a = true /\ l[j - i]? = some a))
  | [], i, r, h => by
    simp only [List.map_nil, gG, Option.some.injEq] at h
    subst h; rfl
  | b :: l, i, r, h => by
    simp only [List.map_cons, IJ, gG] at h
    split at h
    · rename_i hk
      have hb : (zG b).cells = b.map (.int .i64) /\ a.length = b.length := by
        cases n with
        | none =>
          have hl := hn.1 rfl
          unfold zG at hk ⊢
          split at hk
          · exact ⟨rfl, by simpa using hl⟩
          · cases hk
        | some m =>
          obtain ⟨hl, hm⟩ := hn.2 m rfl
          unfold zG at hk ⊢
          split at hk
          · cases hk
          · simp only [mA, List.length_map, Nat.beq_eq] at hk
            exact ⟨rfl, by omega⟩
      rw [ha, hb.1, CG a b hb.2] at h
      cases hab : a == b with
      | true =>
        rw [hab] at h
        injection h with h; subst h
        have : a = b := by simpa using hab
        subst this
        exact ⟨Nat.le_refl _, by simp [L5], by simp⟩
      | false =>
        rw [hab] at h
        have := KD ha hn l (i + 1) r h
        cases r with
        | none => simpa [L5, hab] using this
        | some j =>
          obtain ⟨h1, h2, h3⟩ := this
          refine ⟨by omega, by simp only [L5] at h2; simp [L5, h2], ?_⟩
          rw [show j - i = (j - (i + 1)) + 1 by omega]; simpa using h3
    · cases h
theorem IP {n:Option Nat} {a:List Int} (ha:(zG a).cells=a.map (.int .i64)) (hn:(n=none->a.length=1)/\(∀m,n=some m->a.length=m/\m≠1)) {l:List (List Int)} (hl:l.all (fun b=>mA n (zG b))=true): ∀i,∃r,gG n (zG a) (l.map IJ) i=some r:=by
 induction l with
 |nil=>intro i;exact ⟨none,rfl⟩
 |cons b l ih=>
  intro i;simp only [List.all_cons,Bool.and_eq_true] at hl;obtain ⟨r,hr⟩:=ih hl.2 (i+1);simp only [List.map_cons,IJ,gG,hl.1,if_true];have hb:(zG b).cells=b.map (.int .i64)/\a.length=b.length:=by
   have hk:=hl.1;cases n with
   |none=>
    have hl':=hn.1 rfl;unfold zG at hk ⊢;split at hk
    · exact ⟨rfl,by simpa using hl'⟩
    · cases hk
   |some m=>
    obtain ⟨hl',hm⟩:=hn.2 m rfl;unfold zG at hk ⊢;split at hk
    · cases hk
    · simp only [mA,List.length_map,Nat.beq_eq] at hk
      exact ⟨rfl,by omega⟩
  rw [ha,hb.1,CG a b hb.2];cases hab:a==b with
  |true=>exact ⟨some i,rfl⟩
  |false=>exact ⟨r,hr⟩
theorem LK {n:Option Nat} {a:List Int} (hn:(n=none->a.length=1)/\(∀m,n=some m->a.length=m/\m≠1)) {l:List (List Int)} (hl: ∀b∈l,b.length=a.length):l.all (fun b=>mA n (zG b))=true:=by
 rw [List.all_eq_true];intro b hb;have hlen:=hl b hb;cases n with
 |none=>
  have h1:=hn.1 rfl;rw [h1] at hlen
  match b,hlen with
  | [x],_=>rfl
 |some m=>
  obtain ⟨h1,h2⟩:=hn.2 m rfl;unfold zG;split
  · rename_i x;simp at hlen;omega
  · simp [mA];omega
theorem IQ {a:List Int} {l:List (List Int)} (h:sI a l=true): ∀b∈l,b.length=a.length:=by
 intro b hb;exact Nat.eq_of_beq_eq_true (List.all_eq_true.1 h b hb)
theorem PT.of_R {s:List SB} {p:PT} {v:SV} {q:PV} {a:p.T} (h:R s v q) (ho:p.of v=some a):q=p.pv a:=by
 cases p with
 |i k=>
  cases v with
  |int l n=>
   simp only [PT.of] at ho;cases hk:iG l k with
   |false=>rw [hk] at ho;cases ho
   |true=>
    rw [hk] at ho;obtain rfl:=hZ.1 hk;injection ho with ho;subst ho;exact h
  |_=>cases ho
 |b=>
  cases v with
  |bool x=>
   injection ho with ho;subst ho;exact h
  |_=>cases ho
theorem N5 {β:Type} (g:Int×β->PV×PV) (hg: ∀x,(g x).1= .int .i64 x.1) (k:Int): ∀(l:List (Int×β)) (i:Nat),
 (∃j x,gG none (.int .i64 k) (l.map g) i=some (some (i+j))/\l[j]? =some x/\(∀z,lR z l k=x.2)/\ ∀a,oN l k a=l.set j (k,a))\/
 (gG none (.int .i64 k) (l.map g) i=some none/\(∀z,lR z l k=z)/\ ∀a,oN l k a=l++[(k,a)])
 | [],i=> .inr ⟨rfl,fun _=>rfl,fun _=>rfl⟩
 |x::l,i=>by
  have hk:mA none (g x).1=true:=by rw [hg];rfl
  have he:dU (PV.int .i64 k).cells (g x).1.cells=some (k==x.1):=by
   rw [hg];show dU [.int .i64 k] [.int .i64 x.1]=_;simp only [dU,wN,iG,if_true];cases k==x.1<;>rfl
  have hf:gG none (.int .i64 k) ((x::l).map g) i=(match some (k==x.1) with
   |some true=>some (some i)
   |some false=>gG none (.int .i64 k) (l.map g) (i+1)
   |none=>none):=by
   rw [List.map_cons];show (if mA none (g x).1 then _ else none)=_
   rw [if_pos hk,he];cases k==x.1<;>rfl
  cases hb:k==x.1 with
  |true=>
   rw [hb] at hf;exact .inl ⟨0,x,hf,rfl,fun z=>by simp only [lR,hb,cond_true],fun a=>by simp only [oN,hb,cond_true,List.set_cons_zero]⟩
  |false=>
   rw [hb] at hf;rcases N5 g hg k l (i+1) with ⟨j,y,h1,h2,h3,h4⟩|⟨h1,h2,h3⟩
   · refine .inl ⟨j+1,y,?_,by simpa using h2,fun z=>?_,fun a=>?_⟩
     · rw [hf];show gG none (.int .i64 k) (l.map g) (i+1)=_
       rw [h1,show i+1+j=i+(j+1) by omega]
     · simp only [lR,hb,cond_false,h3]
     · simp only [oN,hb,cond_false,h4,List.set_cons_succ]
   · exact .inr ⟨hf.trans h1,fun z=>by simp only [lR,hb,cond_false,h2],fun a=>by simp only [oN,hb,cond_false,h3,List.cons_append]⟩
theorem N6 (p:PT) (k:Int) (l:List (RT [.i .i64,p])):
 (∃(j:Nat) (x:RT [.i .i64,p]),gG none (.int .i64 k) (l.map (L6 p)) 0=some (some j)/\l[j]? =some x/\(∀z,p.get z l k=x.2)/\ ∀a,p.put l k a=l.set j (k,a))\/
 (gG none (.int .i64 k) (l.map (L6 p)) 0=some none/\(∀z,p.get z l k=z)/\ ∀a,p.put l k a=l++[(k,a)]):=by
 cases p with
 |i d=>
  rcases N5 (β:=Int) (L6 (.i d)) (fun _=>rfl) k l 0 with ⟨j,x,h1,h2,h3,h4⟩|h
  · exact .inl ⟨j,x,by rw [h1,Nat.zero_add],h2,h3,h4⟩
  · exact .inr h
 |b=>
  rcases N5 (β:=Bool) (L6 .b) (fun _=>rfl) k l 0 with ⟨j,x,h1,h2,h3,h4⟩|h
  · exact .inl ⟨j,x,by rw [h1,Nat.zero_add],h2,h3,h4⟩
  · exact .inr h
theorem PT.sv_R {s:List SB} (p:PT) (a:p.T):R s (p.sv a) (p.pv a):=by cases p<;>rfl
theorem PT.pv_plain (p:PT) (a:p.T):(p.pv a).storedPlain=some [p.pv a]:=by cases p<;>rfl
theorem YI (hE:eL s e pe) (hS:cX s ps) {n:Option Nat} {zero:PV} {ok:Bool} {m q:gU} (h:qG e s z (.lookup n zero ok m q) k ρ w=some y):jF s ps (bO pe ps z (.lookup n zero ok m q)) k ρ w y:=by
 simp only [qG] at h;have hx:=eJ hE m;generalize cB e m=v at h hx;cases v with
 |mp t=>
  simp only [cK] at h;generalize hst:s[t]? =b at h;cases b with
  |none=>cases h
  |some b=>
   cases b with
   |set l=>
    dsimp only at h;unfold aAl at h;cases zero with
    |bool b=>
     cases b with
     |true=>cases h
     |false=>
      cases ok with
      |true=>cases h
      |false=>
       obtain ⟨a,ha,h1⟩:=bS h;obtain ⟨b,hb,hk⟩:=dM h1;obtain ⟨k1,k2,k3,k4,k5⟩:=aDv (eJ hE q) ha;unfold UT at hb;cases hlk:sI a l with
       |false=>rw [hlk] at hb;cases hb
       |true=>
        rw [hlk] at hb;injection hb with hb;subst hb;obtain ⟨r,hr⟩:=IP k4 k5 (LK k5 (IQ hlk)) 0;have hf:=KD k4 k5 l 0 r hr;refine jF.rd hS hk ?_ rfl;show zH ps n (.bool false) false (m.ev pe) (q.ev pe)=_;rw [show m.ev pe=_ from hx,k1];simp only [zH,hS.set_ hst,k2,if_true,hr];cases r with
        |none=>simp only at hf;simp [hf]
        |some j=>
         obtain ⟨_,h2,h3⟩:=hf
         have:(l.map IJ)[j]? =some (IJ a):=by simp at h3;simp [h3]
         simp [this,h2,IJ]
    |_=>cases h
   |tab p l=>
    dsimp only at h;unfold aAm at h;cases n with
    |some _=>cases h
    |none=>
     cases ok with
     |true=>cases h
     |false=>
      have hq:=eJ hE q;generalize cB e q=u at h hq;cases u with
      |int d a=>
       cases d with
       |i64=>
        obtain ⟨zv,hz,hk⟩:=bS h;have hzero:=PT.of_R (YG s zero) hz;refine jF.rd hS hk ?_ (PT.sv_R p _);show zH ps none zero false (m.ev pe) (q.ev pe)=_;rw [show m.ev pe=_ from hx,show q.ev pe=_ from hq];rcases N6 p a l with ⟨j,x,h1,h2,h3,_⟩|⟨h1,h2,_⟩
        · have h5:(l.map (L6 p))[j]? =some (L6 p x):=by simp [h2]
          simp only [zH,hS.tab_ hst,mA,if_true,h1,h5,h3,L6,Bool.false_eq_true,if_false]
        · simp only [zH,hS.tab_ hst,mA,if_true,h1,h2,hzero,Bool.false_eq_true,if_false]
       |_=>cases h
      |_=>cases h
   |_=>cases h
 |_=>cases h
theorem aDw (hE:eL s e pe) (hS:cX s ps) {n:Option Nat} {m q x:gU} (h:qG e s z (.mapu n m q x) k ρ w=some y):jF s ps (bO pe ps z (.mapu n m q x)) k ρ w y:=by
 simp only [qG] at h;have hx:=eJ hE m;generalize cB e m=v at h hx;cases v with
 |mp t=>
  simp only [cK] at h;generalize hst:s[t]? =b at h;cases b with
  |none=>cases h
  |some b=>
   cases b with
   |set l=>
    obtain ⟨hz,h0⟩:=xT h;unfold aC9 at h0;have hv:=eJ hE x;generalize cB e x=u at h0 hv;cases u with
    |bool b=>
     cases b with
     |false=>cases h0
     |true=>
      obtain ⟨a,ha,h1⟩:=bS h0;obtain ⟨b,hb,hk⟩:=dM h1;obtain ⟨k1,k2,k3,k4,k5⟩:=aDv (eJ hE q) ha;unfold UU at hb;cases hlk:sI a l with
      |false=>rw [hlk] at hb;cases hb
      |true=>
       rw [hlk] at hb;injection hb with hb;subst hb;obtain ⟨r,hr⟩:=IP k4 k5 (LK k5 (IQ hlk)) 0;have hf:=KD k4 k5 l 0 r hr;refine ⟨_,_,?_,jU.put0 hS (b:= .set (X6 l a)) (q:= .map ((X6 l a).map IJ)) (rd:=[]) hst trivial rfl,hk⟩;show K9 ps z n (m.ev pe) (q.ev pe) (x.ev pe)=_;rw [show m.ev pe=_ from hx,k1,show x.ev pe= .bool true from hv]
       have p2:(PV.bool true).storedPlain=some [.bool true]:=rfl;simp only [K9,hS.set_ hst,k2,hz,Bool.not_false,Bool.and_self,if_true,k3,p2,hr];cases r with
       |none=>simp only at hf;simp [X6,hf,IJ]
       |some j=>
        obtain ⟨_,h2,h3⟩:=hf;have h5:l[j]? =some a:=by simpa using h3
        have:(l.map IJ).set j (zG a,.bool true)=l.map IJ:=by
         apply List.ext_getElem?;intro i;rw [List.getElem?_set];split
         · rename_i hij
           subst hij;have hlt:=(List.getElem?_eq_some_iff.1 h5).1;have h6:l[j]=a:=(List.getElem?_eq_some_iff.1 h5).2;simp [hlt,h6,IJ]
         · rfl
        simp [X6,h2,this]
    |_=>cases h0
   |tab p l=>
    obtain ⟨hz,h0⟩:=xT h;unfold aDa at h0;cases n with
    |some _=>cases h0
    |none=>
     have hq:=eJ hE q;generalize cB e q=u at h0 hq;cases u with
     |int d a=>
      cases d with
      |i64=>
       obtain ⟨xv,hxv,hk⟩:=bS h0;have hval:=PT.of_R (eJ hE x) hxv;refine ⟨_,_,?_,jU.put0 hS (b:= .tab p (p.put l a xv)) (q:= .map ((p.put l a xv).map (L6 p))) (rd:=[]) hst trivial rfl,hk⟩;show K9 ps z none (m.ev pe) (q.ev pe) (x.ev pe)=_;rw [show m.ev pe=_ from hx,show q.ev pe=_ from hq,hval];have p1:(PV.int .i64 a).storedPlain=some [.int .i64 a]:=rfl
       rcases N6 p a l with ⟨j,x,h1,_,_,h3⟩|⟨h1,_,h3⟩
       · simp only [K9,hS.tab_ hst,mA,hz,Bool.not_false,Bool.and_self,if_true,p1,PT.pv_plain,h1,h3,List.map_set,L6]
       · simp only [K9,hS.tab_ hst,mA,hz,Bool.not_false,Bool.and_self,if_true,p1,PT.pv_plain,h1,h3,List.map_append,List.map_cons,List.map_nil,L6]
      |_=>cases h0
     |_=>cases h0
   |_=>cases h
 |_=>cases h
theorem GF.fr' {s s':List SB} {bad:List Nat} {t e:Nat} (h:GF s t e) (hf:Fr bad s s'):GF s' t e:=by
 rcases h with ⟨r,l,h1,h2⟩|h1
 · rcases hf t _ h1 with ⟨l',k1,_,_⟩|k1
   · exact .inl ⟨r,l',k1,h2⟩
   · exact .inr k1
 · exact .inr (hf t _ h1)
theorem G6 {α:Type} {l r:List α} (h:bX l=some r):r=l/\l.length<=1048576:=by
 unfold bX at h;split at h
 · injection h with h;exact ⟨h.symm,by assumption⟩
 · cases h
theorem EF {α:Type} {l m r:List α} (h:bH l m=some r):r=l++m/\l.length+m.length<=1048576:=by
 unfold bH at h;split at h
 · injection h with h;exact ⟨h.symm,by assumption⟩
 · cases h
theorem zP: ∀(m l:List sB) (n:Nat),n+m.length<=l.length->oM n m l=nE l n m
 | [],l,n,h=>by simp [oM,nE]
 |a::m,l,n,h=>by
  simp only [List.length_cons] at h;rw [oM,zP m (l.set n a) (n+1) (by simp;omega)]
  unfold nE;rw [List.take_set,List.drop_set];have hn:n<l.length:=by omega
  have h1: ¬(n+1+m.length<=n):=by omega
  rw [if_pos (by omega)]
  have:(l.take (n+1)).set n a=l.take n++[a]:=by
   rw [List.take_succ_eq_append_getElem hn,List.set_append_right _ _ (by simp;omega)]
   simp [Nat.min_eq_left (Nat.le_of_lt hn)]
  rw [this];simp only [List.append_assoc,List.cons_append,List.nil_append,List.length_cons];rw [show n+1+m.length=n+(m.length+1) by omega]
theorem N7 {α β:Type} (f:α->β) (l m:List α) (n:Nat):(nE l n m).map f=nE (l.map f) n (m.map f):=by
 simp [nE,List.map_take,List.map_drop]
theorem IR {α:Type} (l m:List α) (n:Nat) (h:n+m.length<=l.length):(nE l n m).length=l.length:=by
 simp [nE];omega
theorem YJ (hE:eL s e pe) (hS:cX s ps) {esz:Nat} {x yy:gU} (h:qG e s z (.append esz x yy) k ρ w=some y):jF s ps (bO pe ps z (.append esz x yy)) k ρ w y:=by
 simp only [qG] at h;have hx:=eJ hE x;have hyv:=eJ hE yy;unfold aAk at h;generalize cB e yy=vy at h hyv;cases hc:GC s vy with
 |none=>rw [hc] at h;cases h
 |some cc=>
  obtain ⟨q,m⟩:=cc;rw [hc] at h;dsimp only at h;obtain ⟨he,h⟩:=cY h;have he:=Nat.eq_of_beq_eq_true he;obtain ⟨hro,htk⟩:=aAt hS hyv hc;rw [he] at hro;have pe_app:bO pe ps z (.append esz x yy)=kO ps z esz (x.ev pe) (yy.ev pe):=rfl;generalize cB e x=v at h hx;cases v with
  |nil e' c=>
   dsimp only at h;obtain ⟨hcl,h⟩:=cY h;obtain ⟨m',hm',hk⟩:=dM h;obtain ⟨rfl,hle⟩:=G6 hm';refine ⟨_,_,?_,jU.new hS (b:= .arr q m') (q:= .arr esz (m'.map (RT.pv q))) (v:= .own s.length false) (p:= .own s.length esz 0 m'.length m'.length false) (rd:=CB vy) (by rw [<- he];rfl) ⟨esz,m'.length,rfl,.inl ⟨q,m',vX,he.symm,rfl⟩⟩,hk⟩
   rw [pe_app];have hcl':c=true:=hcl;subst hcl';rw [show x.ev pe= .sl e' true [] from hx];unfold kO;rw [hro];cases m' with
   |nil=>simp [hS.len,htk]
   |cons a m'=>
    have h2:Nat.ble ((a::m').length) tM=true:=by simp [tM] at hle ⊢;omega
    simp only [List.length_cons] at h2;simp [hS.len,htk,h2]
  |own t ex=>
   dsimp only at h;simp only [cK] at h;generalize hst:s[t]? =b at h;cases b with
   |none=>cases h
   |some b=>
    cases b with
    |arr r l=>
     dsimp only at h;cases hca:DO q r m with
     |none=>rw [hca] at h;cases h
     |some m2=>
      rw [hca] at h;dsimp only at h;obtain ⟨rfl,hmp,hml⟩:=II hca;obtain ⟨e',n',hx,hat⟩:=hx;obtain ⟨rfl,rfl⟩:=hat.inv hst;rw [<- hmp] at hro;have harr:=hS.arr hst;cases ex with
      |true=>
       dsimp only at h;rcases fX h with ⟨hl,h⟩|⟨hl,h⟩
       · obtain ⟨m',hm',hk⟩:=dM h
         obtain ⟨rfl,hle⟩:=G6 hm';have hl:l=[]:=by simpa using hl
         subst hl;refine ⟨_,_,?_,jU.new hS (b:= .arr q m') (q:= .arr q.length (m'.map (RT.pv q))) (v:= .own s.length false) (p:= .own s.length q.length 0 m'.length m'.length false) (rd:=t::CB vy) rfl ⟨q.length,m'.length,rfl,.inl ⟨q,m',vX,rfl,rfl⟩⟩,hk⟩;rw [pe_app,hx];unfold kO;rw [hro];subst he;cases m' with
         |nil=>simp [hS.len,htk]
         |cons a m'=>
          have h2:Nat.ble ((a::m').length) tM=true:=by simp [tM] at hle ⊢;omega
          simp only [List.length_cons] at h2;simp [hS.len,htk,h2,harr]
       · have hl:l≠[]:=by intro e;subst e;cases hl
         have hl0:l.length≠0:=by intro e;exact hl (List.length_eq_zero_iff.1 e)
         have hb0:Nat.beq l.length 0=false:=by
          cases hb:Nat.beq l.length 0 with
          |false=>rfl
          |true=>exact absurd (Nat.eq_of_beq_eq_true hb) hl0
         rcases fX h with ⟨hm,h⟩|⟨hm,h⟩
         · have hm:m2=[]:=by simpa using hm
           subst hm;refine jF.rd hS h ?_ ⟨_,_,rfl,hat⟩;rw [pe_app,hx];unfold kO;rw [hro];simp [hb0,htk]
         · obtain ⟨l',hl',hk⟩:=dM h
           obtain ⟨rfl,hle⟩:=EF hl';refine ⟨_,_,?_,jU.new hS (b:= .arr q (l++m2)) (q:= .arr q.length ((l++m2).map (RT.pv q))) (v:= .own s.length false) (p:= .own s.length q.length 0 (l++m2).length (l++m2).length false) (rd:=t::CB vy) rfl ⟨q.length,(l++m2).length,rfl,.inl ⟨q,l++m2,vX,rfl,rfl⟩⟩,hk⟩;rw [pe_app,hx];unfold kO;rw [hro];subst he;cases m2 with
           |nil=>cases hm
           |cons a m2=>
            have h2:Nat.ble (l.length+(a::m2).length) tM=true:=by simp [tM] at hle ⊢;omega
            have h3:Nat.ble (l.length+(m2.length+1)) l.length=false:=by
             cases hb:Nat.ble (l.length+(m2.length+1)) l.length with
             |false=>rfl
             |true=>have:=Nat.le_of_ble_eq_true hb;omega
            simp only [List.length_cons] at h2;simp [hS.len,htk,h2,h3,harr,List.take_of_length_le]
      |false=>
       dsimp only at h;rcases fX h with ⟨hm,h⟩|⟨hm,h⟩
       · have hm:m2=[]:=by simpa using hm
         subst hm;refine jF.rd hS h ?_ ⟨_,_,rfl,hat⟩;rw [pe_app,hx];unfold kO;rw [hro];simp [htk]
       · obtain ⟨hz,h⟩:=xT h
         obtain ⟨l',hl',hk⟩:=dM h;obtain ⟨rfl,hle⟩:=EF hl';have hlen:(KB [t] (s.set t .dead)).length=s.length:=by rw [FH];simp
         refine ⟨_,_,?_,jU.put hS (b:= .dead) (q:= .dead) (l:=[.arr q (l++m2)]) (ql:=[.arr q.length ((l++m2).map (RT.pv q))]) (v:= .own s.length false) (p:= .own s.length q.length 0 (l++m2).length (l++m2).length false) (rd:=CB vy) hst (.inr rfl) rfl rfl
          (fun j b hj=>by
           cases j with
           |zero=>simp at hj;subst hj;exact ⟨_,rfl,rfl⟩
           |succ j=>simp at hj)
          ⟨q.length,(l++m2).length,rfl,.inl ⟨q,l++m2,by rw [<- hlen];exact vX,rfl,rfl⟩⟩,hk⟩
         rw [pe_app,hx];unfold kO;rw [hro];subst he;cases m2 with
         |nil=>cases hm
         |cons a m2=>
          have h2:Nat.ble (l.length+(a::m2).length) tM=true:=by simp [tM] at hle ⊢;omega
          have h3:Nat.ble (l.length+(m2.length+1)) l.length=false:=by
           cases hb:Nat.ble (l.length+(m2.length+1)) l.length with
           |false=>rfl
           |true=>have:=Nat.le_of_ble_eq_true hb;omega
          simp only [List.length_cons] at h2;simp [hS.len,htk,h2,h3,harr,hz,List.take_of_length_le]
    |_=>cases h
  |pre t len cap ex=>
   dsimp only at h;simp only [cK] at h;generalize hst:s[t]? =b at h;cases b with
   |none=>cases h
   |some b=>
    cases b with
    |arr r l=>
     dsimp only at h;cases hca:DO q r m with
     |none=>rw [hca] at h;cases h
     |some m2=>
      rw [hca] at h;dsimp only at h;obtain ⟨rfl,hmp,hml⟩:=II hca;obtain ⟨e',hx,hat⟩:=hx
      have:=hat.inv hst
      subst this;rw [<- hmp] at hro;have harr:=hS.arr hst;obtain ⟨hex,h⟩:=xT h;subst hex;rcases fX h with ⟨hm,h⟩|⟨hm,h⟩
      · have hm:m2=[]:=by simpa using hm
        subst hm;refine jF.rd hS h ?_ ⟨_,rfl,hat⟩;rw [pe_app,hx];unfold kO;rw [hro];simp [htk]
      · rcases fX h with ⟨c1,h⟩|⟨c1,h⟩
        · obtain ⟨hc2,hk⟩:=jV h
          simp only [Bool.and_eq_true,Bool.not_eq_true'] at hc2;obtain ⟨c2,c3⟩:=hc2;have c2':=Nat.le_of_ble_eq_true c2
          refine ⟨_,_,?_,jU.put hS (b:= .arr q (nE l len m2)) (q:= .arr q.length ((nE l len m2).map (RT.pv q))) (l:=[]) (ql:=[]) (v:= .pre t (len+m2.length) cap false) (p:= .own t q.length 0 (len+m2.length) cap false) (rd:=CB vy) hst (.inl ⟨_,rfl,IR _ _ _ c2'⟩) rfl rfl
           (fun j b hj=>by simp at hj) ⟨q.length,rfl,?_⟩,hk⟩
          · rw [pe_app,hx]
            unfold kO;rw [hro];subst he;have hsr:oM (0+len) (m2.map (RT.pv q)) (l.map (RT.pv q))=(nE l len m2).map (RT.pv q):=by
             rw [zP _ _ _ (by simp;omega),N7,Nat.zero_add]
            cases m2 with
            |nil=>cases hm
            |cons a m2=>
             simp only [List.length_cons] at c1;simp only [List.map_cons] at hsr ⊢;simp only [harr,Nat.beq_refl,Bool.not_true,Bool.false_eq_true,if_false,List.length_cons,List.length_map,c1,if_true,c3,hsr,htk]
          · have:=GF.fr' (s:=s) (s':=KB [t] (s.set t (.arr q (nE l len m2)))++[]) hat ((Fr.dg (ts:=[t]) (Fr.set hst (.inl ⟨_,rfl,IR _ _ _ c2'⟩))).trans (Fr.app [t] _ []))
            exact this
        · obtain ⟨hz0,h⟩:=xT h
          have hz:has z t=false:=by
           cases hh:has z t with
           |false=>rfl
           |true=>rw [hh] at hz0;cases hz0
          obtain ⟨l',hl',h⟩:=dM h;obtain ⟨hll,hk⟩:=jV h;obtain ⟨hl'e,hle⟩:=EF hl';subst hl'e;have hll':=Nat.le_of_ble_eq_true hll;have htl:(l.take len).length=len:=by rw [List.length_take];omega
          rw [htl] at hle;have hlen:(KB [t] (s.set t .dead)).length=s.length:=by rw [FH];simp
          have hal:(l.take len++m2).length=len+m2.length:=by rw [List.length_append,htl]
          refine ⟨_,_,?_,jU.put hS (b:= .dead) (q:= .dead) (l:=[.arr q (l.take len++m2)]) (ql:=[.arr q.length ((l.take len++m2).map (RT.pv q))]) (v:= .own s.length false) (p:= .own s.length q.length 0 (l.take len++m2).length (l.take len++m2).length false) (rd:=CB vy) hst (.inr rfl) rfl rfl
           (fun j b hj=>by
            cases j with
            |zero=>simp at hj;subst hj;exact ⟨_,rfl,rfl⟩
            |succ j=>simp at hj)
           ⟨q.length,(l.take len++m2).length,rfl,.inl ⟨q,l.take len++m2,by rw [<- hlen];exact vX,rfl,rfl⟩⟩,hk⟩
          rw [pe_app,hx];unfold kO;rw [hro];subst he;cases m2 with
          |nil=>cases hm
          |cons a m2=>
           have h2:Nat.ble (len+(m2.length+1)) tM=true:=by simp [tM] at hle ⊢;omega
           simp only [List.length_cons] at c1 hal;simp only [List.map_cons,List.length_cons,List.length_map,harr,Nat.beq_refl,Bool.not_true,Bool.false_eq_true,if_false,c1,h2,hz,hS.len,htk,hal,List.drop_zero,List.map_append,List.map_take]
    |_=>cases h
  |_=>cases h
end
end Go.Vm
/- Operation by operation: all of them. -/
namespace Go.Vm
section
variable {R' ρ : Type} {w : R' -> ρ} {y : ρ} {s : List SB} {ps : cV} {e : SE} {pe : zA} {z : List Nat} {k : jA -> jM R'}
theorem aB0 (hE:eL s e pe) (hS:cX s ps) {esz:Nat} {zero:sB} {x:gU} (h:qG e s z (.clear esz zero x) k ρ w=some y):jF s ps (bO pe ps z (.clear esz zero x)) k ρ w y:=by
 simp only [qG] at h;have hx:=eJ hE x;unfold aC8 at h;generalize cB e x=v at h hx;cases v with
 |part t off len cap ex=>
  simp only [cK] at h;generalize hst:s[t]? =b at h;cases b with
  |none=>cases h
  |some b=>
   cases b with
   |arr r l=>
    dsimp only at h;cases hq:NP zero with
    |none=>rw [hq] at h;cases h
    |some q=>
     rw [hq] at h;dsimp only at h;obtain ⟨hc,h1⟩:=cY h;simp only [Bool.and_eq_true] at hc;obtain ⟨hqr,he⟩:=hc;have hqr:=BI hqr;have he:=Nat.eq_of_beq_eq_true he;obtain ⟨e',hx,hat⟩:=hx
     have:=hat.inv hst
     subst this;subst hqr;subst he;rcases fX h1 with ⟨hl,hk⟩|⟨hl,hk⟩
     · have hl:=Nat.eq_of_beq_eq_true hl
       subst hl;exact jF.val hS hk (by simp only [bO,hx]) rfl
     · obtain ⟨hc2,hk⟩:=jV hk
       simp only [Bool.and_eq_true,Bool.not_eq_true'] at hc2;obtain ⟨c1,c2⟩:=hc2;have c1':=Nat.le_of_ble_eq_true c1;have hlen:=IR l (List.replicate len (RT.zero q)) off (by simpa using c1')
       refine ⟨_,_,?_,jU.put0 hS (b:= .arr q (nE l off (List.replicate len (RT.zero q)))) (q:= .arr q.length ((nE l off (List.replicate len (RT.zero q))).map (RT.pv q))) (rd:=[]) hst (.inl ⟨_,rfl,hlen⟩) rfl,hk⟩;cases len with
       |zero=>cases hl
       |succ len=>
        have hsr:oM off (List.replicate (len+1) zero) (l.map (RT.pv q))=(nE l off (List.replicate (len+1) (RT.zero q))).map (RT.pv q):=by
         rw [N7,zP _ _ _ (by simpa using c1')]
         simp [IN hq]
        simp only [bO,hx,hS.arr hst,Nat.beq_refl,c2,Bool.not_false,Bool.and_self,if_true,hsr]
   |_=>cases h
 |_=>cases h
theorem G7 (hS:cX s ps) {t off len cap:Nat} {ex:Bool} {r:List PT} {l:List (RT r)} {x yy:gU} {vy:SV} (hst:s[t]? =some (.arr r l)) (hx:x.ev pe= .own t r.length off len cap ex) (hyv:R s vy (yy.ev pe))
 (h:NQ s z t r l off len vy k ρ w=some y):jF s ps (bO pe ps z (.copy r.length x yy)) k ρ w y:=by
 unfold NQ at h;cases hc:GC s vy with
 |none=>rw [hc] at h;cases h
 |some cc=>
  obtain ⟨q,m⟩:=cc;rw [hc] at h;dsimp only at h;cases hca:DO q r m with
  |none=>rw [hca] at h;cases h
  |some m2=>
   rw [hca] at h;dsimp only at h;obtain ⟨hqr,hmp,hml⟩:=II hca;subst hqr;obtain ⟨hro,htk⟩:=aAt hS hyv hc;rw [<- hmp] at hro;have htake:(m2.map (RT.pv q)).take len=(m2.take len).map (RT.pv q):=by rw [List.map_take]
   generalize m2.take len=mm at h htake;rcases fX h with ⟨hm,hk⟩|⟨hm,hk⟩
   · have hm:mm=[]:=by simpa using hm
     subst hm;refine jF.rd hS hk ?_ rfl;simp only [bO,hro,hx,htake,List.map_nil,htk]
   · obtain ⟨hc2,hk⟩:=jV hk
     simp only [Bool.and_eq_true,Bool.not_eq_true'] at hc2;obtain ⟨c1,c2⟩:=hc2;have c1':=Nat.le_of_ble_eq_true c1;have hlen:=IR l mm off c1'
     refine ⟨_,_,?_,jU.put hS (b:= .arr q (nE l off mm)) (q:= .arr q.length ((nE l off mm).map (RT.pv q))) (l:=[]) (ql:=[]) (v:= .int .i64 (.ofNat mm.length)) (p:= .int .i64 (.ofNat mm.length)) (rd:=CB vy) hst (.inl ⟨_,rfl,hlen⟩) rfl rfl (fun j b hj=>by simp at hj) rfl,hk⟩
     have hsr:oM off (mm.map (RT.pv q)) (l.map (RT.pv q))=(nE l off mm).map (RT.pv q):=by
      rw [N7,zP _ _ _ (by simpa using c1')]
     cases mm with
     |nil=>cases hm
     |cons a mm=>
      simp only [List.map_cons] at hsr htake;simp only [bO,hro,hx,htake,hS.arr hst,Nat.beq_refl,c2,Bool.not_false,Bool.and_self,if_true,hsr,htk,List.length_map,List.length_cons]
theorem aDx (hE:eL s e pe) (hS:cX s ps) {esz:Nat} {x yy:gU} (h:qG e s z (.copy esz x yy) k ρ w=some y):jF s ps (bO pe ps z (.copy esz x yy)) k ρ w y:=by
 simp only [qG] at h;have hx:=eJ hE x;have hyv:=eJ hE yy;unfold aL6 at h;generalize cB e yy=vy at h hyv;generalize cB e x=v at h hx;cases v with
 |own t ex=>
  simp only [cK] at h;generalize hst:s[t]? =b at h;cases b with
  |none=>cases h
  |some b=>
   cases b with
   |arr r l=>
    obtain ⟨he,hk⟩:=cY h;have he:=Nat.eq_of_beq_eq_true he;subst he;obtain ⟨e',n',hx,hat⟩:=hx;obtain ⟨rfl,rfl⟩:=hat.inv hst;exact G7 hS hst hx hyv hk
   |_=>cases h
 |pre t len cap ex=>
  simp only [cK] at h;generalize hst:s[t]? =b at h;cases b with
  |none=>cases h
  |some b=>
   cases b with
   |arr r l=>
    obtain ⟨he,hk⟩:=cY h;have he:=Nat.eq_of_beq_eq_true he;subst he;obtain ⟨e',hx,hat⟩:=hx
    have:=hat.inv hst
    subst this;exact G7 hS hst hx hyv hk
   |_=>cases h
 |part t off len cap ex=>
  simp only [cK] at h;generalize hst:s[t]? =b at h;cases b with
  |none=>cases h
  |some b=>
   cases b with
   |arr r l=>
    obtain ⟨he,hk⟩:=cY h;have he:=Nat.eq_of_beq_eq_true he;subst he;obtain ⟨e',hx,hat⟩:=hx
    have:=hat.inv hst
    subst this;exact G7 hS hst hx hyv hk
   |_=>cases h
 |_=>cases h
theorem aFt (hE:eL s e pe) (hS:cX s ps) {op:pN} (h:qG e s z op k ρ w=some y):jF s ps (bO pe ps z op) k ρ w y:=by
 cases op with
 |mov x=>exact jF.val hS h rfl (eJ hE x)
 |pick c a b=>exact aDr hE hS h
 |bin op a b=>exact aFi hE hS h
 |binb n a b=>exact aDm hE hS h
 |eqc n g a b=>exact aFj hE hS h
 |un op a=>exact aMB hE hS h
 |conv a x=>exact aDo hE hS h
 |len x=>exact aFk hE hS h
 |lenc n=>exact jF.val hS h rfl rfl
 |box x=>exact aFl hE hS h
 |alloc c=>exact aBW hS h
 |build z p=>exact aBV hE hS h
 |mkrow a b c d=>exact aBZ hE hS h
 |load a p=>exact aDu hE hS h
 |store a p x=>exact aBY hE hS h
 |nilc x=>exact aDp hE hS h
 |fadr o x=>exact aDq hE hS h
 |fld a o x=>exact aFm hE hS h
 |iadr a x i=>exact aDs hE hS h
 |iadra n a x i=>exact aBX hE hS h
 |idx n a g x i=>exact aFq hE hS h
 |sidx x i=>exact aDt hE hS h
 |slc a x l h' m=>exact aFr hE hS h
 |mks a z l c=>exact aFs hE hS h
 |mkf f a b=>exact aFo hE hS h
 |mkm m=>exact aFp hS h
 |lookup n z o m q=>exact YI hE hS h
 |mapu n m q x=>exact aDw hE hS h
 |ext i x=>exact aFn hE hS h
 |append a x b=>exact YJ hE hS h
 |copy a x b=>exact aDx hE hS h
 |clear a z x=>exact aB0 hE hS h
 |mm m x xs=>exact aMC hE hS h
 |call m f a=>cases h
 |callv x a=>cases h
 |bad=>cases h
mutual
theorem aSC {bx:Nat->Option (List SV)} {pbx:Nat->Option (List PV)} (hS:cX s ps) (hb: ∀t l,bx t=some l-> ∃q,pbx t=some q/\pvL l=some q): ∀{v u:SV} {p:PV},R s v p->QH s bx v=some u-> ∃q,JS ps pbx p=some q/\yD u=some q
 | .int k n,u,p,h,hx=>by injection hx with hx;subst hx;rw [show p=_ from h];exact ⟨_,rfl,rfl⟩
 | .bool b,u,p,h,hx=>by injection hx with hx;subst hx;rw [show p=_ from h];exact ⟨_,rfl,rfl⟩
 | .str x,u,p,h,hx=>by injection hx with hx;subst hx;rw [show p=_ from h];exact ⟨_,rfl,rfl⟩
 | .nilf,u,p,h,hx=>by injection hx with hx;subst hx;rw [show p=_ from h];exact ⟨_,rfl,rfl⟩
 | .agg cs,u,p,h,hx=>by
  obtain ⟨q,rfl,h⟩:=h;simp only [QH] at hx;split at hx
  · rename_i l hl
    injection hx with hx;subst hx;obtain ⟨q',h1,h2⟩:=exVL_R hS hb h hl;exact ⟨.agg q',by simp only [JS,h1];rfl,by simp only [yD,h2]⟩
  · cases hx
 | .tup cs,u,p,h,hx=>by
  obtain ⟨q,rfl,h⟩:=h;simp only [QH] at hx;split at hx
  · rename_i l hl
    injection hx with hx;subst hx;obtain ⟨q',h1,h2⟩:=exVL_R hS hb h hl;exact ⟨.tup q',by simp only [JS,h1];rfl,by simp only [yD,h2]⟩
  · cases hx
 | .sl r l,u,p,h,hx=>by injection hx with hx;subst hx;rw [show p=_ from h];exact ⟨_,rfl,rfl⟩
 | .nil e c,u,p,h,hx=>by injection hx with hx;subst hx;rw [show p=_ from h];exact ⟨_,rfl,rfl⟩
 | .own t ex,u,p,h,hx=>by
  simp only [QH,cK] at hx;split at hx
  · rename_i r l hst
    injection hx with hx;subst hx;obtain ⟨e,n,rfl,hat⟩:=h;obtain ⟨rfl,rfl⟩:=hat.inv hst;refine ⟨.sl r.length false (l.map (RT.pv r)),?_,rfl⟩;simp only [JS,hS.arr hst,List.drop_zero];rw [List.take_of_length_le (by simp)]
  · cases hx
 | .pre t len cap ex,u,p,h,hx=>by
  simp only [QH,cK] at hx;split at hx
  · rename_i r l hst
    injection hx with hx;subst hx;obtain ⟨e,rfl,hat⟩:=h
    have:=hat.inv hst
    subst this;refine ⟨.sl r.length false ((l.take len).map (RT.pv r)),?_,rfl⟩;simp only [JS,hS.arr hst,List.drop_zero,List.map_take]
  · cases hx
 | .part t off len cap ex,u,p,h,hx=>by
  simp only [QH,cK] at hx;split at hx
  · rename_i r l hst
    injection hx with hx;subst hx;obtain ⟨e,rfl,hat⟩:=h
    have:=hat.inv hst
    subst this;refine ⟨.sl r.length false (((l.drop off).take len).map (RT.pv r)),?_,rfl⟩;simp only [JS,hS.arr hst,List.map_take,List.map_drop]
  · cases hx
 | .pa t r i a off,u,p,h,hx=>by
  simp only [QH,cK] at hx;split at hx
  · rename_i q l hst
    injection hx with hx;subst hx;obtain ⟨rfl,hat⟩:=h;obtain ⟨rfl,hg⟩:=hat.inv hst;obtain ⟨m,rfl,hm⟩:=rM hg;refine ⟨.rptr (RT.pv r a) off,?_,by simp only [yD,RT.pv_sv]⟩
    have hm':(l.map (RT.pv r))[m]? =some (RT.pv r a):=by simp [hm]
    have e1:(Int.ofNat m).toNat=m:=rfl;simp only [JS,hS.arr hst,e1,hm'];rfl
  · cases hx
 | .bp t n off,u,p,h,hx=>by
  simp only [QH,cK] at hx;split at hx
  · rename_i cs hst
    split at hx
    · rename_i l hl
      injection hx with hx;subst hx;rw [show p=_ from h];obtain ⟨q,h1,h2⟩:=hb t l hl;obtain ⟨c,h3,_⟩:=hS.box hst;refine ⟨.rptr q off,?_,by simp only [yD,h2]⟩
      simp only [JS,h3,Nat.beq_refl,if_true,h1];rfl
    · cases hx
  · cases hx
 | .rptr cs off,u,p,h,hx=>by
  obtain ⟨q,rfl,h⟩:=h;simp only [QH] at hx;split at hx
  · rename_i l hl
    injection hx with hx;subst hx;obtain ⟨q',h1,h2⟩:=exVL_R hS hb h hl;exact ⟨.rptr q' off,by simp only [JS,h1];rfl,by simp only [yD,h2]⟩
  · cases hx
 | .clo f a b,u,p,h,hx=>by
  obtain ⟨pa,pb,rfl,h1,h2⟩:=h;simp only [QH] at hx;split at hx
  · rename_i x y' h3 h4
    injection hx with hx;subst hx;obtain ⟨qa,h5,h6⟩:=exVL_R hS hb h1 h3;obtain ⟨qb,h7,h8⟩:=exVL_R hS hb h2 h4;exact ⟨.clo f qa qb,by simp only [JS,h5,h7],by simp only [yD,h6,h8]⟩
  · cases hx
 | .junk,_,_,_,hx| .undef,_,_,_,hx| .nul,_,_,_,hx| .pb _ _ _,_,_,_,hx| .mp _,_,_,_,hx=>by cases hx
theorem exVL_R {bx:Nat->Option (List SV)} {pbx:Nat->Option (List PV)} (hS:cX s ps) (hb: ∀t l,bx t=some l-> ∃q,pbx t=some q/\pvL l=some q): ∀{v u:List SV} {p:List PV},RL s v p->exVL s bx v=some u-> ∃q,exL ps pbx p=some q/\pvL u=some q
 | [],u,p,h,hx=>by injection hx with hx;subst hx;rw [show p=_ from h];exact ⟨_,rfl,rfl⟩
 |x::xs,u,p,h,hx=>by
  obtain ⟨q,qs,rfl,h1,h2⟩:=h.cons_inv;simp only [exVL] at hx;split at hx
  · rename_i y' ys h3 h4
    injection hx with hx;subst hx;obtain ⟨a,h5,h6⟩:=aSC hS hb h1 h3;obtain ⟨as,h7,h8⟩:=exVL_R hS hb h2 h4;exact ⟨a::as,by simp only [exL,h5,h7],fF.2 ⟨a,as,rfl,h6,h8⟩⟩
  · cases hx
end
theorem MG (hS:cX s ps): ∀(n t:Nat) (l:List SV),nV s n t=some l-> ∃q,DX ps n t=some q/\pvL l=some q
 |0,t,l,h=>by cases h
 |n+1,t,l,h=>by
  simp only [nV,cK] at h;split at h
  · rename_i cs hst
    obtain ⟨q,h1,h2⟩:=hS.box hst;obtain ⟨u,h3,h4⟩:=exVL_R hS (MG hS n) h2 h;exact ⟨u,by simp only [DX,h1,h3],h4⟩
  · cases h
mutual
theorem aDy {bx pbx:Nat->List Nat} (hb: ∀t,bx t=pbx t): ∀{v:SV} {p:PV},R s v p->v.sure=true->YA bx v=lF pbx p
 | .junk,_,_,h=>by cases h
 | .undef,p,h,_| .nul,p,h,_| .nilf,p,h,_| .int _ _,p,h,_| .bool _,p,h,_| .str _,p,h,_| .sl _ _,p,h,_| .nil _ _,p,h,_=>by rw [show p=_ from h];rfl
 | .agg cs,p,h,hs=>by obtain ⟨q,rfl,h⟩:=h;exact tkVL_R hb h hs
 | .tup cs,p,h,hs=>by obtain ⟨q,rfl,h⟩:=h;exact tkVL_R hb h hs
 | .own t ex,p,h,_=>by obtain ⟨e,n,rfl,_⟩:=h;rfl
 | .pre t a b c,p,h,_=>by obtain ⟨e,rfl,_⟩:=h;rfl
 | .part t o a b c,p,h,_=>by obtain ⟨e,rfl,_⟩:=h;rfl
 | .pa t r i a o,p,h,_=>by obtain ⟨rfl,_⟩:=h;simp only [YA,lF,hb]
 | .pb t i o,p,h,_=>by obtain ⟨e,rfl,_⟩:=h;simp only [YA,lF,hb]
 | .bp t n o,p,h,_=>by rw [show p=_ from h];simp only [YA,lF,hb]
 | .rptr cs o,p,h,hs=>by obtain ⟨q,rfl,h⟩:=h;exact tkVL_R hb h hs
 | .mp t,p,h,_=>by rw [show p=_ from h];rfl
 | .clo f a b,p,h,hs=>by
  obtain ⟨pa,pb,rfl,h1,h2⟩:=h;simp only [SV.sure,Bool.and_eq_true] at hs;simp only [YA,lF,tkVL_R hb h1 hs.1,tkVL_R hb h2 hs.2]
theorem tkVL_R {bx pbx:Nat->List Nat} (hb: ∀t,bx t=pbx t): ∀{v:List SV} {p:List PV},RL s v p->sureL v=true->tkVL bx v=toksL pbx p
 | [],p,h,_=>by rw [show p=_ from h];rfl
 |x::xs,p,h,hs=>by
  obtain ⟨q,qs,rfl,h1,h2⟩:=h.cons_inv;simp only [sureL,Bool.and_eq_true] at hs;simp only [tkVL,toksL,aDy hb h1 hs.1,tkVL_R hb h2 hs.2]
end
end
end Go.Vm
/- The head of a loop: what the typed machine keeps there, the logical machine keeps there. -/
namespace Go.Vm
section
variable {s : List SB} {ps : cV}
mutual
theorem aSD {n:Nat} (hS:cX s ps) (hB: ∀t l,nV s n t=some l->DV s n t=dG ps n t): ∀{v u:SV} {p:PV},R s v p->QH s (nV s n) v=some u->YA (DV s n) v=lF (dG ps n) p
 | .int _ _,_,p,h,_| .bool _,_,p,h,_| .str _,_,p,h,_| .nilf,_,p,h,_| .sl _ _,_,p,h,_| .nil _ _,_,p,h,_=>by rw [show p=_ from h];rfl
 | .agg cs,u,p,h,hx=>by
  obtain ⟨q,rfl,h⟩:=h;simp only [QH] at hx;split at hx
  · rename_i l hl;exact tkExL hS hB h hl
  · cases hx
 | .tup cs,u,p,h,hx=>by
  obtain ⟨q,rfl,h⟩:=h;simp only [QH] at hx;split at hx
  · rename_i l hl;exact tkExL hS hB h hl
  · cases hx
 | .own t ex,_,p,h,_=>by obtain ⟨e,n,rfl,_⟩:=h;rfl
 | .pre t a b c,_,p,h,_=>by obtain ⟨e,rfl,_⟩:=h;rfl
 | .part t o a b c,_,p,h,_=>by obtain ⟨e,rfl,_⟩:=h;rfl
 | .pa t r i a o,_,p,h,hx=>by
  obtain ⟨rfl,hat⟩:=h;simp only [QH,cK] at hx;split at hx
  · rename_i q l hst
    simp only [YA,lF];cases n with
    |zero=>rfl
    |succ n=>simp only [DV,dG,cK,hst,hS.arr hst]
  · cases hx
 | .bp t m o,u,p,h,hx=>by
  rw [show p=_ from h];simp only [QH,cK] at hx;split at hx
  · split at hx
    · rename_i l hl
      simp only [YA,lF,hB t l hl]
    · cases hx
  · cases hx
 | .rptr cs o,u,p,h,hx=>by
  obtain ⟨q,rfl,h⟩:=h;simp only [QH] at hx;split at hx
  · rename_i l hl;exact tkExL hS hB h hl
  · cases hx
 | .clo f a b,u,p,h,hx=>by
  obtain ⟨pa,pb,rfl,h1,h2⟩:=h;simp only [QH] at hx;split at hx
  · rename_i x y h3 h4
    simp only [YA,lF,tkExL hS hB h1 h3,tkExL hS hB h2 h4]
  · cases hx
 | .junk,_,_,_,hx| .undef,_,_,_,hx| .nul,_,_,_,hx| .pb _ _ _,_,_,_,hx| .mp _,_,_,_,hx=>by cases hx
theorem tkExL {n:Nat} (hS:cX s ps) (hB: ∀t l,nV s n t=some l->DV s n t=dG ps n t): ∀{v u:List SV} {p:List PV},RL s v p->exVL s (nV s n) v=some u->tkVL (DV s n) v=toksL (dG ps n) p
 | [],_,p,h,_=>by rw [show p=_ from h];rfl
 |x::xs,u,p,h,hx=>by
  obtain ⟨q,qs,rfl,h1,h2⟩:=h.cons_inv;simp only [exVL] at hx;split at hx
  · rename_i a b h3 h4
    simp only [tkVL,toksL,aSD hS hB h1 h3,tkExL hS hB h2 h4]
  · cases hx
end
theorem aDz {n:Nat} (hS:cX s ps) (hB: ∀t l,nV s n t=some l->DV s n t=dG ps n t): ∀{v:List SV} {p:List PV},RL s v p->X9 s (nV s n) v=true->tkVL (DV s n) v=toksL (dG ps n) p
 | [],p,h,_=>by rw [show p=[] from h];rfl
 |x::xs,p,h,hx=>by
  obtain ⟨a,as,rfl,h1,h2⟩:=h.cons_inv;have other: ∀u,QH s (nV s n) x=some u->X9 s (nV s n) xs=true->tkVL (DV s n) (x::xs)=toksL (dG ps n) (a::as):=fun u h3 h4=>by
   simp only [tkVL,toksL,aSD hS hB h1 h3,aDz hS hB h2 h4]
  unfold X9 at hx;split at hx
  · rename_i t
    rw [show a= .mp t from h1];simp only [tkVL,toksL,YA,lF,aDz hS hB h2 hx]
  · split at hx
    · rename_i u h3
      exact other u h3 hx
    · cases hx
theorem N8 (hS:cX s ps): ∀(n t:Nat) (l:List SV),nV s n t=some l->DV s n t=dG ps n t
 |0,t,l,h=>rfl
 |n+1,t,l,h=>by
  simp only [nV,cK] at h;split at h
  · rename_i cs hst
    obtain ⟨q,h1,h2⟩:=hS.box hst;simp only [DV,dG,cK,hst,h1];exact tkExL hS (N8 hS n) h2 h
  · cases h
theorem SH {b:SB} {q:oC} (h:RB s b q) (hs:FE b=true):NR b=wZ q:=by
 cases b with
 |box cs=>obtain ⟨c,rfl,h⟩:=h;exact tkVL_R (fun _=>rfl) h hs
 |arr r l=>rw [show q=_ from h];rfl
 |set l=>rw [show q=_ from h];rfl
 |tab p l=>rw [show q=_ from h];rfl
 |dead=>rw [show q=_ from h];rfl
theorem N9 (hS:cX s ps): ∀(n:Nat) (ts seen m:List Nat),J9 s n ts seen=some m->HS ps n ts seen=some m
 |n,[],seen,m,h=>by
  cases n<;>(simp only [J9] at h;exact h)
 |0,_::_,_,_,h=>by cases h
 |n+1,t::ts,seen,m,h=>by
  simp only [J9,cK] at h;simp only [HS];cases hh:has seen t with
  |true=>rw [hh] at h;simp only [cond_true] at h;simp only [if_true];exact N9 hS n ts seen m h
  |false=>
   rw [hh] at h;simp only [cond_false] at h;simp only [Bool.false_eq_true,if_false];split at h
   · rename_i b hst
     obtain ⟨q,h1,h2⟩:=hS.at_ t b hst;cases hb:FE b with
     |false=>rw [hb] at h;cases h
     |true=>
      rw [hb] at h;simp only [cond_true] at h;rw [h1,SH h2 hb] at*;exact N9 hS n _ _ m h
   · cases h
theorem OA: ∀{t u:Nat} {m:List Nat},vO t m=some u->m[u]? =some t
 |t,u,[],h=>by cases h
 |t,u,x::m,h=>by
  simp only [vO] at h;cases hb:Nat.beq x t with
  |true=>rw [hb] at h;simp at h;subst h;simp [Nat.eq_of_beq_eq_true hb]
  |false=>
   rw [hb] at h;simp only [Bool.false_eq_true,if_false,Option.map_eq_some_iff] at h;obtain ⟨v,hv,rfl⟩:=h;simpa using OA hv
def OB (m:List Nat) (s s':List SB):Prop:= ∀(t u:Nat) (b:SB),vO t m=some u->s[t]? =some b->match b with
 | .arr r l=>s'[u]? =some (.arr r l)
 | .dead=>s'[u]? =some .dead
 |_=>True
mutual
theorem aDA {m:List Nat} {s':List SB} (hr:OB m s s'): ∀{v u:SV} {p:PV},R s v p->vW m v=some u-> ∃q,ren m p=some q/\R s' u q
 | .junk,_,_,_,hx=>by cases hx
 | .undef,u,p,h,hx| .nul,u,p,h,hx| .nilf,u,p,h,hx| .int _ _,u,p,h,hx| .bool _,u,p,h,hx| .str _,u,p,h,hx| .sl _ _,u,p,h,hx| .nil _ _,u,p,h,hx=>by
  injection hx with hx;subst hx;rw [show p=_ from h];exact ⟨_,rfl,rfl⟩
 | .agg cs,u,p,h,hx=>by
  obtain ⟨q,rfl,h⟩:=h;simp only [vW] at hx;split at hx
  · rename_i l hl
    injection hx with hx;subst hx;obtain ⟨q',h1,h2⟩:=renVL_R hr h hl;exact ⟨.agg q',by simp only [ren,h1];rfl,q',rfl,h2⟩
  · cases hx
 | .tup cs,u,p,h,hx=>by
  obtain ⟨q,rfl,h⟩:=h;simp only [vW] at hx;split at hx
  · rename_i l hl
    injection hx with hx;subst hx;obtain ⟨q',h1,h2⟩:=renVL_R hr h hl;exact ⟨.tup q',by simp only [ren,h1];rfl,q',rfl,h2⟩
  · cases hx
 | .own t ex,u,p,h,hx=>by
  obtain ⟨e,n,rfl,hat⟩:=h;simp only [vW] at hx;split at hx
  · rename_i v hv
    injection hx with hx;subst hx;refine ⟨.own v e 0 n n ex,by simp only [ren,hv];rfl,e,n,rfl,?_⟩
    rcases hat with ⟨r,l,h1,h2,h3⟩|h1
    · exact .inl ⟨r,l,hr t v _ hv h1,h2,h3⟩
    · exact .inr (hr t v _ hv h1)
  · cases hx
 | .pre t len cap ex,u,p,h,hx=>by
  obtain ⟨e,rfl,hat⟩:=h;simp only [vW] at hx;split at hx
  · rename_i v hv
    injection hx with hx;subst hx;refine ⟨.own v e 0 len cap ex,by simp only [ren,hv];rfl,e,rfl,?_⟩
    rcases hat with ⟨r,l,h1,h2⟩|h1
    · exact .inl ⟨r,l,hr t v _ hv h1,h2⟩
    · exact .inr (hr t v _ hv h1)
  · cases hx
 | .part t off len cap ex,u,p,h,hx=>by
  obtain ⟨e,rfl,hat⟩:=h;simp only [vW] at hx;split at hx
  · rename_i v hv
    injection hx with hx;subst hx;refine ⟨.own v e off len cap ex,by simp only [ren,hv];rfl,e,rfl,?_⟩
    rcases hat with ⟨r,l,h1,h2⟩|h1
    · exact .inl ⟨r,l,hr t v _ hv h1,h2⟩
    · exact .inr (hr t v _ hv h1)
  · cases hx
 | .pa t r i a off,u,p,h,hx=>by
  obtain ⟨rfl,hat⟩:=h;simp only [vW] at hx;split at hx
  · rename_i v hv
    injection hx with hx;subst hx;refine ⟨.ptr v r.length i.toNat off,by simp only [ren,hv];rfl,r.length,rfl,?_⟩
    rcases hat with ⟨l,h1,h2⟩|h1
    · exact .inl ⟨r,l,hr t v _ hv h1,by rw [h2];rfl⟩
    · exact .inr (hr t v _ hv h1)
  · cases hx
 | .pb t i off,u,p,h,hx=>by
  obtain ⟨e,rfl,hat⟩:=h;simp only [vW] at hx;split at hx
  · rename_i v hv
    injection hx with hx;subst hx;refine ⟨.ptr v e i.toNat off,by simp only [ren,hv];rfl,e,rfl,?_⟩
    rcases hat with ⟨r,l,h1,h2⟩|h1
    · exact .inl ⟨r,l,hr t v _ hv h1,h2⟩
    · exact .inr (hr t v _ hv h1)
  · cases hx
 | .bp t n off,u,p,h,hx=>by
  rw [show p=_ from h];simp only [vW] at hx;split at hx
  · rename_i v hv
    injection hx with hx;subst hx;exact ⟨.ptr v n 0 off,by simp only [ren,hv];rfl,rfl⟩
  · cases hx
 | .rptr cs off,u,p,h,hx=>by
  obtain ⟨q,rfl,h⟩:=h;simp only [vW] at hx;split at hx
  · rename_i l hl
    injection hx with hx;subst hx;obtain ⟨q',h1,h2⟩:=renVL_R hr h hl;exact ⟨.rptr q' off,by simp only [ren,h1];rfl,q',rfl,h2⟩
  · cases hx
 | .mp t,u,p,h,hx=>by
  rw [show p=_ from h];simp only [vW] at hx;split at hx
  · rename_i v hv
    injection hx with hx;subst hx;exact ⟨.mp v,by simp only [ren,hv];rfl,rfl⟩
  · cases hx
 | .clo f a b,u,p,h,hx=>by
  obtain ⟨pa,pb,rfl,h1,h2⟩:=h;simp only [vW] at hx;split at hx
  · rename_i x y h3 h4
    injection hx with hx;subst hx;obtain ⟨qa,h5,h6⟩:=renVL_R hr h1 h3;obtain ⟨qb,h7,h8⟩:=renVL_R hr h2 h4;exact ⟨.clo f qa qb,by simp only [ren,h5,h7],qa,qb,rfl,h6,h8⟩
  · cases hx
theorem renVL_R {m:List Nat} {s':List SB} (hr:OB m s s'): ∀{v u:List SV} {p:List PV},RL s v p->renVL m v=some u-> ∃q,renL m p=some q/\RL s' u q
 | [],u,p,h,hx=>by injection hx with hx;subst hx;rw [show p=_ from h];exact ⟨_,rfl,rfl⟩
 |x::xs,u,p,h,hx=>by
  obtain ⟨q,qs,rfl,h1,h2⟩:=h.cons_inv;simp only [renVL] at hx;split at hx
  · rename_i a b h3 h4
    injection hx with hx;subst hx;obtain ⟨a',h5,h6⟩:=aDA hr h1 h3;obtain ⟨b',h7,h8⟩:=renVL_R hr h2 h4;exact ⟨a'::b',by simp only [renL,h5,h7],RL.cons h6 h8⟩
  · cases hx
end
theorem aMD {m:List Nat} {s':List SB} (hr:OB m s s') {b c:SB} {q:oC} (h:RB s b q) (hx:aDc m b=some c): ∃q',sD m q=some q'/\RB s' c q':=by
 cases b with
 |box cs=>
  obtain ⟨p,rfl,h⟩:=h;simp only [aDc] at hx;split at hx
  · rename_i l hl
    injection hx with hx;subst hx;obtain ⟨q',h1,h2⟩:=renVL_R hr h hl;exact ⟨.box q',by simp only [sD,h1];rfl,q',rfl,h2⟩
  · cases hx
 |arr r l=>injection hx with hx;subst hx;rw [show q=_ from h];exact ⟨_,rfl,rfl⟩
 |set l=>injection hx with hx;subst hx;rw [show q=_ from h];exact ⟨_,rfl,rfl⟩
 |tab p l=>injection hx with hx;subst hx;rw [show q=_ from h];exact ⟨_,rfl,rfl⟩
 |dead=>injection hx with hx;subst hx;rw [show q=_ from h];exact ⟨_,rfl,rfl⟩
theorem EG {m:List Nat}: ∀{ts:List Nat} {s1:List SB},PY s m ts=some s1->s1.length=ts.length/\ ∀(j t:Nat),ts[j]? =some t-> ∃b c,s[t]? =some b/\aDc m b=some c/\s1[j]? =some c
 | [],s1,h=>by injection h with h;subst h;exact ⟨rfl,fun j t h=>by simp at h⟩
 |t::ts,s1,h=>by
  simp only [PY,cK] at h;split at h
  · rename_i b hb
    split at h
    · rename_i c r hc hr
      injection h with h;subst h;obtain ⟨h1,h2⟩:=EG hr;refine ⟨by simp [h1],fun j u hj=>?_⟩
      cases j with
      |zero=>simp at hj;subst hj;exact ⟨b,c,hb,hc,rfl⟩
      |succ j=>simpa using h2 j u (by simpa using hj)
    · cases h
  · cases h
theorem KE (hS:cX s ps) {m:List Nat} {s':List SB} (hr:OB m s s'): ∀{ts:List Nat} {s1:List SB},PY s m ts=some s1-> ∃p1,DY ps m ts=some p1/\p1.length=s1.length/\ ∀(j:Nat) (b:SB),s1[j]? =some b-> ∃q,p1[j]? =some q/\RB s' b q
 | [],s1,h=>by injection h with h;subst h;exact ⟨[],rfl,rfl,fun j b h=>by simp at h⟩
 |t::ts,s1,h=>by
  simp only [PY,cK] at h;split at h
  · rename_i b hb
    split at h
    · rename_i c r hc hr'
      injection h with h;subst h;obtain ⟨q,h1,h2⟩:=hS.at_ t b hb;obtain ⟨q',h3,h4⟩:=aMD hr h2 hc;obtain ⟨p1,h5,h6,h7⟩:=KE hS hr hr';refine ⟨q'::p1,by simp only [DY,h1,h3,h5],by simp [h6],fun j x hj=>?_⟩
      cases j with
      |zero=>simp at hj;subst hj;exact ⟨q',rfl,h4⟩
      |succ j=>simpa using h7 j x (by simpa using hj)
    · cases h
  · cases h
theorem OB.of {m:List Nat} {s1 l:List SB} (h:PY s m m=some s1):OB m s (s1++l):=fun t u b hu hb=>by
 have hm:=OA hu;obtain ⟨h1,h2⟩:=EG h;obtain ⟨b',c,h3,h4,h5⟩:=h2 u t hm;rw [hb] at h3;injection h3 with h3;subst h3;have hlt:=(List.getElem?_eq_some_iff.1 h5).1;cases b with
 |arr r l'=>injection h4 with h4;subst h4;rw [List.getElem?_append_left hlt];exact h5
 |dead=>injection h4 with h4;subst h4;rw [List.getElem?_append_left hlt];exact h5
 |_=>trivial
theorem BK: ∀(rk:List (Nat×List PT)) (n:Nat),(DP rk n).length=n
 | [],n=>by simp [DP]
 |(m,r)::q,n=>by
  simp only [DP];cases hc:(Nat.beq m n&&Nat.beq r.length n) with
  |true=>simp only [Bool.and_eq_true] at hc;exact Nat.eq_of_beq_eq_true hc.2
  |false=>exact BK q n
theorem KF {rk:List (Nat×List PT)} {e:SE} {m:List Nat}: ∀{live:List (Nat×Option Nat)} {nx:Nat} {e1:SE} {s2:List SB},DQ rk e m nx live=some (e1,s2)-> ∀(j:Nat) (b:SB),s2[j]? =some b-> ∃r,b= .arr r []
 | [],nx,e1,s2,h,j,b,hj=>by
  simp only [DQ,Option.some.injEq,Prod.mk.injEq] at h;rw [<- h.2] at hj;simp at hj
 |(t,k)::live,nx,e1,s2,h,j,b,hj=>by
  simp only [DQ] at h;split at h
  · split at h
    · rename_i p hp
      simp only [Option.some.injEq,Prod.mk.injEq] at h;obtain ⟨rfl,rfl⟩:=h;cases j with
      |zero=>simp at hj;exact ⟨_,hj.symm⟩
      |succ j=>exact KF (e1:=p.1) (s2:=p.2) hp j b (by simpa using hj)
    · cases h
  · split at h
    · rename_i v' p hv hp
      simp only [Option.some.injEq,Prod.mk.injEq] at h;obtain ⟨rfl,rfl⟩:=h;exact KF (e1:=p.1) (s2:=p.2) hp j b hj
    · cases h
mutual
theorem KG {m:List Nat}: ∀{v u:SV},vW m v=some u->u.sure=true
 | .junk,_,h=>by cases h
 | .undef,u,h| .nul,u,h| .nilf,u,h| .int _ _,u,h| .bool _,u,h| .str _,u,h| .sl _ _,u,h| .nil _ _,u,h=>by injection h with h;subst h;rfl
 | .agg cs,u,h=>by
  simp only [vW] at h;split at h
  · rename_i l hl;injection h with h;subst h;exact renVL_sure hl
  · cases h
 | .tup cs,u,h=>by
  simp only [vW] at h;split at h
  · rename_i l hl;injection h with h;subst h;exact renVL_sure hl
  · cases h
 | .rptr cs _,u,h=>by
  simp only [vW] at h;split at h
  · rename_i l hl;injection h with h;subst h;exact renVL_sure hl
  · cases h
 | .own _ _,u,h=>by simp only [vW] at h;split at h<;>first|(injection h with h;subst h;rfl)|cases h
 | .pre _ _ _ _,u,h=>by simp only [vW] at h;split at h<;>first|(injection h with h;subst h;rfl)|cases h
 | .part _ _ _ _ _,u,h=>by simp only [vW] at h;split at h<;>first|(injection h with h;subst h;rfl)|cases h
 | .pa _ _ _ _ _,u,h=>by simp only [vW] at h;split at h<;>first|(injection h with h;subst h;rfl)|cases h
 | .pb _ _ _,u,h=>by simp only [vW] at h;split at h<;>first|(injection h with h;subst h;rfl)|cases h
 | .bp _ _ _,u,h=>by simp only [vW] at h;split at h<;>first|(injection h with h;subst h;rfl)|cases h
 | .mp _,u,h=>by simp only [vW] at h;split at h<;>first|(injection h with h;subst h;rfl)|cases h
 | .clo f a b,u,h=>by
  simp only [vW] at h;split at h
  · rename_i x y h1 h2
    injection h with h;subst h;simp only [SV.sure,renVL_sure h1,renVL_sure h2,Bool.and_self]
  · cases h
theorem renVL_sure {m:List Nat}: ∀{v u:List SV},renVL m v=some u->sureL u=true
 | [],u,h=>by injection h with h;subst h;rfl
 |x::xs,u,h=>by
  simp only [renVL] at h;split at h
  · rename_i a b h1 h2
    injection h with h;subst h;simp only [sureL,KG h1,renVL_sure h2,Bool.and_self]
  · cases h
end
theorem aFu {s:List SB} {v:SV} {p:PV} (h:R s v p): ∀k:Option Nat,v.sure=true->R s (R9 k v) (exOff k p)
 |none,_=>h
 |some _,hs=>by
  cases v with
  |own t ex=>obtain ⟨e,n,rfl,h⟩:=h;exact ⟨e,n,rfl,h⟩
  |pre t l c ex=>obtain ⟨e,rfl,h⟩:=h;exact ⟨e,rfl,h⟩
  |part t o l c ex=>obtain ⟨e,rfl,h⟩:=h;exact ⟨e,rfl,h⟩
  |junk=>cases hs
  |undef|nul|nilf|int _ _|bool _|str _|bp _ _ _|mp _|sl _ _|nil _ _=>rw [show p=_ from h];rfl
  |agg _|tup _|rptr _ _=>obtain ⟨q,rfl,h⟩:=h;exact ⟨q,rfl,h⟩
  |clo _ _ _=>obtain ⟨q,q2,rfl,h⟩:=h;exact ⟨q,q2,rfl,h⟩
  |pa _ _ _ _ _=>obtain ⟨rfl,h⟩:=h;exact ⟨rfl,h⟩
  |pb _ _ _=>obtain ⟨q,rfl,h⟩:=h;exact ⟨q,rfl,h⟩
theorem YK {v:SV} (h:v.sure=true) (k:Option Nat):(R9 k v).sure=true:=by
 unfold R9;split<;>first|rfl|exact h
theorem SI {rk:List (Nat×List PT)} {e:SE} {pe:zA} (hE:eL s e pe) {m:List Nat} {s':List SB} (hr:OB m s s'): ∀{live:List (Nat×Option Nat)} {nx:Nat} {e1:SE} {s2:List SB},DQ rk e m nx live=some (e1,s2)->(∀(j:Nat) (b:SB),s2[j]? =some b->s'[nx+j]? =some b)->
 ∃p1 q2,xA pe m nx live=some (p1,q2)/\eL s' e1 p1/\q2.length=s2.length/\ ∀(j:Nat) (b:SB),s2[j]? =some b-> ∃q,q2[j]? =some q/\RB s' b q
 | [],nx,e1,s2,h,_=>by
  simp only [DQ,Option.some.injEq,Prod.mk.injEq] at h;obtain ⟨rfl,rfl⟩:=h;exact ⟨[],[],rfl,rfl,rfl,fun j b h=>by simp at h⟩
 |(t,k)::live,nx,e1,s2,h,hs=>by
  have hlk:=hE.lk t;simp only [DQ] at h;split at h
  · rename_i kk esz en hv
    split at h
    · rename_i p hp
      simp only [Option.some.injEq,Prod.mk.injEq] at h;obtain ⟨rfl,rfl⟩:=h;rw [hv] at hlk;obtain ⟨p1,q2,h1,h2,h3,h4⟩:=SI (live:=live) (nx:=nx+1) (e1:=p.1) (s2:=p.2) hE hr hp (fun j b hj=>by
       have:=hs (j+1) b (by simpa using hj)
       rw [show nx+1+j=nx+(j+1) by omega];exact this)
      refine ⟨(t,.own nx esz 0 0 0 false)::p1,.arr esz []::q2,?_,⟨_,_,rfl,⟨esz,0,rfl,.inl ⟨DP rk esz,[],by simpa using hs 0 _ rfl,(BK rk esz).symm,rfl⟩⟩,h2⟩,by simp [h3],fun j b hj=>?_⟩
      · have hlk':lk t pe= .sl en true []:=hlk
        simp only [xA,hlk',h1];rfl
      · cases j with
        |zero=>simp at hj;subst hj;exact ⟨_,rfl,by show _=_;rw [BK];rfl⟩
        |succ j=>simpa using h4 j b (by simpa using hj)
    · cases h
  · rename_i hne
    split at h
    · rename_i v' p hv hp
      simp only [Option.some.injEq,Prod.mk.injEq] at h;obtain ⟨rfl,rfl⟩:=h;obtain ⟨q',h5,h6⟩:=aDA hr hlk hv;obtain ⟨p1,q2,h1,h2,h3,h4⟩:=SI (live:=live) (e1:=p.1) (s2:=p.2) hE hr hp hs;refine ⟨(t,exOff _ q')::p1,q2,?_,⟨_,_,rfl,aFu h6 _ (KG hv),h2⟩,h3,h4⟩;simp only [xA];split
      · rename_i esz x hx
        exfalso;rw [hx] at hlk;generalize PU t e=v0 at hlk hv hne;cases v0 with
        |junk=>cases hv
        |nil e' c=>
         have hlk':PV.sl x true []= .sl e' c []:=hlk;injection hlk' with h1 h2;subst h2;exact hne _ _ rfl rfl
        |undef|nul|nilf|int _ _|bool _|str _|bp _ _ _|mp _=>cases (show PV.sl x true []=_ from hlk)
        |sl r l=>cases (show PV.sl x true []=_ from hlk)
        |agg _|tup _|rptr _ _=>obtain ⟨q,hq,_⟩:=hlk;cases hq
        |clo _ _ _=>obtain ⟨q,q2,hq,_⟩:=hlk;cases hq
        |own _ _=>obtain ⟨q,q2,hq,_⟩:=hlk;cases hq
        |pre _ _ _ _=>obtain ⟨q,hq,_⟩:=hlk;cases hq
        |part _ _ _ _ _=>obtain ⟨q,hq,_⟩:=hlk;cases hq
        |pa _ _ _ _ _=>obtain ⟨hq,_⟩:=hlk;cases hq
        |pb _ _ _=>obtain ⟨q,hq,_⟩:=hlk;cases hq
      · simp only [h5,h1]
    · cases h
def aMc (s:List SB):Prop:= ∀(t:Nat) (cs:List SV),s[t]? =some (.box cs)->sureL cs=true
def QN:SE->Prop
 | []=>True
 |(_,v)::r=>v.sure=true/\QN r
theorem QN.lk: ∀{e:SE},QN e-> ∀t,(PU t e).sure=true
 | [],_,t=>rfl
 |(u,v)::r,h,t=>by
  simp only [PU];cases hb:Nat.beq u t with
  |true=>exact h.1
  |false=>exact QN.lk h.2 t
theorem G8 {rk:List (Nat×List PT)} {e:SE} {m:List Nat}: ∀{live:List (Nat×Option Nat)} {nx:Nat} {e1:SE} {s2:List SB},DQ rk e m nx live=some (e1,s2)->QN e1
 | [],nx,e1,s2,h=>by
  simp only [DQ,Option.some.injEq,Prod.mk.injEq] at h;rw [<- h.1];trivial
 |(t,k)::live,nx,e1,s2,h=>by
  simp only [DQ] at h;split at h
  · split at h
    · rename_i p hp
      simp only [Option.some.injEq,Prod.mk.injEq] at h;obtain ⟨rfl,rfl⟩:=h;exact ⟨rfl,G8 (e1:=p.1) (s2:=p.2) hp⟩
    · cases h
  · split at h
    · rename_i v' p hv hp
      simp only [Option.some.injEq,Prod.mk.injEq] at h;obtain ⟨rfl,rfl⟩:=h;exact ⟨YK (KG hv) _,G8 (e1:=p.1) (s2:=p.2) hp⟩
    · cases h
theorem QO: ∀{l:List SV},sureL l=true-> ∀{n:Nat} {v:SV},nth l n=some v->v.sure=true
 | [],_,_,_,h=>by cases h
 |x::xs,hs,0,v,h=>by injection h with h;subst h;simp only [sureL,Bool.and_eq_true] at hs;exact hs.1
 |x::xs,hs,n+1,v,h=>by simp only [sureL,Bool.and_eq_true] at hs;exact QO hs.2 (n:=n) h
theorem QP: ∀{l:List SV},sureL l=true-> ∀(n:Nat) {v:SV},v.sure=true->sureL (l.set n v)=true
 | [],_,n,v,_=>rfl
 |x::xs,hs,0,v,h=>by simp only [sureL,Bool.and_eq_true] at hs;simp [sureL,h,hs.2]
 |x::xs,hs,n+1,v,h=>by simp only [sureL,Bool.and_eq_true] at hs;simp [sureL,hs.1,QP hs.2 n h]
theorem RL.set {s:List SB}: ∀{xs:List SV} {ps:List PV},RL s xs ps-> ∀(n:Nat) {v:SV} {p:PV},R s v p->RL s (xs.set n v) (ps.set n p)
 | [],ps,h,n,v,p,_=>by rw [show ps=[] from h];exact RL.nil
 |x::xs,ps,h,0,v,p,hv=>by
  obtain ⟨a,q,rfl,h1,h2⟩:=h.cons_inv;exact RL.cons hv h2
 |x::xs,ps,h,n+1,v,p,hv=>by
  obtain ⟨a,q,rfl,h1,h2⟩:=h.cons_inv;exact RL.cons h1 (RL.set h2 n hv)
structure RSS (st:vV) (p:St):Prop where
 r:GG st p
 s:aMc st.sto
 e:QN st.env
theorem YL {rk:List (Nat×List PT)} {st:vV} {p:St} (h:RSS st p) (t c esz:Nat):RSS (NS rk st t c esz) (xB p t c esz):=by
 unfold NS xB;rw [cK];cases hst:st.sto[t]? with
 |none=>
  have:p.sto[t]? =none:=by
   rw [List.getElem?_eq_none_iff] at hst ⊢;rw [h.r.sto.len];exact hst
  rw [this];exact h
 |some b=>
  obtain ⟨q,h1,h2⟩:=h.r.sto.at_ t b hst;rw [h1];cases b with
  |arr r l=>rw [show q=_ from h2];exact h
  |set l=>rw [show q=_ from h2];exact h
  |tab p l=>rw [show q=_ from h2];exact h
  |dead=>rw [show q=_ from h2];exact h
  |box cs=>
   obtain ⟨pc,rfl,h3⟩:=h2;dsimp only;cases hc:nth cs c with
   |none=>
    have:pc[c]? =none:=by
     rw [cK,List.getElem?_eq_none_iff] at hc;rw [List.getElem?_eq_none_iff,h3.length];exact hc
    rw [this];exact h
   |some v=>
    obtain ⟨pv,h4,h5⟩:=h3.nth hc;rw [h4];have hsure:=QO (h.s t cs hst) hc;have hcs:=h.s t cs hst;have other:(∀e,pv≠ .sl e true [])->(∀e,v≠ .nil e true)->RSS (match some v with
     |some (.nil _ true)=>{st with sto:=st.sto.set t (.box (cs.set c (.own st.sto.length false)))++[.arr (DP rk esz) []]}
     |_=>st) (match some pv with
     |some (.sl _ true [])=>{p with sto:=p.sto.set t (.box (pc.set c (.own p.sto.length esz 0 0 0 false)))++[.arr esz []]}
     |_=>p):=by
     intro n1 n2;split
     · rename_i e he;injection he with he;exact absurd he (n2 e)
     · split
       · rename_i e he;injection he with he;exact absurd he (n1 e)
       · exact h
    cases v with
    |junk=>cases hsure
    |nil e' cl=>
     have h5':pv= .sl e' cl []:=h5;subst h5';cases cl with
     |false=>exact other (fun e he=>by cases he) (fun e he=>by cases he)
     |true=>
      dsimp only;have hlt:=(List.getElem?_eq_some_iff.1 hst).1;have hfr:Fr [] st.sto (st.sto.set t (.box (cs.set c (.own st.sto.length false)))++[.arr (DP rk esz) []]):=fun u x hu=>by
       by_cases hut:t=u
       · subst hut;rw [hst] at hu;injection hu with hu;subst hu;trivial
       · have hul:=(List.getElem?_eq_some_iff.1 hu).1
         have:(st.sto.set t (.box (cs.set c (.own st.sto.length false)))++[.arr (DP rk esz) []])[u]? =some x:=by
          rw [List.getElem?_append_left (by simpa using hul),List.getElem?_set];simp [hut,hu]
         cases x with
         |arr r l=>exact .inl ⟨l,this,rfl,fun _=>rfl⟩
         |dead=>exact this
         |_=>trivial
      have hlen:(st.sto.set t (.box (cs.set c (.own st.sto.length false)))).length=st.sto.length:=by simp
      have hown:R (st.sto.set t (.box (cs.set c (.own st.sto.length false)))++[.arr (DP rk esz) []]) (.own st.sto.length false) (.own p.sto.length esz 0 0 0 false):=by
       refine ⟨esz,0,by rw [h.r.sto.len],.inl ⟨DP rk esz,[],?_,(BK rk esz).symm,rfl⟩⟩
       rw [List.getElem?_append_right (by simp)];simp
      refine ⟨⟨eL.ext hfr h.r.env,⟨by simp [h.r.sto.len],fun u x hu=>?_⟩,h.r.fz,h.r.kn⟩,fun u x hu=>?_,h.e⟩
      · rcases Nat.lt_or_ge u st.sto.length with hul|hul
        · rw [List.getElem?_append_left (by simpa using hul),List.getElem?_set] at hu
          by_cases hut:t=u
          · subst hut
            simp [hlt] at hu;subst hu;refine ⟨.box (pc.set c (.own p.sto.length esz 0 0 0 false)),?_,_,rfl,RL.set (RL.ext hfr h3) c hown⟩;rw [List.getElem?_append_left (by simp [h.r.sto.len,hul]),List.getElem?_set]
            simp [h.r.sto.len,hul]
          · simp [hut] at hu
            obtain ⟨q,h6,h7⟩:=h.r.sto.at_ u x hu;refine ⟨q,?_,h7.ext hfr⟩;rw [List.getElem?_append_left (by simp [h.r.sto.len,hul]),List.getElem?_set]
            simp [hut,h6]
        · rw [List.getElem?_append_right (by simpa using hul)] at hu
          simp only [hlen] at hu;have hu0:u-st.sto.length=0:=by
           rcases Nat.eq_zero_or_pos (u-st.sto.length) with h|h
           · exact h
           · rw [List.getElem?_eq_none (by simp;omega)] at hu;cases hu
          rw [hu0] at hu;simp at hu;subst hu;refine ⟨.arr esz [],?_,by show _=_;rw [BK];rfl⟩
          rw [List.getElem?_append_right (by simp [h.r.sto.len];omega)]
          simp [h.r.sto.len,hu0]
      · rcases Nat.lt_or_ge u st.sto.length with hul|hul
        · rw [List.getElem?_append_left (by simpa using hul),List.getElem?_set] at hu
          by_cases hut:t=u
          · subst hut
            simp [hlt] at hu;subst hu;exact QP hcs c rfl
          · simp [hut] at hu;exact h.s u x hu
        · rw [List.getElem?_append_right (by simpa using hul)] at hu
          cases hj:u- (st.sto.set t (.box (cs.set c (.own st.sto.length false)))).length with
          |zero=>rw [hj] at hu;simp at hu
          |succ j=>rw [hj] at hu;simp at hu
    |undef|nul|nilf|int _ _|bool _|str _|bp _ _ _|mp _=>exact other (fun e he=>by rw [show pv=_ from h5] at he;cases he) (fun e he=>by cases he)
    |sl r l=>exact other (fun e he=>by rw [show pv=_ from h5] at he;cases he) (fun e he=>by cases he)
    |agg _|tup _|rptr _ _=>exact other (fun e he=>by obtain ⟨q,hq,_⟩:=h5;rw [hq] at he;cases he) (fun e he=>by cases he)
    |clo _ _ _=>exact other (fun e he=>by obtain ⟨q,q2,hq,_⟩:=h5;rw [hq] at he;cases he) (fun e he=>by cases he)
    |own _ _=>exact other (fun e he=>by obtain ⟨q,q2,hq,_⟩:=h5;rw [hq] at he;cases he) (fun e he=>by cases he)
    |pre _ _ _ _|part _ _ _ _ _|pb _ _ _=>exact other (fun e he=>by obtain ⟨q,hq,_⟩:=h5;rw [hq] at he;cases he) (fun e he=>by cases he)
    |pa _ _ _ _ _=>exact other (fun e he=>by obtain ⟨hq,_⟩:=h5;rw [hq] at he;cases he) (fun e he=>by cases he)
theorem SJ {p:St} {t c esz:Nat} (h: ∀cs,p.sto[t]?≠some (.box cs)):xB p t c esz=p:=by
 unfold xB;split
 · rename_i cs hcs;exact absurd hcs (h cs)
 · rfl
theorem aDB {st:vV} {p:St} (h:RSS st p) {v:SV} {q:PV} (hv:R st.sto v q) (hs:v≠ .junk):(∃t,aDd v=some t/\MT q=some t)\/(aDd v=none/\ ∀t,MT q=some t-> ∀cs,p.sto[t]?≠some (.box cs)):=by
 cases v with
 |junk=>exact absurd rfl hs
 |bp u m off=>
  have hq:q= .ptr u m 0 off:=hv;subst hq;cases off with
  |zero=>exact .inl ⟨u,rfl,rfl⟩
  |succ off=>exact .inr ⟨rfl,fun t ht=>by cases ht⟩
 |pb u i off=>
  obtain ⟨e',hq,hat⟩:=hv;subst hq;refine .inr ⟨rfl,fun t ht cs hcs=>?_⟩
  have:t=u:=by
   unfold MT at ht;split at ht
   · rename_i heq;injection heq with e1;injection ht with ht;rw [<- ht,e1]
   · cases ht
  subst this;rcases hat with ⟨r,l,h1,_⟩|h1
  · rw [h.r.sto.arr h1] at hcs;cases hcs
  · obtain ⟨q,h2,h3⟩:=h.r.sto.at_ t _ h1
    rw [hcs] at h2;injection h2 with h2;subst h2;cases (show oC.box cs= .dead from h3)
 |pa u r i a off=>
  obtain ⟨hq,hat⟩:=hv;subst hq;refine .inr ⟨rfl,fun t ht cs hcs=>?_⟩
  have:t=u:=by
   unfold MT at ht;split at ht
   · rename_i heq;injection heq with e1;injection ht with ht;rw [<- ht,e1]
   · cases ht
  subst this;rcases hat with ⟨l,h1,_⟩|h1
  · rw [h.r.sto.arr h1] at hcs;cases hcs
  · obtain ⟨q,h2,h3⟩:=h.r.sto.at_ t _ h1
    rw [hcs] at h2;injection h2 with h2;subst h2;cases (show oC.box cs= .dead from h3)
 |undef|nul|nilf|int _ _|bool _|str _|mp _|sl _ _|nil _ _=>exact .inr ⟨rfl,fun t ht=>by rw [show q=_ from hv] at ht;cases ht⟩
 |agg _|tup _|rptr _ _=>exact .inr ⟨rfl,fun t ht=>by obtain ⟨_,rfl,_⟩:=hv;cases ht⟩
 |clo _ _ _=>exact .inr ⟨rfl,fun t ht=>by obtain ⟨_,_,rfl,_⟩:=hv;cases ht⟩
 |own _ _=>exact .inr ⟨rfl,fun t ht=>by obtain ⟨_,_,rfl,_⟩:=hv;cases ht⟩
 |pre _ _ _ _|part _ _ _ _ _=>exact .inr ⟨rfl,fun t ht=>by obtain ⟨_,rfl,_⟩:=hv;cases ht⟩
theorem aME {st:vV} {p:St} (h:RSS st p) {v:SV} {q:PV} (hv:R st.sto v q) (hs:v.sure=true):(∃t,aFe v=some t/\T4 q=some t)\/(aFe v=none/\ ∀t,T4 q=some t-> ∀cs,p.sto[t]?≠some (.box cs)):=by
 have hj:v≠ .junk:=fun e=>by subst e;cases hs
 by_cases hc: ∃f a b,v= .clo f a b
 · obtain ⟨f,a,b,rfl⟩:=hc
   obtain ⟨pa,pb,rfl,h1,h2⟩:=hv;cases b with
   |nil=>
    have:pb=[]:=h2
    subst this;exact .inr ⟨rfl,fun t ht=>by cases ht⟩
   |cons y ys=>
    obtain ⟨z,zs,rfl,g1,g2⟩:=h2;exact aDB h g1 (fun e=>by subst e;simp [SV.sure,sureL] at hs)
 · have e1:aFe v=aDd v:=by
    cases v with
    |clo f a b=>exact absurd ⟨f,a,b,rfl⟩ hc
    |_=>rfl
   have e2:T4 q=MT q:=by
    cases q with
    |clo f a b=>
     exfalso;cases v with
     |junk=>exact hj rfl
     |clo f a b=>exact hc ⟨f,a,b,rfl⟩
     |bp _ _ _|undef|nul|nilf|int _ _|bool _|str _|mp _|sl _ _|nil _ _=>cases (show PV.clo f a b=_ from hv)
     |agg _|tup _|rptr _ _|pre _ _ _ _|part _ _ _ _ _|pb _ _ _=>obtain ⟨_,hq,_⟩:=hv;cases hq
     |own _ _=>obtain ⟨_,_,hq,_⟩:=hv;cases hq
     |pa _ _ _ _ _=>obtain ⟨hq,_⟩:=hv;cases hq
    |_=>rfl
   rw [e1,e2];exact aDB h hv hj
theorem rN {rk:List (Nat×List PT)}: ∀(live:List (Nat×Option Nat)) {st:vV} {p:St},RSS st p->RSS (pP rk live st) (nT live p)
 | [],st,p,h=>h
 |(t,k)::live,st,p,h=>by
  cases k with
  |none=>simp only [pP,nT];exact rN live h
  |some n=>
   simp only [pP,nT];cases hn:Nat.ble 1000 n with
   |false=>simp only [cond_false,Bool.false_eq_true,if_false];exact rN live h
   |true=>
    simp only [cond_true,if_true];have hlk:=h.r.env.lk t;have hsu:=h.e.lk t;rcases aME h hlk hsu with ⟨u,e1,e2⟩|⟨e1,e2⟩
    · rw [e1,e2]
      exact rN live (YL h u _ _)
    · rw [e1]
      cases hb:T4 (lk t p.env) with
      |none=>exact rN live h
      |some u=>
       show RSS (pP rk live st) (nT live (xB p u (n / 1000-1) (n%1000)));rw [SJ (e2 u hb)];exact rN live h
theorem U6 {e:SE} {pe:zA} (hE:eL s e pe): ∀{live:List (Nat×Option Nat)},IF e live=true->NT e live=live.flatMap fun p=>lF zB (lk p.1 pe)
 | [],_=>rfl
 |(t,k)::live,h=>by
  simp only [IF,Bool.and_eq_true] at h;simp only [NT,List.flatMap_cons,U6 hE h.2];rw [aDy (fun _=>rfl) (hE.lk t) h.1]
theorem aDC: ∀{s':List SB} {s:List SB} {ps:cV} (n:Nat),(ps.length=s.length/\ ∀(t:Nat) (b:SB),s[t]? =some b-> ∃q,ps[t]? =some q/\RB s' b q)->NU s n=true->YB s n=(ps.take n).flatMap wZ
 |s',[],ps,n,h,_=>by
  have:ps=[]:=List.length_eq_zero_iff.1 (by simpa using h.1)
  subst this;cases n<;>simp [YB]
 |s',b::s,ps,0,h,_=>by simp [YB]
 |s',b::s,ps,n+1,h,hk=>by
  cases ps with
  |nil=>have:=h.1;simp at this
  |cons q ps=>
   simp only [NU,Bool.and_eq_true] at hk;obtain ⟨q',h1,h2⟩:=h.2 0 b rfl;simp at h1;subst h1;simp only [YB,List.take_succ_cons,List.flatMap_cons,SH h2 hk.1];rw [aDC (s':=s') (ps:=ps) n ⟨by simpa using h.1,fun t x hx=>by simpa using h.2 (t+1) x (by simpa using hx)⟩ hk.2]
theorem aAw {s:List SB} {v:SV} {p:PV} (h:R s v p):R s (QI s v) p:=by
 unfold QI;split
 · rename_i t ex
   rw [cK];split
   · rename_i r l hst
     obtain ⟨e,n,rfl,hat⟩:=h;obtain ⟨rfl,rfl⟩:=hat.inv hst;exact ⟨r.length,rfl,.inl ⟨r,l,hst,rfl⟩⟩
   · exact h
 · exact h
theorem aAx {s:List SB} (c:Nat): ∀{e:SE} {p:zA},eL s e p->eL s (aAn s c e) p
 | [],_,h=>h
 |(t,v)::r,_,h=>by
  obtain ⟨q,qs,rfl,h1,h2⟩:=h;simp only [aAn];cases hb:Nat.beq t c with
  |true=>exact ⟨q,qs,rfl,aAw h1,h2⟩
  |false=>exact ⟨q,qs,rfl,h1,aAx c h2⟩
theorem KH: ∀(live:List (Nat×Option Nat)) {st:vV} {p:St},GG st p->GG (IE live st) p
 | [],st,p,h=>h
 |(t,k)::r,st,p,h=>by
  simp only [IE];cases hn:Nat.ble 1000000 t with
  |true=>exact KH r ⟨aAx _ h.env,h.sto,h.fz,h.kn⟩
  |false=>exact KH r h
theorem U7 {rk:List (Nat×List PT)} {live:List (Nat×Option Nat)} {st st1:vV} {p:St} (h:GG st p) (hn:NV rk live st=some st1): ∃p1,MU live p=some p1/\GG st1 p1:=by
 unfold NV at hn;cases hc:(IF st.env live&&NU st.sto st.kn) with
 |false=>rw [hc] at hn;cases hn
 |true=>
  rw [hc] at hn;simp only [cond_true] at hn;simp only [Bool.and_eq_true] at hc;split at hn
  · cases hn
  · rename_i m hm
    split at hn
    · rename_i s1 e1 s2 h1 h2
      injection hn with hn;subst hn;have ht:YB st.sto st.kn++NT st.env live=(p.sto.take p.kn).flatMap wZ++live.flatMap fun q=>lF zB (lk q.1 p.env):=by
       rw [U6 h.env hc.1,aDC (s':=st.sto) st.kn ⟨h.sto.len,h.sto.at_⟩ hc.2,h.kn]
      rw [ht] at hm;have hm':=N9 h.sto _ _ _ _ hm;have hr:OB m st.sto (s1++s2):=OB.of h1;obtain ⟨p1,a1,a2,a3⟩:=KE h.sto hr h1;have hlen:s1.length=m.length:=(EG h1).1;obtain ⟨pe1,q2,b1,b2,b3,b4⟩:=SI h.env hr h2 (fun j b hj=>by rw [<- hlen,List.getElem?_append_right (by omega)];simpa using hj)
      have hsto:cX (s1++s2) (p1++q2):=⟨by simp [a2,b3],fun t b ht=>by
       rcases Nat.lt_or_ge t s1.length with hl|hl
       · rw [List.getElem?_append_left hl] at ht
         obtain ⟨q,c1,c2⟩:=a3 t b ht;exact ⟨q,by rw [List.getElem?_append_left (by omega)];exact c1,c2⟩
       · rw [List.getElem?_append_right hl] at ht
         obtain ⟨q,c1,c2⟩:=b4 _ b ht;exact ⟨q,by rw [List.getElem?_append_right (by omega),a2];exact c1,c2⟩⟩
      have hs:aMc (s1++s2):=fun t cs ht=>by
       rcases Nat.lt_or_ge t s1.length with hl|hl
       · rw [List.getElem?_append_left hl] at ht
         obtain ⟨b,c,d1,d2,d3⟩:=(EG h1).2 t (m[t]'(by omega)) (List.getElem?_eq_getElem (by omega))
         rw [ht] at d3;injection d3 with d3;subst d3;cases b with
         |box x=>
          simp only [aDc] at d2;split at d2
          · rename_i l hl';injection d2 with d2;injection d2 with d2;subst d2;exact renVL_sure hl'
          · cases d2
         |arr _ _=>injection d2 with d2;cases d2
         |set _=>injection d2 with d2;cases d2
         |tab _ _=>injection d2 with d2;cases d2
         |dead=>injection d2 with d2;cases d2
       · rw [List.getElem?_append_right hl] at ht
         obtain ⟨r,hr'⟩:=KF h2 _ _ ht;cases hr'
      have hR:RSS {env:=e1,sto:=s1++s2,fz:=DZ st.fz 0 m,kn:=st.kn} {env:=pe1,sto:=p1++q2,fz:=DZ p.fz 0 m,kn:=p.kn}:=
       ⟨⟨b2,hsto,by rw [h.fz],h.kn⟩,hs,G8 h2⟩
      refine ⟨_,?_,KH live (rN live hR).r⟩;unfold MU;rw [h.kn] at hm';rw [h.kn];rw [hm'];dsimp only;rw [a1,b1]
    · cases hn
theorem aAy {rk:List (Nat×List PT)} {live:List (Nat×Option Nat)} {st st1:vV} {p:St} (h:GG st p) (hn:NW rk live st=some st1): ∃p1,L2 live p=some p1/\GG st1 p1:=by
 unfold NW at hn;cases h1:NV rk live st with
 |none=>rw [h1] at hn;cases hn
 |some s=>
  rw [h1] at hn;dsimp only at hn;obtain ⟨p1,h2,h3⟩:=U7 h h1;unfold L2;rw [h2];dsimp only;cases ha:(live.any fun p=>p.2.isSome) with
  |true=>
   rw [ha] at hn;simp only [cond_true] at hn;rw [if_pos rfl];exact U7 h3 hn
  |false=>
   rw [ha] at hn;injection hn with hn;subst hn;exact ⟨p1,by rw [if_neg (by simp)],h3⟩
mutual
theorem MH: ∀{a b:SV} (q:List DW),DS a b=true->zF a (KA b++q)=(b,q)
 | .undef,.undef,q,_=>rfl
 | .nul,.nul,q,_=>rfl
 | .nilf,.nilf,q,_=>rfl
 | .int k _,.int l n,q,h=>by rw [hZ.1 h];rfl
 | .bool _,.bool _,q,_=>rfl
 | .agg a,.agg b,q,h=>by simp only [zF,KA,put_atsL q h]
 | .tup a,.tup b,q,h=>by simp only [zF,KA,put_atsL q h]
 | .sl r _,.sl r' l,q,h=>rfl
 | .nil e c,.nil f d,q,h=>by
  simp only [DS,Bool.and_eq_true,beq_iff_eq] at h;rw [Nat.eq_of_beq_eq_true h.1,h.2];rfl
 | .own t x,.own u y,q,h=>by
  simp only [DS,Bool.and_eq_true,beq_iff_eq] at h;rw [Nat.eq_of_beq_eq_true h.1,h.2];rfl
 | .pre t _ _ x,.pre u _ _ y,q,h=>by
  simp only [DS,Bool.and_eq_true,beq_iff_eq] at h;rw [Nat.eq_of_beq_eq_true h.1,h.2];rfl
 | .part t _ _ _ x,.part u _ _ _ y,q,h=>by
  simp only [DS,Bool.and_eq_true,beq_iff_eq] at h;rw [Nat.eq_of_beq_eq_true h.1,h.2];rfl
 | .pb t _ o,.pb u _ p,q,h=>by
  simp only [DS,Bool.and_eq_true] at h;rw [Nat.eq_of_beq_eq_true h.1,Nat.eq_of_beq_eq_true h.2];rfl
 | .bp t n o,.bp u m p,q,h=>by
  simp only [DS,Bool.and_eq_true] at h;rw [Nat.eq_of_beq_eq_true h.1.1,Nat.eq_of_beq_eq_true h.1.2,Nat.eq_of_beq_eq_true h.2];rfl
 | .rptr a o,.rptr b p,q,h=>by
  simp only [DS,Bool.and_eq_true] at h;simp only [zF,KA,put_atsL q h.1,Nat.eq_of_beq_eq_true h.2]
 | .clo f a b,.clo g c d,q,h=>by
  simp only [DS,Bool.and_eq_true] at h;simp only [zF,KA,List.append_assoc,put_atsL _ h.1.2,put_atsL q h.2,Nat.eq_of_beq_eq_true h.1.1]
 | .mp t,.mp u,q,h=>by rw [Nat.eq_of_beq_eq_true h];rfl
theorem put_atsL: ∀{a b:List SV} (q:List DW),likeL a b=true->putL a (atsL b++q)=(b,q)
 | [],[],q,_=>rfl
 |x::xs,y::ys,q,h=>by
  simp only [likeL,Bool.and_eq_true] at h;simp only [putL,atsL,List.append_assoc,MH _ h.1,put_atsL q h.2]
 | [],_::_,_,h=>by cases h
 |_::_,[],_,h=>by cases h
end
theorem aDD: ∀{a b:SB} (q:List DW),aL7 a b=true->YC a (aDe b++q)=(b,q)
 | .arr r _,.arr r' l,q,h=>rfl
 | .box a,.box b,q,h=>by simp only [YC,aDe,put_atsL q h]
 | .set _,.set _,q,_=>rfl
 | .tab p _,.tab p' l,q,h=>by obtain rfl:p=p':=PT.same_eq h;rfl
 | .dead,.dead,q,_=>rfl
 | .arr _ _,.box _,_,h| .arr _ _,.set _,_,h| .arr _ _,.dead,_,h| .box _,.arr _ _,_,h| .box _,.set _,_,h| .box _,.dead,_,h| .set _,.arr _ _,_,h| .set _,.box _,_,h| .set _,.dead,_,h| .dead,.arr _ _,_,h| .dead,.box _,_,h| .dead,.set _,_,h
 | .tab _ _,.arr _ _,_,h| .tab _ _,.box _,_,h| .tab _ _,.set _,_,h| .tab _ _,.dead,_,h| .arr _ _,.tab _ _,_,h| .box _,.tab _ _,_,h| .set _,.tab _ _,_,h| .dead,.tab _ _,_,h=>by cases h
theorem IS: ∀{a b:List SB} (q:List DW),NX a b=true->G1 a (SA b++q)=(b,q)
 | [],[],q,_=>rfl
 |x::xs,y::ys,q,h=>by
  simp only [NX,Bool.and_eq_true] at h;simp only [G1,SA,List.append_assoc,aDD _ h.1,IS q h.2]
 | [],_::_,_,h=>by cases h
 |_::_,[],_,h=>by cases h
theorem U8: ∀{a b:SE} (q:List DW),aAo a b=true->UW a (aBT b++q)=(b,q)
 | [],[],q,_=>rfl
 |(t,x)::xs,(u,y)::ys,q,h=>by
  simp only [aAo,Bool.and_eq_true] at h;simp only [UW,aBT,List.append_assoc,MH _ h.1.2,U8 q h.2,Nat.eq_of_beq_eq_true h.1.1]
 | [],_::_,_,h=>by cases h
 |_::_,[],_,h=>by cases h
theorem U9: ∀{a b:List Nat},aAp a b=true->a=b
 | [],[],_=>rfl
 |x::xs,y::ys,h=>by
  simp only [aAp,Bool.and_eq_true] at h;rw [Nat.eq_of_beq_eq_true h.1,U9 h.2]
 | [],_::_,h=>by cases h
 |_::_,[],h=>by cases h
theorem aB1 {a b:vV} (h:NY a b=true):GD a (DR b)=b:=by
 obtain ⟨e1,s1,z1,k1⟩:=a;obtain ⟨e2,s2,z2,k2⟩:=b;simp only [NY,Bool.and_eq_true] at h;obtain ⟨⟨⟨h1,h2⟩,h3⟩,h4⟩:=h;have hs:=IS [] h2;rw [List.append_nil] at hs;simp only [GD,DR,U8 _ h1,hs,U9 h3,Nat.eq_of_beq_eq_true h4]
theorem AK.of_at: ∀{a:AK} {x:DW} {y:a.T},a.of x=some y->a.at y=x
 | .i,.i _,y,h=>by injection h with h;subst h;rfl
 | .b,.b _,y,h=>by injection h with h;subst h;rfl
 | .n,.n _,y,h=>by injection h with h;subst h;rfl
 | .l r,.l q x,y,h=>by obtain ⟨rfl,rfl⟩:=G2 h;rfl
 | .s,.s _,y,h=>by injection h with h;subst h;rfl
 | .i,.b _,_,h| .i,.n _,_,h| .i,.l _ _,_,h| .i,.s _,_,h| .b,.i _,_,h| .b,.n _,_,h| .b,.l _ _,_,h| .b,.s _,_,h| .n,.i _,_,h| .n,.b _,_,h| .n,.l _ _,_,h| .n,.s _,_,h
 | .l _,.i _,_,h| .l _,.b _,_,h| .l _,.n _,_,h| .l _,.s _,_,h| .s,.i _,_,h| .s,.b _,_,h| .s,.n _,_,h| .s,.l _ _,_,h=>by cases h
theorem yE: ∀{ks:List AK} {l:List DW} {y:mZ ks},wQ ks l=some y->qH ks y=l
 | [],[],y,_=>rfl
 | [a],[x],y,h=>by
  have:=AK.of_at (a:=a) h
  simp only [qH,this]
 |a::q::r,x::xs,y,h=>by
  simp only [wQ] at h;split at h
  · rename_i u v h1 h2
    injection h with h;subst h;simp only [qH,AK.of_at h1,yE h2]
  · cases h
 | [],_::_,_,h=>by cases h
 | [_],[],_,h=>by cases h
 | [_],_::_::_,_,h=>by cases h
 |_::_::_,[],_,h=>by cases h
end
end Go.Vm
/- What is known of functions, and what a call of one comes to. -/
namespace Go.Vm
mutual
def OC:Nat->PV->Option (PV×cV)
 |_,.int k n=>some (.int k n,[])
 |_,.bool b=>some (.bool b,[])
 |nx,.agg cs=>match ownPL nx cs with|some r=>some (.agg r.1,r.2)|none=>none
 |nx,.tup cs=>match ownPL nx cs with|some r=>some (.tup r.1,r.2)|none=>none
 |nx,.sl e false rows=>some (.own nx e 0 rows.length rows.length false,[.arr e rows])
 |_,_=>none
def ownPL:Nat->List PV->Option (List PV×cV)
 |_,[]=>some ([],[])
 |nx,x::xs=>match OC nx x with
  |some a=>match ownPL (nx+a.2.length) xs with
   |some b=>some (a.1::b.1,a.2++b.2)
   |none=>none
  |none=>none
end
def CH (s:List SB) (n:Nat) (l:List SB):Prop:= ∀(j:Nat) (b:SB),l[j]? =some b->s[n+j]? =some b
theorem CH.left {s:List SB} {n:Nat} {l m:List SB} (h:CH s n (l++m)):CH s n l:=fun j b hj=>h j b (by
 rw [List.getElem?_append_left (List.getElem?_eq_some_iff.1 hj).1];exact hj)
theorem CH.right {s:List SB} {n:Nat} {l m:List SB} (h:CH s n (l++m)):CH s (n+l.length) m:=fun j b hj=>by
 have:=h (l.length+j) b (by rw [List.getElem?_append_right (by omega)];simpa using hj)
 rwa [Nat.add_assoc]
def YM (s:List SB) (l:List SB) (q:cV):Prop:=q.length=l.length/\ ∀(j:Nat) (b:SB),l[j]? =some b-> ∃x,q[j]? =some x/\RB s b x
theorem YM.append {s l m:List SB} {q r:cV} (h:YM s l q) (k:YM s m r):YM s (l++m) (q++r):=by
 refine ⟨by simp [h.1,k.1],fun j b hj=>?_⟩
 rcases Nat.lt_or_ge j l.length with hl|hl
 · rw [List.getElem?_append_left hl] at hj
   obtain ⟨x,h1,h2⟩:=h.2 j b hj;exact ⟨x,by rw [List.getElem?_append_left (by rw [h.1];exact hl)];exact h1,h2⟩
 · rw [List.getElem?_append_right hl] at hj
   obtain ⟨x,h1,h2⟩:=k.2 _ b hj;exact ⟨x,by rw [List.getElem?_append_right (by rw [h.1];exact hl),h.1];exact h1,h2⟩
theorem YM.nil {s:List SB}:YM s [] []:=⟨rfl,fun j b h=>by simp at h⟩
theorem YM.one {s:List SB} {b:SB} {x:oC} (h:RB s b x):YM s [b] [x]:=⟨rfl,fun j c hc=>by
 cases j with
 |zero=>simp at hc;subst hc;exact ⟨x,rfl,h⟩
 |succ j=>simp at hc⟩
mutual
theorem aAz: ∀{v:SV} {nx:Nat} {p0 p:PV} {q:cV},yD v=some p0->OC nx p0=some (p,q)-> ∀{s:List SB},CH s nx (ED nx v).2->R s (ED nx v).1 p/\YM s (ED nx v).2 q
 | .int k n,nx,p0,p,q,h0,h,s,_=>by injection h0 with h0;subst h0;injection h with h;injection h with h1 h2;subst h1 h2;exact ⟨rfl,YM.nil⟩
 | .bool b,nx,p0,p,q,h0,h,s,_=>by injection h0 with h0;subst h0;injection h with h;injection h with h1 h2;subst h1 h2;exact ⟨rfl,YM.nil⟩
 | .agg cs,nx,p0,p,q,h0,h,s,hb=>by
  simp only [yD] at h0;split at h0
  · rename_i l hl
    injection h0 with h0;subst h0;simp only [OC] at h;split at h
    · rename_i r hr
      injection h with h;injection h with h1 h2;subst h1 h2;obtain ⟨h3,h4⟩:=ownOfL_R (p:=r.1) (q:=r.2) hl hr hb;exact ⟨⟨r.1,rfl,h3⟩,h4⟩
    · cases h
  · cases h0
 | .tup cs,nx,p0,p,q,h0,h,s,hb=>by
  simp only [yD] at h0;split at h0
  · rename_i l hl
    injection h0 with h0;subst h0;simp only [OC] at h;split at h
    · rename_i r hr
      injection h with h;injection h with h1 h2;subst h1 h2;obtain ⟨h3,h4⟩:=ownOfL_R (p:=r.1) (q:=r.2) hl hr hb;exact ⟨⟨r.1,rfl,h3⟩,h4⟩
    · cases h
  · cases h0
 | .sl r l,nx,p0,p,q,h0,h,s,hb=>by
  injection h0 with h0;subst h0;injection h with h;injection h with h1 h2;subst h1 h2;refine ⟨⟨r.length,l.length,by simp,.inl ⟨r,l,hb 0 _ rfl,rfl,rfl⟩⟩,YM.one rfl⟩
 | .nil e c,nx,p0,p,q,h0,h,s,hb=>by
  injection h0 with h0;subst h0;cases c with
  |true=>simp [OC] at h
  |false=>
   injection h with h;injection h with h1 h2;subst h1 h2;exact ⟨⟨e,0,rfl,.inl ⟨_,[],hb 0 _ rfl,by simp,rfl⟩⟩,YM.one (by show _=_;simp)⟩
 | .str _,nx,p0,p,q,h0,h,s,_=>by injection h0 with h0;subst h0;cases h
 | .nilf,nx,p0,p,q,h0,h,s,_=>by injection h0 with h0;subst h0;cases h
 | .rptr cs o,nx,p0,p,q,h0,h,s,_=>by
  simp only [yD] at h0;split at h0
  · injection h0 with h0;subst h0;cases h
  · cases h0
 | .clo f a b,nx,p0,p,q,h0,h,s,_=>by
  simp only [yD] at h0;split at h0
  · injection h0 with h0;subst h0;cases h
  · cases h0
 | .junk,_,_,_,_,h0,_,_,_| .undef,_,_,_,_,h0,_,_,_| .nul,_,_,_,_,h0,_,_,_| .own _ _,_,_,_,_,h0,_,_,_| .pre _ _ _ _,_,_,_,_,h0,_,_,_| .part _ _ _ _ _,_,_,_,_,h0,_,_,_
 | .pa _ _ _ _ _,_,_,_,_,h0,_,_,_| .pb _ _ _,_,_,_,_,h0,_,_,_| .bp _ _ _,_,_,_,_,h0,_,_,_| .mp _,_,_,_,_,h0,_,_,_=>by cases h0
theorem ownOfL_R: ∀{v:List SV} {nx:Nat} {p0 p:List PV} {q:cV},pvL v=some p0->ownPL nx p0=some (p,q)-> ∀{s:List SB},CH s nx (ownOfL nx v).2->RL s (ownOfL nx v).1 p/\YM s (ownOfL nx v).2 q
 | [],nx,p0,p,q,h0,h,s,_=>by injection h0 with h0;subst h0;injection h with h;injection h with h1 h2;subst h1 h2;exact ⟨rfl,YM.nil⟩
 |x::xs,nx,p0,p,q,h0,h,s,hb=>by
  obtain ⟨a,as,rfl,h1,h2⟩:=fF.1 h0;simp only [ownPL] at h;split at h
  · rename_i ra hra
    split at h
    · rename_i rb hrb
      injection h with h;injection h with e1 e2;subst e1 e2;simp only [ownOfL] at hb ⊢;obtain ⟨k1,k2⟩:=aAz (p:=ra.1) (q:=ra.2) h1 hra hb.left;rw [k2.1] at hrb;obtain ⟨k3,k4⟩:=ownOfL_R (p:=rb.1) (q:=rb.2) h2 hrb hb.right;exact ⟨RL.cons k1 k3,k2.append k4⟩
    · cases h
  · cases h
end
mutual
theorem aDE {s:List SB} {ps:cV} {z:List Nat} (hS:cX s ps): ∀{v v':SV} {p:PV} {seen seen':List Nat} (nx:Nat),R s v p->aBS s z seen v=some (v',seen')-> ∃p0 p' q,yD v'=some p0/\OC nx p0=some (p',q)/\F4 ps z nx seen p=some (p',q,seen')
 | .int k n,v',p,seen,seen',nx,h,hx=>by injection hx with hx;injection hx with h1 h2;subst h1 h2;rw [show p=_ from h];exact ⟨_,_,_,rfl,rfl,rfl⟩
 | .bool k,v',p,seen,seen',nx,h,hx=>by injection hx with hx;injection hx with h1 h2;subst h1 h2;rw [show p=_ from h];exact ⟨_,_,_,rfl,rfl,rfl⟩
 | .agg cs,v',p,seen,seen',nx,h,hx=>by
  obtain ⟨q,rfl,h⟩:=h;simp only [aBS] at hx;split at hx
  · rename_i r hr
    injection hx with hx;injection hx with h1 h2;subst h1 h2;obtain ⟨p0,p',q',h3,h4,h5⟩:=imOVL_R hS (v':=r.1) (seen':=r.2) nx h hr;exact ⟨.agg p0,.agg p',q',by simp only [yD,h3],by simp only [OC,h4],by simp only [F4,h5];rfl⟩
  · cases hx
 | .tup cs,v',p,seen,seen',nx,h,hx=>by
  obtain ⟨q,rfl,h⟩:=h;simp only [aBS] at hx;split at hx
  · rename_i r hr
    injection hx with hx;injection hx with h1 h2;subst h1 h2;obtain ⟨p0,p',q',h3,h4,h5⟩:=imOVL_R hS (v':=r.1) (seen':=r.2) nx h hr;exact ⟨.tup p0,.tup p',q',by simp only [yD,h3],by simp only [OC,h4],by simp only [F4,h5];rfl⟩
  · cases hx
 | .nil e c,v',p,seen,seen',nx,h,hx=>by
  cases c with
  |false=>cases hx
  |true=>injection hx with hx;injection hx with h1 h2;subst h1 h2;rw [show p=_ from h];exact ⟨_,_,_,rfl,rfl,rfl⟩
 | .own t ex,v',p,seen,seen',nx,h,hx=>by
  obtain ⟨e,n,rfl,hat⟩:=h;simp only [aBS,cK] at hx;split at hx
  · rename_i r l hst
    obtain ⟨rfl,rfl⟩:=hat.inv hst;cases hc:(has seen t||has z t) with
    |true=>rw [hc] at hx;cases hx
    |false=>
     rw [hc] at hx;injection hx with hx;injection hx with h1 h2;subst h1 h2;refine ⟨_,_,_,rfl,rfl,?_⟩;simp only [F4,hS.arr hst,hc];simp
  · cases hx
 | .junk,_,_,_,_,_,_,hx| .undef,_,_,_,_,_,_,hx| .nul,_,_,_,_,_,_,hx| .nilf,_,_,_,_,_,_,hx| .str _,_,_,_,_,_,_,hx| .sl _ _,_,_,_,_,_,_,hx| .pre _ _ _ _,_,_,_,_,_,_,hx| .part _ _ _ _ _,_,_,_,_,_,_,hx
 | .pa _ _ _ _ _,_,_,_,_,_,_,hx| .pb _ _ _,_,_,_,_,_,_,hx| .bp _ _ _,_,_,_,_,_,_,hx| .rptr _ _,_,_,_,_,_,_,hx| .clo _ _ _,_,_,_,_,_,_,hx| .mp _,_,_,_,_,_,_,hx=>by cases hx
theorem imOVL_R {s:List SB} {ps:cV} {z:List Nat} (hS:cX s ps): ∀{v v':List SV} {p:List PV} {seen seen':List Nat} (nx:Nat),RL s v p->imOVL s z seen v=some (v',seen')-> ∃p0 p' q,pvL v'=some p0/\ownPL nx p0=some (p',q)/\imOL ps z nx seen p=some (p',q,seen')
 | [],v',p,seen,seen',nx,h,hx=>by injection hx with hx;injection hx with h1 h2;subst h1 h2;rw [show p=_ from h];exact ⟨_,_,_,rfl,rfl,rfl⟩
 |x::xs,v',p,seen,seen',nx,h,hx=>by
  obtain ⟨a,as,rfl,h1,h2⟩:=h.cons_inv;simp only [imOVL] at hx;split at hx
  · rename_i r hr
    split at hx
    · rename_i r2 hr2
      injection hx with hx;injection hx with e1 e2;subst e1 e2;obtain ⟨p0,p',q,k1,k2,k3⟩:=aDE hS (v':=r.1) (seen':=r.2) nx h1 hr;obtain ⟨p02,p'2,q2,k4,k5,k6⟩:=imOVL_R hS (v':=r2.1) (seen':=r2.2) (nx+q.length) h2 hr2;exact ⟨p0::p02,p'::p'2,q++q2,fF.2 ⟨_,_,rfl,k1,k4⟩,by simp only [ownPL,k2,k5],by simp only [imOL,k3,k6]⟩
    · cases hx
  · cases hx
end
mutual
theorem VA {s:List SB}: ∀{v:SV} {p:PV},R s v p->G0 v=true->p.noref=true
 | .int _ _,p,h,_| .bool _,p,h,_| .str _,p,h,_=>by rw [show p=_ from h];rfl
 | .agg cs,p,h,hn=>by obtain ⟨q,rfl,h⟩:=h;exact norefSL_R h hn
 | .tup cs,p,h,hn=>by obtain ⟨q,rfl,h⟩:=h;exact norefSL_R h hn
 | .junk,_,_,h| .undef,_,_,h| .nul,_,_,h| .nilf,_,_,h| .sl _ _,_,_,h| .nil _ _,_,_,h| .own _ _,_,_,h| .pre _ _ _ _,_,_,h| .part _ _ _ _ _,_,_,h| .pa _ _ _ _ _,_,_,h| .pb _ _ _,_,_,h| .bp _ _ _,_,_,h| .rptr _ _,_,_,h| .clo _ _ _,_,_,h| .mp _,_,_,h=>by cases h
theorem norefSL_R {s:List SB}: ∀{v:List SV} {p:List PV},RL s v p->norefSL v=true->norefL p=true
 | [],p,h,_=>by rw [show p=_ from h];rfl
 |x::xs,p,h,hn=>by
  obtain ⟨a,as,rfl,h1,h2⟩:=h.cons_inv;simp only [norefSL,Bool.and_eq_true] at hn;simp only [norefL,VA h1 hn.1,norefSL_R h2 hn.2,Bool.and_self]
end
mutual
theorem QQ {s:List SB} {u:SV}: ∀{v:SV} {p:PV},R s v p->G0 v=false->imV s v=some u->p.noref=false
 | .int _ _,p,h,hn,_| .bool _,p,h,hn,_| .str _,p,h,hn,_=>by cases hn
 | .agg cs,p,h,hn,hi=>by
  obtain ⟨q,rfl,h⟩:=h;simp only [imV] at hi;split at hi
  · rename_i l hl;exact yesrefSL_R h hn hl
  · cases hi
 | .tup cs,p,h,hn,hi=>by
  obtain ⟨q,rfl,h⟩:=h;simp only [imV] at hi;split at hi
  · rename_i l hl;exact yesrefSL_R h hn hl
  · cases hi
 | .sl _ _,p,h,_,_=>by rw [show p=_ from h];rfl
 | .nil _ _,p,h,_,_=>by rw [show p=_ from h];rfl
 | .own _ _,p,h,_,_=>by obtain ⟨e,n,rfl,_⟩:=h;rfl
 | .pre _ _ _ _,p,h,_,_=>by obtain ⟨e,rfl,_⟩:=h;rfl
 | .part _ _ _ _ _,p,h,_,_=>by obtain ⟨e,rfl,_⟩:=h;rfl
 | .junk,_,_,_,h| .undef,_,_,_,h| .nul,_,_,_,h| .nilf,_,_,_,h| .pa _ _ _ _ _,_,_,_,h| .pb _ _ _,_,_,_,h| .bp _ _ _,_,_,_,h| .rptr _ _,_,_,_,h| .clo _ _ _,_,_,_,h| .mp _,_,_,_,h=>by cases h
theorem yesrefSL_R {s:List SB}: ∀{v u:List SV} {p:List PV},RL s v p->norefSL v=false->imVL s v=some u->norefL p=false
 | [],u,p,h,hn,_=>by cases hn
 |x::xs,u,p,h,hn,hi=>by
  obtain ⟨a,as,rfl,h1,h2⟩:=h.cons_inv;simp only [imVL] at hi;split at hi
  · rename_i y ys h3 h4
    simp only [norefSL] at hn;simp only [norefL];cases hx:G0 x with
    |false=>rw [QQ h1 hx h3];rfl
    |true=>rw [hx] at hn;rw [yesrefSL_R h2 (by simpa using hn) h4];simp
  · cases hi
end
mutual
theorem aMd {s:List SB} {ps:cV} (hS:cX s ps): ∀{v u:SV} {p:PV},R s v p->imV s v=some u-> ∃q,E8 ps p=some q/\yD u=some q
 | .int k n,u,p,h,hx=>by injection hx with hx;subst hx;rw [show p=_ from h];exact ⟨_,rfl,rfl⟩
 | .bool b,u,p,h,hx=>by injection hx with hx;subst hx;rw [show p=_ from h];exact ⟨_,rfl,rfl⟩
 | .str x,u,p,h,hx=>by injection hx with hx;subst hx;rw [show p=_ from h];exact ⟨_,rfl,rfl⟩
 | .agg cs,u,p,h,hx=>by
  obtain ⟨q,rfl,h⟩:=h;simp only [imV] at hx;split at hx
  · rename_i l hl
    injection hx with hx;subst hx;obtain ⟨q',h1,h2⟩:=imVL_R hS h hl;exact ⟨.agg q',by simp only [E8,h1];rfl,by simp only [yD,h2]⟩
  · cases hx
 | .tup cs,u,p,h,hx=>by
  obtain ⟨q,rfl,h⟩:=h;simp only [imV] at hx;split at hx
  · rename_i l hl
    injection hx with hx;subst hx;obtain ⟨q',h1,h2⟩:=imVL_R hS h hl;exact ⟨.tup q',by simp only [E8,h1];rfl,by simp only [yD,h2]⟩
  · cases hx
 | .sl r l,u,p,h,hx=>by injection hx with hx;subst hx;rw [show p=_ from h];exact ⟨_,rfl,rfl⟩
 | .nil e c,u,p,h,hx=>by injection hx with hx;subst hx;rw [show p=_ from h];exact ⟨_,rfl,rfl⟩
 | .own t ex,u,p,h,hx=>by
  simp only [imV,cK] at hx;split at hx
  · rename_i r l hst
    injection hx with hx;subst hx;obtain ⟨e,n,rfl,hat⟩:=h;obtain ⟨rfl,rfl⟩:=hat.inv hst;refine ⟨.sl r.length false (l.map (RT.pv r)),?_,rfl⟩;simp only [E8,hS.arr hst,List.drop_zero];rw [List.take_of_length_le (by simp)]
  · cases hx
 | .pre t len cap ex,u,p,h,hx=>by
  simp only [imV,cK] at hx;split at hx
  · rename_i r l hst
    injection hx with hx;subst hx;obtain ⟨e,rfl,hat⟩:=h
    have:=hat.inv hst
    subst this;refine ⟨.sl r.length false ((l.take len).map (RT.pv r)),?_,rfl⟩;simp only [E8,hS.arr hst,List.drop_zero,List.map_take]
  · cases hx
 | .part t off len cap ex,u,p,h,hx=>by
  simp only [imV,cK] at hx;split at hx
  · rename_i r l hst
    injection hx with hx;subst hx;obtain ⟨e,rfl,hat⟩:=h
    have:=hat.inv hst
    subst this;refine ⟨.sl r.length false (((l.drop off).take len).map (RT.pv r)),?_,rfl⟩;simp only [E8,hS.arr hst,List.map_take,List.map_drop]
  · cases hx
 | .junk,_,_,_,hx| .undef,_,_,_,hx| .nul,_,_,_,hx| .nilf,_,_,_,hx| .pa _ _ _ _ _,_,_,_,hx| .pb _ _ _,_,_,_,hx| .bp _ _ _,_,_,_,hx| .rptr _ _,_,_,_,hx| .clo _ _ _,_,_,_,hx| .mp _,_,_,_,hx=>by cases hx
theorem imVL_R {s:List SB} {ps:cV} (hS:cX s ps): ∀{v u:List SV} {p:List PV},RL s v p->imVL s v=some u-> ∃q,imFL ps p=some q/\pvL u=some q
 | [],u,p,h,hx=>by injection hx with hx;subst hx;rw [show p=_ from h];exact ⟨_,rfl,rfl⟩
 |x::xs,u,p,h,hx=>by
  obtain ⟨a,as,rfl,h1,h2⟩:=h.cons_inv;simp only [imVL] at hx;split at hx
  · rename_i y ys h3 h4
    injection hx with hx;subst hx;obtain ⟨q,h5,h6⟩:=aMd hS h1 h3;obtain ⟨qs,h7,h8⟩:=imVL_R hS h2 h4;exact ⟨q::qs,by simp only [imFL,h5,h7],fF.2 ⟨_,_,rfl,h6,h8⟩⟩
  · cases hx
end
mutual
theorem aDF {s:List SB}: ∀{v:SV} {p:PV},yD v=some p->R s v p
 | .int _ _,p,h| .bool _,p,h| .str _,p,h| .nilf,p,h| .sl _ _,p,h| .nil _ _,p,h=>by injection h with h;exact h.symm
 | .agg cs,p,h=>by
  simp only [yD] at h;split at h
  · rename_i l hl;injection h with h;exact ⟨l,h.symm,pvL_R hl⟩
  · cases h
 | .tup cs,p,h=>by
  simp only [yD] at h;split at h
  · rename_i l hl;injection h with h;exact ⟨l,h.symm,pvL_R hl⟩
  · cases h
 | .rptr cs o,p,h=>by
  simp only [yD] at h;split at h
  · rename_i l hl;injection h with h;exact ⟨l,h.symm,pvL_R hl⟩
  · cases h
 | .clo f a b,p,h=>by
  simp only [yD] at h;split at h
  · rename_i x y h1 h2;injection h with h;exact ⟨x,y,h.symm,pvL_R h1,pvL_R h2⟩
  · cases h
 | .junk,_,h| .undef,_,h| .nul,_,h| .own _ _,_,h| .pre _ _ _ _,_,h| .part _ _ _ _ _,_,h| .pa _ _ _ _ _,_,h| .pb _ _ _,_,h| .bp _ _ _,_,h| .mp _,_,h=>by cases h
theorem pvL_R {s:List SB}: ∀{v:List SV} {p:List PV},pvL v=some p->RL s v p
 | [],p,h=>by injection h with h;exact h.symm
 |x::xs,p,h=>by
  obtain ⟨a,as,rfl,h1,h2⟩:=fF.1 h;exact RL.cons (aDF h1) (pvL_R h2)
end
def aMe (kd:Kd) (n:Nat) (tk:List Nat) (v:SV) (r:tH):Prop:=
 match kd with
 | .pure=> ∃p,yD v=some p/\r={v:=p,rd:=tk}
 | .frz=> ∃p,yD v=some p/\r={v:=p,rd:=tk,fr:=tk}
 | .own=> ∃p0 p q,yD v=some p0/\OC n p0=some (p,q)/\r={v:=p,news:=q,rd:=tk}
def aI (F : qY) (f : FuncId) (c : bM) : Prop :=
  ∀ (a : c.α) (b : c.β) (as args : List PV) (sto : cV) (fz : List Nat), c.fn a = some b -> pvL (c.args.enc a) = some args -> exL sto (DX sto fI) as = some args ->
    ∃ n r, callPure F (run F n) c.ow f as sto fz = some r /\ aMe c.kd sto.length (toksL (dG sto fI) as) (c.res.enc b) r
def eH.va (c:eH) (a:mZ c.ka):List SV:=(putL c.ta (qH c.ka a)).1
def eH.sa (c:eH) (a:mZ c.ka):List SB:=(G1 c.tb (putL c.ta (qH c.ka a)).2).1
def eH.vb (c:eH) (b:mZ c.ko):SV:=(zF c.tv (qH c.ko b)).1
def eH.sb (c:eH) (b:mZ c.ko):List SB:=(G1 c.to (zF c.tv (qH c.ko b)).2).1
def aDG:SB->SB->Prop
 | .arr r l,.arr q m=>r=q/\m.length=l.length
 | .box _,.box _=>True
 | .set _,.set _=>True
 | .tab _ _,.tab _ _=>True
 | .dead,.dead=>True
 |_,_=>False
def kC (F : qY) (f : FuncId) (c : eH) : Prop :=
  ∀ (a : mZ c.ka) (b : mZ c.ko) (pa : List PV) (ps : cV), c.fn a = some b -> RL (c.sa a) (c.va a) pa -> cX (c.sa a) ps ->
    ∃ n v s, run F n (.func f pa ps []) = some (.func v s []) /\ jT (c.sa a).length v s = true /\ R (c.sb b) (c.vb b) v /\ cX (c.sb b) (s.take (c.sa a).length) /\ (c.sb b).length = (c.sa a).length /\
      ∀ (t : Nat) (x y : SB), (c.sa a)[t]? = some x -> (c.sb b)[t]? = some y -> aDG x y
def G9 (F:qY):List (Nat×bM)->Prop
 | []=>True
 |(f,c)::r=>aI F f c/\G9 F r
def QR (F:qY):List (Nat×eH)->Prop
 | []=>True
 |(f,c)::r=>kC F f c/\QR F r
def IT (F:qY):List (Nat×Cd)->Prop
 | []=>True
 |(f,x)::r=>F f=some x.ent/\IT F r
structure mF (F:qY) (cx:Ctx):Prop where
 con: ∀f c,c∈cx.con f->aI F f c
 fpc: ∀f c,c∈cx.fpc f->kC F f c
 code: ∀f x,cx.code f=some x->F f=some x.ent
theorem G9.mem {F:qY}: ∀{l:List (Nat×bM)},G9 F l-> ∀f c,c∈U1 l f->aI F f c
 | [],_,f,c,h=>by cases h
 |(g,d)::r,hl,f,c,h=>by
  simp only [U1] at h;cases hb:Nat.beq g f with
  |true=>
   rw [hb] at h
   have:=Nat.eq_of_beq_eq_true hb
   subst this;simp only [cond_true] at h;rcases h with _|⟨_,h⟩
   · exact hl.1
   · exact G9.mem hl.2 _ c h
  |false=>rw [hb] at h;exact G9.mem hl.2 f c h
theorem QR.mem {F:qY}: ∀{l:List (Nat×eH)},QR F l-> ∀f c,c∈U2 l f->kC F f c
 | [],_,f,c,h=>by cases h
 |(g,d)::r,hl,f,c,h=>by
  simp only [U2] at h;cases hb:Nat.beq g f with
  |true=>
   rw [hb] at h
   have:=Nat.eq_of_beq_eq_true hb
   subst this;simp only [cond_true] at h;rcases h with _|⟨_,h⟩
   · exact hl.1
   · exact QR.mem hl.2 _ c h
  |false=>rw [hb] at h;exact QR.mem hl.2 f c h
theorem IT.mem {F:qY}: ∀{l:List (Nat×Cd)},IT F l-> ∀f x,SD l f=some x->F f=some x.ent
 | [],_,f,c,h=>by cases h
 |(g,d)::r,hl,f,c,h=>by
  simp only [SD] at h;cases hb:Nat.beq g f with
  |true=>
   rw [hb] at h
   have:=Nat.eq_of_beq_eq_true hb
   subst this;injection h with h;subst h;exact hl.1
  |false=>rw [hb] at h;exact IT.mem hl.2 f c h
theorem mF.make {F:qY} {lp:Option Nat} {c:List (Nat×bM)} {p:List (Nat×eH)} {x:List (Nat×Cd)} {rk:List (Nat×List PT)} (h1:G9 F c) (h2:QR F p) (h3:IT F x):mF F (pQ lp c p x rk):=
 ⟨h1.mem,h2.mem,h3.mem⟩
section
variable {F : qY} {R' ρ : Type} {w : R' -> ρ} {y : ρ} {s : List SB} {ps : cV} {z : List Nat}
theorem EH {f:FuncId} {m:Bool} {tk:List Nat} {vs:List SV} {k:XRS->jM R'} (hS:cX s ps) {as args:List PV} (hx:exL ps (DX ps fI) as=some args) (hv:pvL vs=some args) (htk:tk=toksL (dG ps fI) as):
 ∀{l:List bM},(∀c∈l,aI F f c)->YD f m s tk vs k l ρ w=some y-> ∃sr pr,(∃n,callPure F (run F n) m f as ps z=some pr)/\jU s ps sr pr/\k (.loc sr) ρ w=some y
 | [],_,h=>by cases h
 |c::l,hl,h=>by
  simp only [YD] at h;cases hd:c.args.dec vs with
  |none=>rw [hd] at h;exact EH hS hx hv htk (fun c hc=>hl c (List.mem_cons_of_mem _ hc)) h
  |some a=>
   rw [hd] at h;cases hmo:(m==c.ow) with
   |false=>
    rw [hmo] at h;exact EH hS hx hv htk (fun c hc=>hl c (List.mem_cons_of_mem _ hc)) h
   |true=>
   rw [hmo] at h;obtain ⟨b,hb,h2⟩:=dM h;have hm:m=c.ow:=by simpa using hmo
   subst hm;have henc:=c.args.law hd hv;obtain ⟨n,r,hr,hres⟩:=hl c (List.mem_cons_self ..) a b as args ps z hb henc hx;cases hkd:c.kd with
   |pure=>
    rw [hkd] at h2 hres;obtain ⟨p,h3,rfl⟩:=hres;exact ⟨_,_,⟨n,hr⟩,by rw [<- htk];exact jU.val hS (aDF h3),h2⟩
   |frz=>
    rw [hkd] at h2 hres;obtain ⟨p,h3,rfl⟩:=hres;exact ⟨_,_,⟨n,hr⟩,by rw [<- htk];exact jU.val hS (aDF h3),h2⟩
   |own=>
    rw [hkd] at h2 hres;obtain ⟨p0,p,q,h3,h4,rfl⟩:=hres;rw [hS.len] at h4;have hbh:CH (s++(ED s.length (c.res.enc b)).2) s.length (ED s.length (c.res.enc b)).2:=fun j x hj=>by
     rw [List.getElem?_append_right (by omega)];simpa using hj
    obtain ⟨k1,k2⟩:=aAz h3 h4 hbh;exact ⟨_,_,⟨n,hr⟩,by rw [<- htk];exact jU.news hS k2.1 k2.2 k1,h2⟩
end
end Go.Vm
/- A call of a function that works on the blocks that are lent to it. -/
namespace Go.Vm
def wS {α:Type}:List (Nat×α)->List α->List α
 | [],s=>s
 |(t,b)::r,s=>wS r (s.set t b)
theorem CI: ∀(l:List (Nat×SB)) (s:List SB),wR l s=wS l s
 | [],s=>rfl
 |(t,b)::r,s=>by simp only [wR,wS,IK,CI r]
theorem LL: ∀(l:List (Nat×oC)) (s:cV),jJ l s=wS l s
 | [],s=>rfl
 |(t,b)::r,s=>by simp only [jJ,wS,LL r]
theorem HA {α:Type}: ∀(l:List (Nat×α)) (s:List α),(wS l s).length=s.length
 | [],s=>rfl
 |(t,b)::r,s=>by simp [wS,HA r]
theorem CJ {α:Type}: ∀(l:List (Nat×α)) (s:List α) (t:Nat),t∉l.map (·.1)->(wS l s)[t]? =s[t]?
 | [],s,t,_=>rfl
 |(u,b)::r,s,t,h=>by
  simp only [List.map_cons,List.mem_cons,not_or] at h;simp only [wS];rw [CJ r _ t h.2,List.getElem?_set];simp [Ne.symm h.1]
theorem KI {α:Type}: ∀(l:List (Nat×α)) (s:List α) (j t:Nat) (b:α),(l.map (·.1)).Nodup->l[j]? =some (t,b)->t<s.length->(wS l s)[t]? =some b
 | [],s,j,t,b,_,h,_=>by simp at h
 |(u,c)::r,s,0,t,b,hn,h,ht=>by
  simp at h;obtain ⟨rfl,rfl⟩:=h;simp only [List.map_cons,List.nodup_cons] at hn;simp only [wS];rw [CJ r _ u hn.1,List.getElem?_set];simp [ht]
 |(u,c)::r,s,j+1,t,b,hn,h,ht=>by
  simp only [List.map_cons,List.nodup_cons] at hn;simp only [wS];exact KI r _ j t b hn.2 (by simpa using h) (by simpa using ht)
theorem IU: ∀(l:List (Nat×SB)),EE l=l.map (·.1)
 | []=>rfl
 |(t,b)::r=>by simp [EE,IU r]
theorem QS (g:Nat->Nat): ∀(tk:List Nat) (s:List SB),s.length=tk.length->(GE g tk s).map (·.1)=tk/\ ∀(j t:Nat) (b:SB),tk[j]? =some t->s[j]? =some b->(GE g tk s)[j]? =some (t,aDh g b)
 | [],s,h=>⟨by simp [GE],fun j t b hj=>by simp at hj⟩
 |t::tk,[],h=>by simp at h
 |t::tk,b::s,h=>by
  obtain ⟨h1,h2⟩:=QS g tk s (by simpa using h)
  refine ⟨by simp [GE,h1],fun j u c hj hc=>?_⟩
  cases j with
  |zero=>simp at hj hc;subst hj hc;rfl
  |succ j=>simp only [GE,List.getElem?_cons_succ];exact h2 j u c (by simpa using hj) (by simpa using hc)
theorem OD (g:Nat->Nat): ∀(tk:List Nat) (s:cV),tk.length<=s.length->(tN g tk s).map (·.1)=tk/\ ∀(j t:Nat) (b:oC),tk[j]? =some t->s[j]? =some b->(tN g tk s)[j]? =some (t,F5 g b)
 | [],s,h=>⟨by simp [tN],fun j t b hj=>by simp at hj⟩
 |t::tk,[],h=>by simp at h
 |t::tk,b::s,h=>by
  obtain ⟨h1,h2⟩:=OD g tk s (by simpa using h)
  refine ⟨by simp [tN,h1],fun j u c hj hc=>?_⟩
  cases j with
  |zero=>simp at hj hc;subst hj hc;rfl
  |succ j=>simp only [tN,List.getElem?_cons_succ];exact h2 j u c (by simpa using hj) (by simpa using hc)
theorem QT: ∀{l:List (Nat×oC)},(l.map (·.1)).Nodup->B1 l=true
 | [],_=>rfl
 |p::r,h=>by
  simp only [List.map_cons,List.nodup_cons] at h;simp only [B1,Bool.and_eq_true,List.all_eq_true,Bool.not_eq_true'];refine ⟨fun q hq=>?_,QT h.2⟩
  cases hb:Nat.beq q.1 p.1 with
  |false=>rfl
  |true=>exact absurd (List.mem_map.2 ⟨q,hq,Nat.eq_of_beq_eq_true hb⟩) h.1
theorem SK: ∀(s:List SB),KB [] s=s
 | []=>rfl
 |b::r=>by
  simp only [KB,SK r];cases b<;>simp [dgB,dgL_nil]
theorem VB (s:List SB) (r:jA):r.stoOf s=KB (EE r.wr) (wR r.wr s)++r.news:=by
 unfold jA.stoOf;split
 · rename_i h;rw [h];simp only [EE,wR,SK,qC]
 · simp only [qC]
def aMF (g:Nat->Nat) (s s2:List SB):Prop:= ∀(u:Nat) (x:SB),s[u]? =some x->match x with
 | .arr r l=>s2[g u]? =some (.arr r l)
 | .dead=>s2[g u]? =some .dead
 |_=>True
mutual
theorem aAA {g:Nat->Nat} {s s2:List SB} (hb:aMF g s s2): ∀{v:SV} {p:PV},R s v p->R s2 (UX g v) (renF g p)
 | .junk,_,_=>trivial
 | .undef,p,h| .nul,p,h| .nilf,p,h| .int _ _,p,h| .bool _,p,h| .str _,p,h| .sl _ _,p,h| .nil _ _,p,h| .bp _ _ _,p,h| .mp _,p,h=>by rw [show p=_ from h];rfl
 | .agg cs,p,h=>by obtain ⟨q,rfl,h⟩:=h;exact ⟨_,rfl,backL_R hb h⟩
 | .tup cs,p,h=>by obtain ⟨q,rfl,h⟩:=h;exact ⟨_,rfl,backL_R hb h⟩
 | .rptr cs o,p,h=>by obtain ⟨q,rfl,h⟩:=h;exact ⟨_,rfl,backL_R hb h⟩
 | .clo f a b,p,h=>by obtain ⟨pa,pb,rfl,h1,h2⟩:=h;exact ⟨_,_,rfl,backL_R hb h1,backL_R hb h2⟩
 | .own t ex,p,h=>by
  obtain ⟨e,n,rfl,hat⟩:=h;refine ⟨e,n,rfl,?_⟩;rcases hat with ⟨r,l,h1,h2,h3⟩|h1
  · exact .inl ⟨r,l,hb t _ h1,h2,h3⟩
  · exact .inr (hb t _ h1)
 | .pre t a b c,p,h=>by
  obtain ⟨e,rfl,hat⟩:=h;refine ⟨e,rfl,?_⟩;rcases hat with ⟨r,l,h1,h2⟩|h1
  · exact .inl ⟨r,l,hb t _ h1,h2⟩
  · exact .inr (hb t _ h1)
 | .part t o a b c,p,h=>by
  obtain ⟨e,rfl,hat⟩:=h;refine ⟨e,rfl,?_⟩;rcases hat with ⟨r,l,h1,h2⟩|h1
  · exact .inl ⟨r,l,hb t _ h1,h2⟩
  · exact .inr (hb t _ h1)
 | .pa t r i a o,p,h=>by
  obtain ⟨rfl,hat⟩:=h;refine ⟨_,rfl,?_⟩;rcases hat with ⟨l,h1,h2⟩|h1
  · exact .inl ⟨r,l,hb t _ h1,by rw [h2];rfl⟩
  · exact .inr (hb t _ h1)
 | .pb t i o,p,h=>by
  obtain ⟨e,rfl,hat⟩:=h;refine ⟨e,rfl,?_⟩;rcases hat with ⟨r,l,h1,h2⟩|h1
  · exact .inl ⟨r,l,hb t _ h1,h2⟩
  · exact .inr (hb t _ h1)
theorem backL_R {g:Nat->Nat} {s s2:List SB} (hb:aMF g s s2): ∀{v:List SV} {p:List PV},RL s v p->RL s2 (backL g v) (renFL g p)
 | [],p,h=>by rw [show p=_ from h];rfl
 |x::xs,p,h=>by
  obtain ⟨a,as,rfl,h1,h2⟩:=h.cons_inv;exact RL.cons (aAA hb h1) (backL_R hb h2)
end
theorem OE: ∀{a b:cV},(∀(t:Nat) (x:oC),a[t]? =some x-> ∃y,b[t]? =some y/\x.solid=y.solid)->B0 a b=true
 | [],b,_=>by cases b<;>rfl
 |x::a,[],h=>by obtain ⟨y,hy,_⟩:=h 0 x rfl;simp at hy
 |x::a,y::b,h=>by
  obtain ⟨y',h1,h2⟩:=h 0 x rfl;simp at h1;subst h1
  have:=OE (a:=a) (b:=b) (fun t x hx=>by simpa using h (t+1) x (by simpa using hx))
  simp only [B0,this,Bool.and_true,h2];cases y.solid<;>rfl
section
variable {F : qY} {R' ρ : Type} {w : R' -> ρ} {y : ρ} {s : List SB} {ps : cV} {z : List Nat}
theorem aAB {f:FuncId} {tk:List Nat} {vals vs:List SV} {s0:List SB} {k:XRS->jM R'} (hS:cX s ps) {pas:List PV} (hv:RL s vals pas) (htk:tk=tJ (toksL (dG ps fI) pas)) (hz:(tk.all fun t=>!has z t)=true)
 (h1:renVL tk vals=some vs) (h2:PY s tk tk=some s0):
 ∀{l:List eH},(∀c∈l,kC F f c)->fpS f s.length tk vs s0 k l ρ w=some y-> ∃sr pr,(∃n,AJ (run F n) f pas ps z=some pr)/\jU s ps sr pr/\k (.loc sr) ρ w=some y
 | [],_,h=>by cases h
 |c::l,hl,h=>by
  have next:fpS f s.length tk vs s0 k l ρ w=some y-> ∃sr pr,(∃n,AJ (run F n) f pas ps z=some pr)/\jU s ps sr pr/\k (.loc sr) ρ w=some y:=
   fun h=>aAB hS hv htk hz h1 h2 (fun c hc=>hl c (List.mem_cons_of_mem _ hc)) h
  simp only [fpS] at h;cases hlk:(likeL c.ta vs&&NX c.tb s0) with
  |false=>rw [hlk] at h;exact next h
  |true=>
   rw [hlk] at h;simp only [cond_true] at h;cases hpo:wQ c.ka (atsL vs++SA s0) with
   |none=>rw [hpo] at h;exact next h
   |some a=>
    rw [hpo] at h;obtain ⟨b,hb,h3⟩:=dM h;simp only [Bool.and_eq_true] at hlk;have hats:=yE hpo;have hva:c.va a=vs:=by unfold eH.va;rw [hats,put_atsL _ hlk.1]
    have hsa:c.sa a=s0:=by
     unfold eH.sa;rw [hats,put_atsL _ hlk.1]
     have:=IS [] hlk.2
     rw [List.append_nil] at this;rw [this]
    have hren:OB tk s s0:=by have:=OB.of (l:=[]) h2;rwa [List.append_nil] at this
    obtain ⟨pa',a1,a2⟩:=renVL_R hren hv h1;obtain ⟨p0,b1,b2,b3⟩:=KE hS hren h2;have hs0:cX s0 p0:=⟨b2,b3⟩;obtain ⟨hs0l,hs0g⟩:=EG h2;obtain ⟨n,v,sr,r1,r2,r3,r4,r5,r6⟩:=hl c (List.mem_cons_self ..) a b pa' p0 hb (by rw [hva,hsa];exact a2) (by rw [hsa];exact hs0)
    rw [hsa] at r2 r4 r5 r6;have hnd:tk.Nodup:=by rw [htk];exact zM
    have htl: ∀t∈tk,t<s.length:=fun t ht=>by
     obtain ⟨j,hj,he⟩:=List.getElem_of_mem ht;obtain ⟨x,c',d1,_,_⟩:=hs0g j t (by rw [List.getElem?_eq_getElem hj,he])
     exact (List.getElem?_eq_some_iff.1 d1).1
    have hsbl:(c.sb b).length=tk.length:=by rw [r5,hs0l]
    have hsrl:tk.length<=sr.length:=by
     have:=r4.len
     rw [List.length_take,hsbl] at this;rw [hs0l] at this;omega
    have htake: ∀j,j<tk.length->(sr.take s0.length)[j]? =sr[j]?:=fun j hj=>List.getElem?_take_of_lt (by rw [hs0l];exact hj)
    have hfirm:B0 p0 sr=true:=OE (fun t x hx=>by
     have htl':t<s0.length:=by have:=(List.getElem?_eq_some_iff.1 hx).1;rw [b2] at this;exact this
     obtain ⟨x0,hx0⟩: ∃x0,s0[t]? =some x0:=⟨s0[t],List.getElem?_eq_getElem htl'⟩;obtain ⟨q,q1,q2⟩:=b3 t x0 hx0;rw [hx] at q1;injection q1 with q1;subst q1;obtain ⟨y0,hy0⟩: ∃y0,(c.sb b)[t]? =some y0:=⟨(c.sb b)[t]'(by omega),List.getElem?_eq_getElem (by omega)⟩
     obtain ⟨q',q3,q4⟩:=r4.at_ t y0 hy0;rw [htake t (by omega)] at q3
     refine ⟨q',q3,?_⟩;have hfm:=r6 t x0 y0 hx0 hy0;cases x0 with
     |arr r l=>cases y0 with
      |arr r' l'=>
       obtain ⟨rfl,hll⟩:=hfm;rw [show x=_ from q2,show q'=_ from q4];cases l<;>cases l'<;>simp_all [oC.solid]
      |_=>exact hfm.elim
     |box cs=>cases y0 with
      |box cs'=>obtain ⟨_,rfl,_⟩:=q2;obtain ⟨_,rfl,_⟩:=q4;rfl
      |_=>exact hfm.elim
     |set l=>cases y0 with
      |set l'=>rw [show x=_ from q2,show q'=_ from q4];rfl
      |_=>exact hfm.elim
     |tab p l=>cases y0 with
      |tab p' l'=>rw [show x=_ from q2,show q'=_ from q4];rfl
      |_=>exact hfm.elim
     |dead=>cases y0 with
      |dead=>rw [show x=_ from q2,show q'=_ from q4]
      |_=>exact hfm.elim)
    let g:=nC tk s.length
    have hg: ∀j t,tk[j]? =some t->g j=t:=fun j t hj=>by show nC tk s.length j=t;unfold nC;rw [hj]
    obtain ⟨w1,w2⟩:=QS g tk (c.sb b) hsbl;obtain ⟨u1,u2⟩:=OD g tk sr hsrl
    let s2:=KB tk (wR (GE g tk (c.sb b)) s)
    have hin: ∀(j t:Nat) (x:SB),tk[j]? =some t->(c.sb b)[j]? =some x->s2[t]? =some (dgB tk (aDh g x)):=fun j t x hj hx=>by
     show (KB tk _)[t]? =_;rw [CD,CI,KI _ s j t _ (by rw [w1];exact hnd) (w2 j t x hj hx) (htl t (List.mem_of_getElem? hj))]
     rfl
    have hout: ∀(t:Nat),t∉tk->s2[t]? =(s[t]?).map (dgB tk):=fun t ht=>by
     show (KB tk _)[t]? =_;rw [CD,CI,CJ _ s t (by rw [w1];exact ht)]
    have hmem: ∀t∈tk,∃j,tk[j]? =some t:=fun t ht=>by
     obtain ⟨j,hj,he⟩:=List.getElem_of_mem ht;exact ⟨j,by rw [List.getElem?_eq_getElem hj,he]⟩
    have hfr:Fr tk s s2:=fun t x hx=>by
     by_cases ht:t∈tk
     · obtain ⟨j,hj⟩:=hmem t ht
       have hjl:j<tk.length:=(List.getElem?_eq_some_iff.1 hj).1;obtain ⟨x',c',d1,d2,d3⟩:=hs0g j t hj;rw [hx] at d1;injection d1 with d1;subst d1;obtain ⟨y0,hy0⟩: ∃y0,(c.sb b)[j]? =some y0:=⟨(c.sb b)[j]'(by omega),List.getElem?_eq_getElem (by omega)⟩
       have hfm:=r6 j c' y0 d3 hy0;have hs2:=hin j t y0 hj hy0;cases x with
       |arr r l=>
        injection d2 with d2;subst d2;cases y0 with
        |arr r' l'=>
         obtain ⟨rfl,hll⟩:=hfm;refine .inl ⟨l',hs2,hll,fun hb=>?_⟩
         exfalso
         have:has tk t=true:=by unfold has;rw [List.any_eq_true];exact ⟨t,ht,by simp⟩
         rw [this] at hb;cases hb
        |_=>exact hfm.elim
       |dead=>
        injection d2 with d2;subst d2;cases y0 with
        |dead=>exact hs2
        |_=>exact hfm.elim
       |_=>trivial
     · have:=hout t ht
       rw [hx] at this;cases x with
       |arr r l=>exact .inl ⟨l,this,rfl,fun _=>rfl⟩
       |dead=>exact this
       |_=>trivial
    have hback:aMF g (c.sb b) s2:=fun u x hx=>by
     have hul:u<tk.length:=by have:=(List.getElem?_eq_some_iff.1 hx).1;omega
     have hj:tk[u]? =some tk[u]:=List.getElem?_eq_getElem hul
     have:=hin u _ x hj hx
     rw [hg u _ hj];cases x with
     |arr r l=>exact this
     |dead=>exact this
     |_=>trivial
    have hRes:(∃n,AJ (run F n) f pas ps z=some {v:=renF g v,wr:=tN g tk sr}):=by
     refine ⟨n,?_⟩;unfold AJ aE3;rw [<- htk,if_pos hz,a1,b1];dsimp only;rw [r1];dsimp only;unfold MW;rw [if_pos hfirm,hS.len]
     have:jT tk.length v sr=true:=by rw [<- hs0l];exact r2
     rw [if_pos this]
    refine ⟨{v:=UX g (c.vb b),wr:=GE g tk (c.sb b)},_,hRes,?_,h3⟩;have hst:jA.stoOf s {v:=UX g (c.vb b),wr:=GE g tk (c.sb b)}=s2:=by
     rw [VB,List.append_nil,IU,w1]
    exact {
     rd:=rfl
     fr:=rfl
     wr:=by rw [IU,w1];exact u1
     nw:=QT (by rw [u1];exact hnd)
     nl:=rfl
     sto:=by
      rw [hst];show cX s2 (jJ (tN g tk sr) ps);rw [LL];refine ⟨by rw [HA,FH,CI,HA,hS.len],fun t x hx=>?_⟩
      by_cases ht:t∈tk
      · obtain ⟨j,hj⟩:=hmem t ht
        have hjl:j<tk.length:=(List.getElem?_eq_some_iff.1 hj).1;obtain ⟨y0,hy0⟩: ∃y0,(c.sb b)[j]? =some y0:=⟨(c.sb b)[j]'(by omega),List.getElem?_eq_getElem (by omega)⟩
        have hs2:=hin j t y0 hj hy0;rw [hx] at hs2;injection hs2 with hs2;subst hs2;obtain ⟨q',q3,q4⟩:=r4.at_ j y0 hy0;rw [htake j hjl] at q3;refine ⟨F5 g q',KI _ ps j t _ (by rw [u1];exact hnd) (u2 j t q' hj q3) (by rw [hS.len];exact htl t ht),?_⟩
        cases y0 with
        |box cs=>
         obtain ⟨pc,rfl,hpc⟩:=q4;exact ⟨_,rfl,RL.fr (Fr.refl tk s2) (backL_R hback hpc)⟩
        |arr r l=>rw [show q'=_ from q4];rfl
        |set l=>rw [show q'=_ from q4];rfl
        |tab p l=>rw [show q'=_ from q4];rfl
        |dead=>rw [show q'=_ from q4];rfl
      · rw [hout t ht,Option.map_eq_some_iff] at hx
        obtain ⟨x0,hx0,rfl⟩:=hx;obtain ⟨q,q1,q2⟩:=hS.at_ t x0 hx0;exact ⟨q,by rw [CJ _ ps t (by rw [u1];exact ht)];exact q1,q2.fr hfr⟩
     v:=by rw [hst];exact aAA hback r3
     fra:=by rw [hst,IU,w1];exact hfr}
end
end Go.Vm
/- What the typed machine makes of a function is what the logical machine runs. -/
namespace Go.Vm
section
variable {F : qY}
theorem WO.shrAny {o:bW} {r:List bW} {st:St} {tr:List Tr} {Q:St->List Tr->Prop} {f:FuncId} {args:List PV}
 (hw:wanted o.guard st.env=some true) (hop: ∀n,DG F (run F n) st.env st.sto st.fz o.op=hY (run F n) f args st.sto st.fz)
 (h:L3 F f args st.sto st.fz fun v s z=>(Nat.ble st.sto.length s.length&&st.fz.all (has z))=true/\WO F r {st with env:=kH o.dst v st.env,sto:=s,fz:=z} (aDg::tr) Q):
 WO F (o::r) st tr Q:=by
 obtain ⟨n,v,s,z,hr,hc,hk⟩:=h;refine WO.call (.shr v s z) hw ⟨n,?_⟩ rfl hk;rw [hop];simp only [hY,hr];rw [if_pos hc]
theorem WP.again {live:List (Nat×Option Nat)} {b:mW} {st s1:St} {Q:jO->St->Prop} (h0:L2 live st=some s1) (h:WP F b s1 (MC (fun s=>WP F (.loop live b) s Q) Q)):WP F (.loop live b) st Q:=by
 obtain ⟨m,e,s,he,hq⟩:=h;cases e with
 |normal=>
  obtain ⟨k,e',s',he',hq'⟩:=hq;refine ⟨max m k+1,e',s',?_,hq'⟩;simp only [zD] at he' ⊢;rw [sF];simp only [step,h0];rw [vQ (vR F (Nat.le_max_left m k)) _ _ _ he];dsimp only;split at he'
  · rename_i e1 s1 hr1
    rw [vR F (Nat.le_max_right m k) _ _ hr1];exact he'
  · cases he'
 |exit i=>exact ⟨m+1,.exit i,s,by simp only [zD];rw [sF];simp only [step,h0,he],hq⟩
 |ret=>exact ⟨m+1,.ret,s,by simp only [zD];rw [sF];simp only [step,h0,he],hq⟩
def VC (F : qY) (inl : Inl) : Prop :=
  ∀ (f : FuncId) (args : List SV) (s : List SB) (z : List Nat) (R' : Type) (k : SV -> List SB -> List Nat -> jM R') (ρ : Type) (w : R' -> ρ) (y : ρ) (pa : List PV) (ps : cV) (Q : R' -> PV -> cV -> List Nat -> Prop),
    RL s args pa -> cX s ps -> inl f args s z R' k ρ w = some y ->
    (∀ v s' z' p ps' ρ' (w' : R' -> ρ') y', R s' v p -> cX s' ps' -> k v s' z' ρ' w' = some y' -> ∃ r, y' = w' r /\ Q r p ps' z') ->
    ∃ r, y = w r /\ L3 F f pa ps z (fun p ps' z' => Q r p ps' z')
def aAC:SB->SB->Prop
 | .arr r l,b=>(∃l',b= .arr r l'/\l'.length=l.length)\/b= .dead
 | .dead,b=>b= .dead
 |_,_=>True
theorem IV {R' ρ:Type} {w:R'->ρ} {y:ρ}: ∀{s s':List SB} {k:jM R'},zN s s' k ρ w=some y->k ρ w=some y/\s.length<=s'.length/\
 ∀(t:Nat) (b:SB),s[t]? =some b-> ∃b',s'[t]? =some b'/\aAC b b'
 | [],s',k,h=>⟨by cases s'<;>exact h,Nat.zero_le _,fun t b ht=>by simp at ht⟩
 |x::xs,[],k,h=>by cases h
 |x::xs,y'::ys,k,h=>by
  have step: ∀(_:zN xs ys k ρ w=some y) (_:aAC x y'),k ρ w=some y/\(x::xs).length<=(y'::ys).length/\ ∀(t:Nat) (b:SB),(x::xs)[t]? =some b-> ∃b',(y'::ys)[t]? =some b'/\aAC b b':=by
   intro h hx;obtain ⟨h1,h2,h3⟩:=IV h;refine ⟨h1,by simpa using h2,fun t b ht=>?_⟩
   cases t with
   |zero=>simp at ht;subst ht;exact ⟨y',rfl,hx⟩
   |succ t=>simpa using h3 t b (by simpa using ht)
  cases x with
  |arr r l=>
   cases y' with
   |arr q m=>
    obtain ⟨hr,h2⟩:=cY (a:=iU (m.length==l.length) (zN xs ys k) aR) h;obtain ⟨hl,h3⟩:=jV h2
    have:=BI hr
    subst this;exact step h3 (.inl ⟨m,rfl,by simpa using hl⟩)
   |dead=>exact step h (.inr rfl)
   |_=>cases h
  |dead=>
   cases y' with
   |dead=>exact step h rfl
   |_=>cases h
  |box cs=>exact step h trivial
  |set l=>exact step h trivial
  |tab p l=>exact step h trivial
theorem aDH {n t:Nat} (h:t<n):has (A8 n) t=true:=by
 induction n with
 |zero=>omega
 |succ n ih=>
  unfold has at ih ⊢;rw [List.any_eq_true] at*;simp only [A8,List.mem_append,List.mem_singleton];rcases Nat.lt_or_ge t n with h1|h1
  · obtain ⟨x,h2,h3⟩:=ih h1
    exact ⟨x,.inl h2,h3⟩
  · have:t=n:=by omega
    subst this;exact ⟨t,.inr rfl,by simp⟩
theorem YN {s s':List SB} (h: ∀(t:Nat) (b:SB),s[t]? =some b-> ∃b',s'[t]? =some b'/\aAC b b'):Fr (A8 s.length) s s':=fun t b hb=>by
 obtain ⟨b',h1,h2⟩:=h t b hb;have hlt:=(List.getElem?_eq_some_iff.1 hb).1;cases b with
 |arr r l=>
  rcases h2 with ⟨l',rfl,h3⟩|rfl
  · exact .inl ⟨l',h1,h3,fun hx=>by rw [aDH hlt] at hx;cases hx⟩
  · exact .inr h1
 |dead=>rw [show b'= .dead from h2] at h1;exact h1
 |_=>trivial
theorem aSE {s:List SB} {ps:cV} {sr:jA} {pr:tH} (G:jU s ps sr pr) (hS:cX s ps):(XR.loc pr).tr ps.length=sr.tr s.length:=by
 simp only [XR.tr,jA.tr,G.rd,G.fr,hS.len,<- G.wr,G.nl,List.all_map]
 have:pr.news.isEmpty=sr.news.isEmpty:=by
  have:=G.nl
  cases h1:pr.news<;>cases h2:sr.news<;>simp_all
 rw [this];rfl
theorem aMG {st:vV} {p:St} (h:GG st p) {sr:jA} {pr:tH} (G:jU st.sto p.sto sr pr) (d:Option Nat):GG (sr.next d st) ((XR.loc pr).next d p):=by
 have hput: ∀{s:List SB} {e:SE} {pe:zA} {v:SV} {q:PV},eL s e pe->R s v q->eL s (SC d v e) (kH d q pe):=by
  intro s e pe v q he hv;cases d with
  |none=>exact he
  |some t=>exact ⟨q,pe,rfl,hv,he⟩
 have hs:=VB st.sto sr;unfold jA.next
 split
 · rename_i hw
   rw [hw] at hs;simp only [EE,wR,SK] at hs;have hsto:=G.sto;have hv:=G.v;have hfr:=G.fra;rw [hs] at hsto hv hfr;rw [hw] at hfr;exact ⟨by simp only [qC];exact hput (eL.ext hfr h.env) hv,by simp only [qC];exact hsto,by simp only [XR.next,G.fr,h.fz],h.kn⟩
 · have hsto:=G.sto
   have hv:=G.v;have hfr:=G.fra;rw [hs] at hsto hv hfr;exact ⟨by simp only [qC];exact hput (eL.fr hfr h.env) hv,by simp only [qC];exact hsto,by simp only [XR.next,G.fr,h.fz],h.kn⟩
theorem aSF {s:List SB} {ps:cV} {sr:jA} {pr:tH} (G:jU s ps sr pr) {z:List Nat} (h:sr.ok z=true):(XR.loc pr).ok z=true:=by
 simp only [XR.ok,G.nw,Bool.and_true];unfold jA.ok at h;rw [<- G.wr,List.all_map] at h;exact h
section
variable {cx : Ctx} {inl : Inl} {R' : Type}
def aVd (_F:qY) (k:vV->List Tr->jM R') (Q:R'->St->List Tr->Prop):Prop:=
 ∀st p tr ρ (w:R'->ρ) y,GG st p->k st tr ρ w=some y-> ∃r,y=w r/\Q r p tr
theorem CK {o:bW} {l:List bW} {st:vV} {p:St} {tr:List Tr} {k:vV->List Tr->jM R'} {ρ:Type} {w:R'->ρ} {y:ρ} {Q:R'->St->List Tr->Prop}
 (hl: ∀st p tr ρ (w:R'->ρ) y,GG st p->k st tr ρ w=some y-> ∃r,y=w r/\WO F l p tr (Q r)) (h:GG st p) {sr:jA} {pr:tH} (hw:wanted o.guard p.env=some true)
 (hx: ∃n,DG F (run F n) p.env p.sto p.fz o.op=some (.loc pr)) (G:jU st.sto p.sto sr pr) (hg:goS o.dst st tr k (.loc sr) ρ w=some y): ∃r,y=w r/\WO F (o::l) p tr (Q r):=by
 unfold goS at hg;dsimp only at hg;obtain ⟨hok,hg⟩:=cY hg;rw [R7] at hg;have hR:=aMG h G o.dst;obtain ⟨r,hr,hwo⟩:=hl _ _ _ _ _ _ hR hg;refine ⟨r,hr,WO.call (.loc pr) hw hx (by rw [h.fz];exact aSF G hok) ?_⟩
 rw [aSE G h.sto];exact hwo
theorem VD (hcx:mF F cx) (hinl:VC F inl) {o:bW} {l:List bW} {st:vV} {p:St} {tr:List Tr} {k:vV->List Tr->jM R'} {ρ:Type} {w:R'->ρ} {y:ρ} {Q:R'->St->List Tr->Prop}
 (hl: ∀st p tr ρ (w:R'->ρ) y,GG st p->k st tr ρ w=some y-> ∃r,y=w r/\WO F l p tr (Q r)) (h:GG st p) (hw:wanted o.guard p.env=some true)
 (hg:QJ cx inl st.env st.sto st.fz o.op (goS o.dst st tr k) ρ w=some y): ∃r,y=w r/\WO F (o::l) p tr (Q r):=by
 have hS:=h.sto;have hE:=h.env;have shr: ∀(f:FuncId) (vals:List SV) (pas:List PV),RL st.sto vals pas->(∀n,DG F (run F n) p.env p.sto p.fz o.op=hY (run F n) f pas p.sto p.fz)->
  inl f vals st.sto st.fz R' (fun v s' z'=>goS o.dst st tr k (.shr v s' z')) ρ w=some y-> ∃r,y=w r/\WO F (o::l) p tr (Q r):=by
  intro f vals pas hv hop hi;obtain ⟨r,hr,hd⟩:=hinl f vals st.sto st.fz R' _ ρ w y pas p.sto (fun r v s z=>(Nat.ble p.sto.length s.length&&p.fz.all (has z))=true/\WO F l {p with env:=kH o.dst v p.env,sto:=s,fz:=z} (aDg::tr) (Q r)) hv hS hi
   (fun v s' z' pv ps' ρ' w' y' hR hS' hk=>by
    unfold goS at hk;dsimp only at hk;rw [R7] at hk;obtain ⟨hk,hlen,hsame⟩:=IV hk;obtain ⟨hz,hk⟩:=cY hk;have hfr:=YN hsame;have hput:eL s' (SC o.dst v (dgE (A8 st.sto.length) st.env)) (kH o.dst pv p.env):=by
     cases o.dst with
     |none=>exact eL.fr hfr hE
     |some t=>exact ⟨pv,p.env,rfl,hR,eL.fr hfr hE⟩
    have hR':GG {env:=SC o.dst v (dgE (A8 st.sto.length) st.env),sto:=s',fz:=z',kn:=st.kn} {p with env:=kH o.dst pv p.env,sto:=ps',fz:=z'}:=⟨hput,hS',rfl,h.kn⟩;obtain ⟨r,hr,hwo⟩:=hl _ _ _ _ _ _ hR' hk;refine ⟨r,hr,?_,hwo⟩;rw [h.fz,hz,Bool.and_true,hS.len,hS'.len];simpa using hlen)
  refine ⟨r,hr,WO.shrAny hw hop ?_⟩;rw [h.fz];rw [h.fz] at hd;exact hd
 have loc: ∀{k':jA->jM R'},qG st.env st.sto st.fz o.op k' ρ w=some y->J7 o.op=false->(∀sr,k' sr=goS o.dst st tr k (.loc sr))-> ∃r,y=w r/\WO F (o::l) p tr (Q r):=by
  intro k' hv hc hk;obtain ⟨sr,pr,h1,G,h2⟩:=aFt hE hS (pe:=p.env) hv;rw [hk] at h2;exact CK hl h hw ⟨0,by rw [R6 hc,h.fz,h1];rfl⟩ G h2
 generalize hop:o.op=op at hg;cases op with
 |call m f args=>
  have hargs:=FG hE args;simp only [QJ] at hg;cases m with
  |pur=>
   dsimp only at hg;cases hx:exVL st.sto (nV st.sto fI) (mE st.env args) with
   |none=>rw [hx] at hg;cases hg
   |some vs=>
    rw [hx] at hg;obtain ⟨q,h1,h2⟩:=exVL_R hS (MG hS fI) hargs hx;obtain ⟨sr,pr,⟨n,h3⟩,G,h4⟩:=EH (f:=f) (z:=st.fz) hS h1 h2 (tkExL hS (N8 hS fI) hargs hx) (fun c hc=>hcx.con f c hc) hg
    exact CK hl h hw ⟨n,by rw [hop,h.fz];simp only [DG,h3];rfl⟩ G h4
  |own=>
   dsimp only at hg;cases hx:exVL st.sto (nV st.sto fI) (mE st.env args) with
   |none=>rw [hx] at hg;cases hg
   |some vs=>
    rw [hx] at hg;obtain ⟨q,h1,h2⟩:=exVL_R hS (MG hS fI) hargs hx;obtain ⟨sr,pr,⟨n,h3⟩,G,h4⟩:=EH (f:=f) (z:=st.fz) hS h1 h2 (tkExL hS (N8 hS fI) hargs hx) (fun c hc=>hcx.con f c hc) hg
    exact CK hl h hw ⟨n,by rw [hop,h.fz];simp only [DG,h3];rfl⟩ G h4
  |shr=>exact shr f _ _ hargs (fun n=>by rw [hop];rfl) hg
  |fp=>
   dsimp only at hg;cases hx:X9 st.sto (nV st.sto fI) (mE st.env args) with
   |false=>rw [hx] at hg;cases hg
   |true=>
    rw [hx] at hg;dsimp only at hg;obtain ⟨hz,hg⟩:=cY hg;cases h1:renVL (tJ (tkVL (DV st.sto fI) (mE st.env args))) (mE st.env args) with
    |none=>rw [h1] at hg;cases hg
    |some vs=>
     cases h2:PY st.sto (tJ (tkVL (DV st.sto fI) (mE st.env args))) (tJ (tkVL (DV st.sto fI) (mE st.env args))) with
     |none=>rw [h1,h2] at hg;cases hg
     |some s0=>
      rw [h1,h2] at hg;obtain ⟨sr,pr,⟨n,h3⟩,G,h4⟩:=aAB (f:=f) (z:=st.fz) hS hargs (by rw [aDz hS (N8 hS fI) hargs hx]) hz h1 h2 (fun c hc=>hcx.fpc f c hc) hg
      exact CK hl h hw ⟨n,by rw [hop,h.fz];simp only [DG,h3];rfl⟩ G h4
 |callv x args=>
  have hargs:=FG hE args;simp only [QJ] at hg;have hx:=eJ hE x;generalize cB st.env x=v at hg hx;cases v with
  |clo f a b=>
   dsimp only at hg;obtain ⟨pa,pb,hx,ha,hb⟩:=hx;have hany: ∀{vs:List SV} {q:List PV},RL st.sto vs q->(anyPtr vs=true->q.any MV=true):=by
    intro vs
    induction vs with
    |nil=>intro q _ h;cases h
    |cons v vs ih=>
     intro q hq hp;obtain ⟨a,as,rfl,h1,h2⟩:=hq.cons_inv;simp only [anyPtr,Bool.or_eq_true] at hp;simp only [List.any_cons,Bool.or_eq_true];rcases hp with hp|hp
     · left
       cases v with
       |own _ _=>obtain ⟨_,_,rfl,_⟩:=h1;rfl
       |pre _ _ _ _=>obtain ⟨_,rfl,_⟩:=h1;rfl
       |part _ _ _ _ _=>obtain ⟨_,rfl,_⟩:=h1;rfl
       |pa _ _ _ _ _=>obtain ⟨rfl,_⟩:=h1;rfl
       |pb _ _ _=>obtain ⟨_,rfl,_⟩:=h1;rfl
       |bp _ _ _=>rw [show a=_ from h1];rfl
       |mp _=>rw [show a=_ from h1];rfl
       |_=>cases hp
     · right;exact ih h2 hp
   cases hp:anyPtr (mE st.env args++b) with
   |true=>
    rw [hp] at hg
    have:=hany (hargs.append hb) hp
    exact shr f _ _ ((ha.append hargs).append hb) (fun n=>by rw [hop];simp only [DG,hx,this,if_true]) hg
   |false=>
    rw [hp] at hg;simp only [cond_false] at hg;cases hxx:exVL st.sto (nV st.sto fI) (a++mE st.env args++b) with
    |none=>rw [hxx] at hg;cases hg
    |some vs=>
     rw [hxx] at hg;have hno: ∀{vs u:List SV} {q:List PV},RL st.sto vs q->anyPtr vs=false->exVL st.sto (nV st.sto fI) vs=some u->q.any MV=false:=by
      intro vs
      induction vs with
      |nil=>intro u q hq _ _;rw [show q=[] from hq];rfl
      |cons v vs ih=>
       intro u q hq hp hu;obtain ⟨a,as,rfl,h1,h2⟩:=hq.cons_inv;simp only [anyPtr,Bool.or_eq_false_iff] at hp;simp only [exVL] at hu;split at hu
       · rename_i y1 y2 e1 e2
         simp only [List.any_cons,ih h2 hp.2 e2,Bool.or_false];cases v with
         |agg _|tup _|rptr _ _=>obtain ⟨_,rfl,_⟩:=h1;rfl
         |clo _ _ _=>obtain ⟨_,_,rfl,_⟩:=h1;rfl
         |int _ _|bool _|str _|nilf|sl _ _|nil _ _|undef|nul=>rw [show a=_ from h1];rfl
         |junk=>cases e1
         |own _ _|pre _ _ _ _|part _ _ _ _ _|pa _ _ _ _ _|pb _ _ _|bp _ _ _|mp _=>cases hp.1
       · cases hu
     have hsplit: ∃u2,exVL st.sto (nV st.sto fI) (mE st.env args++b)=some u2:=by
      have: ∀(l:List SV) {m u:List SV},exVL st.sto (nV st.sto fI) (l++m)=some u-> ∃u2,exVL st.sto (nV st.sto fI) m=some u2:=by
       intro l
       induction l with
       |nil=>intro m u h;exact ⟨u,h⟩
       |cons x l ih=>
        intro m u h;simp only [List.cons_append,exVL] at h;split at h
        · rename_i e1 e2;exact ih e2
        · cases h
      rw [List.append_assoc] at hxx;exact this a hxx
     obtain ⟨u2,hu2⟩:=hsplit;have hno':=hno (hargs.append hb) hp hu2;have hall:=(ha.append hargs).append hb;obtain ⟨q,h1,h2⟩:=exVL_R hS (MG hS fI) hall hxx;obtain ⟨sr,pr,⟨n,h3⟩,G,h4⟩:=EH (f:=f) (z:=st.fz) hS h1 h2 (tkExL hS (N8 hS fI) hall hxx) (fun c hc=>hcx.con f c hc) hg
     exact CK hl h hw ⟨n,by rw [hop,h.fz];simp only [DG,hx,hno',Bool.false_eq_true,if_false,h3];rfl⟩ G h4
  |_=>cases hg
 |_=>exact loc (k':=fun r=>goS o.dst st tr k (.loc r)) (by rw [hop];exact hg) (by rw [hop];rfl) (fun _=>rfl)
theorem CL (hcx:mF F cx) (hinl:VC F inl): ∀(ops:List bW) {st:vV} {p:St} {tr:List Tr} {k:vV->List Tr->jM R'} {ρ:Type} {w:R'->ρ} {y:ρ} {Q:R'->St->List Tr->Prop},
 aVd F k Q->GG st p->tT cx inl ops st tr k ρ w=some y-> ∃r,y=w r/\WO F ops p tr (Q r)
 | [],st,p,tr,k,ρ,w,y,Q,hk,h,he=>by
  obtain ⟨r,hr,hq⟩:=hk st p tr ρ w y h he;exact ⟨r,hr,WO.nil hq⟩
 |o::l,st,p,tr,k,ρ,w,y,Q,hk,h,he=>by
  have hl: ∀st p tr ρ (w:R'->ρ) y,GG st p->tT cx inl l st tr k ρ w=some y-> ∃r,y=w r/\WO F l p tr (Q r):=fun st p tr ρ w y h he=>CL hcx hinl l hk h he
  have setR: ∀{st:vV} {c:Nat} {v:SV},GG st p->R st.sto v (lk c p.env)->GG {st with env:=setS c v st.env} p:=fun h hv=>⟨h.env.setS hv,h.sto,h.fz,h.kn⟩
  have run': ∀{st:vV},GG st p->wanted o.guard p.env=some true->(match o.op with
   | .pick (.t c) a b=>match PU c st.env with
    | .bool x=>iU x (goS o.dst {st with env:=setS c (.bool true) st.env} tr (tT cx inl l · · k) (.loc {v:=cB st.env a}))
     (goS o.dst {st with env:=setS c (.bool false) st.env} tr (tT cx inl l · · k) (.loc {v:=cB st.env b}))
    |_=>aR
   |op=>QJ cx inl st.env st.sto st.fz op (goS o.dst st tr (tT cx inl l · · k))) ρ w=some y-> ∃r,y=w r/\WO F (o::l) p tr (Q r):=by
   intro st h hw he;have plain:QJ cx inl st.env st.sto st.fz o.op (goS o.dst st tr (tT cx inl l · · k)) ρ w=some y-> ∃r,y=w r/\WO F (o::l) p tr (Q r):=fun he=>VD hcx hinl hl h hw he
   generalize hop:o.op=op at he;cases op with
   |pick c a b=>
    cases c with
    |c v=>exact plain (by rw [hop];exact he)
    |t c=>
     dsimp only at he;generalize hv:PU c st.env=v at he;cases v with
     |bool x=>
      have hx:lk c p.env= .bool x:=by have:=h.env.lk c;rw [hv] at this;exact this
      rcases fX he with ⟨rfl,he⟩|⟨rfl,he⟩
      · have hR:=setR h (c:=c) (v:= .bool true) hx
        exact CK (o:=o) hl hR hw ⟨0,by rw [hop];simp only [DG,bO,gU.ev,hx];rfl⟩ (jU.val hR.sto (eJ h.env a)) he
      · have hR:=setR h (c:=c) (v:= .bool false) hx
        exact CK (o:=o) hl hR hw ⟨0,by rw [hop];simp only [DG,bO,gU.ev,hx];rfl⟩ (jU.val hR.sto (eJ h.env b)) he
     |_=>cases he
   |_=>exact plain (by rw [hop];exact he)
  have skip': ∀{st:vV},GG st p->wanted o.guard p.env=some false->tT cx inl l {st with env:=SC o.dst .nul st.env} (Tr.idle::tr) k ρ w=some y-> ∃r,y=w r/\WO F (o::l) p tr (Q r):=by
   intro st h hw he;have hR:GG {st with env:=SC o.dst .nul st.env} {p with env:=kH o.dst .nul p.env}:=by
    refine ⟨?_,h.sto,h.fz,h.kn⟩;cases o.dst with
    |none=>exact h.env
    |some t=>exact ⟨.nul,p.env,rfl,rfl,h.env⟩
   obtain ⟨r,hr,hwo⟩:=hl _ _ _ _ _ _ hR he;exact ⟨r,hr,WO.skip hw hwo⟩
  simp only [tT] at he;cases hgd:o.guard with
  |none=>
   rw [hgd] at he;exact run' h (by rw [hgd];rfl) he
  |some g=>
   obtain ⟨c,want⟩:=g;rw [hgd] at he;dsimp only at he;generalize hv:PU c st.env=v at he;cases v with
   |bool x=>
    have hx:lk c p.env= .bool x:=by have:=h.env.lk c;rw [hv] at this;exact this
    have hwx: ∀b,x=b->wanted o.guard p.env=some (b==want):=fun b hb=>by rw [hgd];simp only [wanted,hx,hb]
    cases want with
    |true=>
     simp only [cond_true] at he;rcases fX he with ⟨rfl,he⟩|⟨rfl,he⟩
     · exact run' (setR h (v:= .bool true) hx) (hwx true rfl) he
     · exact skip' (setR h (v:= .bool false) hx) (hwx false rfl) he
    |false=>
     simp only [cond_false] at he;rcases fX he with ⟨rfl,he⟩|⟨rfl,he⟩
     · exact skip' (setR h (v:= .bool true) hx) (hwx true rfl) he
     · exact run' (setR h (v:= .bool false) hx) (hwx false rfl) he
   |nul=>
    have hx:lk c p.env= .nul:=by have:=h.env.lk c;rw [hv] at this;exact this
    exact skip' h (by rw [hgd];simp only [wanted,hx]) he
   |_=>cases he
theorem OF {e:SE}: ∀{keep:List Nat} {k:SE->jM R'} {ρ:Type} {w:R'->ρ} {y:ρ},UY e keep k ρ w=some y->k (keep.map fun s=>(s,PU s e)) ρ w=some y
 | [],k,ρ,w,y,h=>h
 |s::r,k,ρ,w,y,h=>by
  simp only [UY] at h;rw [R7] at h
  have:=OF h
  exact this
theorem aDI {s:List SB} {e:SE} {pe:zA} (h:eL s e pe): ∀(keep:List Nat),eL s (keep.map fun t=>(t,PU t e)) (keep.map fun t=>(t,lk t pe))
 | []=>rfl
 |t::r=>⟨_,_,rfl,h.lk t,aDI h r⟩
end
mutual
theorem QU: ∀(v:SV) (q:List DW),zF v (KA v++q)=(v,q)
 | .junk,q| .undef,q| .nul,q| .nilf,q| .int _ _,q| .bool _,q| .str _,q| .sl _ _,q| .nil _ _,q| .own _ _,q| .pre _ _ _ _,q| .part _ _ _ _ _,q| .pa _ _ _ _ _,q| .pb _ _ _,q| .bp _ _ _,q| .mp _,q=>rfl
 | .agg cs,q=>by simp only [zF,KA,put_selfL]
 | .tup cs,q=>by simp only [zF,KA,put_selfL]
 | .rptr cs o,q=>by simp only [zF,KA,put_selfL]
 | .clo f a b,q=>by simp only [zF,KA,List.append_assoc,put_selfL]
theorem put_selfL: ∀(v:List SV) (q:List DW),putL v (atsL v++q)=(v,q)
 | [],q=>rfl
 |x::xs,q=>by simp only [putL,atsL,List.append_assoc,QU,put_selfL]
end
theorem QV: ∀(v:List SB) (q:List DW),G1 v (SA v++q)=(v,q)
 | [],q=>rfl
 |x::xs,q=>by
  have: ∀q,YC x (aDe x++q)=(x,q):=by
   intro q;cases x<;>first|rfl|simp only [YC,aDe,put_selfL]
  simp only [G1,SA,List.append_assoc,this,QV]
theorem QW: ∀(v:SE) (q:List DW),UW v (aBT v++q)=(v,q)
 | [],q=>rfl
 |(t,x)::xs,q=>by simp only [UW,aBT,List.append_assoc,QU,QW]
theorem YO (st:vV):GD st (DR st)=st:=by
 have hs:=QV st.sto [];rw [List.append_nil] at hs;simp only [GD,DR,QW,hs]
theorem aB2 {cx:Ctx} {inl:Inl} (hcx:mF F cx) (hinl:VC F inl): ∀(c:mW) (R':Type) {st:vV} {p:St} {k:jO->vV->jM R'} {ρ:Type} {w:R'->ρ} {y:ρ} {Q:R'->jO->St->Prop},
 (∀e st p ρ (w:R'->ρ) y,GG st p->k e st ρ w=some y-> ∃r,y=w r/\Q r e p)->GG st p->IG cx inl c R' st k ρ w=some y-> ∃r,y=w r/\WP F c p (Q r):=by
 intro c
 induction c with
 |skip=>
  intro R' st p k ρ w y Q hk h he;obtain ⟨r,hr,hq⟩:=hk _ _ _ _ _ _ h he;exact ⟨r,hr,WP.skip hq⟩
 |ret=>
  intro R' st p k ρ w y Q hk h he;obtain ⟨r,hr,hq⟩:=hk _ _ _ _ _ _ h he;exact ⟨r,hr,WP.ret hq⟩
 |exit id=>
  intro R' st p k ρ w y Q hk h he;obtain ⟨r,hr,hq⟩:=hk _ _ _ _ _ _ h he;exact ⟨r,hr,WP.exit hq⟩
 |region d ops keep=>
  intro R' st p k ρ w y Q hk h he;simp only [IG] at he;have fin: ∀st p ρ (w:R'->ρ) y,GG st p->UY st.env keep (fun e=>k .normal {st with env:=e}) ρ w=some y-> ∃r,y=w r/\Q r .normal (vS keep p):=by
   intro st p ρ w y h he
   have:=OF he
   have hR:GG {st with env:=keep.map fun t=>(t,PU t st.env)} (vS keep p):=⟨aDI h.env keep,h.sto,h.fz,h.kn⟩
   exact hk _ _ _ _ _ _ hR this
  cases d with
  |none=>
   obtain ⟨r,hr,hwo⟩:=CL hcx hinl ops (Q:=fun r s _=>Q r .normal (vS keep s)) (fun st p tr ρ w y h he=>fin st p ρ w y h he) h he
   exact ⟨r,hr,WP.region hwo⟩
  |some bf=>
   obtain ⟨r,hr,hwo⟩:=CL hcx hinl ops (Q:=fun r s t=>xD 0 (t.reverse.zip bf)=true/\Q r .normal (vS keep s)) (fun st p tr ρ w y h he=>by
    dsimp only at he;cases ho:xD 0 (tr.reverse.zip bf) with
    |false=>rw [ho] at he;cases he
    |true=>
     rw [ho] at he;obtain ⟨r,hr,hq⟩:=fin st p ρ w y h he;exact ⟨r,hr,ho,hq⟩) h he
   exact ⟨r,hr,WP.regionD hwo⟩
 |seq a b iha ihb=>
  intro R' st p k ρ w y Q hk h he;simp only [IG] at he;obtain ⟨r,hr,hwp⟩:=iha R' (Q:=fun r=>MC (fun s=>WP F b s (Q r)) (Q r)) (fun e st p ρ w y h he=>by
   cases e with
   |normal=>exact ihb R' hk h he
   |exit i=>exact hk _ _ _ _ _ _ h he
   |ret=>exact hk _ _ _ _ _ _ h he) h he
  exact ⟨r,hr,WP.seq hwp⟩
 |cond c a b iha ihb=>
  intro R' st p k ρ w y Q hk h he;simp only [IG] at he;have hx:=eJ h.env c;generalize cB st.env c=v at he hx;cases v with
  |bool x=>
   rcases fX he with ⟨rfl,he⟩|⟨rfl,he⟩
   · obtain ⟨r,hr,hwp⟩:=iha R' hk h he
     exact ⟨r,hr,WP.condT hx hwp⟩
   · obtain ⟨r,hr,hwp⟩:=ihb R' hk h he
     exact ⟨r,hr,WP.condF hx hwp⟩
  |_=>cases he
 |block id b ih=>
  intro R' st p k ρ w y Q hk h he;simp only [IG] at he;obtain ⟨r,hr,hwp⟩:=ih R' (Q:=fun r=>inBlock id (Q r)) (fun e st p ρ w y h he=>by
   cases e with
   |normal=>exact hk _ _ _ _ _ _ h he
   |ret=>exact hk _ _ _ _ _ _ h he
   |exit j=>
    dsimp only at he;cases hj:Nat.beq j id with
    |true=>
     rw [hj] at he;obtain ⟨r,hr,hq⟩:=hk _ _ _ _ _ _ h he;have hji:=Nat.eq_of_beq_eq_true hj;exact ⟨r,hr,by simpa [inBlock,hji] using hq⟩
    |false=>
     rw [hj] at he;obtain ⟨r,hr,hq⟩:=hk _ _ _ _ _ _ h he
     have:j≠id:=by intro e;subst e;simp at hj
     exact ⟨r,hr,by simpa [inBlock,this] using hq⟩) h he
  exact ⟨r,hr,WP.block hwp⟩
 |loop live b ih=>
  intro R' st p k ρ w y Q hk h he;simp only [IG] at he;cases hn:NW cx.rk live st with
  |none=>rw [hn] at he;cases he
  |some st1=>
   rw [hn] at he;dsimp only at he;have ksK_eq: ∀{β:Type 1} (l:List AK) (c:List AK->β),ksK l c=c l:=by
    intro β l;have rK_eq: ∀{β:Type 1} (l:List PT) (c:List PT->β),rK l c=c l:=by
     intro β l
     induction l with
     |nil=>intro c;rfl
     |cons p r ih=>intro c;cases p<;>simp only [rK,ptK,ih]
    induction l with
    |nil=>intro c;rfl
    |cons a r ih=>intro c;cases a<;>simp only [ksK,rK_eq,ih]
   rw [ksK_eq] at he;generalize aMx (DR st1)=ks at he;cases hp:wQ ks (DR st1) with
   |none=>rw [hp] at he;cases he
   |some y0=>
    rw [hp] at he;dsimp only at he;obtain ⟨p1,hp1,hR1⟩:=aAy h hn;have hlike: ∀(st3:vV) (y':mZ ks),NY st1 st3=true->wQ ks (DR st3)=some y'->GD st1 (qH ks y')=st3:=fun st3 y' h1 h2=>by
     rw [yE h2,aB1 h1]
    obtain ⟨n,hit⟩:=aC6 he;have h0:GG (GD st1 (qH ks y0)) p1:=by rw [yE hp,YO];exact hR1
    clear he hp hn h hR1
    induction n generalizing y0 p p1 with
    |zero=>cases hit
    |succ n ihn=>
     have body: ∀zr,IG cx inl b (cC (mZ ks) ρ) (GD st1 (qH ks y0)) (fun e st2=>match e with
      | .normal=>match NW cx.rk live st2 with
       |some st3=>bif NY st1 st3 then (match wQ ks (DR st3) with
        |some y'=>QG (.next y')
        |none=>aR) else aR
       |none=>aR
      |e=>fun ρ' w'=>k e st2 ρ' fun r=>w' (.done (w r))) (cC (mZ ks) ρ) (fun z=>z)=some zr->
      WP F b p1 (fun e s=>match zr with
       | .next y'=>e= .normal/\ ∃p3,L2 live s=some p3/\GG (GD st1 (qH ks y')) p3
       | .done x=>e≠ .normal/\ ∃r,x=w r/\Q r e s):=by
      intro zr hbody;obtain ⟨zr',hzr,hwp⟩:=ih (cC (mZ ks) ρ) (Q:=fun zr e s=>match zr with
       | .next y'=>e= .normal/\ ∃p3,L2 live s=some p3/\GG (GD st1 (qH ks y')) p3
       | .done x=>e≠ .normal/\ ∃r,x=w r/\Q r e s) (fun e st2 p2 ρ' w' y2 h2 he2=>by
       cases e with
       |normal=>
        dsimp only at he2;cases hn3:NW cx.rk live st2 with
        |none=>rw [hn3] at he2;cases he2
        |some st3=>
         rw [hn3] at he2;obtain ⟨hlk,he2⟩:=cY he2;cases hp3:wQ ks (DR st3) with
         |none=>rw [hp3] at he2;cases he2
         |some y3=>
          rw [hp3] at he2;injection he2 with he2;obtain ⟨p3,hp3',hR3⟩:=aAy h2 hn3;exact ⟨.next y3,he2.symm,rfl,p3,hp3',by rw [hlike st3 y3 hlk hp3];exact hR3⟩
       |exit i=>
        obtain ⟨r,hr,hq⟩:=hk _ _ _ _ _ _ h2 he2;exact ⟨.done (w r),hr,(by intro e;cases e),r,rfl,hq⟩
       |ret=>
        obtain ⟨r,hr,hq⟩:=hk _ _ _ _ _ _ h2 he2;exact ⟨.done (w r),hr,(by intro e;cases e),r,rfl,hq⟩) h0 hbody
      subst hzr;exact hwp
     simp only [vU] at hit;split at hit
     · rename_i y' hbody
       obtain ⟨m,e,s,hrun,rfl,p3,hp3,hR3⟩:=body _ hbody;obtain ⟨r,hr,hwp⟩:=ihn y' p3 hp3 hit hR3;exact ⟨r,hr,WP.again hp1 ⟨m,.normal,s,hrun,hwp⟩⟩
     · rename_i x hbody
       injection hit with hit;obtain ⟨m,e,s,hrun,hne,r,hr,hq⟩:=body _ hbody;refine ⟨r,by rw [<- hit];exact hr,WP.again hp1 ⟨m,e,s,hrun,?_⟩⟩
       cases e with
       |normal=>exact absurd rfl hne
       |exit i=>exact hq
       |ret=>exact hq
     · cases hit
end
end Go.Vm
/- Contracts from the typed machine. -/
namespace Go.Vm
section
variable {F : qY} {cx : Ctx} {inl : Inl}
theorem VE {s:List SB}: ∀{l:List SV} {q:List PV} (i:Nat),RL s l q->eL s (YF i l) (A9 i q)
 | [],q,i,h=>by rw [show q=[] from h];rfl
 |x::xs,q,i,h=>by
  obtain ⟨a,as,rfl,h1,h2⟩:=h.cons_inv;exact ⟨a,A9 (i+1) as,rfl,h1,VE (i+1) h2⟩
theorem aDJ {st:vV} {p:St} (h:GG st p) {r:RV} {v:SV} (hr:YE st r=some v): ∃q,MX p r=some q/\R st.sto v q:=by
 cases r with
 |tmp t=>injection hr with hr;subst hr;exact ⟨_,rfl,h.env.lk t⟩
 |cell t agg=>
  simp only [YE] at hr;have hlk:=h.env.lk t;split at hr
  · rename_i u n off hv
    rw [hv] at hlk;rw [cK] at hr;split at hr
    · rename_i cs hst
      obtain ⟨q,h1,h2⟩:=h.sto.box hst;obtain ⟨x,h3,h4⟩:=zO h2 hr;refine ⟨x,?_,h4⟩;simp only [MX,show lk t p.env=_ from hlk,tI,h1,Nat.beq_refl,if_true,h3];rfl
    · cases hr
  · rename_i cs off hv
    rw [hv] at hlk;obtain ⟨q,h1,h2⟩:=hlk;obtain ⟨x,h3,h4⟩:=zO h2 hr;refine ⟨x,?_,h4⟩;simp only [MX,h1,tI,h3];rfl
  · cases hr
theorem QX {st:vV} {p:St} (h:GG st p): ∀{l:List RV} {vs:List SV},FF st l=some vs-> ∃q,sE p l=some q/\RL st.sto vs q
 | [],vs,hr=>by injection hr with hr;subst hr;exact ⟨[],rfl,rfl⟩
 |r::l,vs,hr=>by
  simp only [FF] at hr;split at hr
  · rename_i v vs' h1 h2
    injection hr with hr;subst hr;obtain ⟨q,h3,h4⟩:=aDJ h h1;obtain ⟨qs,h5,h6⟩:=QX h h2;exact ⟨q::qs,by simp only [sE,h3,h5],RL.cons h4 h6⟩
  · cases hr
theorem VF {s:List SB} {vs:List SV} {q:List PV} (h:RL s vs q):R s (KC vs) (vP q):=by
 match vs,q,h with
 | [],q,h=>rw [show q=[] from h];exact ⟨[],rfl,rfl⟩
 | [v],q,h=>
  obtain ⟨a,as,rfl,h1,h2⟩:=h.cons_inv;rw [show as=[] from h2];exact h1
 |v::u::r,q,h=>
  have hall:=h;obtain ⟨a,as,rfl,h1,h2⟩:=h.cons_inv;obtain ⟨b,bs,rfl,h3,h4⟩:=h2.cons_inv;exact ⟨_,rfl,hall⟩
theorem EI (hcx:mF F cx) (hinl:VC F inl) {f:FuncId} {x:aM} (hf:F f=some (.code x)) {R':Type} {args:List SV} {s:List SB} {z:List Nat} {k:SV->List SB->List Nat->jM R'} {ρ:Type} {w:R'->ρ} {y:ρ} {pa:List PV} {ps:cV}
 {Q:R'->PV->cV->List Nat->Prop} (ha:RL s args pa) (hS:cX s ps) (he:UZ cx inl x R' args s z k ρ w=some y)
 (hk: ∀v s' z' p ps' ρ' (w':R'->ρ') y',R s' v p->cX s' ps'->k v s' z' ρ' w'=some y'-> ∃r,y'=w' r/\Q r p ps' z'): ∃r,y=w r/\L3 F f pa ps z (fun p ps' z'=>Q r p ps' z'):=by
 unfold UZ at he;obtain ⟨hn,he⟩:=cY he;have fin: ∀st p ρ' (w':R'->ρ') y',GG st p->(match FF st x.res with
  |some vs=>k (KC vs) st.sto st.fz
  |none=>aR) ρ' w'=some y'-> ∃r,y'=w' r/\ ∃vs,sE p x.res=some vs/\Q r (vP vs) p.sto p.fz:=by
  intro st p ρ' w' y' h he;cases hr:FF st x.res with
  |none=>rw [hr] at he;cases he
  |some vs=>
   rw [hr] at he;obtain ⟨q,h1,h2⟩:=QX h hr;obtain ⟨r,h3,h4⟩:=hk _ _ _ _ _ _ _ _ (VF h2) h.sto he;exact ⟨r,h3,q,h1,by rw [h.fz];exact h4⟩
 obtain ⟨r,hr,hwp⟩:=aB2 hcx hinl x.code R' (Q:=fun r=>RR x fun p ps' z'=>Q r p ps' z') (p:={env:=A9 0 pa,sto:=ps,fz:=z,kn:=ps.length}) (fun e st p ρ' w' y' h he=>by
  cases e with
  |normal=>exact fin st p ρ' w' y' h he
  |ret=>exact fin st p ρ' w' y' h he
  |exit i=>cases he) ⟨VE 0 ha,hS,rfl,hS.len⟩ he
 exact ⟨r,hr,L3.of hf (by rw [ha.length];exact hn) hwp⟩
theorem SL {α:Type} {l m r:List α} {i:Int} (h:FD l i m=some r):0<=i/\i.toNat<=l.length/\m.length=1/\l.length+1<=1048576/\r=l.take i.toNat++m++l.drop i.toNat:=by
 unfold FD at h;split at h
 · rename_i hc
   injection h with h;exact ⟨hc.1,hc.2.1,hc.2.2.1,hc.2.2.2,h.symm⟩
 · cases h
theorem aB3 {e:Nat} {args:List SV} {s:List SB} {z:List Nat} {a:aSB} (h:aFh e args s z=some a):
 ∃x u x2 m,args=[.own a.t x,.int .i64 a.i,.own u x2]/\nth s a.t=some (.arr a.r a.l)/\nth s u=some (.arr a.r m)/\a.m=m/\a.r.length=e/\Nat.beq a.t u=false/\has z a.t=false:=by
 unfold aFh at h;split at h
 case h_2=>cases h
 split at h
 case h_2=>cases h
 split at h
 case h_2=>cases h
 split at h
 case h_2=>cases h
 rename_i m' hm;cases hc:(Nat.beq _ e&&_&&_) with
 |false=>rw [hc] at h;cases h
 |true=>
  rw [hc] at h;injection h with h;subst h;simp only [Bool.and_eq_true,Nat.beq_eq,Bool.not_eq_true'] at hc;obtain ⟨rfl,rfl⟩:=G2 hm;exact ⟨_,_,_,_,rfl,by assumption,by assumption,rfl,hc.1.1,hc.1.2,hc.2⟩
theorem YP {e:Nat} {f:FuncId} (hf:F f=some (.shp (RQ e))) {R':Type} {args:List SV} {s:List SB} {z:List Nat} {k:SV->List SB->List Nat->jM R'} {ρ:Type} {w:R'->ρ} {y:ρ} {pa:List PV} {ps:cV}
 {Q:R'->PV->cV->List Nat->Prop} (ha:RL s args pa) (hS:cX s ps) (he:aMz e args s z k ρ w=some y)
 (hk: ∀v s' z' p ps' ρ' (w':R'->ρ') y',R s' v p->cX s' ps'->k v s' z' ρ' w'=some y'-> ∃r,y'=w' r/\Q r p ps' z'): ∃r,y=w r/\L3 F f pa ps z (fun p ps' z'=>Q r p ps' z'):=by
 unfold aMz at he;cases hA:aFh e args s z with
 |none=>rw [hA] at he;cases he
 |some a=>
 rw [hA] at he;dsimp only at he;obtain ⟨l',hl,he⟩:=dM he;obtain ⟨x,u,x2,m0,rfl,ht,hu,hm,he1,htu,hz⟩:=aB3 hA;obtain ⟨t,q,l,i,m⟩:=a;dsimp only at*;subst hm he1;obtain ⟨i0,il,m1,hle,rfl⟩:=SL hl;obtain ⟨p0,pr0,rfl,h0,ha⟩:=ha;obtain ⟨p1,pr1,rfl,h1,ha⟩:=ha;obtain ⟨p2,pr2,rfl,h2,ha⟩:=ha;obtain rfl:pr2=[]:=ha;obtain rfl:p1= .int .i64 i:=h1
 have ht':s[t]? =some (.arr q l):=by rw [<- cK];exact ht
 have hu':s[u]? =some (.arr q m):=by rw [<- cK];exact hu
 obtain ⟨e0,n0,rfl,o0⟩:=h0;obtain ⟨e2,n2,rfl,o2⟩:=h2;obtain ⟨rfl,rfl⟩:e0=q.length/\n0=l.length:=by
  rcases o0 with ⟨r1,l1,a,b,c⟩|a
  · rw [ht'] at a;injection a with a;injection a with a1 a2;subst a1;subst a2;exact ⟨b,c⟩
  · rw [ht'] at a;cases a
 obtain ⟨rfl,rfl⟩:e2=q.length/\n2=m.length:=by
  rcases o2 with ⟨r1,l1,a,b,c⟩|a
  · rw [hu'] at a;injection a with a;injection a with a1 a2;subst a1;subst a2;exact ⟨b,c⟩
  · rw [hu'] at a;cases a
 obtain ⟨b1,hb1,hb1'⟩:=hS.at_ t _ ht';obtain ⟨b2,hb2,hb2'⟩:=hS.at_ u _ hu';have hb1':b1= .arr q.length (l.map (RT.pv q)):=hb1';have hb2':b2= .arr q.length (m.map (RT.pv q)):=hb2';subst hb1' hb2';have hlen:(KB [t] (s.set t .dead)).length=s.length:=by rw [FH];simp
 obtain ⟨L,hL⟩: ∃L,L=l.take i.toNat++m++l.drop i.toNat:=⟨_,rfl⟩;rw [<- hL] at he;have G:=jU.put hS (b:= .dead) (q:= .dead) (l:=[.arr q L]) (ql:=[.arr q.length (L.map (RT.pv q))]) (v:= .own s.length false)
  (p:= .own s.length q.length 0 L.length L.length false) (rd:=[]) ht' (.inr rfl) rfl rfl
  (fun j b hj=>by
   cases j with
   |zero=>simp at hj;subst hj;exact ⟨_,rfl,rfl⟩
   |succ j=>simp at hj)
  ⟨q.length,L.length,rfl,.inl ⟨q,L,by rw [<- hlen];exact vX,rfl,rfl⟩⟩
 have hll:L.length=l.length+1:=by
  rw [hL];simp only [List.length_append,List.length_take,List.length_drop,m1];omega
 obtain ⟨rr,hr,hq⟩:=hk _ _ _ _ _ _ _ _ G.v G.sto he;refine ⟨rr,hr,1,_,_,_,?_,hq⟩;rw [sF];have hmost:Nat.ble (l.length+1) tM=true:=by simp [tM];omega
 have hbl:Nat.ble i.toNat l.length=true:=by simpa using il
 have hLm:L.map (RT.pv q)=(l.map (RT.pv q)).take i.toNat++m.map (RT.pv q)++(l.map (RT.pv q)).drop i.toNat:=by
  rw [hL,List.map_append,List.map_append,List.map_take,List.map_drop]
 simp [step,hf,RQ,hb1,hb2,m1,htu,hz,i0,hmost,il,hll,hS.len,jJ,aBv,hLm]
theorem SM (hcx:mF F cx): ∀n,VC F (aDi cx n)
 |0=>fun f args s z R' k ρ w y pa ps Q _ _ h _=>by cases h
 |n+1=>fun f args s z R' k ρ w y pa ps Q ha hS h hk=>by
  simp only [aDi] at h;cases hx:cx.code f with
  |none=>rw [hx] at h;cases h
  |some x=>
   rw [hx] at h;cases x with
   |code x=>exact EI hcx (SM hcx n) (hcx.code f _ hx) ha hS h hk
   |ins e=>exact YP (hcx.code f _ hx) ha hS h hk
def aFw:Kd->Bool->Bool
 | .own,b=>b
 |_,b=>!b
def aDK (kd:Kd) {β:Type} (res:aH β) (b:β) (p:PV) (ps:cV) (z:List Nat):Prop:=
 match kd with
 | .pure=>p.noref=true/\yD (res.enc b)=some p
 | .frz=>p.noref=false/\ ∃q,E8 ps p=some q/\yD (res.enc b)=some q
 | .own=> ∀nx,∃p0 p' q seen,F4 ps z nx [] p=some (p',q,seen)/\yD (res.enc b)=some p0/\OC nx p0=some (p',q)
mutual
theorem VG {s:List SB}: ∀{v:SV} {p:PV},R s v p->G0 v=true->yD v=some p
 | .int _ _,p,h,_| .bool _,p,h,_| .str _,p,h,_=>by rw [show p=_ from h];rfl
 | .agg cs,p,h,hn=>by obtain ⟨q,rfl,h⟩:=h;simp only [yD,pure_pvL h hn]
 | .tup cs,p,h,hn=>by obtain ⟨q,rfl,h⟩:=h;simp only [yD,pure_pvL h hn]
 | .junk,_,_,h| .undef,_,_,h| .nul,_,_,h| .nilf,_,_,h| .sl _ _,_,_,h| .nil _ _,_,_,h| .own _ _,_,_,h| .pre _ _ _ _,_,_,h| .part _ _ _ _ _,_,_,h| .pa _ _ _ _ _,_,_,h| .pb _ _ _,_,_,h| .bp _ _ _,_,_,h| .rptr _ _,_,_,h| .clo _ _ _,_,_,h| .mp _,_,_,h=>by cases h
theorem pure_pvL {s:List SB}: ∀{v:List SV} {p:List PV},RL s v p->norefSL v=true->pvL v=some p
 | [],p,h,_=>by rw [show p=_ from h];rfl
 |x::xs,p,h,hn=>by
  obtain ⟨a,as,rfl,h1,h2⟩:=h.cons_inv;simp only [norefSL,Bool.and_eq_true] at hn;exact fF.2 ⟨_,_,rfl,VG h1 hn.1,pure_pvL h2 hn.2⟩
end
theorem YQ {kd:Kd} {β:Type} {res:aH β} {v:SV} {s:List SB} {z:List Nat} {p:PV} {ps:cV} {ρ:Type} {w:β->ρ} {y:ρ} (hv:R s v p) (hS:cX s ps) (h:aDj kd res v s z ρ w=some y):
 ∃b,y=w b/\aDK kd res b p ps z:=by
 unfold aDj at h;cases kd with
 |pure=>
  dsimp only at h;obtain ⟨h1,h2⟩:=cY h;obtain ⟨b,h3,h4⟩:=bS h2;injection h4 with h4;exact ⟨b,h4.symm,VA hv h1,res.law h3 (VG hv h1)⟩
 |frz=>
  dsimp only at h;obtain ⟨h1,h2⟩:=xT h;obtain ⟨u,h3,h4⟩:=bS h2;obtain ⟨b,h5,h6⟩:=bS h4;injection h6 with h6;obtain ⟨q,h7,h8⟩:=aMd hS hv h3;exact ⟨b,h6.symm,QQ hv h1 h3,q,h7,res.law h5 h8⟩
 |own=>
  dsimp only at h;obtain ⟨u,h3,h4⟩:=bS h;obtain ⟨b,h5,h6⟩:=bS h4;injection h6 with h6;refine ⟨b,h6.symm,fun nx=>?_⟩
  obtain ⟨p0,p',q,h7,h8,h9⟩:=aDE hS (v':=u.1) (seen':=u.2) nx hv h3;exact ⟨p0,p',q,u.2,h9,res.law h5 h7,h8⟩
theorem cX.nil:cX [] []:=⟨rfl,fun t b h=>by simp at h⟩
theorem aI.of {f:FuncId} {x:aM} {α β:Type} {args:aC α} {res:aH β} {kd:Kd} {fn:α->Option β} {ow:Bool} (hf:F f=some (.code x)) (ho:aFw kd ow=true) (hcx:mF F cx)
 (h: ∀a,aMa cx x args res kd a=fn a):aI F f ⟨args,res,fn,kd,ow⟩:=by
 intro a b as pa sto fz hb hpa hex;have hb:fn a=some b:=hb;rw [<- h a] at hb;obtain ⟨r,hr,n,v,s,z,hrun,hl⟩:=EI hcx (SM hcx 8) hf (Q:=fun r p ps z=>aDK kd res r p ps z) (pvL_R hpa) cX.nil hb (fun v s' z' p ps' ρ' w' y' hv hS hk=>YQ hv hS hk)
 have hr':b=r:=hr;subst hr';cases kd with
 |pure=>
  obtain ⟨h1,h2⟩:=hl;have how:ow=false:=by simpa [aFw] using ho
  subst how;refine ⟨n,{v:=v,rd:=toksL (dG sto fI) as},?_,v,h2,rfl⟩;simp only [callPure,hex,hf,hrun,Bool.false_eq_true,if_false,h1,if_true]
 |frz=>
  obtain ⟨h1,q,h2,h3⟩:=hl;have how:ow=false:=by simpa [aFw] using ho
  subst how;refine ⟨n,{v:=q,rd:=toksL (dG sto fI) as,fr:=toksL (dG sto fI) as},?_,q,h3,rfl⟩;simp only [callPure,hex,hf,hrun,Bool.false_eq_true,if_false,h1,h2]
 |own=>
  have how:ow=true:=ho;subst how;obtain ⟨p0,p',q,seen,h1,h2,h3⟩:=hl sto.length;refine ⟨n,{v:=p',news:=q,rd:=toksL (dG sto fI) as},?_,p0,p',q,h2,h3,rfl⟩;simp only [callPure,hex,hf,hrun,if_true,h1]
theorem VH: ∀(s:List SB) (q:List DW),(G1 s q).1.length=s.length
 | [],q=>rfl
 |b::r,q=>by simp only [G1,List.length_cons,VH r]
mutual
theorem R.take {s:List SB} {k:Nat}: ∀{v:SV} {p:PV},R s v p->(∀t∈YA zB v,t<k)->R (s.take k) v p
 | .junk,_,_,_=>trivial
 | .undef,_,h,_| .nul,_,h,_| .nilf,_,h,_| .int _ _,_,h,_| .bool _,_,h,_| .str _,_,h,_| .sl _ _,_,h,_| .nil _ _,_,h,_| .bp _ _ _,_,h,_| .mp _,_,h,_=>h
 | .agg cs,_,h,ht=>by obtain ⟨q,rfl,h⟩:=h;exact ⟨q,rfl,RL.takeS h ht⟩
 | .tup cs,_,h,ht=>by obtain ⟨q,rfl,h⟩:=h;exact ⟨q,rfl,RL.takeS h ht⟩
 | .rptr cs o,_,h,ht=>by obtain ⟨q,rfl,h⟩:=h;exact ⟨q,rfl,RL.takeS h ht⟩
 | .clo f a b,_,h,ht=>by
  obtain ⟨pa,pb,rfl,h1,h2⟩:=h;exact ⟨pa,pb,rfl,RL.takeS h1 (fun t h=>ht t (List.mem_append_left _ h)),RL.takeS h2 (fun t h=>ht t (List.mem_append_right _ h))⟩
 | .own t ex,_,h,ht=>by
  obtain ⟨e,n,rfl,hat⟩:=h;have hk:=ht t (List.mem_singleton.2 rfl);refine ⟨e,n,rfl,?_⟩;rcases hat with ⟨r,l,h1,h2,h3⟩|h1
  · exact .inl ⟨r,l,by rw [List.getElem?_take_of_lt hk];exact h1,h2,h3⟩
  · exact .inr (by rw [List.getElem?_take_of_lt hk];exact h1)
 | .pre t a b c,_,h,ht=>by
  obtain ⟨e,rfl,hat⟩:=h;have hk:=ht t (List.mem_singleton.2 rfl);refine ⟨e,rfl,?_⟩;rcases hat with ⟨r,l,h1,h2⟩|h1
  · exact .inl ⟨r,l,by rw [List.getElem?_take_of_lt hk];exact h1,h2⟩
  · exact .inr (by rw [List.getElem?_take_of_lt hk];exact h1)
 | .part t o a b c,_,h,ht=>by
  obtain ⟨e,rfl,hat⟩:=h;have hk:=ht t (List.mem_singleton.2 rfl);refine ⟨e,rfl,?_⟩;rcases hat with ⟨r,l,h1,h2⟩|h1
  · exact .inl ⟨r,l,by rw [List.getElem?_take_of_lt hk];exact h1,h2⟩
  · exact .inr (by rw [List.getElem?_take_of_lt hk];exact h1)
 | .pa t r i a o,_,h,ht=>by
  obtain ⟨rfl,hat⟩:=h;have hk:=ht t (List.mem_cons_self ..);refine ⟨rfl,?_⟩;rcases hat with ⟨l,h1,h2⟩|h1
  · exact .inl ⟨l,by rw [List.getElem?_take_of_lt hk];exact h1,h2⟩
  · exact .inr (by rw [List.getElem?_take_of_lt hk];exact h1)
 | .pb t i o,_,h,ht=>by
  obtain ⟨e,rfl,hat⟩:=h;have hk:=ht t (List.mem_cons_self ..);refine ⟨e,rfl,?_⟩;rcases hat with ⟨r,l,h1,h2⟩|h1
  · exact .inl ⟨r,l,by rw [List.getElem?_take_of_lt hk];exact h1,h2⟩
  · exact .inr (by rw [List.getElem?_take_of_lt hk];exact h1)
theorem RL.takeS {s:List SB} {k:Nat}: ∀{v:List SV} {p:List PV},RL s v p->(∀t∈tkVL zB v,t<k)->RL (s.take k) v p
 | [],_,h,_=>h
 |x::xs,_,h,ht=>by
  obtain ⟨a,as,rfl,h1,h2⟩:=h.cons_inv;exact RL.cons (R.take h1 (fun t h=>ht t (List.mem_append_left _ h))) (RL.takeS h2 (fun t h=>ht t (List.mem_append_right _ h)))
end
theorem OG {R' ρ:Type} {w:R'->ρ} {y:ρ}: ∀{s s':List SB} {k:jM R'},IH s s' k ρ w=some y->k ρ w=some y/\s'.length=s.length/\ ∀(t:Nat) (x z:SB),s[t]? =some x->s'[t]? =some z->aDG x z
 | [],[],k,h=>⟨h,rfl,fun t x z h=>by simp at h⟩
 | [],_::_,k,h=>by cases h
 |_::_,[],k,h=>by cases h
 |x::xs,y'::ys,k,h=>by
  have step: ∀(_:IH xs ys k ρ w=some y) (_:aDG x y'),k ρ w=some y/\(y'::ys).length=(x::xs).length/\ ∀(t:Nat) (a b:SB),(x::xs)[t]? =some a->(y'::ys)[t]? =some b->aDG a b:=by
   intro h hx;obtain ⟨h1,h2,h3⟩:=OG h;refine ⟨h1,by simpa using h2,fun t a b ha hb=>?_⟩
   cases t with
   |zero=>simp at ha hb;subst ha hb;exact hx
   |succ t=>exact h3 t a b (by simpa using ha) (by simpa using hb)
  cases x with
  |arr r l=>
   cases y' with
   |arr q m=>
    obtain ⟨hr,h2⟩:=cY (a:=iU (m.length==l.length) (IH xs ys k) aR) h;obtain ⟨hl,h3⟩:=jV h2;exact step h3 ⟨BI hr,by simpa using hl⟩
   |_=>cases h
  |dead=>cases y' with
   |dead=>exact step h trivial
   |_=>cases h
  |box cs=>cases y' with
   |box _=>exact step h trivial
   |_=>cases h
  |set l=>cases y' with
   |set _=>exact step h trivial
   |_=>cases h
  |tab p l=>cases y' with
   |tab _ _=>exact step h trivial
   |_=>cases h
theorem OH: ∀{s:List SB},NZ s=true-> ∀(t:Nat) (b:SB),s[t]? =some b->FE b=true
 | [],_,t,b,h=>by simp at h
 |x::xs,hs,0,b,h=>by simp only [NZ,Bool.and_eq_true] at hs;simp at h;subst h;exact hs.1
 |x::xs,hs,t+1,b,h=>by simp only [NZ,Bool.and_eq_true] at hs;exact OH hs.2 t b (by simpa using h)
theorem kC.of {f:FuncId} {x:aM} {wd:Bool} {ka ko:List AK} {ta:List SV} {tb to:List SB} {tv:SV} {fn:mZ ka->Option (mZ ko)} (hf:F f=some (.code x)) (hcx:mF F cx)
 (h: ∀a,aVc wd cx x ka ta tb ko tv to a=fn a):kC F f ⟨ka,ta,tb,ko,tv,to,fn⟩:=by
 intro a b pa ps hb ha hS;rw [show (⟨ka,ta,tb,ko,tv,to,fn⟩:eH).fn a=fn a from rfl,<- h a] at hb;have hlen:(eH.sa ⟨ka,ta,tb,ko,tv,to,fn⟩ a).length=tb.length:=VH _ _;obtain ⟨r,hr,n,v,s,z,hrun,hz,hq⟩:=EI hcx (SM hcx 8) hf (Q:=fun (r:mZ ko) p ps' z'=>z'=[]/\jT tb.length p ps'=true/\
  R (eH.sb ⟨ka,ta,tb,ko,tv,to,fn⟩ r) (eH.vb ⟨ka,ta,tb,ko,tv,to,fn⟩ r) p/\cX (eH.sb ⟨ka,ta,tb,ko,tv,to,fn⟩ r) (ps'.take tb.length)/\
  (eH.sb ⟨ka,ta,tb,ko,tv,to,fn⟩ r).length=(eH.sa ⟨ka,ta,tb,ko,tv,to,fn⟩ a).length/\
  ∀(t:Nat) (x y:SB),(eH.sa ⟨ka,ta,tb,ko,tv,to,fn⟩ a)[t]? =some x->(eH.sb ⟨ka,ta,tb,ko,tv,to,fn⟩ r)[t]? =some y->aDG x y) ha hS hb (fun v s' z' p ps' ρ' w' y' hv hS' hk=>by
  cases z' with
  |cons _ _=>cases hk
  |nil=>
   dsimp only at hk;obtain ⟨hc,hk⟩:=cY hk;simp only [Bool.and_eq_true] at hc;obtain ⟨⟨⟨⟨c1,c2⟩,c3⟩,c4⟩,c5⟩:=hc;obtain ⟨hk,f1,f2⟩:=OG hk;obtain ⟨r,hr,hk⟩:=bS hk;injection hk with hk;have hu:R s' (bif wd then QI s' v else v) p:=by
    cases wd with
    |true=>exact aAw hv
    |false=>exact hv
   generalize (bif wd then QI s' v else v)=u at c1 c3 c4 hr hu
   have hats:=yE hr;have hvb:eH.vb ⟨ka,ta,tb,ko,tv,to,fn⟩ r=u:=by
    show (zF tv (qH ko r)).1=u;rw [hats,MH _ c1]
   have hsb:eH.sb ⟨ka,ta,tb,ko,tv,to,fn⟩ r=s'.take tb.length:=by
    show (G1 to (zF tv (qH ko r)).2).1=_;rw [hats,MH _ c1]
    have:=IS [] c2
    rw [List.append_nil] at this;rw [this]
   have hle:tb.length<=s'.length:=by
    have:=f1
    rw [List.length_take] at this;have h2:(eH.sa ⟨ka,ta,tb,ko,tv,to,fn⟩ a).length=tb.length:=hlen;have h3:min tb.length s'.length=tb.length:=by rw [this];exact h2
    omega
   unfold aL9 at c3;rw [List.all_eq_true] at c3;have hkv: ∀t∈YA zB u,t<tb.length:=fun t ht=>by simpa using c3 t (List.mem_append_left _ ht)
   have hkb: ∀b∈s'.take tb.length,∀t∈NR b,t<tb.length:=fun b hb t ht=>by simpa using c3 t (List.mem_append_right _ (List.mem_flatMap.2 ⟨b,hb,ht⟩))
   have hsto:cX (s'.take tb.length) (ps'.take tb.length):=⟨by simp [hS'.len],fun t x hx=>by
    have hlt:t<tb.length:=by
     have:=(List.getElem?_eq_some_iff.1 hx).1
     rw [List.length_take] at this;omega
    have hx':=hx;rw [List.getElem?_take_of_lt hlt] at hx';obtain ⟨q,q1,q2⟩:=hS'.at_ t x hx';refine ⟨q,by rw [List.getElem?_take_of_lt hlt];exact q1,?_⟩
    cases x with
    |box cs=>
     obtain ⟨pc,rfl,hpc⟩:=q2;exact ⟨pc,rfl,RL.takeS hpc (hkb _ (List.mem_of_getElem? hx))⟩
    |_=>exact q2⟩
   refine ⟨r,hk.symm,rfl,?_,by rw [hvb,hsb];exact R.take hu hkv,by rw [hsb];exact hsto,by rw [hsb];exact f1,by rw [hsb];exact f2⟩
   unfold jT;rw [List.all_eq_true];intro t ht;rw [List.mem_append] at ht;rcases ht with ht|ht
   · rw [<- aDy (bx:=zB) (fun _=>rfl) hu c4] at ht
     simpa using hkv t ht
   · rw [List.mem_flatMap] at ht
     obtain ⟨q,hq,ht⟩:=ht;obtain ⟨j,hj,he⟩:=List.getElem_of_mem hq;have hjl:j<(s'.take tb.length).length:=by rw [<- hsto.len];exact hj
     obtain ⟨x,hx⟩: ∃x,(s'.take tb.length)[j]? =some x:=⟨_,List.getElem?_eq_getElem hjl⟩;obtain ⟨q',q1,q2⟩:=hsto.at_ j x hx;rw [List.getElem?_eq_getElem hj,he] at q1;injection q1 with q1;subst q1;rw [<- SH q2 (OH c5 j x hx)] at ht;simpa using hkb x (List.mem_of_getElem? hx) t ht)
 have hr':b=r:=hr;subst hr';subst hz;refine ⟨n,v,s,hrun,?_⟩;rw [hlen];obtain ⟨h1,h2,h3,h4,h5⟩:=hq;exact ⟨h1,h2,h3,by rw [h4,hlen],h5⟩
theorem YR {f:FuncId} {r:List PT} (hf:F f=some (.prim false (gJ r.length))) (l:List (RT r)) (hl:l.length<=1048576) {as:List PV} {sto:cV} {fz:List Nat} (hex:exL sto (DX sto fI) as=some [.sl r.length false (l.map (RT.pv r))]):
 ∃n x,callPure F (run F n) false f as sto fz=some x/\aMe .own sto.length (toksL (dG sto fI) as) (.sl r l) x:=by
 refine ⟨0,{v:= .own sto.length r.length 0 l.length l.length false,news:=[.arr r.length (l.map (RT.pv r))],rd:=toksL (dG sto fI) as},?_,.sl r.length false (l.map (RT.pv r)),.own sto.length r.length 0 l.length l.length false,[.arr r.length (l.map (RT.pv r))],rfl,by simp only [OC,List.length_map],rfl⟩
 simp only [callPure,hex,hf];cases l with
 |nil=>rfl
 |cons a l=>
  have h2:Nat.ble ((l.map (RT.pv r)).length+1) tM=true:=by simp [tM] at hl ⊢;omega
  simp only [List.map_cons,gJ,Nat.beq_refl,h2,Bool.and_self,if_true,F4];simp [has]
theorem aI.clone {f:FuncId} {n:Nat} {r:List PT} (hf:F f=some (.prim false (gJ n))) (hn:n=r.length):aI F f (bM.clone r):=by
 intro (a:List (RT r)) (b:List (RT r)) as pa sto fz hb hpa hex;subst hn;have hb:bX a=some b:=hb;obtain ⟨rfl,hl⟩:=G6 hb;have hpa':pa=[.sl r.length false (b.map (RT.pv r))]:=by
  have:some [PV.sl r.length false (b.map (RT.pv r))]=some pa:=hpa
  exact (Option.some.inj this).symm
 subst hpa';exact YR hf b hl hex
theorem aI.add64 {f:FuncId} (hf:F f=some (.prim false GR)):aI F f bM.add64:=by
 intro a b as pa sto fz hb hpa hex;obtain ⟨x,y,c⟩:=a;have hb':tU x y c=some b:=hb;unfold tU at hb';cases hc:(decide (0<=x)&&decide (0<=y)&&decide (0<=c)&&decide (c<=1)) with
 |false=>rw [hc] at hb';cases hb'
 |true=>
  rw [hc] at hb';injection hb' with hb';subst hb';simp only [Bool.and_eq_true,decide_eq_true_eq] at hc;obtain ⟨⟨⟨h1,h2⟩,h3⟩,h4⟩:=hc;obtain ⟨x,rfl⟩:=Int.eq_ofNat_of_zero_le h1;obtain ⟨y,rfl⟩:=Int.eq_ofNat_of_zero_le h2;obtain ⟨c,rfl⟩:=Int.eq_ofNat_of_zero_le h3;have hpa':pa=[.int .u64 (.ofNat x),.int .u64 (.ofNat y),.int .u64 (.ofNat c)]:=by
   have:some [PV.int .u64 (x:Int),.int .u64 (y:Int),.int .u64 (c:Int)]=some pa:=hpa
   exact (Option.some.inj this).symm
  subst hpa';have hcb:Nat.ble c 1=true:=by simp;omega
  refine ⟨0,{v:= .tup [.int .u64 (.ofNat ((x+y+c)%18446744073709551616)),.int .u64 (.ofNat ((x+y+c) / 18446744073709551616))],rd:=toksL (dG sto fI) as},?_,_,rfl,rfl⟩;show callPure F (run F 0) false f as sto fz=_;simp only [callPure,hex,hf,GR,hcb,if_true];rfl
theorem kC.zero {f:FuncId} {c:eH} (h: ∀a,c.fn a=none):kC F f c:=fun a b pa ps hb=>by rw [h a] at hb;cases hb
theorem aI.zero {f:FuncId} {c:bM} (h: ∀a,c.fn a=none):aI F f c:=fun a b as pa sto fz hb=>by rw [h a] at hb;cases hb
end
end Go.Vm
/- What comes in to a law, as typed values; a law from a contract. -/
namespace Go.Vm
open Go.ChangeShapes Go.WideShapes Go.ChangeAt Go.RowKit
def PT.wf:(p:PT)->p.T->Prop
 | .i k,n=>(Lit.int k n).wf=true
 | .b,_=>True
def RT.wf:(r:List PT)->RT r->Prop
 | [],_=>True
 | [p],a=>p.wf a
 |p::q::r,a=>p.wf a.1/\RT.wf (q::r) a.2
def jG (r:List PT) (vs:List SV):Prop:= ∃a:RT r,vs=RT.sv r a/\RT.wf r a
def XO (r:List PT) (vs:List SV):Prop:= ∃l:List (RT r),vs=[.sl r l]/\ ∀a∈l,RT.wf r a
def aFx:List (List SV->Prop)->List SV->Prop
 | [],vs=>vs=[]
 |K::Ks,vs=> ∃a b,vs=a++b/\K a/\aFx Ks b
theorem jG.cons {p:PT}: ∀{r:List PT} {a b:List SV},jG [p] a->jG r b->jG (p::r) (a++b)
 | [],a,b,⟨x,hx,wx⟩,⟨y,hy,_⟩=>⟨x,by rw [hx,hy];rfl,wx⟩
 |q::r,a,b,⟨x,hx,wx⟩,⟨y,hy,wy⟩=>⟨(x,y),by rw [hx,hy];rfl,wx,wy⟩
theorem jG.split {p q:PT} {r:List PT} {vs:List SV}:jG (p::q::r) vs-> ∃a b,vs=a++b/\jG [p] a/\jG (q::r) b
 |⟨x,hx,wx⟩=>⟨[p.sv x.1],RT.sv (q::r) x.2,hx,⟨x.1,rfl,wx.1⟩,⟨x.2,rfl,wx.2⟩⟩
theorem jG.app: ∀{r s:List PT} {a b:List SV},jG r a->jG s b->jG (r++s) (a++b)
 | [],s,a,b,⟨x,hx,_⟩,h=>by
  have:a=[]:=hx
  subst this;exact h
 | [p],s,a,b,h,k=>jG.cons h k
 |p::q::r,s,a,b,h,k=>by
  obtain ⟨a1,a2,rfl,h1,h2⟩:=jG.split h
  rw [List.append_assoc];exact jG.cons h1 (jG.app h2 k)
theorem rO: ∀{rs:List (List PT)} {vs:List SV},aFx (rs.map jG) vs->jG rs.flatten vs
 | [],vs,h=>by
  have:vs=[]:=h
  subst this;exact ⟨(),rfl,trivial⟩
 |r::rs,vs,⟨a,b,h1,h2,h3⟩=>by
  subst h1;rw [List.flatten_cons];exact jG.app h2 (rO h3)
def cM (P : Program) (t : TypeId) (K : List SV -> Prop) : Prop :=
  ∀ (H : Type) (enc : TypeId × Value -> H) (w : World) (fuel : Nat) (cs : List Value) (x : DataW H × List MemPlace), DataW.trod enc P w 0 (fun _ => true) true fuel t cs = some x ->
    ∃ vs q, K vs /\ pvL vs = some q /\ VRL (NO w) iC q cs
section
variable {P : Program}
theorem cM.mono {t:TypeId} {K K':List SV->Prop} (h:cM P t K) (hk: ∀vs,K vs->K' vs):cM P t K':=fun H enc w fuel cs x hx=>by
 obtain ⟨vs,q,h1,h2,h3⟩:=h H enc w fuel cs x hx;exact ⟨vs,q,hk vs h1,h2,h3⟩
theorem cM.int {t:TypeId} {k:IntKind} (ht:P.underlying t=some (.int k)):cM P t (jG [.i k]):=fun H enc w fuel cs x h=>by
 obtain ⟨n,rfl,_,hw⟩:=DataW.trod_int ht h;exact ⟨[.int k n],[.int k n],⟨n,rfl,hw⟩,rfl,.cons _ _ _ _ (.int k n) .nil⟩
theorem cM.bool {t:TypeId} (ht:P.underlying t=some .bool):cM P t (jG [.b]):=fun H enc w fuel cs x h=>by
 obtain ⟨b,rfl,_⟩:=DataW.trod_bool ht h;exact ⟨[.bool b],[.bool b],⟨b,rfl,trivial⟩,rfl,.cons _ _ _ _ (.bool b) .nil⟩
def bE (P:Program):List Field->List (List SV->Prop)->Nat->Prop
 | [],[],_=>True
 |f::fs,K::Ks,off=>f.offset=off/\cM P f.type K/\bE P fs Ks (off+P.cellsOf f.type)
 |_,_,_=>False
theorem bE.nil {off:Nat}:bE P [] [] off:=trivial
theorem bE.cons {f:Field} {fs:List Field} {K:List SV->Prop} {Ks:List (List SV->Prop)} {off:Nat} (h1:f.offset=off) (h2:cM P f.type K) (h3:bE P fs Ks (off+P.cellsOf f.type)):bE P (f::fs) (K::Ks) off:=⟨h1,h2,h3⟩
def EJ (P:Program):List Field->Nat
 | []=>0
 |f::fs=>P.cellsOf f.type+EJ P fs
theorem OI {im:Im} {loc:dK}: ∀{p:List PV} {vs:List Value} {q:List PV} {us:List Value},VRL im loc p vs->VRL im loc q us->VRL im loc (p++q) (vs++us)
 | [],[],_,_,.nil,h=>h
 |_::_,_::_,_,_,.cons x v xs ws h hs,k=> .cons x v _ _ h (OI hs k)
theorem OJ {H:Type} {enc:TypeId×Value->H} {w:World} {n:Nat} {cs:List Value}: ∀{fs:List Field} {Ks:List (List SV->Prop)} {off:Nat},bE P fs Ks off->cs.length=off+EJ P fs->
 (∀f∈fs,∃x,DataW.trod enc P w 0 (fun _=>true) true n f.type ((cs.drop f.offset).take (P.cellsOf f.type))=some x)-> ∃vs q,aFx Ks vs/\pvL vs=some q/\VRL (NO w) iC q (cs.drop off)
 | [],[],off,_,hl,_=>⟨[],[],rfl,rfl,by rw [List.drop_eq_nil_of_le (by simp [EJ] at hl;omega)];exact .nil⟩
 |f::fs,K::Ks,off,⟨h1,h2,h3⟩,hl,hx=>by
  obtain ⟨x,hx1⟩:=hx f (by simp)
  obtain ⟨vs,q,k1,k2,k3⟩:=h2 H enc w n _ x hx1;obtain ⟨vs',q',k1',k2',k3'⟩:=OJ (n:=n) h3 (by simp only [EJ] at hl;omega) (fun g hg=>hx g (by simp [hg]))
  refine ⟨vs++vs',q++q',⟨vs,vs',rfl,k1,k1'⟩,G3 k2 k2',?_⟩;rw [h1] at k3
  have:cs.drop off=(cs.drop off).take (P.cellsOf f.type)++cs.drop (off+P.cellsOf f.type):=by
   rw [<- List.drop_drop,List.take_append_drop]
  rw [this];exact OI k3 k3'
 | [],_::_,_,h,_,_=>h.elim
 |_::_,[],_,h,_,_=>h.elim
theorem cM.struct {t:TypeId} {fs:Array Field} {Ks:List (List SV->Prop)} (ht:P.underlying t=some (.struct fs)) (hF:bE P fs.toList Ks 0) (hc:P.cellsOf t=EJ P fs.toList):cM P t (aFx Ks):=fun H enc w fuel cs x h=>by
 obtain ⟨xs,n,rfl,_,hl,hxl,hall⟩:=DataW.trod_struct ht h
 have:=OJ (P:=P) (enc:=enc) (w:=w) (n:=n) (cs:=cs) hF (by omega) (fun f hf=>by
  obtain ⟨i,hi,he⟩:=List.mem_iff_getElem.1 hf;have hi':i<fs.size:=by simpa using hi
  have hg:fs[i]? =some f:=by rw [Array.getElem?_eq_getElem hi'];simpa using he
  have:=hall i f hg
  rw [List.getElem?_eq_getElem (by omega)] at this
  exact ⟨_,this⟩)
 rwa [List.drop_zero] at this
theorem RT.vrl {r:List PT} {a:RT r} {q:List PV} (h:pvL (RT.sv r a)=some q):q=RT.pv r a:=by
 rw [RT.pv_sv] at h;exact (Option.some.inj h).symm
theorem VRL.nth {im:Im} {loc:dK}: ∀{p:List PV} {vs:List Value},VRL im loc p vs-> ∀(k:Nat) (c:PV),p[k]? =some c-> ∃v,vs[k]? =some v/\VR im loc c v
 |_::_,_::_,.cons x v xs ws h hs,0,c,hc=>by
  simp at hc;subst hc;exact ⟨v,by simp,h⟩
 |_::_,_::_,.cons x v xs ws h hs,k+1,c,hc=>by
  obtain ⟨u,h1,h2⟩:=VRL.nth hs k c (by simpa using hc)
  exact ⟨u,by simpa using h1,h2⟩
theorem cM.slice {t e:TypeId} {r:List PT} (ht:P.underlying t=some (.slice e)) (he:cM P e (jG r)) (hc:P.cellsOf e=r.length) (hr:0<r.length):cM P t (XO r):=fun H enc w fuel cs x h=>by
 rcases Go.Deep.open_slice ht h with ⟨rfl,_⟩|⟨a,len,cap,m,n,D,Pl,rfl,_,hl,hm,hmm,_,hx⟩
 · exact ⟨[.sl r []],[.sl r.length false []],⟨[],rfl,by simp⟩,rfl,.cons _ _ _ _ (.sl r.length false [] none 0 (Nat.le_refl _) (fun h=>by cases h) (fun h=>absurd rfl h)) .nil⟩
 · have hm':len<=m:=by rw [hmm];split<;>omega
   have each: ∀i,i<len-> ∃A:RT r,RT.wf r A/\ ∃cs',w.cells? 0 (a.add (i*r.length)) r.length=some cs'/\VRL (NO w) iC (RT.pv r A) cs':=by
    intro i hi;obtain ⟨cs',h1,h2⟩:=hx i (by omega)
    obtain ⟨vs,q,⟨A,hA,wA⟩,k2,k3⟩:=he H enc w n cs' _ h2;subst hA;rw [RT.vrl k2] at k3;rw [hc] at h1;exact ⟨A,wA,cs',h1,k3⟩
   have ch: ∃A:Nat->RT r,∀i,i<len->RT.wf r (A i)/\ ∃cs',w.cells? 0 (a.add (i*r.length)) r.length=some cs'/\VRL (NO w) iC (RT.pv r (A i)) cs':=by
    classical
    refine ⟨fun i=>if h:i<len then (each i h).choose else RT.zero r,fun i hi=>?_⟩
    simp only [dif_pos hi];exact (each i hi).choose_spec
   obtain ⟨A,hA⟩:=ch;refine ⟨[.sl r ((List.range len).map A)],[.sl r.length false (((List.range len).map A).map (RT.pv r))],⟨_,rfl,fun x hx=>?_⟩,rfl,.cons _ _ _ _ ?_ .nil⟩
   · obtain ⟨i,hi,rfl⟩:=List.mem_map.1 hx
     exact (hA i (List.mem_range.1 hi)).1
   · have hlen:(((List.range len).map A).map (RT.pv r)).length=len:=by simp
     have:=VR.sl (im:=NO w) (loc:=iC) r.length false (((List.range len).map A).map (RT.pv r)) (some a) cap (by rw [hlen];exact hl) (fun h=>by cases h) (fun hne=>by
      have hpos:0<len:=by
       rcases Nat.eq_zero_or_pos len with h|h
       · subst h;exact absurd rfl hne
       · exact h
      obtain ⟨_,cs0,h0,_⟩:=hA 0 hpos;obtain ⟨_,hl0,hc0⟩:=World.cells?_some h0;obtain ⟨b,off,spot⟩:=a;have hspot:spot=none:=by
       have h1:=hc0 0 hr;rw [List.getElem?_eq_getElem (by omega)] at h1
       simpa [Addr.add] using World.cell?_spot h1
      subst hspot;refine ⟨b,off,rfl,fun i row hrow=>?_⟩
      simp only [List.map_map,List.getElem?_map,Option.map_eq_some_iff] at hrow;obtain ⟨j,hj,rfl⟩:=hrow;have hjl:=cO hj
      have:j=i:=by
       rw [List.getElem?_range (by simpa using hjl)] at hj
       exact (Option.some.inj hj).symm
      subst this;have hjlen:j<len:=by simpa using hjl
      obtain ⟨_,cs',h1,h2⟩:=hA j hjlen;obtain ⟨_,hl1,hc1⟩:=World.cells?_some h1;refine ⟨RT.pv_len r (A j),fun k c hk=>?_⟩
      obtain ⟨v,hv,hvr⟩:=VRL.nth h2 k c hk;have hkr:k<r.length:=by
       have:=cO hk
       rwa [Function.comp,RT.pv_len] at this
      have cc:=hc1 k hkr;rw [hv] at cc;rw [Go.WideShapes.add_plain,Go.WideShapes.add_plain] at cc;have hpl:c.plain=true:=List.all_eq_true.1 (RT.plain r (A j)) c (List.mem_of_getElem? hk);exact ⟨v,hvr.plain hpl,aBP cc⟩)
     rw [hlen] at this;exact this
theorem cM.argS {t:TypeId} {fs:Array Field} {K:List SV->Prop} (h:cM P t K) (ht:P.underlying t=some (.struct fs)) {H:Type} {enc:TypeId×Value->H} {w:World} {base:Nat} {v:Value} {d:DataW H} {p:List MemPlace}
 (hv:Value.okWide P w .any base t v) (hd:DataW.Trod enc P w 0 (fun _=>true) true t v d p): ∃vs q,K vs/\pvL vs=some q/\VR (NO w) iC (.agg q) v:=by
 obtain ⟨cs,rfl,_⟩:=okWide_struct ht hv;obtain ⟨fuel,hf⟩:=hd;obtain ⟨vs,q,k1,k2,k3⟩:=h H enc w fuel _ _ hf;exact ⟨vs,q,k1,k2,.agg q _ k3⟩
theorem cM.argI {t:TypeId} {k:IntKind} (ht:P.underlying t=some (.int k)) {H:Type} {enc:TypeId×Value->H} {w:World} {base:Nat} {v:Value} {d:DataW H} {p:List MemPlace}
 (hv:Value.okWide P w .any base t v) (hd:DataW.Trod enc P w 0 (fun _=>true) true t v d p): ∃n,(Lit.int k n).wf=true/\VR (NO w) iC (.int k n) v:=by
 obtain ⟨n,rfl,_,_,hw⟩:=open_int ht hv hd;exact ⟨n,hw,.int k n⟩
theorem KJ {n:Int} (h:(Lit.int .i64 n).wf=true): -9223372036854775808<=n/\n<9223372036854775808:=by
 simp only [Lit.wf,Bool.and_eq_true,decide_eq_true_eq] at h;have e1:IntKind.i64.min= -9223372036854775808:=by decide
 have e2:IntKind.i64.max=9223372036854775807:=by decide
 rw [e1,e2] at h;omega
end
theorem aI.runA {F:qY} {f:FuncId} {x:aM} {α:Type} {A:aC α} {fn:α->Option Bool} (h:aI F f ⟨A,aH.bool,fn,.pure,false⟩) (hf:F f=some (.code x)) {a:α} (hb:fn a=some true) {ps:List PV} (hp:pvL (A.enc a)=some ps) (hx:exL [] (DX [] fI) ps=some ps):
 ∃n s z,run F n (.func f ps [] [])=some (.func (.bool true) s z):=by
 obtain ⟨n,r,h1,p,h2,rfl⟩:=h a true ps ps [] [] hb hp hx;have hp':p= .bool true:=(Option.some.inj h2).symm;subst hp';refine ⟨n,?_⟩;simp only [callPure,hx,hf] at h1;split at h1
 · rename_i v s z hr
   simp only [Bool.false_eq_true,if_false] at h1;split at h1
   · injection h1 with h1
     injection h1 with h1;subst h1;exact ⟨s,z,hr⟩
   · rename_i hn
     split at h1
     · rename_i v' hv
       injection h1 with h1;injection h1 with h1;subst h1;exfalso;cases v with
       |bool b=>exact hn rfl
       |int _ _|str _|sl _ _ _=>injection hv with hv;cases hv
       |agg cs=>simp only [E8,Option.map_eq_some_iff] at hv;obtain ⟨_,_,hv⟩:=hv;cases hv
       |tup cs=>simp only [E8,Option.map_eq_some_iff] at hv;obtain ⟨_,_,hv⟩:=hv;cases hv
       |own t e off len cap ex=>simp only [E8] at hv;split at hv<;>first|(injection hv with hv;cases hv)|cases hv
       |_=>cases hv
     · cases h1
 · cases h1
end Go.Vm
