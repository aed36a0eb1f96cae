/- The logical machine, part 4: SvSort, SvSortI. -/
import Derived.Test.YtbgoiokedpjgbaaGreatLVm3
import Derived.Test.YtbgoiokedpjgbaaGreatLVm2
import Derived.Sort.Grow
open List renaming getElem?_eq_some_iff->ut,pairwise_cons->ww,length_eq_zero_iff->AC,length_map->Do,getElem?_set->If,getElem?_map->IR,mem_cons->NE,length->PP
open Array renaming getElem?_eq_some_iff->v6,getElem?_modify->EQ,getElem?_mapIdx->F0s
open Option renaming map_some->M2,some->UV,none->acl
/- A function that puts the rows of a slice in order: what is asked of it in a program, and that the table's entry is then right. -/
namespace Go.Vm
theorem Fy: ∀{p:PT} {x:PV} {a:p.T},A4 p x=UV a->x=p.pv a
 | .i k,.int l n,a,h=>by
  have h:(bif fu l k then UV n else acl)=UV a:=h
  cases hk:fu l k with
  |false=>rw [hk] at h;cases h
  |true=>
   rw [hk] at h;obtain rfl:=fg.1 hk;injection h with h;subst h;rfl
 | .b,.bool x,a,h=>by
  have h:UV x=UV a:=h;injection h with h;subst h;rfl
theorem HQ: ∀{r:List PT} {x:List PV} {a:RT r},G1 r x=UV a->x=RT.pv r a
 | [],[],a,h=>rfl
 | [],_::_,a,h=>by cases h
 | [p],[v],a,h=>by rw [Fy (show A4 p v=UV a from h)];rfl
 | [p],[],a,h=>by cases h
 | [p],_::_::_,a,h=>by cases h
 |p::q::r,[],a,h=>by cases h
 |p::q::r,v::vs,a,h=>by
  have h:(match A4 p v,G1 (q::r) vs with
   |some a,UV b=>UV (a,b)
   |_,_=>acl)=UV a:=h
  cases h1:A4 p v with
  |none=>rw [h1] at h;cases h
  |some x=>
   cases h2:G1 (q::r) vs with
   |none=>rw [h1,h2] at h;cases h
   |some y=>
    rw [h1,h2] at h;injection h with h;subst h;rw [Fy h1,HQ h2];rfl
theorem Fz {r:List PT}: ∀{x:List (List PV)} {l:List (RT r)},C6 r x=UV l->x=l.map (RT.pv r)
 | [],l,h=>by injection h with h;subst h;rfl
 |v::vs,l,h=>by
  have h:(match G1 r v,C6 r vs with
   |some a,UV l=>UV (a::l)
   |_,_=>acl)=UV l:=h
  cases h1:G1 r v with
  |none=>rw [h1] at h;cases h
  |some x=>
   cases h2:C6 r vs with
   |none=>rw [h1,h2] at h;cases h
   |some y=>
    rw [h1,h2] at h;injection h with h;subst h;rw [HQ h1,Fz h2];rfl
def agq:Option FuncId->List Value
 |none=>[]
 |some g=>[.func (.func g) ⟨[]⟩ ⟨[]⟩]
structure xP (P:Program) (f:FuncId) (q:Srt):Prop where
 some_: ∀(b off c:Nat) (l m:List (RT q.r)) (arr:Array Value) (el:TypeId) (w:World),0<PP l->PP l<=c->PP l<=1048576->q.fn l=UV m->PP m=PP l->w.heap[b]? =UV (.cells arr el (0,0))->
  bO (fun k=>arr[k]?) off (PP q.r) (l.map (RT.pv q.r))->off+PP l*PP q.r<=arr.size->
  Calls P f ⟨.slice (UV ⟨b,off,acl⟩) (PP l) c::agq q.g⟩ w fun x w'=>x= .returned (.tuple #[])/\(∃fin:Array Value,fin.size=arr.size/\w'.heap[b]? =UV (.cells fin el (0,0))/\bO (fun k=>fin[k]?) off (PP q.r) (m.map (RT.pv q.r))/\
   ∀j:Nat,off+PP l*PP q.r<=j->fin[j]? =arr[j]?)/\(∀b':Nat,b'<w.heap.size->b'≠b->w'.heap[b']? =w.heap[b']?)/\w.heap.size<=w'.heap.size/\w'.os=w.os/\w'.tape=w.tape/\w'.output=w.output
 none_: ∀(a:Option Addr) (c:Nat) (w:World),Calls P f ⟨.slice a 0 c::agq q.g⟩ w fun x w'=>x= .returned (.tuple #[])/\w'=w
theorem agr {im:Im} {loc:Loc} {g:Option FuncId} {r:List PV} {us:List Value} (h:W8 g r=true) (hu:eX im loc r us):us=agq g:=by
 unfold W8 at h;split at h
 · cases hu;rfl
 · rename_i g h'
   have:h'=g:=by simpa using h
   subst this;cases hu with
   |cons _ a _ b h1 h2=>
    cases h2;cases h1 with
    |eL _ _ _ as bs ha hb=>cases ha;cases hb;rfl
 cases h
theorem RZ {P:Program} {im:Im} {loc:Loc} {aE:cK} {fz:List Nat} {w w':World} {t e:Nat} {li:LI} {rows qQ:List Row} {arr fin:Array Value} {el:TypeId} (kB:SR im loc aE fz w) (hl:loc t=UV li) (ck:aE[t]? =UV (.arr e rows)) (dS:rows≠[]) (hf:has fz t=false)
 (ha:w.heap[li.df]? =UV (.cells arr el (0,0))) (hw:w'.heap[li.df]? =UV (.cells fin el (0,0))) (rQ: ∀b':Nat,b'<w.heap.size->b'≠li.df->w'.heap[b']? =w.heap[b']?) (qz:w.heap.size<=w'.heap.size) (ho:w'.os=w.os) (ht:w'.tape=w.tape) (hp:w'.output=w.output)
 (he:li.esz=e) (hn:li.n=PP qQ) (cW:(PP qQ)=PP rows) (hfs:fin.size=li.sz) (qE:li.sh+PP qQ*e<=li.sz) (hr:bO (fun k=>fin[k]?) li.sh e qQ):
 uH im loc aE w (.cu []) (aE.set t (.arr e qQ)) fz im loc w' (.tuple #[]):=by
 have ND:t<(PP aE):=(ut.1 ck).1;have afs:qQ≠[]:=by intro h;subst h;rw [List.length_nil] at cW;exact dS (AC.1 cW.symm)
 have IQ:(jR.arr e rows).bM=true:=m7 dS;have hs1:(jR.arr e qQ).bM=true:=m7 afs;have AM:=kB.free t li _ hl ck IQ hf;have old: ∀{u:Nat} {k:jR},(aE.set t (.arr e qQ))[u]? =UV k->(u=t/\k= .arr e qQ)\/(u≠t/\aE[u]? =UV k):=by
  intro u k h;rw [If] at h;split at h
  · rename_i e1;subst e1;first|(rw [pp ND] at h;injection h with h;exact .inl ⟨rfl,h.symm⟩)|(injection h with h;exact .inl ⟨rfl,h.symm⟩)
  rename_i dS;exact .inr ⟨fun e=>dS e.symm,h⟩
 have sol: ∀{u:Nat} {k:jR},(aE.set t (.arr e qQ))[u]? =UV k->k.bM=true-> ∃k0,aE[u]? =UV k0/\k0.bM=true:=by
  intro u k h hs;rcases old h with ⟨rfl,rfl⟩|⟨_,h⟩
  · exact ⟨_,ck,IQ⟩
  exact ⟨k,h,hs⟩
 have lt: ∀{b:Nat} {o:Obj},w.heap[b]? =UV o->b<w.heap.size:=fun h=>(v6.1 h).1
 exact {
  gD:= .refl _,dV:= .refl _
  vr:= .cu _ _ .nil
  sr:={
   bH:=fun b o hb=>by
    have h1:=kB.bH b o hb;have h2:b≠li.df:=fun h=>by rw [h,AM] at hb;cases hb
    rw [rQ b (lt h1) h2];exact h1
   df:=fun u lu hu=>by
    obtain ⟨k,hk,hb⟩:=kB.df u lu hu
    by_cases e1:u=t
    · subst e1
      rw [hl] at hu;injection hu with hu;subst hu;exact ⟨_,List.getElem?_set_self ND,he,hn,fun _=>⟨fin,el,hw,hfs,qE,hr⟩⟩
    refine ⟨k,by rw [List.getElem?_set_ne (fun h=>e1 h.symm)];exact hk,hb.fN (.refl _) (.refl _) fun hs=>?_⟩
    exact rQ _ (hb.lt hs) fun h=>e1 (kB.iI _ _ _ _ _ _ hu hl hk ck hs IQ h)
   iI:=fun u v lu lv k k' hu hv hk KW hs uD h=>by
    obtain ⟨k0,a,b⟩:=sol hk hs;obtain ⟨k1,c,d⟩:=sol KW uD;exact kB.iI _ _ _ _ _ _ hu hv a c b d h
   free:=fun u lu k hu hk hs hz=>by
    obtain ⟨k0,a,b⟩:=sol hk hs;exact kB.free _ _ _ hu a b hz}
  os:=ho,tape:=ht,output:=hp,size:=qz
  frame:=fun b hb h=>rQ b hb fun h2=>h t li _ hl ck IQ h2.symm
  dY:=fun b o h=> .inl h
  nE:=fun u lu h=> .inl h
  own:=fun u lu k hu hk hs=>by
   obtain ⟨k0,a,b⟩:=sol hk hs;exact .inr ⟨u,lu,k0,hu,a,b,rfl⟩}
theorem Oo {im:Im} {loc:Loc} {aE:cK} {fz:List Nat} {w:World} (kB:SR im loc aE fz w):uH im loc aE w (.cu []) aE fz im loc w (.tuple #[]) where
 gD:= .refl _
 dV:= .refl _
 vr:= .cu _ _ .nil
 sr:=kB
 os:=rfl
 tape:=rfl
 output:=rfl
 size:=Nat.le_refl _
 frame:=fun _ _ _=>rfl
 dY:=fun _ _ h=> .inl h
 nE:=fun _ _ h=> .inl h
 own:=fun t li k hl hk hs=> .inr ⟨t,li,k,hl,hk,hs,rfl⟩
theorem AP.srt {P:Program} {f:FuncId} {q:Srt} {fn:Func} {c:Code} (hf:P.funcs[f]? =UV fn) (p5:(fn.name== "runtime.NumGoroutine")=false) (hb:fn.body=UV c) (h0:q.fn []=UV []) (H:xP P f q):AP P f (I3 q):=by
 refine ⟨fn,c,hf,p5,hb,?_⟩;intro args aE fz v uI IJ hp im loc w us kB xf;unfold I3 at hp;split at hp
 case h_2=>cases hp
 rename_i t e1 off len cap ex r;split at hp
 case h_2=>cases hp
 rename_i e3 rows ck;split at hp
 case isFalse=>cases hp
 rename_i hc;simp only [Bool.and_eq_true,Nat.beq_eq,Bool.not_eq_true',Nat.ble_eq] at hc;obtain ⟨⟨⟨⟨⟨q1,rfl⟩,cW⟩,ik⟩,SI⟩,hg⟩:=hc;subst q1;have ik:len<=1048576:=ik;split at hp
 case h_2=>cases hp
 rename_i l Ka;split at hp
 case h_2=>cases hp
 rename_i m hm;split at hp
 case isFalse=>cases hp
 rename_i Kb;have Kb:(PP m)=(PP l):=by simpa using Kb
 injection hp with hp;simp only [Prod.mk.injEq] at hp;obtain ⟨rfl,rfl,rfl⟩:=hp;have lf:=Fz Ka;have zP:(PP l)=len:=by
  have:=congrArg List.length lf
  rw [List.length_take,Do] at this;omega
 obtain ⟨x0,Rv,rfl,IV,xf⟩: ∃x0 Rv,us=x0::Rv/\VR im loc (.own t (PP q.r) 0 len cap ex) x0/\eX im loc r Rv:=by cases xf with|cons _ a _ b h1 h2=>exact ⟨a,b,rfl,h1,h2⟩
 obtain rfl:=agr hg xf;obtain ⟨li,a,cY,rfl,hl,he,B0,hlc,Nj,_,AL⟩:=IV.gT;obtain ⟨k1,gQ,rR⟩:=kB.df t li hl;rw [ck] at gQ;injection gQ with gQ;subst gQ;obtain ⟨b1,b2,b3⟩:=rR;obtain rfl:(PP q.r)=e3:=by rw [<- b1,he]
 refine .inr ⟨ir hf p5 hb,?_⟩;rcases Nat.eq_zero_or_pos len with hz|GQ
 · subst hz
   obtain rfl:l=[]:=AC.1 zP;rw [h0] at hm;injection hm with hm;subst hm;refine (H.none_ a cY w).mono fun x w' ⟨hx,hw⟩=>⟨_,hx,im,loc,?_⟩
   subst hw
   have:aE.set t (.arr (PP q.r) (([]:List (RT q.r)).map (RT.pv q.r)++rows.drop 0))=aE:=by
    apply List.ext_getElem?;intro j;rw [If];split
    · rename_i e;subst e;rw [pp (ut.1 ck).1,ck];rfl
    rfl
   rw [this];exact Oo kB
 have nS:rows≠[]:=by intro h;subst h;simp at cW;omega
 obtain ⟨arr,el,sU,Iz,J',db⟩:=b3 nS;obtain ⟨Wx,rfl,qE⟩:li.n≠0/\a=UV ⟨li.df,li.sh,acl⟩/\li.sh+cY*PP q.r<=li.sz:=by
  rcases AL with h|⟨h1,h2,h3⟩
  · omega
  exact ⟨h1,by simpa using h2,by simpa using h3⟩
 have k7:len*PP q.r<=PP rows*(PP q.r):=Nat.mul_le_mul_right _ cW;subst zP;refine (H.some_ li.df li.sh cY l m arr el w GQ (by omega) (by omega) hm Kb sU (by rw [<- lf];exact db.take _) (by omega)).mono fun x w' ⟨hx,⟨fin,f1,f2,f3,f4⟩,rQ,qz,ho,htp,hpp⟩=>⟨_,hx,im,loc,?_⟩
 have hL:(m.map (RT.pv q.r)++rows.drop (PP l)).length=(PP rows):=by simp only [List.length_append,Do,List.length_drop,Kb];omega
 refine RZ (P:=P) kB hl ck nS SI sU f2 rQ qz ho htp hpp b1 (by rw [hL];exact b2) hL (by rw [f1];exact Iz) (by rw [hL];exact J') ?_
 refine f3.append ?_;rw [Do,Kb];intro i r hr;obtain ⟨g1,g2⟩:=(db.drop (PP l)) i r hr;refine ⟨g1,fun j c hc=>?_⟩
 obtain ⟨v,v1,v2⟩:=g2 j c hc;refine ⟨v,v1,?_⟩;show fin[_]? =UV v;rw [f4 _ (by omega)]
 exact v2
end Go.Vm
/- slices.Sort of numbers: the table's entry, by what the library's law says of the function. -/
namespace Go.Vm
theorem Cr (a:Int): ∀l:List Int,(NO a l).Perm (a::l)
 | []=> .refl _
 |b::r=>by
  unfold NO;cases decide (a<=b)
  · exact ((Cr a r).cons b).trans (.swap a b r)
  exact .refl _
theorem rW: ∀l:List Int,(lh l).Perm l
 | []=> .refl _
 |a::r=>(Cr a _).trans ((rW r).cons a)
theorem Db (a:Int): ∀{l:List Int},l.Pairwise (· <= ·)->(NO a l).Pairwise (· <= ·)
 | [],_=>by simp [NO]
 |b::r,h=>by
  obtain ⟨h1,h2⟩:=ww.1 h;unfold NO;cases hc:decide (a<=b)
  · have hc: ¬a<=b:=by simpa using hc
    refine ww.2 ⟨fun x hx=>?_,Db a h2⟩
    rcases NE.1 ((Cr a r).mem_iff.1 hx) with rfl|hx
    · omega
    exact h1 x hx
  have hc:a<=b:=by simpa using hc
  refine ww.2 ⟨fun x hx=>?_,h⟩
  rcases NE.1 hx with rfl|hx
  · exact hc
  have:=h1 x hx;omega
theorem vQ: ∀l:List Int,(lh l).Pairwise (· <= ·)
 | []=> .nil
 |a::r=>Db a (vQ r)
theorem rE (l:List Int):(lh l).length=(PP l):=(rW l).length_eq
theorem Ly (l:List Int):l.mergeSort (fun x y=>decide (x<=y))=lh l:=by
 refine List.Perm.eq_of_pairwise (le:=(· <= ·)) (fun a b _ _ h1 h2=>Int.le_antisymm h1 h2) ?_ (vQ l) ((List.mergeSort_perm _ _).trans (rW l).symm)
 have:=List.pairwise_mergeSort (le:=fun x y:Int=>decide (x<=y)) (fun a b c h1 h2=>by simp at*;omega) (fun a b=>by simp;omega) l
 exact this.imp fun h=>by simpa using h
theorem Oq {P:Program} {f:FuncId}
 (H1: ∀(df off cap:Nat) (zs:List Int) (w:World),Sort.Holds (Value.int .i64) w df off zs.toArray->df<w.heap.size->PP zs<4611686018427387904->
  Calls P f #[.slice (UV ⟨df,off,acl⟩) (PP zs) cap] w fun e w'=>e= .returned (.tuple #[])/\ ∃n os,w'=Sort.grow (Sort.putRow (Value.int .i64) (Sort.ahead w n) df off (zs.mergeSort fun x y=>decide (x<=y)).toArray) os)
 (b off c:Nat) (l:List Int) (arr:Array Value) (el:TypeId) (w:World) (ik:(PP l)<=1048576) (hw:w.heap[b]? =UV (.cells arr el (0,0)))
 (db:bO (fun k=>arr[k]?) off 1 (l.map (RT.pv [.i .i64]))) (qE:off+PP l*1<=arr.size):
 Calls P f #[.slice (UV ⟨b,off,acl⟩) (PP l) c] w fun x w'=>x= .returned (.tuple #[])/\(∃fin:Array Value,fin.size=arr.size/\w'.heap[b]? =UV (.cells fin el (0,0))/\bO (fun k=>fin[k]?) off 1 ((lh l).map (RT.pv [.i .i64]))/\
  ∀j:Nat,off+PP l*1<=j->fin[j]? =arr[j]?)/\(∀b':Nat,b'<w.heap.size->b'≠b->w'.heap[b']? =w.heap[b']?)/\w.heap.size<=w'.heap.size/\w'.os=w.os/\w'.tape=w.tape/\w'.output=w.output:=by
 have aop:b<w.heap.size:=(v6.1 hw).1;have qE:off+PP l<=arr.size:=by omega
 have cells: ∀(j:Nat),j<PP l->arr[off+j]? =UV (.int .i64 (l.toArray)[j]!):=fun j hj=>by
  have h1:(l.map (RT.pv [.i .i64]))[j]? =UV (RT.pv [.i .i64] l[j]):=by rw [IR,List.getElem?_eq_getElem hj];rfl
  obtain ⟨_,h2⟩:=db j _ h1;obtain ⟨v,v1,v2⟩:=h2 0 (.int .i64 l[j]) rfl;injection v1 with v1;subst v1;rw [show off+j*1+0=off+j by omega] at v2
  have:(l.toArray)[j]! =l[j]:=by rw [getElem!_pos _ j (by simpa using hj)];simp
  rw [this];exact v2
 have hH:Sort.Holds (Value.int .i64) w b off l.toArray:=fun j hj=>by
  have hj:j<(PP l):=by simpa using hj
  refine ⟨?_,?_⟩
  · simp only [World.cell?,hw];exact cells j hj
  simp [World.frozen?,hw]
 refine (H1 b off c l w hH aop (by omega)).mono fun x w' ⟨hx,n,os,Wl⟩=>⟨hx,?_⟩
 subst Wl;rw [Ly];have Kb:(lh l).length=(PP l):=rE l;have hp:(Sort.putRow (Value.int .i64) (Sort.ahead w n) b off (lh l).toArray).heap=w.heap.modify b (Sort.onCells (Sort.putCells (Value.int .i64) off (lh l).toArray)):=rfl;have qz:(w.heap.modify b (Sort.onCells (Sort.putCells (Value.int .i64) off (lh l).toArray))).size=w.heap.size:=Array.size_modify
 have Dy: ∀k:Nat,k<w.heap.size->(Sort.grow (Sort.putRow (Value.int .i64) (Sort.ahead w n) b off (lh l).toArray) os).heap[k]? =(w.heap.modify b (Sort.onCells (Sort.putCells (Value.int .i64) off (lh l).toArray)))[k]?:=fun k hk=>by
  show (_++os)[k]? =_;rw [hp,Array.getElem?_append,pp (by rw [qz];exact hk)]
 refine ⟨⟨Sort.putCells (Value.int .i64) off (lh l).toArray arr,by simp [Sort.putCells],?_,?_,?_⟩,fun k hk dS=>?_,?_,rfl,rfl,rfl⟩
 · rw [Dy b aop,EQ,pp rfl,hw];rfl
 · intro i r hr
   have hr:((lh l).map (RT.pv [.i .i64]))[i]? =UV r:=hr;rw [IR,Option.map_eq_some_iff] at hr;obtain ⟨a,ha,rfl⟩:=hr;have hi:i<(lh l).length:=(ut.1 ha).1;refine ⟨rfl,fun j c hc=>?_⟩
   cases j with
   |succ j=>cases hc
   |zero=>
    injection hc with hc;subst hc;refine ⟨_,rfl,?_⟩;show (Sort.putCells _ _ _ _)[off+i*1+0]? =_;rw [show off+i*1+0=off+i by omega]
    unfold Sort.putCells;rw [F0s,Array.getElem?_eq_getElem (by omega),M2,pp ⟨by omega,by simp;omega⟩,show off+i-off=i by omega]
    have:((lh l).toArray)[i]! =a:=by
     rw [getElem!_pos _ i (by simpa using hi)]
     have:=(ut.1 ha).2
     simpa using this
    rw [this]
 · intro j hj
   have hj:off+PP l<=j:=by omega
   unfold Sort.putCells;rw [F0s];cases arr[j]? with
   |none=>rfl
   |some x=>
    rw [M2,rc];intro h
    have:=h.2
    simp [Kb] at this;omega
 · rw [Dy k hk,EQ,rc (fun h=>dS h.symm)]
 show _<=(_++os).size
 rw [Array.size_append,hp,qz];omega
theorem xP.int {P:Program} {f:FuncId}
 (H1: ∀(df off cap:Nat) (zs:List Int) (w:World),Sort.Holds (Value.int .i64) w df off zs.toArray->df<w.heap.size->PP zs<4611686018427387904->
  Calls P f #[.slice (UV ⟨df,off,acl⟩) (PP zs) cap] w fun e w'=>e= .returned (.tuple #[])/\ ∃n os,w'=Sort.grow (Sort.putRow (Value.int .i64) (Sort.ahead w n) df off (zs.mergeSort fun x y=>decide (x<=y)).toArray) os)
 (H0: ∀(p:Option Addr) (cap:Nat) (w:World),Calls P f #[.slice p 0 cap] w fun e w'=>e= .returned (.tuple #[])/\w'=w):xP P f NY where
 none_ a c w:=H0 a c w
 some_ b off c l m arr el w _ _ ik hfn _ hw db qE:=by
  obtain rfl:lh l=m:=by injection hfn
  exact Oq H1 b off c l arr el w ik hw db qE
end Go.Vm
