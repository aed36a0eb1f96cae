/- The logical machine, part 4: SvSort, SvSortI. -/
import Derived.Test.YtbgoiokedpjgbaaGreatBVm3
import Derived.Test.YtbgoiokedpjgbaaGreatBVm2
import Derived.Sort.Grow
open List renaming getElem?_eq_some_iff->ut,pairwise_cons->ww,length_eq_zero_iff->AC,length_map->Do,getElem?_set->If,getElem?_map->IR,mem_cons->NE,length->PP
open Array renaming getElem?_eq_some_iff->v6,getElem?_modify->EQ,getElem?_mapIdx->F0s
open Option renaming map_some->M2,some->UV,none->acl
/- A function that puts the rows of a slice in order: what is asked of it in a program, and that the table's entry is then right. -/
namespace Go.Vm
theorem F2: ∀{p:PT} {x:PV} {a:p.T},By p x=UV a->x=p.pv a
 | .i k,.int l n,a,h=>by
  have h:(bif fA l k then UV n else acl)=UV a:=h
  cases hk:fA l k with
  |false=>rw [hk] at h;cases h
  |true=>
   rw [hk] at h;obtain rfl:=fj.1 hk;injection h with h;subst h;rfl
 | .b,.bool x,a,h=>by
  have h:UV x=UV a:=h;injection h with h;subst h;rfl
theorem Ih: ∀{r:List PT} {x:List PV} {a:RT r},Hn r x=UV a->x=RT.pv r a
 | [],[],a,h=>rfl
 | [],_::_,a,h=>by cases h
 | [p],[v],a,h=>by rw [F2 (show By p v=UV a from h)];rfl
 | [p],[],a,h=>by cases h
 | [p],_::_::_,a,h=>by cases h
 |p::q::r,[],a,h=>by cases h
 |p::q::r,v::vs,a,h=>by
  have h:(match By p v,Hn (q::r) vs with
   |some a,UV b=>UV (a,b)
   |_,_=>acl)=UV a:=h
  cases h1:By p v with
  |none=>rw [h1] at h;cases h
  |some x=>
   cases h2:Hn (q::r) vs with
   |none=>rw [h1,h2] at h;cases h
   |some y=>
    rw [h1,h2] at h;injection h with h;subst h;rw [F2 h1,Ih h2];rfl
theorem F3 {r:List PT}: ∀{x:List (List PV)} {l:List (RT r)},Dw r x=UV l->x=l.map (RT.pv r)
 | [],l,h=>by injection h with h;subst h;rfl
 |v::vs,l,h=>by
  have h:(match Hn r v,Dw r vs with
   |some a,UV l=>UV (a::l)
   |_,_=>acl)=UV l:=h
  cases h1:Hn r v with
  |none=>rw [h1] at h;cases h
  |some x=>
   cases h2:Dw r vs with
   |none=>rw [h1,h2] at h;cases h
   |some y=>
    rw [h1,h2] at h;injection h with h;subst h;rw [Ih h1,F3 h2];rfl
def ag8:Option FuncId->List Value
 |none=>[]
 |some g=>[.func (.func g) ⟨[]⟩ ⟨[]⟩]
structure yc (P:Program) (f:FuncId) (q:Srt):Prop where
 some_: ∀(b off c:Nat) (l m:List (RT q.r)) (arr:Array Value) (el:TypeId) (w:World),0<PP l->PP l<=c->PP l<=1048576->q.fn l=UV m->PP m=PP l->w.heap[b]? =UV (.cells arr el (0,0))->
  bO (fun k=>arr[k]?) off (PP q.r) (l.map (RT.pv q.r))->off+PP l*PP q.r<=arr.size->
  Calls P f ⟨.slice (UV ⟨b,off,acl⟩) (PP l) c::ag8 q.g⟩ w fun x w'=>x= .returned (.tuple #[])/\(∃fin:Array Value,fin.size=arr.size/\w'.heap[b]? =UV (.cells fin el (0,0))/\bO (fun k=>fin[k]?) off (PP q.r) (m.map (RT.pv q.r))/\
   ∀j:Nat,off+PP l*PP q.r<=j->fin[j]? =arr[j]?)/\(∀b':Nat,b'<w.heap.size->b'≠b->w'.heap[b']? =w.heap[b']?)/\w.heap.size<=w'.heap.size/\w'.os=w.os/\w'.tape=w.tape/\w'.output=w.output
 none_: ∀(a:Option Addr) (c:Nat) (w:World),Calls P f ⟨.slice a 0 c::ag8 q.g⟩ w fun x w'=>x= .returned (.tuple #[])/\w'=w
theorem ag9 {im:Im} {loc:Loc} {g:Option FuncId} {r:List PV} {us:List Value} (h:XG g r=true) (hu:eV im loc r us):us=ag8 g:=by
 unfold XG at h;split at h
 · cases hu;rfl
 · rename_i g h'
   have:h'=g:=by simpa using h
   subst this;cases hu with
   |cons _ a _ b h1 h2=>
    cases h2;cases h1 with
    |eI _ _ _ as bs ha hb=>cases ha;cases hb;rfl
 cases h
theorem Sv {P:Program} {im:Im} {loc:Loc} {aE:cH} {fz:List Nat} {w w':World} {t e:Nat} {li:LI} {rows rq:List Row} {arr fin:Array Value} {el:TypeId} (kI:SR im loc aE fz w) (hl:loc t=UV li) (ck:aE[t]? =UV (.arr e rows)) (dW:rows≠[]) (hf:has fz t=false)
 (ha:w.heap[li.df]? =UV (.cells arr el (0,0))) (hw:w'.heap[li.df]? =UV (.cells fin el (0,0))) (sx: ∀b':Nat,b'<w.heap.size->b'≠li.df->w'.heap[b']? =w.heap[b']?) (qR:w.heap.size<=w'.heap.size) (ho:w'.os=w.os) (ht:w'.tape=w.tape) (hp:w'.output=w.output)
 (he:li.esz=e) (hn:li.n=PP rq) (cT:(PP rq)=PP rows) (hfs:fin.size=li.sz) (qW:li.sh+PP rq*e<=li.sz) (hr:bO (fun k=>fin[k]?) li.sh e rq):
 u6 im loc aE w (.cq []) (aE.set t (.arr e rq)) fz im loc w' (.tuple #[]):=by
 have N1:t<(PP aE):=(ut.1 ck).1;have af':rq≠[]:=by intro h;subst h;rw [List.length_nil] at cT;exact dW (AC.1 cT.symm)
 have Jd:(jX.arr e rows).bL=true:=nv dW;have hs1:(jX.arr e rq).bL=true:=nv af';have Bh:=kI.free t li _ hl ck Jd hf;have old: ∀{u:Nat} {k:jX},(aE.set t (.arr e rq))[u]? =UV k->(u=t/\k= .arr e rq)\/(u≠t/\aE[u]? =UV k):=by
  intro u k h;rw [If] at h;split at h
  · rename_i e1;subst e1;first|(rw [pp N1] at h;injection h with h;exact .inl ⟨rfl,h.symm⟩)|(injection h with h;exact .inl ⟨rfl,h.symm⟩)
  rename_i dW;exact .inr ⟨fun e=>dW e.symm,h⟩
 have sol: ∀{u:Nat} {k:jX},(aE.set t (.arr e rq))[u]? =UV k->k.bL=true-> ∃k0,aE[u]? =UV k0/\k0.bL=true:=by
  intro u k h hs;rcases old h with ⟨rfl,rfl⟩|⟨_,h⟩
  · exact ⟨_,ck,Jd⟩
  exact ⟨k,h,hs⟩
 have lt: ∀{b:Nat} {o:Obj},w.heap[b]? =UV o->b<w.heap.size:=fun h=>(v6.1 h).1
 exact {
  gG:= .refl _,dS:= .refl _
  vr:= .cq _ _ .nil
  sr:={
   bG:=fun b o hb=>by
    have h1:=kI.bG b o hb;have h2:b≠li.df:=fun h=>by rw [h,Bh] at hb;cases hb
    rw [sx b (lt h1) h2];exact h1
   df:=fun u lu hu=>by
    obtain ⟨k,hk,hb⟩:=kI.df u lu hu
    by_cases e1:u=t
    · subst e1
      rw [hl] at hu;injection hu with hu;subst hu;exact ⟨_,List.getElem?_set_self N1,he,hn,fun _=>⟨fin,el,hw,hfs,qW,hr⟩⟩
    refine ⟨k,by rw [List.getElem?_set_ne (fun h=>e1 h.symm)];exact hk,hb.fU (.refl _) (.refl _) fun hs=>?_⟩
    exact sx _ (hb.lt hs) fun h=>e1 (kI.iK _ _ _ _ _ _ hu hl hk ck hs Jd h)
   iK:=fun u v lu lv k k' hu hv hk Lj hs uY h=>by
    obtain ⟨k0,a,b⟩:=sol hk hs;obtain ⟨k1,c,d⟩:=sol Lj uY;exact kI.iK _ _ _ _ _ _ hu hv a c b d h
   free:=fun u lu k hu hk hs hz=>by
    obtain ⟨k0,a,b⟩:=sol hk hs;exact kI.free _ _ _ hu a b hz}
  os:=ho,tape:=ht,output:=hp,size:=qR
  frame:=fun b hb h=>sx b hb fun h2=>h t li _ hl ck Jd h2.symm
  dX:=fun b o h=> .inl h
  nQ:=fun u lu h=> .inl h
  own:=fun u lu k hu hk hs=>by
   obtain ⟨k0,a,b⟩:=sol hk hs;exact .inr ⟨u,lu,k0,hu,a,b,rfl⟩}
theorem OO {im:Im} {loc:Loc} {aE:cH} {fz:List Nat} {w:World} (kI:SR im loc aE fz w):u6 im loc aE w (.cq []) aE fz im loc w (.tuple #[]) where
 gG:= .refl _
 dS:= .refl _
 vr:= .cq _ _ .nil
 sr:=kI
 os:=rfl
 tape:=rfl
 output:=rfl
 size:=Nat.le_refl _
 frame:=fun _ _ _=>rfl
 dX:=fun _ _ h=> .inl h
 nQ:=fun _ _ h=> .inl h
 own:=fun t li k hl hk hs=> .inr ⟨t,li,k,hl,hk,hs,rfl⟩
theorem Bk.srt {P:Program} {f:FuncId} {q:Srt} {fn:Func} {c:Code} (hf:P.funcs[f]? =UV fn) (qx:(fn.name== "runtime.NumGoroutine")=false) (hb:fn.body=UV c) (h0:q.fn []=UV []) (H:yc P f q):Bk P f (Jp q):=by
 refine ⟨fn,c,hf,qx,hb,?_⟩;intro args aE fz v u7 I8 hp im loc w us kI xA;unfold Jp at hp;split at hp
 case h_2=>cases hp
 rename_i t e1 off len cap ex r;split at hp
 case h_2=>cases hp
 rename_i e3 rows ck;split at hp
 case isFalse=>cases hp
 rename_i hc;simp only [Bool.and_eq_true,Nat.beq_eq,Bool.not_eq_true',Nat.ble_eq] at hc;obtain ⟨⟨⟨⟨⟨q1,rfl⟩,cT⟩,ij⟩,Tj⟩,hg⟩:=hc;subst q1;have ij:len<=1048576:=ij;split at hp
 case h_2=>cases hp
 rename_i l Ky;split at hp
 case h_2=>cases hp
 rename_i m hm;split at hp
 case isFalse=>cases hp
 rename_i Kz;have Kz:(PP m)=(PP l):=by simpa using Kz
 injection hp with hp;simp only [Prod.mk.injEq] at hp;obtain ⟨rfl,rfl,rfl⟩:=hp;have lB:=F3 Ky;have Ap:(PP l)=len:=by
  have:=congrArg List.length lB
  rw [List.length_take,Do] at this;omega
 obtain ⟨x0,R3,rfl,Jh,xA⟩: ∃x0 R3,us=x0::R3/\VR im loc (.own t (PP q.r) 0 len cap ex) x0/\eV im loc r R3:=by cases xA with|cons _ a _ b h1 h2=>exact ⟨a,b,rfl,h1,h2⟩
 obtain rfl:=ag9 hg xA;obtain ⟨li,a,cV,rfl,hl,he,Cv,hlc,NI,_,Bg⟩:=Jh.gV;obtain ⟨k1,gS,sy⟩:=kI.df t li hl;rw [ck] at gS;injection gS with gS;subst gS;obtain ⟨b1,b2,b3⟩:=sy;obtain rfl:(PP q.r)=e3:=by rw [<- b1,he]
 refine .inr ⟨iq hf qx hb,?_⟩;rcases Nat.eq_zero_or_pos len with hz|Hd
 · subst hz
   obtain rfl:l=[]:=AC.1 Ap;rw [h0] at hm;injection hm with hm;subst hm;refine (H.none_ a cV w).mono fun x w' ⟨hx,hw⟩=>⟨_,hx,im,loc,?_⟩
   subst hw
   have:aE.set t (.arr (PP q.r) (([]:List (RT q.r)).map (RT.pv q.r)++rows.drop 0))=aE:=by
    apply List.ext_getElem?;intro j;rw [If];split
    · rename_i e;subst e;rw [pp (ut.1 ck).1,ck];rfl
    rfl
   rw [this];exact OO kI
 have oe:rows≠[]:=by intro h;subst h;simp at cT;omega
 obtain ⟨arr,el,ti,IY,Kx,db⟩:=b3 oe;obtain ⟨Xb,rfl,qW⟩:li.n≠0/\a=UV ⟨li.df,li.sh,acl⟩/\li.sh+cV*PP q.r<=li.sz:=by
  rcases Bg with h|⟨h1,h2,h3⟩
  · omega
  exact ⟨h1,by simpa using h2,by simpa using h3⟩
 have ly:len*PP q.r<=PP rows*(PP q.r):=Nat.mul_le_mul_right _ cT;subst Ap;refine (H.some_ li.df li.sh cV l m arr el w Hd (by omega) (by omega) hm Kz ti (by rw [<- lB];exact db.take _) (by omega)).mono fun x w' ⟨hx,⟨fin,f1,f2,f3,f4⟩,sx,qR,ho,htp,hpp⟩=>⟨_,hx,im,loc,?_⟩
 have hL:(m.map (RT.pv q.r)++rows.drop (PP l)).length=(PP rows):=by simp only [List.length_append,Do,List.length_drop,Kz];omega
 refine Sv (P:=P) kI hl ck oe Tj ti f2 sx qR ho htp hpp b1 (by rw [hL];exact b2) hL (by rw [f1];exact IY) (by rw [hL];exact Kx) ?_
 refine f3.append ?_;rw [Do,Kz];intro i r hr;obtain ⟨g1,g2⟩:=(db.drop (PP l)) i r hr;refine ⟨g1,fun j c hc=>?_⟩
 obtain ⟨v,v1,v2⟩:=g2 j c hc;refine ⟨v,v1,?_⟩;show fin[_]? =UV v;rw [f4 _ (by omega)]
 exact v2
end Go.Vm
/- slices.Sort of numbers: the table's entry, by what the library's law says of the function. -/
namespace Go.Vm
theorem CY (a:Int): ∀l:List Int,(Ob a l).Perm (a::l)
 | []=> .refl _
 |b::r=>by
  unfold Ob;cases decide (a<=b)
  · exact ((CY a r).cons b).trans (.swap a b r)
  exact .refl _
theorem sE: ∀l:List Int,(lD l).Perm l
 | []=> .refl _
 |a::r=>(CY a _).trans ((sE r).cons a)
theorem DC (a:Int): ∀{l:List Int},l.Pairwise (· <= ·)->(Ob a l).Pairwise (· <= ·)
 | [],_=>by simp [Ob]
 |b::r,h=>by
  obtain ⟨h1,h2⟩:=ww.1 h;unfold Ob;cases hc:decide (a<=b)
  · have hc: ¬a<=b:=by simpa using hc
    refine ww.2 ⟨fun x hx=>?_,DC a h2⟩
    rcases NE.1 ((CY a r).mem_iff.1 hx) with rfl|hx
    · omega
    exact h1 x hx
  have hc:a<=b:=by simpa using hc
  refine ww.2 ⟨fun x hx=>?_,h⟩
  rcases NE.1 hx with rfl|hx
  · exact hc
  have:=h1 x hx;omega
theorem wk: ∀l:List Int,(lD l).Pairwise (· <= ·)
 | []=> .nil
 |a::r=>DC a (wk r)
theorem rY (l:List Int):(lD l).length=(PP l):=(sE l).length_eq
theorem LY (l:List Int):l.mergeSort (fun x y=>decide (x<=y))=lD l:=by
 refine List.Perm.eq_of_pairwise (le:=(· <= ·)) (fun a b _ _ h1 h2=>Int.le_antisymm h1 h2) ?_ (wk l) ((List.mergeSort_perm _ _).trans (sE l).symm)
 have:=List.pairwise_mergeSort (le:=fun x y:Int=>decide (x<=y)) (fun a b c h1 h2=>by simp at*;omega) (fun a b=>by simp;omega) l
 exact this.imp fun h=>by simpa using h
theorem OP {P:Program} {f:FuncId}
 (H1: ∀(df off cap:Nat) (zs:List Int) (w:World),Sort.Holds (Value.int .i64) w df off zs.toArray->df<w.heap.size->PP zs<4611686018427387904->
  Calls P f #[.slice (UV ⟨df,off,acl⟩) (PP zs) cap] w fun e w'=>e= .returned (.tuple #[])/\ ∃n os,w'=Sort.grow (Sort.putRow (Value.int .i64) (Sort.ahead w n) df off (zs.mergeSort fun x y=>decide (x<=y)).toArray) os)
 (b off c:Nat) (l:List Int) (arr:Array Value) (el:TypeId) (w:World) (ij:(PP l)<=1048576) (hw:w.heap[b]? =UV (.cells arr el (0,0)))
 (db:bO (fun k=>arr[k]?) off 1 (l.map (RT.pv [.i .i64]))) (qW:off+PP l*1<=arr.size):
 Calls P f #[.slice (UV ⟨b,off,acl⟩) (PP l) c] w fun x w'=>x= .returned (.tuple #[])/\(∃fin:Array Value,fin.size=arr.size/\w'.heap[b]? =UV (.cells fin el (0,0))/\bO (fun k=>fin[k]?) off 1 ((lD l).map (RT.pv [.i .i64]))/\
  ∀j:Nat,off+PP l*1<=j->fin[j]? =arr[j]?)/\(∀b':Nat,b'<w.heap.size->b'≠b->w'.heap[b']? =w.heap[b']?)/\w.heap.size<=w'.heap.size/\w'.os=w.os/\w'.tape=w.tape/\w'.output=w.output:=by
 have apr:b<w.heap.size:=(v6.1 hw).1;have qW:off+PP l<=arr.size:=by omega
 have cells: ∀(j:Nat),j<PP l->arr[off+j]? =UV (.int .i64 (l.toArray)[j]!):=fun j hj=>by
  have h1:(l.map (RT.pv [.i .i64]))[j]? =UV (RT.pv [.i .i64] l[j]):=by rw [IR,List.getElem?_eq_getElem hj];rfl
  obtain ⟨_,h2⟩:=db j _ h1;obtain ⟨v,v1,v2⟩:=h2 0 (.int .i64 l[j]) rfl;injection v1 with v1;subst v1;rw [show off+j*1+0=off+j by omega] at v2
  have:(l.toArray)[j]! =l[j]:=by rw [getElem!_pos _ j (by simpa using hj)];simp
  rw [this];exact v2
 have hH:Sort.Holds (Value.int .i64) w b off l.toArray:=fun j hj=>by
  have hj:j<(PP l):=by simpa using hj
  refine ⟨?_,?_⟩
  · simp only [World.cell?,hw];exact cells j hj
  simp [World.frozen?,hw]
 refine (H1 b off c l w hH apr (by omega)).mono fun x w' ⟨hx,n,os,WW⟩=>⟨hx,?_⟩
 subst WW;rw [LY];have Kz:(lD l).length=(PP l):=rY l;have hp:(Sort.putRow (Value.int .i64) (Sort.ahead w n) b off (lD l).toArray).heap=w.heap.modify b (Sort.onCells (Sort.putCells (Value.int .i64) off (lD l).toArray)):=rfl;have qR:(w.heap.modify b (Sort.onCells (Sort.putCells (Value.int .i64) off (lD l).toArray))).size=w.heap.size:=Array.size_modify
 have D1: ∀k:Nat,k<w.heap.size->(Sort.grow (Sort.putRow (Value.int .i64) (Sort.ahead w n) b off (lD l).toArray) os).heap[k]? =(w.heap.modify b (Sort.onCells (Sort.putCells (Value.int .i64) off (lD l).toArray)))[k]?:=fun k hk=>by
  show (_++os)[k]? =_;rw [hp,Array.getElem?_append,pp (by rw [qR];exact hk)]
 refine ⟨⟨Sort.putCells (Value.int .i64) off (lD l).toArray arr,by simp [Sort.putCells],?_,?_,?_⟩,fun k hk dW=>?_,?_,rfl,rfl,rfl⟩
 · rw [D1 b apr,EQ,pp rfl,hw];rfl
 · intro i r hr
   have hr:((lD l).map (RT.pv [.i .i64]))[i]? =UV r:=hr;rw [IR,Option.map_eq_some_iff] at hr;obtain ⟨a,ha,rfl⟩:=hr;have hi:i<(lD l).length:=(ut.1 ha).1;refine ⟨rfl,fun j c hc=>?_⟩
   cases j with
   |succ j=>cases hc
   |zero=>
    injection hc with hc;subst hc;refine ⟨_,rfl,?_⟩;show (Sort.putCells _ _ _ _)[off+i*1+0]? =_;rw [show off+i*1+0=off+i by omega]
    unfold Sort.putCells;rw [F0s,Array.getElem?_eq_getElem (by omega),M2,pp ⟨by omega,by simp;omega⟩,show off+i-off=i by omega]
    have:((lD l).toArray)[i]! =a:=by
     rw [getElem!_pos _ i (by simpa using hi)]
     have:=(ut.1 ha).2
     simpa using this
    rw [this]
 · intro j hj
   have hj:off+PP l<=j:=by omega
   unfold Sort.putCells;rw [F0s];cases arr[j]? with
   |none=>rfl
   |some x=>
    rw [M2,rc];intro h
    have:=h.2
    simp [Kz] at this;omega
 · rw [D1 k hk,EQ,rc (fun h=>dW h.symm)]
 show _<=(_++os).size
 rw [Array.size_append,hp,qR];omega
theorem yc.int {P:Program} {f:FuncId}
 (H1: ∀(df off cap:Nat) (zs:List Int) (w:World),Sort.Holds (Value.int .i64) w df off zs.toArray->df<w.heap.size->PP zs<4611686018427387904->
  Calls P f #[.slice (UV ⟨df,off,acl⟩) (PP zs) cap] w fun e w'=>e= .returned (.tuple #[])/\ ∃n os,w'=Sort.grow (Sort.putRow (Value.int .i64) (Sort.ahead w n) df off (zs.mergeSort fun x y=>decide (x<=y)).toArray) os)
 (H0: ∀(p:Option Addr) (cap:Nat) (w:World),Calls P f #[.slice p 0 cap] w fun e w'=>e= .returned (.tuple #[])/\w'=w):yc P f On where
 none_ a c w:=H0 a c w
 some_ b off c l m arr el w _ _ ij hfn _ hw db qW:=by
  obtain rfl:lD l=m:=by injection hfn
  exact OP H1 b off c l arr el w ij hw db qW
end Go.Vm
