/- The logical machine, part 4: SvSort, SvSortI. -/
import Derived.Test.YtbgoiokedpjgbaaGreatQVm3
import Derived.Test.YtbgoiokedpjgbaaGreatQVm2
import Derived.Sort.Grow
open List renaming getElem?_eq_some_iff->ut,pairwise_cons->ww,length_eq_zero_iff->AC,length_map->Do,getElem?_set->If,getElem?_map->IR,mem_cons->NE,length->PP
open Array renaming getElem?_eq_some_iff->v6,getElem?_modify->EQ,getElem?_mapIdx->F0s
open Option renaming map_some->M2,some->UV,none->WF
/- A function that puts the rows of a slice in order: what is asked of it in a program, and that the table's entry is then right. -/
namespace Go.Vm
theorem Gb: ∀{p:PT} {x:PV} {a:p.T},BI p x=UV a->x=p.pv a
 | .i k,.int l n,a,h=>by
  have h:(bif fE l k then UV n else WF)=UV a:=h
  cases hk:fE l k with
  |false=>rw [hk] at h;cases h
  |true=>
   rw [hk] at h;obtain rfl:=fu.1 hk;injection h with h;subst h;rfl
 | .b,.bool x,a,h=>by
  have h:UV x=UV a:=h;injection h with h;subst h;rfl
theorem IC: ∀{r:List PT} {x:List PV} {a:RT r},HD r x=UV a->x=RT.pv r a
 | [],[],a,h=>rfl
 | [],_::_,a,h=>by cases h
 | [p],[v],a,h=>by rw [Gb (show BI p v=UV a from h)];rfl
 | [p],[],a,h=>by cases h
 | [p],_::_::_,a,h=>by cases h
 |p::q::r,[],a,h=>by cases h
 |p::q::r,v::vs,a,h=>by
  have h:(match BI p v,HD (q::r) vs with
   |some a,UV b=>UV (a,b)
   |_,_=>WF)=UV a:=h
  cases h1:BI p v with
  |none=>rw [h1] at h;cases h
  |some x=>
   cases h2:HD (q::r) vs with
   |none=>rw [h1,h2] at h;cases h
   |some y=>
    rw [h1,h2] at h;injection h with h;subst h;rw [Gb h1,IC h2];rfl
theorem Gc {r:List PT}: ∀{x:List (List PV)} {l:List (RT r)},DP r x=UV l->x=l.map (RT.pv r)
 | [],l,h=>by injection h with h;subst h;rfl
 |v::vs,l,h=>by
  have h:(match HD r v,DP r vs with
   |some a,UV l=>UV (a::l)
   |_,_=>WF)=UV l:=h
  cases h1:HD r v with
  |none=>rw [h1] at h;cases h
  |some x=>
   cases h2:DP r vs with
   |none=>rw [h1,h2] at h;cases h
   |some y=>
    rw [h1,h2] at h;injection h with h;subst h;rw [IC h1,Gc h2];rfl
def ag0:Option FuncId->List Value
 |none=>[]
 |some g=>[.func (.func g) ⟨[]⟩ ⟨[]⟩]
structure yw (P:Program) (f:FuncId) (q:Srt):Prop where
 some_: ∀(b off c:Nat) (l m:List (RT q.r)) (arr:Array Value) (el:TypeId) (w:World),0<PP l->PP l<=c->PP l<=1048576->q.fn l=UV m->PP m=PP l->w.heap[b]? =UV (.cells arr el (0,0))->
  bO (fun k=>arr[k]?) off (PP q.r) (l.map (RT.pv q.r))->off+PP l*PP q.r<=arr.size->
  Calls P f ⟨.slice (UV ⟨b,off,WF⟩) (PP l) c::ag0 q.g⟩ w fun x w'=>x= .returned (.tuple #[])/\(∃fin:Array Value,fin.size=arr.size/\w'.heap[b]? =UV (.cells fin el (0,0))/\bO (fun k=>fin[k]?) off (PP q.r) (m.map (RT.pv q.r))/\
   ∀j:Nat,off+PP l*PP q.r<=j->fin[j]? =arr[j]?)/\(∀b':Nat,b'<w.heap.size->b'≠b->w'.heap[b']? =w.heap[b']?)/\w.heap.size<=w'.heap.size/\w'.os=w.os/\w'.tape=w.tape/\w'.output=w.output
 none_: ∀(a:Option Addr) (c:Nat) (w:World),Calls P f ⟨.slice a 0 c::ag0 q.g⟩ w fun x w'=>x= .returned (.tuple #[])/\w'=w
theorem ag1 {im:Im} {loc:Loc} {g:Option FuncId} {r:List PV} {us:List Value} (h:XG g r=true) (hu:fh im loc r us):us=ag0 g:=by
 unfold XG at h;split at h
 · cases hu;rfl
 · rename_i g h'
   have:h'=g:=by simpa using h
   subst this;cases hu with
   |cons _ a _ b h1 h2=>
    cases h2;cases h1 with
    |eV _ _ _ as bs ha hb=>cases ha;cases hb;rfl
 cases h
theorem SA {P:Program} {im:Im} {loc:Loc} {aD:cL} {fz:List Nat} {w w':World} {t e:Nat} {li:LI} {rows rA:List Row} {arr fin:Array Value} {el:TypeId} (kM:SR im loc aD fz w) (hl:loc t=UV li) (cq:aD[t]? =UV (.arr e rows)) (ec:rows≠[]) (hf:has fz t=false)
 (ha:w.heap[li.dh]? =UV (.cells arr el (0,0))) (hw:w'.heap[li.dh]? =UV (.cells fin el (0,0))) (sC: ∀b':Nat,b'<w.heap.size->b'≠li.dh->w'.heap[b']? =w.heap[b']?) (qT:w.heap.size<=w'.heap.size) (ho:w'.os=w.os) (ht:w'.tape=w.tape) (hp:w'.output=w.output)
 (he:li.esz=e) (hn:li.n=PP rA) (cY:(PP rA)=PP rows) (hfs:fin.size=li.sz) (qY:li.sh+PP rA*e<=li.sz) (hr:bO (fun k=>fin[k]?) li.sh e rA):
 vE im loc aD w (.cw []) (aD.set t (.arr e rA)) fz im loc w' (.tuple #[]):=by
 have Oi:t<(PP aD):=(ut.1 cq).1;have af2:rA≠[]:=by intro h;subst h;rw [List.length_nil] at cY;exact ec (AC.1 cY.symm)
 have Jy:(jW.arr e rows).bM=true:=nC ec;have hs1:(jW.arr e rA).bM=true:=nC af2;have Br:=kM.free t li _ hl cq Jy hf;have old: ∀{u:Nat} {k:jW},(aD.set t (.arr e rA))[u]? =UV k->(u=t/\k= .arr e rA)\/(u≠t/\aD[u]? =UV k):=by
  intro u k h;rw [If] at h;split at h
  · rename_i e1;subst e1;first|(rw [pp Oi] at h;injection h with h;exact .inl ⟨rfl,h.symm⟩)|(injection h with h;exact .inl ⟨rfl,h.symm⟩)
  rename_i ec;exact .inr ⟨fun e=>ec e.symm,h⟩
 have sol: ∀{u:Nat} {k:jW},(aD.set t (.arr e rA))[u]? =UV k->k.bM=true-> ∃k0,aD[u]? =UV k0/\k0.bM=true:=by
  intro u k h hs;rcases old h with ⟨rfl,rfl⟩|⟨_,h⟩
  · exact ⟨_,cq,Jy⟩
  exact ⟨k,h,hs⟩
 have lt: ∀{b:Nat} {o:Obj},w.heap[b]? =UV o->b<w.heap.size:=fun h=>(v6.1 h).1
 exact {
  gH:= .refl _,dV:= .refl _
  vr:= .cw _ _ .nil
  sr:={
   bH:=fun b o hb=>by
    have h1:=kM.bH b o hb;have h2:b≠li.dh:=fun h=>by rw [h,Br] at hb;cases hb
    rw [sC b (lt h1) h2];exact h1
   dh:=fun u lu hu=>by
    obtain ⟨k,hk,hb⟩:=kM.dh u lu hu
    by_cases e1:u=t
    · subst e1
      rw [hl] at hu;injection hu with hu;subst hu;exact ⟨_,List.getElem?_set_self Oi,he,hn,fun _=>⟨fin,el,hw,hfs,qY,hr⟩⟩
    refine ⟨k,by rw [List.getElem?_set_ne (fun h=>e1 h.symm)];exact hk,hb.fU (.refl _) (.refl _) fun hs=>?_⟩
    exact sC _ (hb.lt hs) fun h=>e1 (kM.iM _ _ _ _ _ _ hu hl hk cq hs Jy h)
   iM:=fun u v lu lv k k' hu hv hk LF hs vA h=>by
    obtain ⟨k0,a,b⟩:=sol hk hs;obtain ⟨k1,c,d⟩:=sol LF vA;exact kM.iM _ _ _ _ _ _ hu hv a c b d h
   free:=fun u lu k hu hk hs hz=>by
    obtain ⟨k0,a,b⟩:=sol hk hs;exact kM.free _ _ _ hu a b hz}
  os:=ho,tape:=ht,output:=hp,size:=qT
  frame:=fun b hb h=>sC b hb fun h2=>h t li _ hl cq Jy h2.symm
  eg:=fun b o h=> .inl h
  nR:=fun u lu h=> .inl h
  own:=fun u lu k hu hk hs=>by
   obtain ⟨k0,a,b⟩:=sol hk hs;exact .inr ⟨u,lu,k0,hu,a,b,rfl⟩}
theorem O4 {im:Im} {loc:Loc} {aD:cL} {fz:List Nat} {w:World} (kM:SR im loc aD fz w):vE im loc aD w (.cw []) aD fz im loc w (.tuple #[]) where
 gH:= .refl _
 dV:= .refl _
 vr:= .cw _ _ .nil
 sr:=kM
 os:=rfl
 tape:=rfl
 output:=rfl
 size:=Nat.le_refl _
 frame:=fun _ _ _=>rfl
 eg:=fun _ _ h=> .inl h
 nR:=fun _ _ h=> .inl h
 own:=fun t li k hl hk hs=> .inr ⟨t,li,k,hl,hk,hs,rfl⟩
theorem Bu.srt {P:Program} {f:FuncId} {q:Srt} {fn:Func} {c:Code} (hf:P.funcs[f]? =UV fn) (qx:(fn.name== "runtime.NumGoroutine")=false) (hb:fn.body=UV c) (h0:q.fn []=UV []) (H:yw P f q):Bu P f (JK q):=by
 refine ⟨fn,c,hf,qx,hb,?_⟩;intro args aD fz v vF Js hp im loc w us kM xU;unfold JK at hp;split at hp
 case h_2=>cases hp
 rename_i t e1 off len cap ex r;split at hp
 case h_2=>cases hp
 rename_i e3 rows cq;split at hp
 case isFalse=>cases hp
 rename_i hc;simp only [Bool.and_eq_true,Nat.beq_eq,Bool.not_eq_true',Nat.ble_eq] at hc;obtain ⟨⟨⟨⟨⟨q1,rfl⟩,cY⟩,ij⟩,Tl⟩,hg⟩:=hc;subst q1;have ij:len<=1048576:=ij;split at hp
 case h_2=>cases hp
 rename_i l KT;split at hp
 case h_2=>cases hp
 rename_i m hm;split at hp
 case isFalse=>cases hp
 rename_i KU;have KU:(PP m)=(PP l):=by simpa using KU
 injection hp with hp;simp only [Prod.mk.injEq] at hp;obtain ⟨rfl,rfl,rfl⟩:=hp;have lB:=Gc KT;have Az:(PP l)=len:=by
  have:=congrArg List.length lB
  rw [List.length_take,Do] at this;omega
 obtain ⟨x0,R9,rfl,JC,xU⟩: ∃x0 R9,us=x0::R9/\VR im loc (.own t (PP q.r) 0 len cap ex) x0/\fh im loc r R9:=by cases xU with|cons _ a _ b h1 h2=>exact ⟨a,b,rfl,h1,h2⟩
 obtain rfl:=ag1 hg xU;obtain ⟨li,a,c7,rfl,hl,he,CJ,hlc,NX,_,Bq⟩:=JC.gV;obtain ⟨k1,gS,sD⟩:=kM.dh t li hl;rw [cq] at gS;injection gS with gS;subst gS;obtain ⟨b1,b2,b3⟩:=sD;obtain rfl:(PP q.r)=e3:=by rw [<- b1,he]
 refine .inr ⟨iq hf qx hb,?_⟩;rcases Nat.eq_zero_or_pos len with hz|Hs
 · subst hz
   obtain rfl:l=[]:=AC.1 Az;rw [h0] at hm;injection hm with hm;subst hm;refine (H.none_ a c7 w).mono fun x w' ⟨hx,hw⟩=>⟨_,hx,im,loc,?_⟩
   subst hw
   have:aD.set t (.arr (PP q.r) (([]:List (RT q.r)).map (RT.pv q.r)++rows.drop 0))=aD:=by
    apply List.ext_getElem?;intro j;rw [If];split
    · rename_i e;subst e;rw [pp (ut.1 cq).1,cq];rfl
    rfl
   rw [this];exact O4 kM
 have oi:rows≠[]:=by intro h;subst h;simp at cY;omega
 obtain ⟨arr,el,tM,Ji,KS,de⟩:=b3 oi;obtain ⟨Xb,rfl,qY⟩:li.n≠0/\a=UV ⟨li.dh,li.sh,WF⟩/\li.sh+c7*PP q.r<=li.sz:=by
  rcases Bq with h|⟨h1,h2,h3⟩
  · omega
  exact ⟨h1,by simpa using h2,by simpa using h3⟩
 have ly:len*PP q.r<=PP rows*(PP q.r):=Nat.mul_le_mul_right _ cY;subst Az;refine (H.some_ li.dh li.sh c7 l m arr el w Hs (by omega) (by omega) hm KU tM (by rw [<- lB];exact de.take _) (by omega)).mono fun x w' ⟨hx,⟨fin,f1,f2,f3,f4⟩,sC,qT,ho,htp,hpp⟩=>⟨_,hx,im,loc,?_⟩
 have hL:(m.map (RT.pv q.r)++rows.drop (PP l)).length=(PP rows):=by simp only [List.length_append,Do,List.length_drop,KU];omega
 refine SA (P:=P) kM hl cq oi Tl tM f2 sC qT ho htp hpp b1 (by rw [hL];exact b2) hL (by rw [f1];exact Ji) (by rw [hL];exact KS) ?_
 refine f3.append ?_;rw [Do,KU];intro i r hr;obtain ⟨g1,g2⟩:=(de.drop (PP l)) i r hr;refine ⟨g1,fun j c hc=>?_⟩
 obtain ⟨v,v1,v2⟩:=g2 j c hc;refine ⟨v,v1,?_⟩;show fin[_]? =UV v;rw [f4 _ (by omega)]
 exact v2
end Go.Vm
/- slices.Sort of numbers: the table's entry, by what the library's law says of the function. -/
namespace Go.Vm
theorem Da (a:Int): ∀l:List Int,(Ow a l).Perm (a::l)
 | []=> .refl _
 |b::r=>by
  unfold Ow;cases decide (a<=b)
  · exact ((Da a r).cons b).trans (.swap a b r)
  exact .refl _
theorem sL: ∀l:List Int,(lD l).Perm l
 | []=> .refl _
 |a::r=>(Da a _).trans ((sL r).cons a)
theorem DV (a:Int): ∀{l:List Int},l.Pairwise (· <= ·)->(Ow a l).Pairwise (· <= ·)
 | [],_=>by simp [Ow]
 |b::r,h=>by
  obtain ⟨h1,h2⟩:=ww.1 h;unfold Ow;cases hc:decide (a<=b)
  · have hc: ¬a<=b:=by simpa using hc
    refine ww.2 ⟨fun x hx=>?_,DV a h2⟩
    rcases NE.1 ((Da a r).mem_iff.1 hx) with rfl|hx
    · omega
    exact h1 x hx
  have hc:a<=b:=by simpa using hc
  refine ww.2 ⟨fun x hx=>?_,h⟩
  rcases NE.1 hx with rfl|hx
  · exact hc
  have:=h1 x hx;omega
theorem wU: ∀l:List Int,(lD l).Pairwise (· <= ·)
 | []=> .nil
 |a::r=>DV a (wU r)
theorem si (l:List Int):(lD l).length=(PP l):=(sL l).length_eq
theorem Mh (l:List Int):l.mergeSort (fun x y=>decide (x<=y))=lD l:=by
 refine List.Perm.eq_of_pairwise (le:=(· <= ·)) (fun a b _ _ h1 h2=>Int.le_antisymm h1 h2) ?_ (wU l) ((List.mergeSort_perm _ _).trans (sL l).symm)
 have:=List.pairwise_mergeSort (le:=fun x y:Int=>decide (x<=y)) (fun a b c h1 h2=>by simp at*;omega) (fun a b=>by simp;omega) l
 exact this.imp fun h=>by simpa using h
theorem O5 {P:Program} {f:FuncId}
 (H1: ∀(dh off cap:Nat) (zs:List Int) (w:World),Sort.Holds (Value.int .i64) w dh off zs.toArray->dh<w.heap.size->PP zs<4611686018427387904->
  Calls P f #[.slice (UV ⟨dh,off,WF⟩) (PP zs) cap] w fun e w'=>e= .returned (.tuple #[])/\ ∃n os,w'=Sort.grow (Sort.putRow (Value.int .i64) (Sort.ahead w n) dh off (zs.mergeSort fun x y=>decide (x<=y)).toArray) os)
 (b off c:Nat) (l:List Int) (arr:Array Value) (el:TypeId) (w:World) (ij:(PP l)<=1048576) (hw:w.heap[b]? =UV (.cells arr el (0,0)))
 (de:bO (fun k=>arr[k]?) off 1 (l.map (RT.pv [.i .i64]))) (qY:off+PP l*1<=arr.size):
 Calls P f #[.slice (UV ⟨b,off,WF⟩) (PP l) c] w fun x w'=>x= .returned (.tuple #[])/\(∃fin:Array Value,fin.size=arr.size/\w'.heap[b]? =UV (.cells fin el (0,0))/\bO (fun k=>fin[k]?) off 1 ((lD l).map (RT.pv [.i .i64]))/\
  ∀j:Nat,off+PP l*1<=j->fin[j]? =arr[j]?)/\(∀b':Nat,b'<w.heap.size->b'≠b->w'.heap[b']? =w.heap[b']?)/\w.heap.size<=w'.heap.size/\w'.os=w.os/\w'.tape=w.tape/\w'.output=w.output:=by
 have aoz:b<w.heap.size:=(v6.1 hw).1;have qY:off+PP l<=arr.size:=by omega
 have cells: ∀(j:Nat),j<PP l->arr[off+j]? =UV (.int .i64 (l.toArray)[j]!):=fun j hj=>by
  have h1:(l.map (RT.pv [.i .i64]))[j]? =UV (RT.pv [.i .i64] l[j]):=by rw [IR,List.getElem?_eq_getElem hj];rfl
  obtain ⟨_,h2⟩:=de j _ h1;obtain ⟨v,v1,v2⟩:=h2 0 (.int .i64 l[j]) rfl;injection v1 with v1;subst v1;rw [show off+j*1+0=off+j by omega] at v2
  have:(l.toArray)[j]! =l[j]:=by rw [getElem!_pos _ j (by simpa using hj)];simp
  rw [this];exact v2
 have hH:Sort.Holds (Value.int .i64) w b off l.toArray:=fun j hj=>by
  have hj:j<(PP l):=by simpa using hj
  refine ⟨?_,?_⟩
  · simp only [World.cell?,hw];exact cells j hj
  simp [World.frozen?,hw]
 refine (H1 b off c l w hH aoz (by omega)).mono fun x w' ⟨hx,n,os,WV⟩=>⟨hx,?_⟩
 subst WV;rw [Mh];have KU:(lD l).length=(PP l):=si l;have hp:(Sort.putRow (Value.int .i64) (Sort.ahead w n) b off (lD l).toArray).heap=w.heap.modify b (Sort.onCells (Sort.putCells (Value.int .i64) off (lD l).toArray)):=rfl;have qT:(w.heap.modify b (Sort.onCells (Sort.putCells (Value.int .i64) off (lD l).toArray))).size=w.heap.size:=Array.size_modify
 have Eb: ∀k:Nat,k<w.heap.size->(Sort.grow (Sort.putRow (Value.int .i64) (Sort.ahead w n) b off (lD l).toArray) os).heap[k]? =(w.heap.modify b (Sort.onCells (Sort.putCells (Value.int .i64) off (lD l).toArray)))[k]?:=fun k hk=>by
  show (_++os)[k]? =_;rw [hp,Array.getElem?_append,pp (by rw [qT];exact hk)]
 refine ⟨⟨Sort.putCells (Value.int .i64) off (lD l).toArray arr,by simp [Sort.putCells],?_,?_,?_⟩,fun k hk ec=>?_,?_,rfl,rfl,rfl⟩
 · rw [Eb b aoz,EQ,pp rfl,hw];rfl
 · intro i r hr
   have hr:((lD l).map (RT.pv [.i .i64]))[i]? =UV r:=hr;rw [IR,Option.map_eq_some_iff] at hr;obtain ⟨a,ha,rfl⟩:=hr;have hi:i<(lD l).length:=(ut.1 ha).1;refine ⟨rfl,fun j c hc=>?_⟩
   cases j with
   |succ j=>cases hc
   |zero=>
    injection hc with hc;subst hc;refine ⟨_,rfl,?_⟩;show (Sort.putCells _ _ _ _)[off+i*1+0]? =_;rw [show off+i*1+0=off+i by omega]
    unfold Sort.putCells;rw [F0s,Array.getElem?_eq_getElem (by omega),M2,pp ⟨by omega,by simp;omega⟩,show off+i-off=i by omega]
    have:((lD l).toArray)[i]! =a:=by
     rw [getElem!_pos _ i (by simpa using hi)]
     have:=(ut.1 ha).2
     simpa using this
    rw [this]
 · intro j hj
   have hj:off+PP l<=j:=by omega
   unfold Sort.putCells;rw [F0s];cases arr[j]? with
   |none=>rfl
   |some x=>
    rw [M2,rc];intro h
    have:=h.2
    simp [KU] at this;omega
 · rw [Eb k hk,EQ,rc (fun h=>ec h.symm)]
 show _<=(_++os).size
 rw [Array.size_append,hp,qT];omega
theorem yw.int {P:Program} {f:FuncId}
 (H1: ∀(dh off cap:Nat) (zs:List Int) (w:World),Sort.Holds (Value.int .i64) w dh off zs.toArray->dh<w.heap.size->PP zs<4611686018427387904->
  Calls P f #[.slice (UV ⟨dh,off,WF⟩) (PP zs) cap] w fun e w'=>e= .returned (.tuple #[])/\ ∃n os,w'=Sort.grow (Sort.putRow (Value.int .i64) (Sort.ahead w n) dh off (zs.mergeSort fun x y=>decide (x<=y)).toArray) os)
 (H0: ∀(p:Option Addr) (cap:Nat) (w:World),Calls P f #[.slice p 0 cap] w fun e w'=>e= .returned (.tuple #[])/\w'=w):yw P f OG where
 none_ a c w:=H0 a c w
 some_ b off c l m arr el w _ _ ij hfn _ hw de qY:=by
  obtain rfl:lD l=m:=by injection hfn
  exact O5 H1 b off c l arr el w ij hw de qY
end Go.Vm
