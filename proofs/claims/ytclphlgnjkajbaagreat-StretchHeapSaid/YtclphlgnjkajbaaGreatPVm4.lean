/- The logical machine, part 4: SvSort, SvSortI. -/
import Derived.Test.YtclphlgnjkajbaaGreatPVm3
import Derived.Test.YtclphlgnjkajbaaGreatPVm2
import Derived.Sort.Grow
open List renaming getElem?_eq_some_iff->v4,pairwise_cons->ww,length_eq_zero_iff->AC,length_map->Do,getElem?_set->IR,getElem?_map->M2,mem_cons->PP,length->UV
open Array renaming getElem?_eq_some_iff->v6,getElem?_modify->EQ,getElem?_mapIdx->If
open Option renaming map_some->NE,some->acl,none->adc
/- A function that puts the rows of a slice in order: what is asked of it in a program, and that the table's entry is then right. -/
namespace Go.Vm
theorem DK: ∀{p:PT} {x:PV} {a:p.T},zH p x=acl a->x=p.pv a
 | .i k,.int l n,a,h=>by
  have h:(bif eE l k then acl n else adc)=acl a:=h;cases hk:eE l k with
  |false=>rw [hk] at h;cases h
  |true=>rw [hk] at h;obtain rfl:=ei.1 hk;injection h with h;subst h;rfl
 | .b,.bool x,a,h=>by have h:acl x=acl a:=h;injection h with h;subst h;rfl
theorem Fv: ∀{r:List PT} {x:List PV} {a:RT r},EL r x=acl a->x=RT.pv r a
 | [],[],a,h=>rfl
 | [],_::_,a,h=>by cases h
 | [p],[v],a,h=>by rw [DK (show zH p v=acl a from h)];rfl
 | [p],[],a,h=>by cases h
 | [p],_::_::_,a,h=>by cases h
 |p::q::r,[],a,h=>by cases h
 |p::q::r,v::vs,a,h=>by
  have h:(match zH p v,EL (q::r) vs with
   |some a,acl b=>acl (a,b)
   |_,_=>adc)=acl a:=h
  cases h1:zH p v with
  |none=>rw [h1] at h;cases h
  |some x=>
   cases h2:EL (q::r) vs with
   |none=>rw [h1,h2] at h;cases h
   |some y=>rw [h1,h2] at h;injection h with h;subst h;rw [DK h1,Fv h2];rfl
theorem DL {r:List PT}: ∀{x:List (List PV)} {l:List (RT r)},BA r x=acl l->x=l.map (RT.pv r)
 | [],l,h=>by injection h with h;subst h;rfl
 |v::vs,l,h=>by
  have h:(match EL r v,BA r vs with
   |some a,acl l=>acl (a::l)
   |_,_=>adc)=acl l:=h
  cases h1:EL r v with
  |none=>rw [h1] at h;cases h
  |some x=>
   cases h2:BA r vs with
   |none=>rw [h1,h2] at h;cases h
   |some y=>rw [h1,h2] at h;injection h with h;subst h;rw [Fv h1,DL h2];rfl
def Z4:Option FuncId->List Value
 |none=>[]
 |some g=>[.func (.func g) ⟨[]⟩ ⟨[]⟩]
structure DM (P:Program) (f:FuncId) (q:ZH):Prop where
 some_: ∀(b off c:Nat) (l m:List (RT q.r)) (arr:Array Value) (el:TypeId) (w:World),0<UV l->UV l<=c->UV l<=1048576->q.fn l=acl m->UV m=UV l->w.heap[b]? =acl (.cells arr el (0,0))->
  bF (fun k=>arr[k]?) off (UV q.r) (l.map (RT.pv q.r))->off+UV l*UV q.r<=arr.size->
  Calls P f ⟨.slice (acl ⟨b,off,adc⟩) (UV l) c::Z4 q.g⟩ w fun x w'=>x= .returned (.tuple #[])/\(∃fin:Array Value,fin.size=arr.size/\w'.heap[b]? =acl (.cells fin el (0,0))/\bF (fun k=>fin[k]?) off (UV q.r) (m.map (RT.pv q.r))/\
   ∀j:Nat,off+UV l*UV q.r<=j->fin[j]? =arr[j]?)/\(∀b':Nat,b'<w.heap.size->b'≠b->w'.heap[b']? =w.heap[b']?)/\w.heap.size<=w'.heap.size/\w'.os=w.os/\Tape w w'/\w'.output=w.output
 none_: ∀(a:Option Addr) (c:Nat) (w:World),Calls P f ⟨.slice a 0 c::Z4 q.g⟩ w fun x w'=>x= .returned (.tuple #[])/\w'=w
theorem Z5 {im:Im} {loc:Loc} {g:Option FuncId} {r:List PV} {us:List Value} (h:Sg g r=true) (hu:eh im loc r us):us=Z4 g:=by
 unfold Sg at h;split at h
 · cases hu;rfl
 · rename_i g h'
   have:h'=g:=by simpa using h
   subst this;cases hu with
   |cons _ a _ b h1 h2=>
    cases h2;cases h1 with
    |ef _ _ _ a2 bs ha hb=>cases ha;cases hb;rfl
 cases h
theorem NT {im:Im} {loc:Loc} {aD:bY} {fz:List Nat} {w w':World} {t e:Nat} {li:LI} {rows pD:List Row} {arr fin:Array Value} {el:TypeId} (jZ:SR im loc aD fz w) (hl:loc t=acl li) (bR:aD[t]? =acl (.arr e rows)) (dZ:rows≠[]) (hf:has fz t=false)
 (_ha:w.heap[li.cS]? =acl (.cells arr el (0,0))) (hw:w'.heap[li.cS]? =acl (.cells fin el (0,0))) (qm: ∀b':Nat,b'<w.heap.size->b'≠li.cS->w'.heap[b']? =w.heap[b']?) (o9:w.heap.size<=w'.heap.size) (ho:w'.os=w.os) (ht:Tape w w') (hp:w'.output=w.output)
 (he:li.esz=e) (hn:li.n=UV pD) (cy:(UV pD)=UV rows) (hfs:fin.size=li.sz) (sM:li.sh+UV pD*e<=li.sz) (hr:bF (fun k=>fin[k]?) li.sh e pD):
 sQ im loc aD w (.cj []) (aD.set t (.arr e pD)) fz im loc w' (.tuple #[]):=by
 have Nm:t<(UV aD):=(v4.1 bR).1;have Za:pD≠[]:=by intro h;subst h;rw [List.length_nil] at cy;exact dZ (AC.1 cy.symm)
 have Gd:(iZ.arr e rows).bC=true:=lK dZ;have hs1:(iZ.arr e pD).bC=true:=lK Za;have zn:=jZ.free t li _ hl bR Gd hf;have old: ∀{u:Nat} {k:iZ},(aD.set t (.arr e pD))[u]? =acl k->(u=t/\k= .arr e pD)\/(u≠t/\aD[u]? =acl k):=by
  intro u k h;rw [IR] at h;split at h
  · rename_i e1;subst e1;first|(rw [rc Nm] at h;injection h with h;exact .inl ⟨rfl,h.symm⟩)|(injection h with h;exact .inl ⟨rfl,h.symm⟩)
  rename_i dZ;exact .inr ⟨fun e=>dZ e.symm,h⟩
 have sol: ∀{u:Nat} {k:iZ},(aD.set t (.arr e pD))[u]? =acl k->k.bC=true-> ∃k0,aD[u]? =acl k0/\k0.bC=true:=by
  intro u k h hs;rcases old h with ⟨rfl,rfl⟩|⟨_,h⟩
  · exact ⟨_,bR,Gd⟩
  exact ⟨k,h,hs⟩
 have lt: ∀{b:Nat} {o:Obj},w.heap[b]? =acl o->b<w.heap.size:=fun h=>(v6.1 h).1
 exact {
  fO:= .refl _,dy:= .refl _
  vr:= .cj _ _ .nil
  sr:={
   bA:=fun b o hb=>by
    have h1:=jZ.bA b o hb;have h2:b≠li.cS:=fun h=>by rw [h,zn] at hb;cases hb
    rw [qm b (lt h1) h2];exact h1
   cS:=fun u lu hu=>by
    obtain ⟨k,hk,hb⟩:=jZ.cS u lu hu
    by_cases e1:u=t
    · subst e1
      rw [hl] at hu;injection hu with hu;subst hu;exact ⟨_,List.getElem?_set_self Nm,he,hn,fun _=>⟨fin,el,hw,hfs,sM,hr⟩⟩
    refine ⟨k,by rw [List.getElem?_set_ne (fun h=>e1 h.symm)];exact hk,hb.fh (.refl _) (.refl _) fun hs=>?_⟩
    exact qm _ (hb.lt hs) fun h=>e1 (jZ.gL _ _ _ _ _ _ hu hl hk bR hs Gd h)
   gL:=fun u v lu lv k k' hu hv hk HQ hs sN h=>by obtain ⟨k0,a,b⟩:=sol hk hs;obtain ⟨k1,c,d⟩:=sol HQ sN;exact jZ.gL _ _ _ _ _ _ hu hv a c b d h
   free:=fun u lu k hu hk hs hz=>by obtain ⟨k0,a,b⟩:=sol hk hs;exact jZ.free _ _ _ hu a b hz}
  os:=ho,tape:=ht,output:=hp,size:=o9
  frame:=fun b hb h=>qm b hb fun h2=>h t li _ hl bR Gd h2.symm
  dC:=fun b o h=> .inl h
  ma:=fun u lu h=> .inl h
  own:=fun u lu k hu hk hs=>by obtain ⟨k0,a,b⟩:=sol hk hs;exact .inr ⟨u,lu,k0,hu,a,b,rfl⟩}
theorem KK {im:Im} {loc:Loc} {aD:bY} {fz:List Nat} {w:World} (jZ:SR im loc aD fz w):sQ im loc aD w (.cj []) aD fz im loc w (.tuple #[]) where
 fO:= .refl _
 dy:= .refl _
 vr:= .cj _ _ .nil
 sr:=jZ
 os:=rfl
 tape:= .refl _
 output:=rfl
 size:=Nat.le_refl _
 frame:=fun _ _ _=>rfl
 dC:=fun _ _ h=> .inl h
 ma:=fun _ _ h=> .inl h
 own:=fun t li k hl hk hs=> .inr ⟨t,li,k,hl,hk,hs,rfl⟩
theorem Nc.srt {P:Program} {f:FuncId} {q:ZH} {fn:Func} {c:Code} (hf:P.funcs[f]? =acl fn) (rh:(fn.name== "runtime.NumGoroutine")=false) (hb:fn.body=acl c) (h0:q.fn []=acl []) (H:DM P f q):Nc P f (PB q):=by
 refine ⟨fn,c,hf,rh,hb,?_⟩;intro args aD fz v tM G' hp im loc w us jZ xM;unfold PB at hp;split at hp
 case h_2=>cases hp
 rename_i t e1 off len cap ex r;split at hp
 case h_2=>cases hp
 rename_i e3 rows bR;split at hp
 case isFalse=>cases hp
 rename_i hc;simp only [Bool.and_eq_true,Nat.beq_eq,Bool.not_eq_true',Nat.ble_eq] at hc;obtain ⟨⟨⟨⟨⟨q1,rfl⟩,cy⟩,jA⟩,OF⟩,hg⟩:=hc;subst q1;have jA:len<=1048576:=jA;split at hp
 case h_2=>cases hp
 rename_i l G7;split at hp
 case h_2=>cases hp
 rename_i m hm;split at hp
 case isFalse=>cases hp
 rename_i G9;have G9:(UV m)=(UV l):=by simpa using G9
 injection hp with hp;simp only [Prod.mk.injEq] at hp;obtain ⟨rfl,rfl,rfl⟩:=hp;have kY:=DL G7;have yo:(UV l)=len:=by have:=congrArg List.length kY;rw [List.length_take,Do] at this;omega
 obtain ⟨x0,Yz,rfl,Ez,xM⟩: ∃x0 Yz,us=x0::Yz/\VR im loc (.own t (UV q.r) 0 len cap ex) x0/\eh im loc r Yz:=by cases xM with|cons _ a _ b h1 h2=>exact ⟨a,b,rfl,h1,h2⟩
 obtain rfl:=Z5 hg xM;obtain ⟨li,a,cI,rfl,hl,he,BV,hlc,Lx,_,BX⟩:=Ez.gG;obtain ⟨k1,gI,qQ⟩:=jZ.cS t li hl;rw [bR] at gI;injection gI with gI;subst gI;obtain ⟨b1,b2,b3⟩:=qQ;obtain rfl:(UV q.r)=e3:=by rw [<- b1,he]
 refine .inr ⟨iG hf rh hb,?_⟩;rcases Nat.eq_zero_or_pos len with hz|M3
 · subst hz
   obtain rfl:l=[]:=AC.1 yo;rw [h0] at hm;injection hm with hm;subst hm;refine (H.none_ a cI w).mono fun x w' ⟨hx,hw⟩=>⟨_,hx,im,loc,?_⟩
   subst hw;have:aD.set t (.arr (UV q.r) (([]:List (RT q.r)).map (RT.pv q.r)++rows.drop 0))=aD:=by
    apply List.ext_getElem?;intro j;rw [IR];split
    · rename_i e;subst e;rw [rc (v4.1 bR).1,bR];rfl
    rfl
   rw [this];exact KK jZ
 have mz:rows≠[]:=by intro h;subst h;simp at cy;omega
 obtain ⟨arr,el,q8,F1,G6,cL⟩:=b3 mz;obtain ⟨RK,rfl,sM⟩:li.n≠0/\a=acl ⟨li.cS,li.sh,adc⟩/\li.sh+cI*UV q.r<=li.sz:=by
  rcases BX with h|⟨h1,h2,h3⟩
  · omega
  exact ⟨h1,by simpa using h2,by simpa using h3⟩
 have kC:len*UV q.r<=UV rows*(UV q.r):=Nat.mul_le_mul_right _ cy;subst yo;refine (H.some_ li.cS li.sh cI l m arr el w M3 (by omega) (by omega) hm G9 q8 (by rw [<- kY];exact cL.take _) (by omega)).mono fun x w' ⟨hx,⟨fin,f1,f2,f3,f4⟩,qm,o9,ho,htp,hpp⟩=>⟨_,hx,im,loc,?_⟩
 have hL:(m.map (RT.pv q.r)++rows.drop (UV l)).length=(UV rows):=by simp only [List.length_append,Do,List.length_drop,G9];omega
 refine NT jZ hl bR mz OF q8 f2 qm o9 ho htp hpp b1 (by rw [hL];exact b2) hL (by rw [f1];exact F1) (by rw [hL];exact G6) ?_;refine f3.append ?_;rw [Do,G9];intro i r hr;obtain ⟨g1,g2⟩:=(cL.drop (UV l)) i r hr;refine ⟨g1,fun j c hc=>?_⟩;obtain ⟨v,v1,v2⟩:=g2 j c hc;refine ⟨v,v1,?_⟩;show fin[_]? =acl v;rw [f4 _ (by omega)];exact v2
end Go.Vm
/- slices.Sort of numbers: the table's entry, by what the library's law says of the function. -/
namespace Go.Vm
theorem A4 (a:Int): ∀l:List Int,(Kb a l).Perm (a::l)
 | []=> .refl _
 |b::r=>by
  unfold Kb;cases decide (a<=b)
  · exact ((A4 a r).cons b).trans (.swap a b r)
  exact .refl _
theorem yO: ∀l:List Int,(nj l).Perm l
 | []=> .refl _
 |a::r=>(A4 a _).trans ((yO r).cons a)
theorem BG (a:Int): ∀{l:List Int},l.Pairwise (· <= ·)->(Kb a l).Pairwise (· <= ·)
 | [],_=>by simp [Kb]
 |b::r,h=>by
  obtain ⟨h1,h2⟩:=ww.1 h;unfold Kb;cases hc:decide (a<=b)
  · have hc: ¬a<=b:=by simpa using hc
    refine ww.2 ⟨fun x hx=>?_,BG a h2⟩;rcases PP.1 ((A4 a r).mem_iff.1 hx) with rfl|hx
    · omega
    exact h1 x hx
  have hc:a<=b:=by simpa using hc
  refine ww.2 ⟨fun x hx=>?_,h⟩;rcases PP.1 hx with rfl|hx
  · exact hc
  have:=h1 x hx;omega
theorem zW: ∀l:List Int,(nj l).Pairwise (· <= ·)
 | []=> .nil
 |a::r=>BG a (zW r)
theorem NU (l:List Int):(nj l).length=(UV l):=(yO l).length_eq
theorem Ix (l:List Int):l.mergeSort (fun x y=>decide (x<=y))=nj l:=by refine List.Perm.eq_of_pairwise (le:=(· <= ·)) (fun a b _ _ h1 h2=>Int.le_antisymm h1 h2) ?_ (zW l) ((List.mergeSort_perm _ _).trans (yO l).symm);have:=List.pairwise_mergeSort (le:=fun x y:Int=>decide (x<=y)) (fun a b c h1 h2=>by simp at*;omega) (fun a b=>by simp;omega) l;exact this.imp fun h=>by simpa using h
theorem KL {P:Program} {f:FuncId}
 (H1: ∀(cS off cap:Nat) (zs:List Int) (w:World),Sort.Holds (Value.int .i64) w cS off zs.toArray->cS<w.heap.size->UV zs<4611686018427387904->
  Calls P f #[.slice (acl ⟨cS,off,adc⟩) (UV zs) cap] w fun e w'=>e= .returned (.tuple #[])/\ ∃n os,w'=Sort.grow (Sort.putRow (Value.int .i64) (Sort.ahead w n) cS off (zs.mergeSort fun x y=>decide (x<=y)).toArray) os)
 (b off c:Nat) (l:List Int) (arr:Array Value) (el:TypeId) (w:World) (jA:(UV l)<=1048576) (hw:w.heap[b]? =acl (.cells arr el (0,0)))
 (cL:bF (fun k=>arr[k]?) off 1 (l.map (RT.pv [.i .i64]))) (sM:off+UV l*1<=arr.size):
 Calls P f #[.slice (acl ⟨b,off,adc⟩) (UV l) c] w fun x w'=>x= .returned (.tuple #[])/\(∃fin:Array Value,fin.size=arr.size/\w'.heap[b]? =acl (.cells fin el (0,0))/\bF (fun k=>fin[k]?) off 1 ((nj l).map (RT.pv [.i .i64]))/\
  ∀j:Nat,off+UV l*1<=j->fin[j]? =arr[j]?)/\(∀b':Nat,b'<w.heap.size->b'≠b->w'.heap[b']? =w.heap[b']?)/\w.heap.size<=w'.heap.size/\w'.os=w.os/\Tape w w'/\w'.output=w.output:=by
 have agj:b<w.heap.size:=(v6.1 hw).1;have sM:off+UV l<=arr.size:=by omega
 have cells: ∀(j:Nat),j<UV l->arr[off+j]? =acl (.int .i64 (l.toArray)[j]!):=fun j hj=>by
  have h1:(l.map (RT.pv [.i .i64]))[j]? =acl (RT.pv [.i .i64] l[j]):=by rw [M2,List.getElem?_eq_getElem hj];rfl
  obtain ⟨_,h2⟩:=cL j _ h1;obtain ⟨v,v1,v2⟩:=h2 0 (.int .i64 l[j]) rfl;injection v1 with v1;subst v1;rw [show off+j*1+0=off+j by omega] at v2;have:(l.toArray)[j]! =l[j]:=by rw [getElem!_pos _ j (by simpa using hj)];simp
  rw [this];exact v2
 have hH:Sort.Holds (Value.int .i64) w b off l.toArray:=fun j hj=>by
  have hj:j<(UV l):=by simpa using hj
  refine ⟨?_,?_⟩
  · simp only [World.cell?,hw];exact cells j hj
  simp [World.frozen?,hw]
 refine (H1 b off c l w hH agj (by omega)).mono fun x w' ⟨hx,n,os,Rw⟩=>⟨hx,?_⟩
 subst Rw;rw [Ix];have G9:(nj l).length=(UV l):=NU l;have hp:(Sort.putRow (Value.int .i64) (Sort.ahead w n) b off (nj l).toArray).heap=w.heap.modify b (Sort.onCells (Sort.putCells (Value.int .i64) off (nj l).toArray)):=rfl;have o9:(w.heap.modify b (Sort.onCells (Sort.putCells (Value.int .i64) off (nj l).toArray))).size=w.heap.size:=Array.size_modify;have BY: ∀k:Nat,k<w.heap.size->(Sort.grow (Sort.putRow (Value.int .i64) (Sort.ahead w n) b off (nj l).toArray) os).heap[k]? =(w.heap.modify b (Sort.onCells (Sort.putCells (Value.int .i64) off (nj l).toArray)))[k]?:=fun k hk=>by
  show (_++os)[k]? =_;rw [hp,Array.getElem?_append,rc (by rw [o9];exact hk)]
 refine ⟨⟨Sort.putCells (Value.int .i64) off (nj l).toArray arr,by simp [Sort.putCells],?_,?_,?_⟩,fun k hk dZ=>?_,?_,rfl,⟨rfl,Nat.le_add_right _ _⟩,rfl⟩
 · rw [BY b agj,EQ,rc rfl,hw];rfl
 · intro i r hr
   have hr:((nj l).map (RT.pv [.i .i64]))[i]? =acl r:=hr;rw [M2,Option.map_eq_some_iff] at hr;obtain ⟨a,ha,rfl⟩:=hr;have hi:i<(nj l).length:=(v4.1 ha).1;refine ⟨rfl,fun j c hc=>?_⟩;cases j with
   |succ j=>cases hc
   |zero=>
    injection hc with hc;subst hc;refine ⟨_,rfl,?_⟩;show (Sort.putCells _ _ _ _)[off+i*1+0]? =_;rw [show off+i*1+0=off+i by omega];unfold Sort.putCells;rw [If,Array.getElem?_eq_getElem (by omega),NE,rc ⟨by omega,by simp;omega⟩,show off+i-off=i by omega];have:((nj l).toArray)[i]! =a:=by rw [getElem!_pos _ i (by simpa using hi)];have:=(v4.1 ha).2;simpa using this
    rw [this]
 · intro j hj
   have hj:off+UV l<=j:=by omega
   unfold Sort.putCells;rw [If];cases arr[j]? with
   |none=>rfl
   |some x=>rw [NE,ut];intro h;have:=h.2;simp [G9] at this;omega
 · rw [BY k hk,EQ,ut (fun h=>dZ h.symm)]
 show _<=(_++os).size
 rw [Array.size_append,hp,o9];omega
theorem DM.int {P:Program} {f:FuncId}
 (H1: ∀(cS off cap:Nat) (zs:List Int) (w:World),Sort.Holds (Value.int .i64) w cS off zs.toArray->cS<w.heap.size->UV zs<4611686018427387904->
  Calls P f #[.slice (acl ⟨cS,off,adc⟩) (UV zs) cap] w fun e w'=>e= .returned (.tuple #[])/\ ∃n os,w'=Sort.grow (Sort.putRow (Value.int .i64) (Sort.ahead w n) cS off (zs.mergeSort fun x y=>decide (x<=y)).toArray) os)
 (H0: ∀(p:Option Addr) (cap:Nat) (w:World),Calls P f #[.slice p 0 cap] w fun e w'=>e= .returned (.tuple #[])/\w'=w):DM P f ajD where
 none_ a c w:=H0 a c w
 some_ b off c l m arr el w _ _ jA hfn _ hw cL sM:=by
  obtain rfl:nj l=m:=by injection hfn
  exact KL H1 b off c l arr el w jA hw cL sM
end Go.Vm
