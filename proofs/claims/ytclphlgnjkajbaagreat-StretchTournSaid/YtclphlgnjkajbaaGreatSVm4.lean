/- The logical machine, part 4: SvSort, SvSortI. -/
import Derived.Test.YtclphlgnjkajbaaGreatSVm3
import Derived.Test.YtclphlgnjkajbaaGreatSVm2
import Derived.Sort.Grow
open List renaming getElem?_eq_some_iff->v6,pairwise_cons->AC,length_eq_zero_iff->Do,length_map->EQ,getElem?_set->M2,getElem?_map->NE,mem_cons->UV,length->WF
open Array renaming getElem?_eq_some_iff->ww,getElem?_modify->If,getElem?_mapIdx->IR
open Option renaming map_some->PP,some->aah,none->aal
/- A function that puts the rows of a slice in order: what is asked of it in a program, and that the table's entry is then right. -/
namespace Go.Vm
theorem E2: ∀{p:PT} {x:PV} {a:p.T},AQ p x=aah a->x=p.pv a
 | .i k,.int l n,a,h=>by
  have h:(bif fk l k then aah n else aal)=aah a:=h;cases hk:fk l k with
  |false=>rw [hk] at h;cases h
  |true=>rw [hk] at h;obtain rfl:=eU.1 hk;injection h with h;subst h;rfl
 | .b,.bool x,a,h=>by have h:aah x=aah a:=h;injection h with h;subst h;rfl
theorem G6: ∀{r:List PT} {x:List PV} {a:RT r},Gd r x=aah a->x=RT.pv r a
 | [],[],a,h=>rfl
 | [],_::_,a,h=>by cases h
 | [p],[v],a,h=>by rw [E2 (show AQ p v=aah a from h)];rfl
 | [p],[],a,h=>by cases h
 | [p],_::_::_,a,h=>by cases h
 |p::q::r,[],a,h=>by cases h
 |p::q::r,v::vs,a,h=>by
  have h:(match AQ p v,Gd (q::r) vs with
   |some a,aah b=>aah (a,b)
   |_,_=>aal)=aah a:=h
  cases h1:AQ p v with
  |none=>rw [h1] at h;cases h
  |some x=>
   cases h2:Gd (q::r) vs with
   |none=>rw [h1,h2] at h;cases h
   |some y=>rw [h1,h2] at h;injection h with h;subst h;rw [E2 h1,G6 h2];rfl
theorem E3 {r:List PT}: ∀{x:List (List PV)} {l:List (RT r)},CO r x=aah l->x=l.map (RT.pv r)
 | [],l,h=>by injection h with h;subst h;rfl
 |v::vs,l,h=>by
  have h:(match Gd r v,CO r vs with
   |some a,aah l=>aah (a::l)
   |_,_=>aal)=aah l:=h
  cases h1:Gd r v with
  |none=>rw [h1] at h;cases h
  |some x=>
   cases h2:CO r vs with
   |none=>rw [h1,h2] at h;cases h
   |some y=>rw [h1,h2] at h;injection h with h;subst h;rw [G6 h1,E3 h2];rfl
def aaW:Option FuncId->List Value
 |none=>[]
 |some g=>[.func (.func g) ⟨[]⟩ ⟨[]⟩]
structure xp (P:Program) (f:FuncId) (q:Srt):Prop where
 some_: ∀(b off c:Nat) (l m:List (RT q.r)) (arr:Array Value) (el:TypeId) (w:World),0<WF l->WF l<=c->WF l<=1048576->q.fn l=aah m->WF m=WF l->w.heap[b]? =aah (.cells arr el (0,0))->
  bK (fun k=>arr[k]?) off (WF q.r) (l.map (RT.pv q.r))->off+WF l*WF q.r<=arr.size->
  Calls P f ⟨.slice (aah ⟨b,off,aal⟩) (WF l) c::aaW q.g⟩ w fun x w'=>x= .returned (.tuple #[])/\(∃fin:Array Value,fin.size=arr.size/\w'.heap[b]? =aah (.cells fin el (0,0))/\bK (fun k=>fin[k]?) off (WF q.r) (m.map (RT.pv q.r))/\
   ∀j:Nat,off+WF l*WF q.r<=j->fin[j]? =arr[j]?)/\(∀b':Nat,b'<w.heap.size->b'≠b->w'.heap[b']? =w.heap[b']?)/\w.heap.size<=w'.heap.size/\w'.os=w.os/\Tape w w'/\w'.output=w.output
 none_: ∀(a:Option Addr) (c:Nat) (w:World),Calls P f ⟨.slice a 0 c::aaW q.g⟩ w fun x w'=>x= .returned (.tuple #[])/\w'=w
theorem aaX {im:Im} {loc:Loc} {g:Option FuncId} {r:List PV} {us:List Value} (h:UH g r=true) (hu:eI im loc r us):us=aaW g:=by
 unfold UH at h;split at h
 · cases hu;rfl
 · rename_i g h'
   have:h'=g:=by simpa using h
   subst this;cases hu with
   |cons _ a _ b h1 h2=>
    cases h2;cases h1 with
    |ez _ _ _ a2 bs ha hb=>cases ha;cases hb;rfl
 cases h
theorem PH {im:Im} {loc:Loc} {ax:cw} {fz:List Nat} {w w':World} {t e:Nat} {li:LI} {rows p4:List Row} {arr fin:Array Value} {el:TypeId} (jS:SR im loc ax fz w) (hl:loc t=aah li) (bW:ax[t]? =aah (.arr e rows)) (dK:rows≠[]) (hf:has fz t=false)
 (_ha:w.heap[li.c6]? =aah (.cells arr el (0,0))) (hw:w'.heap[li.c6]? =aah (.cells fin el (0,0))) (qG: ∀b':Nat,b'<w.heap.size->b'≠li.c6->w'.heap[b']? =w.heap[b']?) (pL:w.heap.size<=w'.heap.size) (ho:w'.os=w.os) (ht:Tape w w') (hp:w'.output=w.output)
 (he:li.esz=e) (hn:li.n=WF p4) (cO:(WF p4)=WF rows) (hfs:fin.size=li.sz) (pQ:li.sh+WF p4*e<=li.sz) (hr:bK (fun k=>fin[k]?) li.sh e p4):
 tV im loc ax w (.cy []) (ax.set t (.arr e p4)) fz im loc w' (.tuple #[]):=by
 have L1:t<(WF ax):=(v6.1 bW).1;have Z1:p4≠[]:=by intro h;subst h;rw [List.length_nil] at cO;exact dK (Do.1 cO.symm)
 have H3:(jx.arr e rows).bH=true:=mE dK;have hs1:(jx.arr e p4).bH=true:=mE Z1;have Ax:=jS.free t li _ hl bW H3 hf;have old: ∀{u:Nat} {k:jx},(ax.set t (.arr e p4))[u]? =aah k->(u=t/\k= .arr e p4)\/(u≠t/\ax[u]? =aah k):=by
  intro u k h;rw [M2] at h;split at h
  · rename_i e1;subst e1;first|(rw [rc L1] at h;injection h with h;exact .inl ⟨rfl,h.symm⟩)|(injection h with h;exact .inl ⟨rfl,h.symm⟩)
  rename_i dK;exact .inr ⟨fun e=>dK e.symm,h⟩
 have sol: ∀{u:Nat} {k:jx},(ax.set t (.arr e p4))[u]? =aah k->k.bH=true-> ∃k0,ax[u]? =aah k0/\k0.bH=true:=by
  intro u k h hs;rcases old h with ⟨rfl,rfl⟩|⟨_,h⟩
  · exact ⟨_,bW,H3⟩
  exact ⟨k,h,hs⟩
 have lt: ∀{b:Nat} {o:Obj},w.heap[b]? =aah o->b<w.heap.size:=fun h=>(ww.1 h).1
 exact {
  gn:= .refl _,dI:= .refl _
  vr:= .cy _ _ .nil
  sr:={
   bB:=fun b o hb=>by
    have h1:=jS.bB b o hb;have h2:b≠li.c6:=fun h=>by rw [h,Ax] at hb;cases hb
    rw [qG b (lt h1) h2];exact h1
   c6:=fun u lu hu=>by
    obtain ⟨k,hk,hb⟩:=jS.c6 u lu hu
    by_cases e1:u=t
    · subst e1
      rw [hl] at hu;injection hu with hu;subst hu;exact ⟨_,List.getElem?_set_self L1,he,hn,fun _=>⟨fin,el,hw,hfs,pQ,hr⟩⟩
    refine ⟨k,by rw [List.getElem?_set_ne (fun h=>e1 h.symm)];exact hk,hb.ft (.refl _) (.refl _) fun hs=>?_⟩
    exact qG _ (hb.lt hs) fun h=>e1 (jS.iq _ _ _ _ _ _ hu hl hk bW hs H3 h)
   iq:=fun u v lu lv k k' hu hv hk TW hs tR h=>by obtain ⟨k0,a,b⟩:=sol hk hs;obtain ⟨k1,c,d⟩:=sol TW tR;exact jS.iq _ _ _ _ _ _ hu hv a c b d h
   free:=fun u lu k hu hk hs hz=>by obtain ⟨k0,a,b⟩:=sol hk hs;exact jS.free _ _ _ hu a b hz}
  os:=ho,tape:=ht,output:=hp,size:=pL
  frame:=fun b hb h=>qG b hb fun h2=>h t li _ hl bW H3 h2.symm
  dM:=fun b o h=> .inl h
  mP:=fun u lu h=> .inl h
  own:=fun u lu k hu hk hs=>by obtain ⟨k0,a,b⟩:=sol hk hs;exact .inr ⟨u,lu,k0,hu,a,b,rfl⟩}
theorem MI {im:Im} {loc:Loc} {ax:cw} {fz:List Nat} {w:World} (jS:SR im loc ax fz w):tV im loc ax w (.cy []) ax fz im loc w (.tuple #[]) where
 gn:= .refl _
 dI:= .refl _
 vr:= .cy _ _ .nil
 sr:=jS
 os:=rfl
 tape:= .refl _
 output:=rfl
 size:=Nat.le_refl _
 frame:=fun _ _ _=>rfl
 dM:=fun _ _ h=> .inl h
 mP:=fun _ _ h=> .inl h
 own:=fun t li k hl hk hs=> .inr ⟨t,li,k,hl,hk,hs,rfl⟩
theorem AA.srt {P:Program} {f:FuncId} {q:Srt} {fn:Func} {c:Code} (hf:P.funcs[f]? =aah fn) (pt:(fn.name== "runtime.NumGoroutine")=false) (hb:fn.body=aah c) (h0:q.fn []=aah []) (H:xp P f q):AA P f (Ih q):=by
 refine ⟨fn,c,hf,pt,hb,?_⟩;intro args ax fz v tX HU hp im loc w us jS wI;unfold Ih at hp;split at hp
 case h_2=>cases hp
 rename_i t e1 off len cap ex r;split at hp
 case h_2=>cases hp
 rename_i e3 rows bW;split at hp
 case isFalse=>cases hp
 rename_i hc;simp only [Bool.and_eq_true,Nat.beq_eq,Bool.not_eq_true',Nat.ble_eq] at hc;obtain ⟨⟨⟨⟨⟨q1,rfl⟩,cO⟩,gX⟩,Qm⟩,hg⟩:=hc;subst q1;have gX:len<=1048576:=gX;split at hp
 case h_2=>cases hp
 rename_i l I9;split at hp
 case h_2=>cases hp
 rename_i m hm;split at hp
 case isFalse=>cases hp
 rename_i Ja;have Ja:(WF m)=(WF l):=by simpa using Ja
 injection hp with hp;simp only [Prod.mk.injEq] at hp;obtain ⟨rfl,rfl,rfl⟩:=hp;have kJ:=E3 I9;have zw:(WF l)=len:=by have:=congrArg List.length kJ;rw [List.length_take,EQ] at this;omega
 obtain ⟨x0,Pf,rfl,H7,wI⟩: ∃x0 Pf,us=x0::Pf/\VR im loc (.own t (WF q.r) 0 len cap ex) x0/\eI im loc r Pf:=by cases wI with|cons _ a _ b h1 h2=>exact ⟨a,b,rfl,h1,h2⟩
 obtain rfl:=aaX hg wI;obtain ⟨li,a,cP,rfl,hl,he,BC,hlc,LD,_,Av⟩:=H7.gF;obtain ⟨k1,gC,qH⟩:=jS.c6 t li hl;rw [bW] at gC;injection gC with gC;subst gC;obtain ⟨b1,b2,b3⟩:=qH;obtain rfl:(WF q.r)=e3:=by rw [<- b1,he]
 refine .inr ⟨gZ hf pt hb,?_⟩;rcases Nat.eq_zero_or_pos len with hz|F4
 · subst hz
   obtain rfl:l=[]:=Do.1 zw;rw [h0] at hm;injection hm with hm;subst hm;refine (H.none_ a cP w).mono fun x w' ⟨hx,hw⟩=>⟨_,hx,im,loc,?_⟩
   subst hw;have:ax.set t (.arr (WF q.r) (([]:List (RT q.r)).map (RT.pv q.r)++rows.drop 0))=ax:=by
    apply List.ext_getElem?;intro j;rw [M2];split
    · rename_i e;subst e;rw [rc (v6.1 bW).1,bW];rfl
    rfl
   rw [this];exact MI jS
 have m9:rows≠[]:=by intro h;subst h;simp at cO;omega
 obtain ⟨arr,el,rV,HK,I8,cW⟩:=b3 m9;obtain ⟨Uc,rfl,pQ⟩:li.n≠0/\a=aah ⟨li.c6,li.sh,aal⟩/\li.sh+cP*WF q.r<=li.sz:=by
  rcases Av with h|⟨h1,h2,h3⟩
  · omega
  exact ⟨h1,by simpa using h2,by simpa using h3⟩
 have kI:len*WF q.r<=WF rows*(WF q.r):=Nat.mul_le_mul_right _ cO;subst zw;refine (H.some_ li.c6 li.sh cP l m arr el w F4 (by omega) (by omega) hm Ja rV (by rw [<- kJ];exact cW.take _) (by omega)).mono fun x w' ⟨hx,⟨fin,f1,f2,f3,f4⟩,qG,pL,ho,htp,hpp⟩=>⟨_,hx,im,loc,?_⟩
 have hL:(m.map (RT.pv q.r)++rows.drop (WF l)).length=(WF rows):=by simp only [List.length_append,EQ,List.length_drop,Ja];omega
 refine PH jS hl bW m9 Qm rV f2 qG pL ho htp hpp b1 (by rw [hL];exact b2) hL (by rw [f1];exact HK) (by rw [hL];exact I8) ?_;refine f3.append ?_;rw [EQ,Ja];intro i r hr;obtain ⟨g1,g2⟩:=(cW.drop (WF l)) i r hr;refine ⟨g1,fun j c hc=>?_⟩;obtain ⟨v,v1,v2⟩:=g2 j c hc;refine ⟨v,v1,?_⟩;show fin[_]? =aah v;rw [f4 _ (by omega)];exact v2
end Go.Vm
/- slices.Sort of numbers: the table's entry, by what the library's law says of the function. -/
namespace Go.Vm
theorem B4 (a:Int): ∀l:List Int,(Ma a l).Perm (a::l)
 | []=> .refl _
 |b::r=>by
  unfold Ma;cases decide (a<=b)
  · exact ((B4 a r).cons b).trans (.swap a b r)
  exact .refl _
theorem qN: ∀l:List Int,(kN l).Perm l
 | []=> .refl _
 |a::r=>(B4 a _).trans ((qN r).cons a)
theorem CU (a:Int): ∀{l:List Int},l.Pairwise (· <= ·)->(Ma a l).Pairwise (· <= ·)
 | [],_=>by simp [Ma]
 |b::r,h=>by
  obtain ⟨h1,h2⟩:=AC.1 h;unfold Ma;cases hc:decide (a<=b)
  · have hc: ¬a<=b:=by simpa using hc
    refine AC.2 ⟨fun x hx=>?_,CU a h2⟩;rcases UV.1 ((B4 a r).mem_iff.1 hx) with rfl|hx
    · omega
    exact h1 x hx
  have hc:a<=b:=by simpa using hc
  refine AC.2 ⟨fun x hx=>?_,h⟩;rcases UV.1 hx with rfl|hx
  · exact hc
  have:=h1 x hx;omega
theorem vt: ∀l:List Int,(kN l).Pairwise (· <= ·)
 | []=> .nil
 |a::r=>CU a (vt r)
theorem qC (l:List Int):(kN l).length=(WF l):=(qN l).length_eq
theorem Kt (l:List Int):l.mergeSort (fun x y=>decide (x<=y))=kN l:=by refine List.Perm.eq_of_pairwise (le:=(· <= ·)) (fun a b _ _ h1 h2=>Int.le_antisymm h1 h2) ?_ (vt l) ((List.mergeSort_perm _ _).trans (qN l).symm);have:=List.pairwise_mergeSort (le:=fun x y:Int=>decide (x<=y)) (fun a b c h1 h2=>by simp at*;omega) (fun a b=>by simp;omega) l;exact this.imp fun h=>by simpa using h
theorem MJ {P:Program} {f:FuncId}
 (H1: ∀(c6 off cap:Nat) (zs:List Int) (w:World),Sort.Holds (Value.int .i64) w c6 off zs.toArray->c6<w.heap.size->WF zs<4611686018427387904->
  Calls P f #[.slice (aah ⟨c6,off,aal⟩) (WF zs) cap] w fun e w'=>e= .returned (.tuple #[])/\ ∃n os,w'=Sort.grow (Sort.putRow (Value.int .i64) (Sort.ahead w n) c6 off (zs.mergeSort fun x y=>decide (x<=y)).toArray) os)
 (b off c:Nat) (l:List Int) (arr:Array Value) (el:TypeId) (w:World) (gX:(WF l)<=1048576) (hw:w.heap[b]? =aah (.cells arr el (0,0)))
 (cW:bK (fun k=>arr[k]?) off 1 (l.map (RT.pv [.i .i64]))) (pQ:off+WF l*1<=arr.size):
 Calls P f #[.slice (aah ⟨b,off,aal⟩) (WF l) c] w fun x w'=>x= .returned (.tuple #[])/\(∃fin:Array Value,fin.size=arr.size/\w'.heap[b]? =aah (.cells fin el (0,0))/\bK (fun k=>fin[k]?) off 1 ((kN l).map (RT.pv [.i .i64]))/\
  ∀j:Nat,off+WF l*1<=j->fin[j]? =arr[j]?)/\(∀b':Nat,b'<w.heap.size->b'≠b->w'.heap[b']? =w.heap[b']?)/\w.heap.size<=w'.heap.size/\w'.os=w.os/\Tape w w'/\w'.output=w.output:=by
 have agk:b<w.heap.size:=(ww.1 hw).1;have pQ:off+WF l<=arr.size:=by omega
 have cells: ∀(j:Nat),j<WF l->arr[off+j]? =aah (.int .i64 (l.toArray)[j]!):=fun j hj=>by
  have h1:(l.map (RT.pv [.i .i64]))[j]? =aah (RT.pv [.i .i64] l[j]):=by rw [NE,List.getElem?_eq_getElem hj];rfl
  obtain ⟨_,h2⟩:=cW j _ h1;obtain ⟨v,v1,v2⟩:=h2 0 (.int .i64 l[j]) rfl;injection v1 with v1;subst v1;rw [show off+j*1+0=off+j by omega] at v2;have:(l.toArray)[j]! =l[j]:=by rw [getElem!_pos _ j (by simpa using hj)];simp
  rw [this];exact v2
 have hH:Sort.Holds (Value.int .i64) w b off l.toArray:=fun j hj=>by
  have hj:j<(WF l):=by simpa using hj
  refine ⟨?_,?_⟩
  · simp only [World.cell?,hw];exact cells j hj
  simp [World.frozen?,hw]
 refine (H1 b off c l w hH agk (by omega)).mono fun x w' ⟨hx,n,os,Zj⟩=>⟨hx,?_⟩
 subst Zj;rw [Kt];have Ja:(kN l).length=(WF l):=qC l;have hp:(Sort.putRow (Value.int .i64) (Sort.ahead w n) b off (kN l).toArray).heap=w.heap.modify b (Sort.onCells (Sort.putCells (Value.int .i64) off (kN l).toArray)):=rfl;have pL:(w.heap.modify b (Sort.onCells (Sort.putCells (Value.int .i64) off (kN l).toArray))).size=w.heap.size:=Array.size_modify;have C7: ∀k:Nat,k<w.heap.size->(Sort.grow (Sort.putRow (Value.int .i64) (Sort.ahead w n) b off (kN l).toArray) os).heap[k]? =(w.heap.modify b (Sort.onCells (Sort.putCells (Value.int .i64) off (kN l).toArray)))[k]?:=fun k hk=>by
  show (_++os)[k]? =_;rw [hp,Array.getElem?_append,rc (by rw [pL];exact hk)]
 refine ⟨⟨Sort.putCells (Value.int .i64) off (kN l).toArray arr,by simp [Sort.putCells],?_,?_,?_⟩,fun k hk dK=>?_,?_,rfl,⟨rfl,Nat.le_add_right _ _⟩,rfl⟩
 · rw [C7 b agk,If,rc rfl,hw];rfl
 · intro i r hr
   have hr:((kN l).map (RT.pv [.i .i64]))[i]? =aah r:=hr;rw [NE,Option.map_eq_some_iff] at hr;obtain ⟨a,ha,rfl⟩:=hr;have hi:i<(kN l).length:=(v6.1 ha).1;refine ⟨rfl,fun j c hc=>?_⟩;cases j with
   |succ j=>cases hc
   |zero=>
    injection hc with hc;subst hc;refine ⟨_,rfl,?_⟩;show (Sort.putCells _ _ _ _)[off+i*1+0]? =_;rw [show off+i*1+0=off+i by omega];unfold Sort.putCells;rw [IR,Array.getElem?_eq_getElem (by omega),PP,rc ⟨by omega,by simp;omega⟩,show off+i-off=i by omega];have:((kN l).toArray)[i]! =a:=by rw [getElem!_pos _ i (by simpa using hi)];have:=(v6.1 ha).2;simpa using this
    rw [this]
 · intro j hj
   have hj:off+WF l<=j:=by omega
   unfold Sort.putCells;rw [IR];cases arr[j]? with
   |none=>rfl
   |some x=>rw [PP,ut];intro h;have:=h.2;simp [Ja] at this;omega
 · rw [C7 k hk,If,ut (fun h=>dK h.symm)]
 show _<=(_++os).size
 rw [Array.size_append,hp,pL];omega
theorem xp.int {P:Program} {f:FuncId}
 (H1: ∀(c6 off cap:Nat) (zs:List Int) (w:World),Sort.Holds (Value.int .i64) w c6 off zs.toArray->c6<w.heap.size->WF zs<4611686018427387904->
  Calls P f #[.slice (aah ⟨c6,off,aal⟩) (WF zs) cap] w fun e w'=>e= .returned (.tuple #[])/\ ∃n os,w'=Sort.grow (Sort.putRow (Value.int .i64) (Sort.ahead w n) c6 off (zs.mergeSort fun x y=>decide (x<=y)).toArray) os)
 (H0: ∀(p:Option Addr) (cap:Nat) (w:World),Calls P f #[.slice p 0 cap] w fun e w'=>e= .returned (.tuple #[])/\w'=w):xp P f Mk where
 none_ a c w:=H0 a c w
 some_ b off c l m arr el w _ _ gX hfn _ hw cW pQ:=by
  obtain rfl:kN l=m:=by injection hfn
  exact MJ H1 b off c l arr el w gX hw cW pQ
end Go.Vm
