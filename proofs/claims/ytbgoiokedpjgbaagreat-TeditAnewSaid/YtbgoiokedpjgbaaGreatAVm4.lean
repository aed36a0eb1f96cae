/- The logical machine, part 4: SvSort, SvSortI. -/
import Derived.Test.YtbgoiokedpjgbaaGreatAVm3
import Derived.Test.YtbgoiokedpjgbaaGreatAVm2
import Derived.Sort.Grow
open List renaming getElem?_eq_some_iff->pp,pairwise_cons->ut,length_eq_zero_iff->v6,length_map->ww,getElem?_set->EQ,getElem?_map->If,mem_cons->M2,length->NE
open Array renaming getElem?_eq_some_iff->rc,getElem?_modify->AC,getElem?_mapIdx->Do
open Option renaming map_some->IR,some->PP,none->UV
/- A function that puts the rows of a slice in order: what is asked of it in a program, and that the table's entry is then right. -/
namespace Go.Vm
theorem F8: ∀{p:PT} {x:PV} {a:p.T},BM p x=PP a->x=p.pv a
 | .i k,.int l n,a,h=>by
  have h:(bif fO l k then PP n else UV)=PP a:=h;cases hk:fO l k with
  |false=>rw [hk] at h;cases h
  |true=>rw [hk] at h;obtain rfl:=fE.1 hk;injection h with h;subst h;rfl
 | .b,.bool x,a,h=>by have h:PP x=PP a:=h;injection h with h;subst h;rfl
theorem Iz: ∀{r:List PT} {x:List PV} {a:RT r},HA r x=PP a->x=RT.pv r a
 | [],[],a,h=>rfl
 | [],_::_,a,h=>by cases h
 | [p],[v],a,h=>by rw [F8 (show BM p v=PP a from h)];rfl
 | [p],[],a,h=>by cases h
 | [p],_::_::_,a,h=>by cases h
 |p::q::r,[],a,h=>by cases h
 |p::q::r,v::vs,a,h=>by
  have h:(match BM p v,HA (q::r) vs with
   |some a,PP b=>PP (a,b)
   |_,_=>UV)=PP a:=h
  cases h1:BM p v with
  |none=>rw [h1] at h;cases h
  |some x=>
   cases h2:HA (q::r) vs with
   |none=>rw [h1,h2] at h;cases h
   |some y=>rw [h1,h2] at h;injection h with h;subst h;rw [F8 h1,Iz h2];rfl
theorem F9 {r:List PT}: ∀{x:List (List PV)} {l:List (RT r)},DQ r x=PP l->x=l.map (RT.pv r)
 | [],l,h=>by injection h with h;subst h;rfl
 |v::vs,l,h=>by
  have h:(match HA r v,DQ r vs with
   |some a,PP l=>PP (a::l)
   |_,_=>UV)=PP l:=h
  cases h1:HA r v with
  |none=>rw [h1] at h;cases h
  |some x=>
   cases h2:DQ r vs with
   |none=>rw [h1,h2] at h;cases h
   |some y=>rw [h1,h2] at h;injection h with h;subst h;rw [Iz h1,F9 h2];rfl
def afz:Option FuncId->List Value
 |none=>[]
 |some g=>[.func (.func g) ⟨[]⟩ ⟨[]⟩]
structure yF (P:Program) (f:FuncId) (q:Srt):Prop where
 some_: ∀(b off c:Nat) (l m:List (RT q.r)) (arr:Array Value) (el:TypeId) (w:World),0<NE l->NE l<=c->NE l<=1048576->q.fn l=PP m->NE m=NE l->w.heap[b]? =PP (.cells arr el (0,0))->
  bU (fun k=>arr[k]?) off (NE q.r) (l.map (RT.pv q.r))->off+NE l*NE q.r<=arr.size->
  Calls P f ⟨.slice (PP ⟨b,off,UV⟩) (NE l) c::afz q.g⟩ w fun x w'=>x= .returned (.tuple #[])/\(∃fin:Array Value,fin.size=arr.size/\w'.heap[b]? =PP (.cells fin el (0,0))/\bU (fun k=>fin[k]?) off (NE q.r) (m.map (RT.pv q.r))/\
   ∀j:Nat,off+NE l*NE q.r<=j->fin[j]? =arr[j]?)/\(∀b':Nat,b'<w.heap.size->b'≠b->w'.heap[b']? =w.heap[b']?)/\w.heap.size<=w'.heap.size/\w'.os=w.os/\Tape w w'/\w'.output=w.output
 none_: ∀(a:Option Addr) (c:Nat) (w:World),Calls P f ⟨.slice a 0 c::afz q.g⟩ w fun x w'=>x= .returned (.tuple #[])/\w'=w
theorem afA {im:Im} {loc:Loc} {g:Option FuncId} {r:List PV} {us:List Value} (h:WX g r=true) (hu:fx im loc r us):us=afz g:=by
 unfold WX at h;split at h
 · cases hu;rfl
 · rename_i g h'
   have:h'=g:=by simpa using h
   subst this;cases hu with
   |cons _ a _ b h1 h2=>
    cases h2;cases h1 with
    |eO _ _ _ as bs ha hb=>cases ha;cases hb;rfl
 cases h
theorem Rs {P:Program} {im:Im} {loc:Loc} {aD:cK} {fz:List Nat} {w w':World} {t e:Nat} {li:LI} {rows rH:List Row} {arr fin:Array Value} {el:TypeId} (kX:SR im loc aD fz w) (hl:loc t=PP li) (cy:aD[t]? =PP (.arr e rows)) (dW:rows≠[]) (hf:has fz t=false)
 (ha:w.heap[li.dw]? =PP (.cells arr el (0,0))) (hw:w'.heap[li.dw]? =PP (.cells fin el (0,0))) (sR: ∀b':Nat,b'<w.heap.size->b'≠li.dw->w'.heap[b']? =w.heap[b']?) (q9:w.heap.size<=w'.heap.size) (ho:w'.os=w.os) (ht:Tape w w') (hp:w'.output=w.output)
 (he:li.esz=e) (hn:li.n=NE rH) (c9:(NE rH)=NE rows) (hfs:fin.size=li.sz) (rl:li.sh+NE rH*e<=li.sz) (hr:bU (fun k=>fin[k]?) li.sh e rH):
 vN im loc aD w (.cj []) (aD.set t (.arr e rH)) fz im loc w' (.tuple #[]):=by
 have Ny:t<(NE aD):=(pp.1 cy).1;have aeC:rH≠[]:=by intro h;subst h;rw [List.length_nil] at c9;exact dW (v6.1 c9.symm)
 have Jt:(ky.arr e rows).bS=true:=nS dW;have hs1:(ky.arr e rH).bS=true:=nS aeC;have Bv:=kX.free t li _ hl cy Jt hf;have old: ∀{u:Nat} {k:ky},(aD.set t (.arr e rH))[u]? =PP k->(u=t/\k= .arr e rH)\/(u≠t/\aD[u]? =PP k):=by
  intro u k h;rw [EQ] at h;split at h
  · rename_i e1;subst e1;first|(rw [ls Ny] at h;injection h with h;exact .inl ⟨rfl,h.symm⟩)|(injection h with h;exact .inl ⟨rfl,h.symm⟩)
  rename_i dW;exact .inr ⟨fun e=>dW e.symm,h⟩
 have sol: ∀{u:Nat} {k:ky},(aD.set t (.arr e rH))[u]? =PP k->k.bS=true-> ∃k0,aD[u]? =PP k0/\k0.bS=true:=by
  intro u k h hs;rcases old h with ⟨rfl,rfl⟩|⟨_,h⟩
  · exact ⟨_,cy,Jt⟩
  exact ⟨k,h,hs⟩
 have lt: ∀{b:Nat} {o:Obj},w.heap[b]? =PP o->b<w.heap.size:=fun h=>(rc.1 h).1
 exact {
  gX:= .refl _,eh:= .refl _
  vr:= .cj _ _ .nil
  sr:={
   bL:=fun b o hb=>by
    have h1:=kX.bL b o hb;have h2:b≠li.dw:=fun h=>by rw [h,Bv] at hb;cases hb
    rw [sR b (lt h1) h2];exact h1
   dw:=fun u lu hu=>by
    obtain ⟨k,hk,hb⟩:=kX.dw u lu hu
    by_cases e1:u=t
    · subst e1
      rw [hl] at hu;injection hu with hu;subst hu;exact ⟨_,List.getElem?_set_self Ny,he,hn,fun _=>⟨fin,el,hw,hfs,rl,hr⟩⟩
    refine ⟨k,by rw [List.getElem?_set_ne (fun h=>e1 h.symm)];exact hk,hb.gj (.refl _) (.refl _) fun hs=>?_⟩
    exact sR _ (hb.lt hs) fun h=>e1 (kX.jc _ _ _ _ _ _ hu hl hk cy hs Jt h)
   jc:=fun u v lu lv k k' hu hv hk Jx hs vJ h=>by obtain ⟨k0,a,b⟩:=sol hk hs;obtain ⟨k1,c,d⟩:=sol Jx vJ;exact kX.jc _ _ _ _ _ _ hu hv a c b d h
   free:=fun u lu k hu hk hs hz=>by obtain ⟨k0,a,b⟩:=sol hk hs;exact kX.free _ _ _ hu a b hz}
  os:=ho,tape:=ht,output:=hp,size:=q9
  frame:=fun b hb h=>sR b hb fun h2=>h t li _ hl cy Jt h2.symm
  ew:=fun b o h=> .inl h
  oq:=fun u lu h=> .inl h
  own:=fun u lu k hu hk hs=>by obtain ⟨k0,a,b⟩:=sol hk hs;exact .inr ⟨u,lu,k0,hu,a,b,rfl⟩}
theorem Oj {im:Im} {loc:Loc} {aD:cK} {fz:List Nat} {w:World} (kX:SR im loc aD fz w):vN im loc aD w (.cj []) aD fz im loc w (.tuple #[]) where
 gX:= .refl _
 eh:= .refl _
 vr:= .cj _ _ .nil
 sr:=kX
 os:=rfl
 tape:= .refl _
 output:=rfl
 size:=Nat.le_refl _
 frame:=fun _ _ _=>rfl
 ew:=fun _ _ h=> .inl h
 oq:=fun _ _ h=> .inl h
 own:=fun t li k hl hk hs=> .inr ⟨t,li,k,hl,hk,hs,rfl⟩
theorem By.srt {P:Program} {f:FuncId} {q:Srt} {fn:Func} {c:Code} (hf:P.funcs[f]? =PP fn) (qD:(fn.name== "runtime.NumGoroutine")=false) (hb:fn.body=PP c) (h0:q.fn []=PP []) (H:yF P f q):By P f (JG q):=by
 refine ⟨fn,c,hf,qD,hb,?_⟩;intro args aD fz v vO Jn hp im loc w us kX x4;unfold JG at hp;split at hp
 case h_2=>cases hp
 rename_i t e1 off len cap ex r;split at hp
 case h_2=>cases hp
 rename_i e3 rows cy;split at hp
 case isFalse=>cases hp
 rename_i hc;simp only [Bool.and_eq_true,Nat.beq_eq,Bool.not_eq_true',Nat.ble_eq] at hc;obtain ⟨⟨⟨⟨⟨q1,rfl⟩,c9⟩,iM⟩,Sl⟩,hg⟩:=hc;subst q1;have iM:len<=1048576:=iM;split at hp
 case h_2=>cases hp
 rename_i l Kz;split at hp
 case h_2=>cases hp
 rename_i m hm;split at hp
 case isFalse=>cases hp
 rename_i KB;have KB:(NE m)=(NE l):=by simpa using KB
 injection hp with hp;simp only [Prod.mk.injEq] at hp;obtain ⟨rfl,rfl,rfl⟩:=hp;have lQ:=F9 Kz;have AD:(NE l)=len:=by have:=congrArg List.length lQ;rw [List.length_take,ww] at this;omega
 obtain ⟨x0,Q3,rfl,Jy,x4⟩: ∃x0 Q3,us=x0::Q3/\VR im loc (.own t (NE q.r) 0 len cap ex) x0/\fx im loc r Q3:=by cases x4 with|cons _ a _ b h1 h2=>exact ⟨a,b,rfl,h1,h2⟩
 obtain rfl:=afA hg x4;obtain ⟨li,a,dd,rfl,hl,he,CL,hlc,Nc,_,Bu⟩:=Jy.ir;obtain ⟨k1,ij,sS⟩:=kX.dw t li hl;rw [cy] at ij;injection ij with ij;subst ij;obtain ⟨b1,b2,b3⟩:=sS;obtain rfl:(NE q.r)=e3:=by rw [<- b1,he]
 refine .inr ⟨iO hf qD hb,?_⟩;rcases Nat.eq_zero_or_pos len with hz|Hr
 · subst hz
   obtain rfl:l=[]:=v6.1 AD;rw [h0] at hm;injection hm with hm;subst hm;refine (H.none_ a dd w).mono fun x w' ⟨hx,hw⟩=>⟨_,hx,im,loc,?_⟩
   subst hw;have:aD.set t (.arr (NE q.r) (([]:List (RT q.r)).map (RT.pv q.r)++rows.drop 0))=aD:=by
    apply List.ext_getElem?;intro j;rw [EQ];split
    · rename_i e;subst e;rw [ls (pp.1 cy).1,cy];rfl
    rfl
   rw [this];exact Oj kX
 have oF:rows≠[]:=by intro h;subst h;simp at c9;omega
 obtain ⟨arr,el,ua,Jd,Ky,dm⟩:=b3 oF;obtain ⟨Wp,rfl,rl⟩:li.n≠0/\a=PP ⟨li.dw,li.sh,UV⟩/\li.sh+dd*NE q.r<=li.sz:=by
  rcases Bu with h|⟨h1,h2,h3⟩
  · omega
  exact ⟨h1,by simpa using h2,by simpa using h3⟩
 have lP:len*NE q.r<=NE rows*(NE q.r):=Nat.mul_le_mul_right _ c9;subst AD;refine (H.some_ li.dw li.sh dd l m arr el w Hr (by omega) (by omega) hm KB ua (by rw [<- lQ];exact dm.take _) (by omega)).mono fun x w' ⟨hx,⟨fin,f1,f2,f3,f4⟩,sR,q9,ho,htp,hpp⟩=>⟨_,hx,im,loc,?_⟩
 have hL:(m.map (RT.pv q.r)++rows.drop (NE l)).length=(NE rows):=by simp only [List.length_append,ww,List.length_drop,KB];omega
 refine Rs (P:=P) kX hl cy oF Sl ua f2 sR q9 ho htp hpp b1 (by rw [hL];exact b2) hL (by rw [f1];exact Jd) (by rw [hL];exact Ky) ?_;refine f3.append ?_;rw [ww,KB];intro i r hr;obtain ⟨g1,g2⟩:=(dm.drop (NE l)) i r hr;refine ⟨g1,fun j c hc=>?_⟩;obtain ⟨v,v1,v2⟩:=g2 j c hc;refine ⟨v,v1,?_⟩;show fin[_]? =PP v;rw [f4 _ (by omega)];exact v2
end Go.Vm
/- slices.Sort of numbers: the table's entry, by what the library's law says of the function. -/
namespace Go.Vm
theorem Dc (a:Int): ∀l:List Int,(NJ a l).Perm (a::l)
 | []=> .refl _
 |b::r=>by
  unfold NJ;cases decide (a<=b)
  · exact ((Dc a r).cons b).trans (.swap a b r)
  exact .refl _
theorem sY: ∀l:List Int,(lS l).Perm l
 | []=> .refl _
 |a::r=>(Dc a _).trans ((sY r).cons a)
theorem DW (a:Int): ∀{l:List Int},l.Pairwise (· <= ·)->(NJ a l).Pairwise (· <= ·)
 | [],_=>by simp [NJ]
 |b::r,h=>by
  obtain ⟨h1,h2⟩:=ut.1 h;unfold NJ;cases hc:decide (a<=b)
  · have hc: ¬a<=b:=by simpa using hc
    refine ut.2 ⟨fun x hx=>?_,DW a h2⟩;rcases M2.1 ((Dc a r).mem_iff.1 hx) with rfl|hx
    · omega
    exact h1 x hx
  have hc:a<=b:=by simpa using hc
  refine ut.2 ⟨fun x hx=>?_,h⟩;rcases M2.1 hx with rfl|hx
  · exact hc
  have:=h1 x hx;omega
theorem xb: ∀l:List Int,(lS l).Pairwise (· <= ·)
 | []=> .nil
 |a::r=>DW a (xb r)
theorem sH (l:List Int):(lS l).length=(NE l):=(sY l).length_eq
theorem LY (l:List Int):l.mergeSort (fun x y=>decide (x<=y))=lS l:=by refine List.Perm.eq_of_pairwise (le:=(· <= ·)) (fun a b _ _ h1 h2=>Int.le_antisymm h1 h2) ?_ (xb l) ((List.mergeSort_perm _ _).trans (sY l).symm);have:=List.pairwise_mergeSort (le:=fun x y:Int=>decide (x<=y)) (fun a b c h1 h2=>by simp at*;omega) (fun a b=>by simp;omega) l;exact this.imp fun h=>by simpa using h
theorem Ol {P:Program} {f:FuncId}
 (H1: ∀(dw off cap:Nat) (zs:List Int) (w:World),Sort.Holds (Value.int .i64) w dw off zs.toArray->dw<w.heap.size->NE zs<4611686018427387904->
  Calls P f #[.slice (PP ⟨dw,off,UV⟩) (NE zs) cap] w fun e w'=>e= .returned (.tuple #[])/\ ∃n os,w'=Sort.grow (Sort.putRow (Value.int .i64) (Sort.ahead w n) dw off (zs.mergeSort fun x y=>decide (x<=y)).toArray) os)
 (b off c:Nat) (l:List Int) (arr:Array Value) (el:TypeId) (w:World) (iM:(NE l)<=1048576) (hw:w.heap[b]? =PP (.cells arr el (0,0)))
 (dm:bU (fun k=>arr[k]?) off 1 (l.map (RT.pv [.i .i64]))) (rl:off+NE l*1<=arr.size):
 Calls P f #[.slice (PP ⟨b,off,UV⟩) (NE l) c] w fun x w'=>x= .returned (.tuple #[])/\(∃fin:Array Value,fin.size=arr.size/\w'.heap[b]? =PP (.cells fin el (0,0))/\bU (fun k=>fin[k]?) off 1 ((lS l).map (RT.pv [.i .i64]))/\
  ∀j:Nat,off+NE l*1<=j->fin[j]? =arr[j]?)/\(∀b':Nat,b'<w.heap.size->b'≠b->w'.heap[b']? =w.heap[b']?)/\w.heap.size<=w'.heap.size/\w'.os=w.os/\Tape w w'/\w'.output=w.output:=by
 have anz:b<w.heap.size:=(rc.1 hw).1;have rl:off+NE l<=arr.size:=by omega
 have cells: ∀(j:Nat),j<NE l->arr[off+j]? =PP (.int .i64 (l.toArray)[j]!):=fun j hj=>by
  have h1:(l.map (RT.pv [.i .i64]))[j]? =PP (RT.pv [.i .i64] l[j]):=by rw [If,List.getElem?_eq_getElem hj];rfl
  obtain ⟨_,h2⟩:=dm j _ h1;obtain ⟨v,v1,v2⟩:=h2 0 (.int .i64 l[j]) rfl;injection v1 with v1;subst v1;rw [show off+j*1+0=off+j by omega] at v2;have:(l.toArray)[j]! =l[j]:=by rw [getElem!_pos _ j (by simpa using hj)];simp
  rw [this];exact v2
 have hH:Sort.Holds (Value.int .i64) w b off l.toArray:=fun j hj=>by
  have hj:j<(NE l):=by simpa using hj
  refine ⟨?_,?_⟩
  · simp only [World.cell?,hw];exact cells j hj
  simp [World.frozen?,hw]
 refine (H1 b off c l w hH anz (by omega)).mono fun x w' ⟨hx,n,os,Wb⟩=>⟨hx,?_⟩
 subst Wb;rw [LY];have KB:(lS l).length=(NE l):=sH l;have hp:(Sort.putRow (Value.int .i64) (Sort.ahead w n) b off (lS l).toArray).heap=w.heap.modify b (Sort.onCells (Sort.putCells (Value.int .i64) off (lS l).toArray)):=rfl;have q9:(w.heap.modify b (Sort.onCells (Sort.putCells (Value.int .i64) off (lS l).toArray))).size=w.heap.size:=Array.size_modify;have Ee: ∀k:Nat,k<w.heap.size->(Sort.grow (Sort.putRow (Value.int .i64) (Sort.ahead w n) b off (lS l).toArray) os).heap[k]? =(w.heap.modify b (Sort.onCells (Sort.putCells (Value.int .i64) off (lS l).toArray)))[k]?:=fun k hk=>by
  show (_++os)[k]? =_;rw [hp,Array.getElem?_append,ls (by rw [q9];exact hk)]
 refine ⟨⟨Sort.putCells (Value.int .i64) off (lS l).toArray arr,by simp [Sort.putCells],?_,?_,?_⟩,fun k hk dW=>?_,?_,rfl,⟨rfl,Nat.le_add_right _ _⟩,rfl⟩
 · rw [Ee b anz,AC,ls rfl,hw];rfl
 · intro i r hr
   have hr:((lS l).map (RT.pv [.i .i64]))[i]? =PP r:=hr;rw [If,Option.map_eq_some_iff] at hr;obtain ⟨a,ha,rfl⟩:=hr;have hi:i<(lS l).length:=(pp.1 ha).1;refine ⟨rfl,fun j c hc=>?_⟩;cases j with
   |succ j=>cases hc
   |zero=>
    injection hc with hc;subst hc;refine ⟨_,rfl,?_⟩;show (Sort.putCells _ _ _ _)[off+i*1+0]? =_;rw [show off+i*1+0=off+i by omega];unfold Sort.putCells;rw [Do,Array.getElem?_eq_getElem (by omega),IR,ls ⟨by omega,by simp;omega⟩,show off+i-off=i by omega];have:((lS l).toArray)[i]! =a:=by rw [getElem!_pos _ i (by simpa using hi)];have:=(pp.1 ha).2;simpa using this
    rw [this]
 · intro j hj
   have hj:off+NE l<=j:=by omega
   unfold Sort.putCells;rw [Do];cases arr[j]? with
   |none=>rfl
   |some x=>rw [IR,lw];intro h;have:=h.2;simp [KB] at this;omega
 · rw [Ee k hk,AC,lw (fun h=>dW h.symm)]
 show _<=(_++os).size
 rw [Array.size_append,hp,q9];omega
theorem yF.int {P:Program} {f:FuncId}
 (H1: ∀(dw off cap:Nat) (zs:List Int) (w:World),Sort.Holds (Value.int .i64) w dw off zs.toArray->dw<w.heap.size->NE zs<4611686018427387904->
  Calls P f #[.slice (PP ⟨dw,off,UV⟩) (NE zs) cap] w fun e w'=>e= .returned (.tuple #[])/\ ∃n os,w'=Sort.grow (Sort.putRow (Value.int .i64) (Sort.ahead w n) dw off (zs.mergeSort fun x y=>decide (x<=y)).toArray) os)
 (H0: ∀(p:Option Addr) (cap:Nat) (w:World),Calls P f #[.slice p 0 cap] w fun e w'=>e= .returned (.tuple #[])/\w'=w):yF P f NT where
 none_ a c w:=H0 a c w
 some_ b off c l m arr el w _ _ iM hfn _ hw dm rl:=by
  obtain rfl:lS l=m:=by injection hfn
  exact Ol H1 b off c l arr el w iM hw dm rl
end Go.Vm
