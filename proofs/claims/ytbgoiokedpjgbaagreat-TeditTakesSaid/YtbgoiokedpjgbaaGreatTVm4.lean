/- The logical machine, part 4: SvSort, SvSortI. -/
import Derived.Test.YtbgoiokedpjgbaaGreatTVm3
import Derived.Test.YtbgoiokedpjgbaaGreatTVm2
import Derived.Sort.Grow
open List renaming getElem?_eq_some_iff->bm,pairwise_cons->bo,length_eq_zero_iff->bq,length_map->bu,getElem?_set->bz,getElem?_map->cb,mem_cons->ce
open Array renaming getElem?_eq_some_iff->bn,getElem?_modify->bv,getElem?_mapIdx->bw
open Option renaming map_some->cd
/- A function that puts the rows of a slice in order: what is asked of it in a program, and that the table's entry is then right. -/
namespace Go.Vm
theorem OZ: ∀{p:PT} {x:PV} {a:p.T},I0 p x=some a->x=p.pv a
 | .i k,.int l n,a,h=>by
  have h:(bif gB l k then some n else none)=some a:=h
  cases hk:gB l k with
  |false=>rw [hk] at h;cases h
  |true=>
   rw [hk] at h;obtain rfl:=fU.1 hk;injection h with h;subst h;rfl
 | .b,.bool x,a,h=>by
  have h:some x=some a:=h;injection h with h;subst h;rfl
theorem R6: ∀{r:List PT} {x:List PV} {a:RT r},QT r x=some a->x=RT.pv r a
 | [],[],a,h=>rfl
 | [],_::_,a,h=>by cases h
 | [p],[v],a,h=>by rw [OZ (show I0 p v=some a from h)];rfl
 | [p],[],a,h=>by cases h
 | [p],_::_::_,a,h=>by cases h
 |p::q::r,[],a,h=>by cases h
 |p::q::r,v::vs,a,h=>by
  have h:(match I0 p v,QT (q::r) vs with
   |some a,some b=>some (a,b)
   |_,_=>none)=some a:=h
  cases h1:I0 p v with
  |none=>rw [h1] at h;cases h
  |some x=>
   cases h2:QT (q::r) vs with
   |none=>rw [h1,h2] at h;cases h
   |some y=>
    rw [h1,h2] at h;injection h with h;subst h;rw [OZ h1,R6 h2];rfl
theorem O0 {r:List PT}: ∀{x:List (List PV)} {l:List (RT r)},LX r x=some l->x=l.map (RT.pv r)
 | [],l,h=>by injection h with h;subst h;rfl
 |v::vs,l,h=>by
  have h:(match QT r v,LX r vs with
   |some a,some l=>some (a::l)
   |_,_=>none)=some l:=h
  cases h1:QT r v with
  |none=>rw [h1] at h;cases h
  |some x=>
   cases h2:LX r vs with
   |none=>rw [h1,h2] at h;cases h
   |some y=>
    rw [h1,h2] at h;injection h with h;subst h;rw [R6 h1,O0 h2];rfl
def aOh:Option FuncId->List Value
 |none=>[]
 |some g=>[.func (.func g) ⟨[]⟩ ⟨[]⟩]
structure EP (P:Program) (f:FuncId) (q:Srt):Prop where
 some_: ∀(b off c:Nat) (l m:List (RT q.r)) (arr:Array Value) (el:TypeId) (w:World),0<l.length->l.length<=c->l.length<=1048576->q.fn l=some m->m.length=l.length->w.heap[b]? =some (.cells arr el (0,0))->
  bV (fun k=>arr[k]?) off q.r.length (l.map (RT.pv q.r))->off+l.length*q.r.length<=arr.size->
  Calls P f ⟨.slice (some ⟨b,off,none⟩) l.length c::aOh q.g⟩ w fun x w'=>x= .returned (.tuple #[])/\(∃fin:Array Value,fin.size=arr.size/\w'.heap[b]? =some (.cells fin el (0,0))/\bV (fun k=>fin[k]?) off q.r.length (m.map (RT.pv q.r))/\
   ∀j:Nat,off+l.length*q.r.length<=j->fin[j]? =arr[j]?)/\(∀b':Nat,b'<w.heap.size->b'≠b->w'.heap[b']? =w.heap[b']?)/\w.heap.size<=w'.heap.size/\w'.os=w.os/\w'.tape=w.tape/\w'.output=w.output
 none_: ∀(a:Option Addr) (c:Nat) (w:World),Calls P f ⟨.slice a 0 c::aOh q.g⟩ w fun x w'=>x= .returned (.tuple #[])/\w'=w
theorem aOi {im:Im} {loc:dL} {g:Option FuncId} {r:List PV} {us:List Value} (h:aGj g r=true) (hu:VRL im loc r us):us=aOh g:=by
 unfold aGj at h;split at h
 · cases hu;rfl
 · rename_i g h'
   have:h'=g:=by simpa using h
   subst this;cases hu with
   |cons _ a _ b h1 h2=>
    cases h2;cases h1 with
    |clo _ _ _ as bs ha hb=>cases ha;cases hb;rfl
 cases h
theorem aC6 {P:Program} {im:Im} {loc:dL} {sto:cT} {fz:List Nat} {w w':World} {t e:Nat} {li:LI} {rows rows':List qF} {arr fin:Array Value} {el:TypeId} (hsr:SR im loc sto fz w) (hl:loc t=some li) (hst:sto[t]? =some (.arr e rows)) (hne:rows≠[]) (hf:has fz t=false)
 (ha:w.heap[li.blk]? =some (.cells arr el (0,0))) (hw:w'.heap[li.blk]? =some (.cells fin el (0,0))) (hfr: ∀b':Nat,b'<w.heap.size->b'≠li.blk->w'.heap[b']? =w.heap[b']?) (hsz:w.heap.size<=w'.heap.size) (ho:w'.os=w.os) (ht:w'.tape=w.tape) (hp:w'.output=w.output)
 (he:li.esz=e) (hn:li.n=rows'.length) (hlen:rows'.length=rows.length) (hfs:fin.size=li.sz) (hfit:li.sh+rows'.length*e<=li.sz) (hr:bV (fun k=>fin[k]?) li.sh e rows'):
 BC im loc sto w (.tup []) (sto.set t (.arr e rows')) fz im loc w' (.tuple #[]):=by
 have htl:t<sto.length:=(bm.1 hst).1;have hne':rows'≠[]:=by intro h;subst h;rw [List.length_nil] at hlen;exact hne (bq.1 hlen.symm)
 have hs0:(mJ.arr e rows).solid=true:=qS hne;have hs1:(mJ.arr e rows').solid=true:=qS hne';have hfree:=hsr.free t li _ hl hst hs0 hf;have old: ∀{u:Nat} {k:mJ},(sto.set t (.arr e rows'))[u]? =some k->(u=t/\k= .arr e rows')\/(u≠t/\sto[u]? =some k):=by
  intro u k h;rw [bz] at h;split at h
  · rename_i e1;subst e1;first|(rw [if_pos htl] at h;injection h with h;exact .inl ⟨rfl,h.symm⟩)|(injection h with h;exact .inl ⟨rfl,h.symm⟩)
  rename_i hne;exact .inr ⟨fun e=>hne e.symm,h⟩
 have sol: ∀{u:Nat} {k:mJ},(sto.set t (.arr e rows'))[u]? =some k->k.solid=true-> ∃k0,sto[u]? =some k0/\k0.solid=true:=by
  intro u k h hs;rcases old h with ⟨rfl,rfl⟩|⟨_,h⟩
  · exact ⟨_,hst,hs0⟩
  exact ⟨k,h,hs⟩
 have lt: ∀{b:Nat} {o:Obj},w.heap[b]? =some o->b<w.heap.size:=fun h=>(bn.1 h).1
 exact {
  imle:= .refl _,locle:= .refl _
  vr:= .tup _ _ .nil
  sr:={
   im_ok:=fun b o hb=>by
    have h1:=hsr.im_ok b o hb;have h2:b≠li.blk:=fun h=>by rw [h,hfree] at hb;cases hb
    rw [hfr b (lt h1) h2];exact h1
   blk:=fun u lu hu=>by
    obtain ⟨k,hk,hb⟩:=hsr.blk u lu hu
    by_cases e1:u=t
    · subst e1
      rw [hl] at hu;injection hu with hu;subst hu;exact ⟨_,List.getElem?_set_self htl,he,hn,fun _=>⟨fin,el,hw,hfs,hfit,hr⟩⟩
    refine ⟨k,by rw [List.getElem?_set_ne (fun h=>e1 h.symm)];exact hk,hb.keep (.refl _) (.refl _) fun hs=>?_⟩
    exact hfr _ (hb.lt hs) fun h=>e1 (hsr.excl _ _ _ _ _ _ hu hl hk hst hs hs0 h)
   excl:=fun u v lu lv k k' hu hv hk hk' hs hs' h=>by
    obtain ⟨k0,a,b⟩:=sol hk hs;obtain ⟨k1,c,d⟩:=sol hk' hs';exact hsr.excl _ _ _ _ _ _ hu hv a c b d h
   free:=fun u lu k hu hk hs hz=>by
    obtain ⟨k0,a,b⟩:=sol hk hs;exact hsr.free _ _ _ hu a b hz}
  os:=ho,tape:=ht,output:=hp,size:=hsz
  frame:=fun b hb h=>hfr b hb fun h2=>h t li _ hl hst hs0 h2.symm
  imnew:=fun b o h=> .inl h
  locs:=fun u lu h=> .inl h
  own:=fun u lu k hu hk hs=>by
   obtain ⟨k0,a,b⟩:=sol hk hs;exact .inr ⟨u,lu,k0,hu,a,b,rfl⟩}
theorem aAr {im:Im} {loc:dL} {sto:cT} {fz:List Nat} {w:World} (hsr:SR im loc sto fz w):BC im loc sto w (.tup []) sto fz im loc w (.tuple #[]) where
 imle:= .refl _
 locle:= .refl _
 vr:= .tup _ _ .nil
 sr:=hsr
 os:=rfl
 tape:=rfl
 output:=rfl
 size:=Nat.le_refl _
 frame:=fun _ _ _=>rfl
 imnew:=fun _ _ h=> .inl h
 locs:=fun _ _ h=> .inl h
 own:=fun t li k hl hk hs=> .inr ⟨t,li,k,hl,hk,hs,rfl⟩
theorem MG.srt {P:Program} {f:FuncId} {q:Srt} {fn:Func} {c:Code} (hf:P.funcs[f]? =some fn) (hname:(fn.name== "runtime.NumGoroutine")=false) (hb:fn.body=some c) (h0:q.fn []=some []) (H:EP P f q):MG P f (TQ q):=by
 refine ⟨fn,c,hf,hname,hb,?_⟩;intro args sto fz v sto' fz' hp im loc w us hsr hus;unfold TQ at hp;split at hp
 case h_2=>cases hp
 rename_i t e1 off len cap ex r;split at hp
 case h_2=>cases hp
 rename_i e3 rows hst;split at hp
 case isFalse=>cases hp
 rename_i hc;simp only [Bool.and_eq_true,Nat.beq_eq,Bool.not_eq_true',Nat.ble_eq] at hc;obtain ⟨⟨⟨⟨⟨q1,rfl⟩,hlen⟩,hmost⟩,hfz⟩,hg⟩:=hc;subst q1;have hmost:len<=1048576:=hmost;split at hp
 case h_2=>cases hp
 rename_i l hl0;split at hp
 case h_2=>cases hp
 rename_i m hm;split at hp
 case isFalse=>cases hp
 rename_i hml;have hml:m.length=l.length:=by simpa using hml
 injection hp with hp;simp only [Prod.mk.injEq] at hp;obtain ⟨rfl,rfl,rfl⟩:=hp;have hrows:=O0 hl0;have hll:l.length=len:=by
  have:=congrArg List.length hrows
  rw [List.length_take,bu] at this;omega
 obtain ⟨x0,us1,rfl,hx0,hus⟩: ∃x0 us1,us=x0::us1/\VR im loc (.own t q.r.length 0 len cap ex) x0/\VRL im loc r us1:=by cases hus with|cons _ a _ b h1 h2=>exact ⟨a,b,rfl,h1,h2⟩
 obtain rfl:=aOi hg hus;obtain ⟨li,a,cap',rfl,hl,he,hoff,hlc,hcc,_,hadr⟩:=hx0.own_inv;obtain ⟨k1,hk1,hbr⟩:=hsr.blk t li hl;rw [hst] at hk1;injection hk1 with hk1;subst hk1;obtain ⟨b1,b2,b3⟩:=hbr;obtain rfl:q.r.length=e3:=by rw [<- b1,he]
 refine .inr ⟨jU hf hname hb,?_⟩;rcases Nat.eq_zero_or_pos len with hz|hpos
 · subst hz
   obtain rfl:l=[]:=bq.1 hll;rw [h0] at hm;injection hm with hm;subst hm;refine (H.none_ a cap' w).mono fun x w' ⟨hx,hw⟩=>⟨_,hx,im,loc,?_⟩
   subst hw
   have:sto.set t (.arr q.r.length (([]:List (RT q.r)).map (RT.pv q.r)++rows.drop 0))=sto:=by
    apply List.ext_getElem?;intro j;rw [bz];split
    · rename_i e;subst e;rw [if_pos (bm.1 hst).1,hst];rfl
    rfl
   rw [this];exact aAr hsr
 have hrne:rows≠[]:=by intro h;subst h;simp at hlen;omega
 obtain ⟨arr,el,ha1,ha2,ha3,hat⟩:=b3 hrne;obtain ⟨hn0,rfl,hfit⟩:li.n≠0/\a=some ⟨li.blk,li.sh,none⟩/\li.sh+cap'*q.r.length<=li.sz:=by
  rcases hadr with h|⟨h1,h2,h3⟩
  · omega
  exact ⟨h1,by simpa using h2,by simpa using h3⟩
 have hle:len*q.r.length<=rows.length*q.r.length:=Nat.mul_le_mul_right _ hlen;subst hll;refine (H.some_ li.blk li.sh cap' l m arr el w hpos (by omega) (by omega) hm hml ha1 (by rw [<- hrows];exact hat.take _) (by omega)).mono fun x w' ⟨hx,⟨fin,f1,f2,f3,f4⟩,hfr,hsz,ho,htp,hpp⟩=>⟨_,hx,im,loc,?_⟩
 have hL:(m.map (RT.pv q.r)++rows.drop l.length).length=rows.length:=by simp only [List.length_append,bu,List.length_drop,hml];omega
 refine aC6 (P:=P) hsr hl hst hrne hfz ha1 f2 hfr hsz ho htp hpp b1 (by rw [hL];exact b2) hL (by rw [f1];exact ha2) (by rw [hL];exact ha3) ?_
 refine f3.append ?_;rw [bu,hml];intro i r hr;obtain ⟨g1,g2⟩:=(hat.drop l.length) i r hr;refine ⟨g1,fun j c hc=>?_⟩
 obtain ⟨v,v1,v2⟩:=g2 j c hc;refine ⟨v,v1,?_⟩;show fin[_]? =some v;rw [f4 _ (by omega)]
 exact v2
end Go.Vm
/- slices.Sort of numbers: the table's entry, by what the library's law says of the function. -/
namespace Go.Vm
theorem KX (a:Int): ∀l:List Int,(ZZ a l).Perm (a::l)
 | []=> .refl _
 |b::r=>by
  unfold ZZ;cases decide (a<=b)
  · exact ((KX a r).cons b).trans (.swap a b r)
  exact .refl _
theorem xU: ∀l:List Int,(nY l).Perm l
 | []=> .refl _
 |a::r=>(KX a _).trans ((xU r).cons a)
theorem L2 (a:Int): ∀{l:List Int},l.Pairwise (· <= ·)->(ZZ a l).Pairwise (· <= ·)
 | [],_=>by simp [ZZ]
 |b::r,h=>by
  obtain ⟨h1,h2⟩:=bo.1 h;unfold ZZ;cases hc:decide (a<=b)
  · have hc: ¬a<=b:=by simpa using hc
    refine bo.2 ⟨fun x hx=>?_,L2 a h2⟩
    rcases ce.1 ((KX a r).mem_iff.1 hx) with rfl|hx
    · omega
    exact h1 x hx
  have hc:a<=b:=by simpa using hc
  refine bo.2 ⟨fun x hx=>?_,h⟩
  rcases ce.1 hx with rfl|hx
  · exact hc
  have:=h1 x hx;omega
theorem CL: ∀l:List Int,(nY l).Pairwise (· <= ·)
 | []=> .nil
 |a::r=>L2 a (CL r)
theorem xH (l:List Int):(nY l).length=l.length:=(xU l).length_eq
theorem W6 (l:List Int):l.mergeSort (fun x y=>decide (x<=y))=nY l:=by
 refine List.Perm.eq_of_pairwise (le:=(· <= ·)) (fun a b _ _ h1 h2=>Int.le_antisymm h1 h2) ?_ (CL l) ((List.mergeSort_perm _ _).trans (xU l).symm)
 have:=List.pairwise_mergeSort (le:=fun x y:Int=>decide (x<=y)) (fun a b c h1 h2=>by simp at*;omega) (fun a b=>by simp;omega) l
 exact this.imp fun h=>by simpa using h
theorem aAs {P:Program} {f:FuncId}
 (H1: ∀(blk off cap:Nat) (zs:List Int) (w:World),Sort.Holds (Value.int .i64) w blk off zs.toArray->blk<w.heap.size->zs.length<4611686018427387904->
  Calls P f #[.slice (some ⟨blk,off,none⟩) zs.length cap] w fun e w'=>e= .returned (.tuple #[])/\ ∃n os,w'=Sort.grow (Sort.putRow (Value.int .i64) (Sort.ahead w n) blk off (zs.mergeSort fun x y=>decide (x<=y)).toArray) os)
 (b off c:Nat) (l:List Int) (arr:Array Value) (el:TypeId) (w:World) (hmost:l.length<=1048576) (hw:w.heap[b]? =some (.cells arr el (0,0)))
 (hat:bV (fun k=>arr[k]?) off 1 (l.map (RT.pv [.i .i64]))) (hfit:off+l.length*1<=arr.size):
 Calls P f #[.slice (some ⟨b,off,none⟩) l.length c] w fun x w'=>x= .returned (.tuple #[])/\(∃fin:Array Value,fin.size=arr.size/\w'.heap[b]? =some (.cells fin el (0,0))/\bV (fun k=>fin[k]?) off 1 ((nY l).map (RT.pv [.i .i64]))/\
  ∀j:Nat,off+l.length*1<=j->fin[j]? =arr[j]?)/\(∀b':Nat,b'<w.heap.size->b'≠b->w'.heap[b']? =w.heap[b']?)/\w.heap.size<=w'.heap.size/\w'.os=w.os/\w'.tape=w.tape/\w'.output=w.output:=by
 have hblk:b<w.heap.size:=(bn.1 hw).1;have hfit:off+l.length<=arr.size:=by omega
 have cells: ∀(j:Nat),j<l.length->arr[off+j]? =some (.int .i64 (l.toArray)[j]!):=fun j hj=>by
  have h1:(l.map (RT.pv [.i .i64]))[j]? =some (RT.pv [.i .i64] l[j]):=by rw [cb,List.getElem?_eq_getElem hj];rfl
  obtain ⟨_,h2⟩:=hat j _ h1;obtain ⟨v,v1,v2⟩:=h2 0 (.int .i64 l[j]) rfl;injection v1 with v1;subst v1;rw [show off+j*1+0=off+j by omega] at v2
  have:(l.toArray)[j]! =l[j]:=by rw [getElem!_pos _ j (by simpa using hj)];simp
  rw [this];exact v2
 have hH:Sort.Holds (Value.int .i64) w b off l.toArray:=fun j hj=>by
  have hj:j<l.length:=by simpa using hj
  refine ⟨?_,?_⟩
  · simp only [World.cell?,hw];exact cells j hj
  simp [World.frozen?,hw]
 refine (H1 b off c l w hH hblk (by omega)).mono fun x w' ⟨hx,n,os,hw'⟩=>⟨hx,?_⟩
 subst hw';rw [W6];have hml:(nY l).length=l.length:=xH l;have hp:(Sort.putRow (Value.int .i64) (Sort.ahead w n) b off (nY l).toArray).heap=w.heap.modify b (Sort.onCells (Sort.putCells (Value.int .i64) off (nY l).toArray)):=rfl;have hsz:(w.heap.modify b (Sort.onCells (Sort.putCells (Value.int .i64) off (nY l).toArray))).size=w.heap.size:=Array.size_modify
 have hget: ∀k:Nat,k<w.heap.size->(Sort.grow (Sort.putRow (Value.int .i64) (Sort.ahead w n) b off (nY l).toArray) os).heap[k]? =(w.heap.modify b (Sort.onCells (Sort.putCells (Value.int .i64) off (nY l).toArray)))[k]?:=fun k hk=>by
  show (_++os)[k]? =_;rw [hp,Array.getElem?_append,if_pos (by rw [hsz];exact hk)]
 refine ⟨⟨Sort.putCells (Value.int .i64) off (nY l).toArray arr,by simp [Sort.putCells],?_,?_,?_⟩,fun k hk hne=>?_,?_,rfl,rfl,rfl⟩
 · rw [hget b hblk,bv,if_pos rfl,hw];rfl
 · intro i r hr
   have hr:((nY l).map (RT.pv [.i .i64]))[i]? =some r:=hr;rw [cb,Option.map_eq_some_iff] at hr;obtain ⟨a,ha,rfl⟩:=hr;have hi:i<(nY l).length:=(bm.1 ha).1;refine ⟨rfl,fun j c hc=>?_⟩
   cases j with
   |succ j=>cases hc
   |zero=>
    injection hc with hc;subst hc;refine ⟨_,rfl,?_⟩;show (Sort.putCells _ _ _ _)[off+i*1+0]? =_;rw [show off+i*1+0=off+i by omega]
    unfold Sort.putCells;rw [bw,Array.getElem?_eq_getElem (by omega),cd,if_pos ⟨by omega,by simp;omega⟩,show off+i-off=i by omega]
    have:((nY l).toArray)[i]! =a:=by
     rw [getElem!_pos _ i (by simpa using hi)]
     have:=(bm.1 ha).2
     simpa using this
    rw [this]
 · intro j hj
   have hj:off+l.length<=j:=by omega
   unfold Sort.putCells;rw [bw];cases arr[j]? with
   |none=>rfl
   |some x=>
    rw [cd,if_neg];intro h
    have:=h.2
    simp [hml] at this;omega
 · rw [hget k hk,bv,if_neg (fun h=>hne h.symm)]
 show _<=(_++os).size
 rw [Array.size_append,hp,hsz];omega
theorem EP.int {P:Program} {f:FuncId}
 (H1: ∀(blk off cap:Nat) (zs:List Int) (w:World),Sort.Holds (Value.int .i64) w blk off zs.toArray->blk<w.heap.size->zs.length<4611686018427387904->
  Calls P f #[.slice (some ⟨blk,off,none⟩) zs.length cap] w fun e w'=>e= .returned (.tuple #[])/\ ∃n os,w'=Sort.grow (Sort.putRow (Value.int .i64) (Sort.ahead w n) blk off (zs.mergeSort fun x y=>decide (x<=y)).toArray) os)
 (H0: ∀(p:Option Addr) (cap:Nat) (w:World),Calls P f #[.slice p 0 cap] w fun e w'=>e= .returned (.tuple #[])/\w'=w):EP P f Z8 where
 none_ a c w:=H0 a c w
 some_ b off c l m arr el w _ _ hmost hfn _ hw hat hfit:=by
  obtain rfl:nY l=m:=by injection hfn
  exact aAs H1 b off c l arr el w hmost hw hat hfit
end Go.Vm
