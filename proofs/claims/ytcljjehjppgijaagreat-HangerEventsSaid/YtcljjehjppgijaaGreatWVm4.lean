/- The logical machine, part 4: SvSort, SvSortF, SvMk, SvMeet. -/
import Derived.Test.YtcljjehjppgijaaGreatWVm3
import Derived.Test.YtcljjehjppgijaaGreatWVm2
import Derived.Shelf.SlSortCmp.NoneTotal
import Derived.RangeFuncNested
import Derived.RangeFuncLeaves
import Derived.OwnWalkIn
import Derived.WalkKit
import Derived.RangeFuncBox
import Derived.RangeFuncCalls
open Array renaming getElem?_eq_some_iff->lw,getElem?_append->ab7,getElem?_modify->ab8,getElem?_mapIdx->ab9
open List renaming getElem?_eq_getElem->pp,length_cons->ut,getElem?_eq_some_iff->v6,length_map->ww,getElem?_map->Do,length_eq_zero_iff->If,flatMap_cons->UV,flatMap_append->aa3,length_append->aa5,range->aa8,getElem?_cons_succ->aa9,take_of_length_le->aaH,length_nil->aaI,append_nil->ab2,getElem?_set->aba,length_drop->abe,range_succ->abi,take_zero->abn,map_nil->abD,length->abF,length->abO
open Nat renaming le_refl->AC,le_trans->EQ,mul_le_mul_right->aa1,le_of_eq->aa4,mul_comm->abb,zero_add->abc
open Option renaming map_eq_some_iff->IR,map_some->abg,some->abR,none->abU
open Option.some renaming inj->NE
open Go.World renaming putObj_heap_other->PP,alloc_heap_new->aa2,putObj_heap_same->aak,cell?->abK
open Bool renaming and_eq_true->abd,true->ac0,false->ac2
open Go.Sem renaming run->abm
open Prod.mk renaming injEq->abB
open Decidable renaming decide->ac7
/- A function that puts the rows of a slice in order: what is asked of it in a program, and that the table's entry is then right. -/
namespace Go.Vm
theorem FH: ∀{p:PT} {x:PV} {a:p.T},Bl p x=abR a->x=p.pv a
 | .i k,.int l n,a,h=>by
  have h:(bif eX l k then abR n else abU)=abR a:=h;cases hk:eX l k with
  |false=>rw [hk] at h;cases h
  |true=>rw [hk] at h;obtain rfl:=eE.1 hk;injection h with h;subst h;rfl
 | .b,.bool x,a,h=>by have h:abR x=abR a:=h;injection h with h;subst h;rfl
theorem HB: ∀{r:List PT} {x:List PV} {a:RT r},GS r x=abR a->x=RT.pv r a
 | [],[],a,h=>rfl
 | [],_::_,a,h=>by cases h
 | [p],[v],a,h=>by rw [FH (show Bl p v=abR a from h)];rfl
 | [p],[],a,h=>by cases h
 | [p],_::_::_,a,h=>by cases h
 |p::q::r,[],a,h=>by cases h
 |p::q::r,v::vs,a,h=>by
  have h:(match Bl p v,GS (q::r) vs with
   |some a,abR b=>abR (a,b)
   |_,_=>abU)=abR a:=h
  cases h1:Bl p v with
  |none=>rw [h1] at h;cases h
  |some x=>
   cases h2:GS (q::r) vs with
   |none=>rw [h1,h2] at h;cases h
   |some y=>rw [h1,h2] at h;injection h with h;subst h;rw [FH h1,HB h2];rfl
theorem AF {r:List PT}: ∀{x:List (List PV)} {l:List (RT r)},Bm r x=abR l->x=l.map (RT.pv r)
 | [],l,h=>by injection h with h;subst h;rfl
 |v::vs,l,h=>by
  have h:(match GS r v,Bm r vs with
   |some a,abR l=>abR (a::l)
   |_,_=>abU)=abR l:=h
  cases h1:GS r v with
  |none=>rw [h1] at h;cases h
  |some x=>
   cases h2:Bm r vs with
   |none=>rw [h1,h2] at h;cases h
   |some y=>rw [h1,h2] at h;injection h with h;subst h;rw [HB h1,AF h2];rfl
def ac4:Option FuncId->List Value
 |none=>[]
 |some g=>[.func (.func g) ⟨[]⟩ ⟨[]⟩]
structure uY (P:Program) (f:FuncId) (q:Srt):Prop where
 some_: ∀(b off c:Nat) (l m:List (RT q.r)) (arr:Array Value) (el:TypeId) (w:World),0<abO l->abO l<=c->abO l<=1048576->q.fn l=abR m->abO m=abO l->w.heap[b]? =abR (.cells arr el (0,0))->
  bz (fun k=>arr[k]?) off (abO q.r) (l.map (RT.pv q.r))->off+abO l*abO q.r<=arr.size->
  Calls P f ⟨.slice (abR ⟨b,off,abU⟩) (abO l) c::ac4 q.g⟩ w fun x w'=>x= .returned (.tuple #[])/\(∃fin:Array Value,fin.size=arr.size/\w'.heap[b]? =abR (.cells fin el (0,0))/\bz (fun k=>fin[k]?) off (abO q.r) (m.map (RT.pv q.r))/\
   ∀j:Nat,off+abO l*abO q.r<=j->fin[j]? =arr[j]?)/\(∀b':Nat,b'<w.heap.size->b'≠b->w'.heap[b']? =w.heap[b']?)/\w.heap.size<=w'.heap.size/\w'.os=w.os/\Tape w w'/\w'.output=w.output
 none_: ∀(a:Option Addr) (c:Nat) (w:World),Calls P f ⟨.slice a 0 c::ac4 q.g⟩ w fun x w'=>x= .returned (.tuple #[])/\w'=w
theorem ac5 {im:Im} {loc:Loc} {g:Option FuncId} {r:List PV} {us:List Value} (h:Vf g r=ac0) (hu:eD im loc r us):us=ac4 g:=by
 unfold Vf at h;split at h
 · cases hu;rfl
 · rename_i g h'
   have:h'=g:=by simpa using h
   subst this;cases hu with
   |cons _ a _ b h1 h2=>
    cases h2;cases h1 with
    |eA _ _ _ a2 bs ha hb=>cases ha;cases hb;rfl
 cases h
theorem Qa {im:Im} {loc:Loc} {aA:bS} {fz:List Nat} {w w':World} {t e:Nat} {li:LI} {rows qR:List Row} {arr fin:Array Value} {el:TypeId} (kg:SR im loc aA fz w) (hl:loc t=abR li) (bM:aA[t]? =abR (.arr e rows)) (dM:rows≠[]) (hf:has fz t=ac2)
 (_ha:w.heap[li.cZ]? =abR (.cells arr el (0,0))) (hw:w'.heap[li.cZ]? =abR (.cells fin el (0,0))) (qI: ∀b':Nat,b'<w.heap.size->b'≠li.cZ->w'.heap[b']? =w.heap[b']?) (oJ:w.heap.size<=w'.heap.size) (ho:w'.os=w.os) (ht:Tape w w') (hp:w'.output=w.output)
 (he:li.esz=e) (hn:li.n=abO qR) (bU:(abO qR)=abO rows) (hfs:fin.size=li.sz) (vG:li.sh+abO qR*e<=li.sz) (hr:bz (fun k=>fin[k]?) li.sh e qR):
 tf im loc aA w (.bN []) (aA.set t (.arr e qR)) fz im loc w' (.tuple #[]):=by
 have PA:t<(abO aA):=(v6.1 bM).1;have Pd:qR≠[]:=by intro h;subst h;rw [aaI] at bU;exact dM (If.1 bU.symm)
 have GN:(jQ.arr e rows).bB=ac0:=nm dM;have hs1:(jQ.arr e qR).bB=ac0:=nm Pd;have A5:=kg.free t li _ hl bM GN hf;have old: ∀{u:Nat} {k:jQ},(aA.set t (.arr e qR))[u]? =abR k->(u=t/\k= .arr e qR)\/(u≠t/\aA[u]? =abR k):=by
  intro u k h;rw [aba] at h;split at h
  · rename_i e1;subst e1;first|(rw [lm PA] at h;injection h with h;exact .inl ⟨rfl,h.symm⟩)|(injection h with h;exact .inl ⟨rfl,h.symm⟩)
  rename_i dM;exact .inr ⟨fun e=>dM e.symm,h⟩
 have sol: ∀{u:Nat} {k:jQ},(aA.set t (.arr e qR))[u]? =abR k->k.bB=ac0-> ∃k0,aA[u]? =abR k0/\k0.bB=ac0:=by
  intro u k h hs;rcases old h with ⟨rfl,rfl⟩|⟨_,h⟩
  · exact ⟨_,bM,GN⟩
  exact ⟨k,h,hs⟩
 have lt: ∀{b:Nat} {o:Obj},w.heap[b]? =abR o->b<w.heap.size:=fun h=>(lw.1 h).1
 exact {
  fZ:= .refl _,dz:= .refl _
  vr:= .bN _ _ .nil
  sr:={
   bu:=fun b o hb=>by
    have h1:=kg.bu b o hb;have h2:b≠li.cZ:=fun h=>by rw [h,A5] at hb;cases hb
    rw [qI b (lt h1) h2];exact h1
   cZ:=fun u lu hu=>by
    obtain ⟨k,hk,hb⟩:=kg.cZ u lu hu
    by_cases e1:u=t
    · subst e1
      rw [hl] at hu;injection hu with hu;subst hu;exact ⟨_,List.getElem?_set_self PA,he,hn,fun _=>⟨fin,el,hw,hfs,vG,hr⟩⟩
    refine ⟨k,by rw [List.getElem?_set_ne (fun h=>e1 h.symm)];exact hk,hb.fH (.refl _) (.refl _) fun hs=>?_⟩
    exact qI _ (hb.lt hs) fun h=>e1 (kg.iE _ _ _ _ _ _ hu hl hk bM hs GN h)
   iE:=fun u v lu lv k k' hu hv hk J8 hs uM h=>by obtain ⟨k0,a,b⟩:=sol hk hs;obtain ⟨k1,c,d⟩:=sol J8 uM;exact kg.iE _ _ _ _ _ _ hu hv a c b d h
   free:=fun u lu k hu hk hs hz=>by obtain ⟨k0,a,b⟩:=sol hk hs;exact kg.free _ _ _ hu a b hz}
  os:=ho,tape:=ht,output:=hp,size:=oJ
  frame:=fun b hb h=>qI b hb fun h2=>h t li _ hl bM GN h2.symm
  dF:=fun b o h=> .inl h
  mV:=fun u lu h=> .inl h
  own:=fun u lu k hu hk hs=>by obtain ⟨k0,a,b⟩:=sol hk hs;exact .inr ⟨u,lu,k0,hu,a,b,rfl⟩}
theorem MQ {im:Im} {loc:Loc} {aA:bS} {fz:List Nat} {w:World} (kg:SR im loc aA fz w):tf im loc aA w (.bN []) aA fz im loc w (.tuple #[]) where
 fZ:= .refl _
 dz:= .refl _
 vr:= .bN _ _ .nil
 sr:=kg
 os:=rfl
 tape:= .refl _
 output:=rfl
 size:=AC _
 frame:=fun _ _ _=>rfl
 dF:=fun _ _ h=> .inl h
 mV:=fun _ _ h=> .inl h
 own:=fun t li k hl hk hs=> .inr ⟨t,li,k,hl,hk,hs,rfl⟩
theorem Pq.srt {P:Program} {f:FuncId} {q:Srt} {fn:Func} {c:Code} (hf:P.funcs[f]? =abR fn) (qT:(fn.name== "runtime.NumGoroutine")=ac2) (hb:fn.body=abR c) (h0:q.fn []=abR []) (H:uY P f q):Pq P f (Sa q):=by
 refine ⟨fn,c,hf,qT,hb,?_⟩;intro args aA fz v vM Jn hp im loc w us kg yP;unfold Sa at hp;split at hp
 case h_2=>cases hp
 rename_i t e1 off len cap ex r;split at hp
 case h_2=>cases hp
 rename_i e3 rows bM;split at hp
 case isFalse=>cases hp
 rename_i hc;simp only [abd,Nat.beq_eq,Bool.not_eq_true',Nat.ble_eq] at hc;obtain ⟨⟨⟨⟨⟨q1,rfl⟩,bU⟩,lA⟩,Rb⟩,hg⟩:=hc;subst q1;have lA:len<=1048576:=lA;split at hp
 case h_2=>cases hp
 rename_i l Jm;split at hp
 case h_2=>cases hp
 rename_i m hm;split at hp
 case isFalse=>cases hp
 rename_i zp;have zp:(abO m)=(abO l):=by simpa using zp
 injection hp with hp;simp only [abB] at hp;obtain ⟨rfl,rfl,rfl⟩:=hp;have kX:=AF Jm;have Ae:(abO l)=len:=by have:=congrArg abF kX;rw [List.length_take,ww] at this;omega
 obtain ⟨x0,us1,rfl,Kb,yP⟩: ∃x0 us1,us=x0::us1/\VR im loc (.own t (abO q.r) 0 len cap ex) x0/\eD im loc r us1:=by cases yP with|cons _ a _ b h1 h2=>exact ⟨a,b,rfl,h1,h2⟩
 obtain rfl:=ac5 hg yP;obtain ⟨li,a,cB,rfl,hl,he,DH,hlc,NF,_,DJ⟩:=Kb.iB;obtain ⟨k1,iF,sV⟩:=kg.cZ t li hl;rw [bM] at iF;injection iF with iF;subst iF;obtain ⟨b1,b2,b3⟩:=sV;obtain rfl:(abO q.r)=e3:=by rw [<- b1,he]
 refine .inr ⟨fT hf qT hb,?_⟩;rcases Nat.eq_zero_or_pos len with hz|Ad
 · subst hz
   obtain rfl:l=[]:=If.1 Ae;rw [h0] at hm;injection hm with hm;subst hm;refine (H.none_ a cB w).mono fun x w' ⟨hx,hw⟩=>⟨_,hx,im,loc,?_⟩
   subst hw;have:aA.set t (.arr (abO q.r) (([]:List (RT q.r)).map (RT.pv q.r)++rows.drop 0))=aA:=by
    apply List.ext_getElem?;intro j;rw [aba];split
    · rename_i e;subst e;rw [lm (v6.1 bM).1,bM];rfl
    rfl
   rw [this];exact MQ kg
 have nR:rows≠[]:=by intro h;subst h;simp at bU;omega
 obtain ⟨arr,el,s9,H8,Jl,cJ⟩:=b3 nR;obtain ⟨QW,rfl,vG⟩:li.n≠0/\a=abR ⟨li.cZ,li.sh,abU⟩/\li.sh+cB*abO q.r<=li.sz:=by
  rcases DJ with h|⟨h1,h2,h3⟩
  · omega
  exact ⟨h1,by simpa using h2,by simpa using h3⟩
 have lx:len*abO q.r<=abO rows*(abO q.r):=aa1 _ bU;subst Ae;refine (H.some_ li.cZ li.sh cB l m arr el w Ad (by omega) (by omega) hm zp s9 (by rw [<- kX];exact cJ.take _) (by omega)).mono fun x w' ⟨hx,⟨fin,f1,f2,f3,f4⟩,qI,oJ,ho,htp,hpp⟩=>⟨_,hx,im,loc,?_⟩
 have hL:(m.map (RT.pv q.r)++rows.drop (abO l)).length=(abO rows):=by simp only [aa5,ww,abe,zp];omega
 refine Qa kg hl bM nR Rb s9 f2 qI oJ ho htp hpp b1 (by rw [hL];exact b2) hL (by rw [f1];exact H8) (by rw [hL];exact Jl) ?_;refine f3.append ?_;rw [ww,zp];intro i r hr;obtain ⟨g1,g2⟩:=(cJ.drop (abO l)) i r hr;refine ⟨g1,fun j c hc=>?_⟩;obtain ⟨v,v1,v2⟩:=g2 j c hc;refine ⟨v,v1,?_⟩;show fin[_]? =abR v;rw [f4 _ (by omega)];exact v2
end Go.Vm
/- slices.SortFunc at rows of numbers with a callback: the table's entry, by what the library's law says of the function. -/
namespace Go.Vm
def PT.va:(p:PT)->p.T->Value
 | .i k,n=> .int k n
 | .b,x=> .bool x
def RT.va:(r:List PT)->RT r->List Value
 | [],_=>[]
 | [p],a=>[p.va a]
 |p::q::r,a=>p.va a.1::RT.va (q::r) a.2
theorem PT.SX (p:PT) (a:p.T):hJ (p.pv a)=abR (p.va a):=by cases p<;>rfl
theorem RT.CL: ∀(r:List PT) (a:RT r),(RT.va r a).length=abO r
 | [],_=>rfl
 | [_],_=>rfl
 |_::q::r,a=>by rw [RT.va,ut,RT.CL (q::r) a.2,ut,ut,ut]
theorem RT.IS: ∀(r:List PT) (a:RT r),(RT.pv r a).length=abO r
 | [],_=>rfl
 | [_],_=>rfl
 |_::q::r,a=>by rw [RT.pv,ut,RT.IS (q::r) a.2,ut,ut,ut]
theorem RT.SY: ∀(r:List PT) (a:RT r) (j:Nat),j<abO r-> ∃c v,(RT.pv r a)[j]? =abR c/\hJ c=abR v/\(RT.va r a)[j]? =abR v
 | [],_,j,h=>absurd h (Nat.not_lt_zero j)
 | [p],a,0,_=>⟨_,_,rfl,p.SX a,rfl⟩
 | [_],_,j+1,h=>absurd h (by simp)
 |p::q::r,a,0,_=>⟨_,_,rfl,p.SX a.1,rfl⟩
 |p::q::r,a,j+1,h=>by obtain ⟨c,v,h1,h2,h3⟩:=RT.SY (q::r) a.2 j (by simpa using h);exact ⟨c,v,by rw [RT.pv,aa9];exact h1,h2,by rw [RT.va,aa9];exact h3⟩
theorem PT.FI (p:PT) (a:p.T):(p.va a).oneCell'=ac0:=by cases p<;>rfl
theorem RT.FI: ∀(r:List PT) (a:RT r),∀v∈RT.va r a,v.oneCell'=ac0
 | [],_,v,h=>by cases h
 | [p],a,v,h=>by rw [RT.va,List.mem_singleton] at h;subst h;exact p.FI a
 |p::q::r,a,v,h=>by
  rw [RT.va,List.mem_cons] at h;rcases h with rfl|h
  · exact p.FI a.1
  exact RT.FI (q::r) a.2 v h
theorem PT.vr {im:Im} {loc:Loc} (p:PT) (a:p.T):VR im loc (p.pv a) (p.va a):=VR.AZ (p.SX a)
theorem RT.SZ {im:Im} {loc:Loc}: ∀(r:List PT) (a:RT r),eD im loc (RT.pv r a) (RT.va r a)
 | [],_=> .nil
 | [p],a=> .cons _ _ _ _ (p.vr a) .nil
 |p::q::r,a=> .cons _ _ _ _ (p.vr a.1) (RT.SZ (q::r) a.2)
theorem VI {w w':World} (hs:w.heap.size<=w'.heap.size) (fr: ∀b,b<w.heap.size->w'.heap[b]? =w.heap[b]?) (ho:w'.os=w.os) (ht:Tape w w') (hp:w'.output=w.output): ∃q os',w'=Sort.grow (w.drewN q) os':=by
 refine ⟨w'.drawn-w.drawn,w'.heap.extract w.heap.size w'.heap.size,?_⟩;have hh:w'.heap=w.heap++w'.heap.extract w.heap.size w'.heap.size:=by
  apply Array.ext_getElem?;intro i;rw [ab7]
  by_cases h:i<w.heap.size
  · rw [lm h];exact fr i h
  rw [ls h,Array.getElem?_extract]
  by_cases h2:i<w'.heap.size
  · rw [lm (by omega)];congr 1;omega
  rw [ls (by omega),Array.getElem?_eq_none (by omega)]
 have hd:w'.drawn=w.drawn+(w'.drawn-w.drawn):=by have:=ht.dr;omega
 have htp:=ht.eq;obtain ⟨h1,t1,d1,o1,p1⟩:=w';obtain ⟨h0,t0,d0,o0,p0⟩:=w;simp only at hh hd htp ho hp;simp only [Sort.grow,World.drewN];subst htp ho hp;rw [<- hh,<- hd]
def S0 (F:kQ) (g:FuncId) (r:List PT) (x y:RT r) (v:Int):Prop:= ∃n s z,run F n (.func g [.agg (RT.pv r x),.agg (RT.pv r y)] [] [])=abR (.func (.int .i64 v) s z)
structure S1 (F:kQ) (g:FuncId) (r:List PT) (cf:RT r->RT r->Int) (l:List (RT r)):Prop where
 cmp: ∀x∈l,∀y∈l,S0 F g r x y (cf x y)
 irrefl: ∀x∈l,¬cf x x<0
 trans: ∀x∈l,∀y∈l,∀z∈l,cf x y<0->cf y z<0->cf x z<0
 ntrans: ∀x∈l,∀y∈l,∀z∈l,¬cf x y<0-> ¬cf y z<0-> ¬cf x z<0
 UB: ∀x∈l,∀y∈l,¬cf x y<0-> ¬cf y x<0->x=y
open Go.Sort Go.Shelf Go.Proofs in
theorem uY.cls {P:Program} {prims:FuncId->Bool} {F:kQ} (hT:EY P prims F) (xX:tg P F) (oF:P.follows .mixedOrders=ac0) {f g:FuncId} {r:List PT} {ρ:Go.Shelf.Ren} (L:SlLaysF0.n6 P ρ) (hf:ρ.f 6=f) (hr:0<abO r)
 (aE: ∀w,(isAgg (ρ.t 24)).run P w= .ok ac0 w) (zE: ∀w,(Go.sizeOf (ρ.t 24)).run P w= .ok (abO r) w) (eg: ∀args w,(callFunc g args).run P w= .ok (.enter g args) w)
 {fn:List (RT r)->Option (List (RT r))} (D5: ∀l m,fn l=abR m-> ∃cf,S1 F g r cf l/\m=l.mergeSort fun x y=>!ac7 (cf y x<0)):uY P f ⟨r,abR g,fn⟩ where
 none_ a c w:=by subst hf;exact AnyF.slices_SortFunc_none L a c (.func (.func g) #[] #[]) w
 some_ b off c l m arr el w Ad _ lA Pc zp hw cJ vG:=by
  obtain ⟨cf,S,D5⟩:=D5 l m Pc;have D5:=D5.symm;have cJ:bz (fun k=>arr[k]?) off (abO r) (l.map (RT.pv r)):=cJ
  have vG:off+abO l*abO r<=arr.size:=vG;have Ad:0<(abO l):=Ad
  letI:Inhabited {a:RT r // a∈l}:=⟨⟨l[0],List.getElem_mem Ad⟩⟩
  obtain ⟨l',kY⟩: ∃l':List {a:RT r // a∈l},l'.map (fun x=>x.1)=l:=⟨l.attach,List.attach_map_subtype_val l⟩;obtain ⟨m',zF⟩: ∃m',m'=l'.mergeSort fun x y=>!ac7 (cf y.1 x.1<0):=⟨_,rfl⟩
  have mm:m'.map (fun x=>x.1)=m:=by
   rw [zF,<- D5]
   conv=>rhs;rw [<- kY]
   exact List.map_mergeSort (fun _ _ _ _=>rfl)
  have ml:(abO m')=(abO l):=by have zp:(abO m)=(abO l):=zp;rw [<- zp,<- mm,ww]
  have zp:(abO m)=(abO l):=zp;have ll:(abO l')=(abO l):=by have:=congrArg abF kY;rwa [ww] at this
  have hblk:b<w.heap.size:=(lw.1 hw).1;have cells: ∀(i j:Nat),i<abO l->j<abO r->arr[off+i*abO r+j]? =abR ((RT.va r (l'.toArray[i]!).1)[j]!):=fun i j hi hj=>by
   have h1:(l.map (RT.pv r))[i]? =abR (RT.pv r l[i]):=by rw [Do,pp hi];rfl
   obtain ⟨_,h2⟩:=cJ i _ h1;obtain ⟨cc,v,c1,c2,c3⟩:=RT.SY r l[i] j hj;obtain ⟨v',v1,v2⟩:=h2 j cc c1;rw [c2] at v1;injection v1 with v1;subst v1;have e:(l'.toArray[i]!).1=l[i]:=by
    have rZ:i<(abO l'):=by omega
    rw [getElem!_pos _ i (by simpa using rZ)];have:(l'.map (fun x=>x.1))[i]? =abR l[i]:=by rw [kY,pp hi]
    rw [Do,pp rZ] at this;simpa using this
   rw [e,getElem!_pos _ j (by rw [RT.CL];exact hj)];rw [pp (by rw [RT.CL];exact hj)] at c3;rw [c3];exact v2
  have hH:Sort.HoldsK (fun x:{a:RT r // a∈l}=>RT.va r x.1) (abO r) w b off l'.toArray:=fun t ht=>by
   have ht:t<abO l*(abO r):=by simpa [ll] using ht
   have hi:t / (abO r)<(abO l):=Nat.div_lt_of_lt_mul (by rw [abb];exact ht);have hj:=Nat.mod_lt t hr;refine ⟨?_,?_⟩
   · have e:=cells (t / (abO r)) (t%(abO r)) hi hj
     rw [Nat.add_assoc,Nat.div_add_mod'] at e;simp only [abK,hw];rw [Sort.get_flatK _ _ _ t (by simpa [ll] using ht)];exact e
   simp [World.frozen?,hw]
  have ajh:l'.toArray.size=(abO l):=by simp [ll]
  have lt: ∀x y:{a:RT r // a∈l},ltOf (fun x y:{a:RT r // a∈l}=>cf x.1 y.1) x y=ac7 (cf x.1 y.1<0):=fun _ _=>rfl
  have hO:SWO (ltOf fun x y:{a:RT r // a∈l}=>cf x.1 y.1):={
   irrefl:=fun x=>by rw [lt];exact decide_eq_false (S.irrefl x.1 x.2)
   trans:=fun x y z h1 h2=>by rw [lt] at*;exact decide_eq_true (S.trans x.1 x.2 y.1 y.2 z.1 z.2 (of_decide_eq_true h1) (of_decide_eq_true h2))
   ntrans:=fun x y z h1 h2=>by rw [lt] at*;exact decide_eq_false (S.ntrans x.1 x.2 y.1 y.2 z.1 z.2 (of_decide_eq_false h1) (of_decide_eq_false h2))}
  have amX:CmpLays P g #[] (fun x:{a:RT r // a∈l}=>RT.va r x.1) (abO r) (fun x y=>cf x.1 y.1) b off l'.toArray.size w:=by
   intro m os dk hs x y;obtain ⟨n,s,z,bI⟩:=S.cmp x.1 x.2 y.1 y.2;rw [Array.append_empty];refine (Cw hT xX oF bI (im:=fun _=>abU) (us:=[.agg (RT.va r x.1).toArray,.agg (RT.va r y.1).toArray]) (fun _ _ h=>by cases h) (.cons _ _ _ _ (.agg _ _ (RT.SZ r x.1)) (.cons _ _ _ _ (.agg _ _ (RT.SZ r y.1)) .nil))).mono fun e w' ⟨u,he,⟨dT,ba,hv,_⟩,ho,ht,hp,oJ,qI⟩=>?_
   exact ⟨by rw [he,hv.eW],VI oJ qI ho ht hp⟩
  subst hf;have hc:=AnyQ.slices_SortFunc_total L (abO r) aE zE (fun x:{a:RT r // a∈l}=>RT.va r x.1) (fun x=>RT.CL r x.1) (fun x v hv=>RT.FI r x.1 v hv) (fun x y=>cf x.1 y.1) hO g #[] b off c l'.toArray w eg amX hH hblk (by rw [ajh];omega)
   (fun x y h1 h2=>by rw [lt] at h1 h2;exact Subtype.ext (S.UB x.1 x.2 y.1 y.2 (of_decide_eq_false h1) (of_decide_eq_false h2)))
  rw [ajh] at hc;refine hc.mono fun x w' ⟨hx,n,os,Uy⟩=>⟨hx,?_⟩
  subst Uy;rw [show l'.toArray.toList=l' from rfl,show (l'.mergeSort fun x y=>!ltOf (fun x y:{a:RT r // a∈l}=>cf x.1 y.1) y x)=m' from zF.symm];show (∃fin:Array Value,_/\(Sort.grow (Sort.putRowK (fun x:{a:RT r // a∈l}=>RT.va r x.1) (abO r) (Sort.ahead w n) b off m'.toArray) os).heap[b]? =_/\_)/\_;obtain ⟨F,hF⟩: ∃F,F=Sort.flatK (fun x:{a:RT r // a∈l}=>RT.va r x.1) (abO r) m'.toArray:=⟨_,rfl⟩;have hFs:F.size=abO l*(abO r):=by rw [hF,Sort.size_flatK];simp [ml]
  have hp:(Sort.putRowK (fun x:{a:RT r // a∈l}=>RT.va r x.1) (abO r) (Sort.ahead w n) b off m'.toArray).heap=w.heap.modify b (Sort.onCells (Sort.putCells id off F)):=by rw [hF];rfl
  have oJ:(w.heap.modify b (Sort.onCells (Sort.putCells id off F))).size=w.heap.size:=Array.size_modify;have DK: ∀k:Nat,k<w.heap.size->(Sort.grow (Sort.putRowK (fun x:{a:RT r // a∈l}=>RT.va r x.1) (abO r) (Sort.ahead w n) b off m'.toArray) os).heap[k]? =(w.heap.modify b (Sort.onCells (Sort.putCells id off F)))[k]?:=fun k hk=>by show (_++os)[k]? =_;rw [hp,ab7,lm (by rw [oJ];exact hk)]
  refine ⟨⟨Sort.putCells id off F arr,by simp [Sort.putCells],?_,?_,?_⟩,fun k hk dM=>?_,?_,rfl,⟨rfl,Nat.le_add_right _ _⟩,rfl⟩
  · rw [DK b hblk,ab8,lm rfl,hw];rfl
  · intro i rr hrr
    have hrr:(m.map (RT.pv r))[i]? =abR rr:=hrr;rw [Do,IR] at hrr;obtain ⟨a,ha,rfl⟩:=hrr;have hi:i<(abO m):=(v6.1 ha).1;have rZ:i<(abO m'):=by omega
    refine ⟨RT.IS r a,fun j cc hc=>?_⟩;have hj:j<(abO r):=by
     have:=(v6.1 hc).1
     rwa [RT.IS] at this
    obtain ⟨c2,v,d1,d2,d3⟩:=RT.SY r a j hj;rw [hc] at d1;injection d1 with d1;subst d1;refine ⟨v,d2,?_⟩;have c7:i*abO r+j<abO l*(abO r):=by have:(i+1)*abO r<=abO l*(abO r):=aa1 _ (by omega);rw [Nat.add_mul,Nat.one_mul] at this;omega
    show (Sort.putCells _ _ _ _)[off+i*abO r+j]? =_;unfold Sort.putCells;rw [ab9,Array.getElem?_eq_getElem (by omega),abg,lm ⟨by omega,by omega⟩,show off+i*abO r+j-off=i*abO r+j by omega,hF,Sort.get_flatK _ _ _ _ (by simpa [ml] using c7)];have e1:(i*abO r+j) / (abO r)=i:=by rw [abb,Nat.mul_add_div hr,Nat.div_eq_of_lt hj,Nat.add_zero]
    have e2:(i*abO r+j)%(abO r)=j:=by rw [abb,Nat.mul_add_mod,Nat.mod_eq_of_lt hj]
    rw [e1,e2];have e:(m'.toArray[i]!).1=a:=by
     rw [getElem!_pos _ i (by simpa using rZ)];have:(m'.map (fun x=>x.1))[i]? =abR a:=by rw [mm];exact ha
     rw [Do,pp rZ] at this;simpa using this
    rw [e,getElem!_pos _ j (by rw [RT.CL];exact hj)];rw [pp (by rw [RT.CL];exact hj)] at d3;exact d3
  · intro j hj
    have hj:off+abO l*abO r<=j:=hj;unfold Sort.putCells;rw [ab9];cases arr[j]? with
    |none=>rfl
    |some x=>rw [abg,ls];intro h;have:=h.2;omega
  · refine (DK k hk).trans ?_
    rw [ab8,ls (fun h=>dM h.symm)]
  show _<=(_++os).size
  rw [Array.size_append,hp,oJ];omega
end Go.Vm
/- A function that makes one new block of rows out of a slice's rows: the table's entry; and the law of a range over a function whose body never leaves. -/
namespace Go
open Go.RowKit
def VJ {α:Type} (B:Nat) (Kp:World->World->Prop) (I:List α->World->Prop) (xs:List α) (W:World):Exit->Act->World->Prop
 | .normal,_,W'=>W'.heap[B]? =W.heap[B]?/\W'.heap[B+1]? =W.heap[B+1]?/\I xs W'/\Kp W W'
 |_,_,_=>False
theorem Qb {α:Type} {F:Fence} {n:Nat} {P:Program} {g:Operand} {ps:Array Tmp} {assign body:Code} {Q:Exit->Act->World->Prop} {a:Act} {w:World}
 (zA:F.round=abU) (h1:1<=n) {gf:Nat} {lb:Array Value} (hg:a.eval g= .func (.func gf) #[] lb) (hFg:F.fn gf) (eg: ∀args w,(callFunc gf args).run P w= .ok (.enter gf args) w)
 {encs:α->Array Value} (hps: ∀x,(encs x).size=ps.size) (xs:List α) (I:List α->World->Prop)
 (KB: ∀pre W r o,W.heap[w.heap.size+1]? =abR (.loop r)->I pre W->I pre (W.putObj (w.heap.size+1) o)) (ac6: ∀pre W W',I pre W->Below W.heap.size W W'->W'.drawn=W.drawn->I pre W') (h0:I [] w)
 (Kp:World->World->Prop) (hKt: ∀{A B C},Kp A B->Kp B C->Kp A C) (hKb: ∀{W W'},Below W.heap.size W W'->Kp W W') (hKp: ∀{W r} o,W.heap[w.heap.size+1]? =abR (.loop r)->Kp W (W.putObj (w.heap.size+1) o))
 (amZ: ∀(l:Nat) (J:List α->World->Prop) (W:World),(∀pre W,J pre W->I pre W)->(∀pre W W',J pre W->Below W.heap.size W W'->W'.drawn=W.drawn->J pre W')->
  (∀pre x W1,J pre W1->pre++[x]<+:xs->YieldAt F (n-1-1) P l (encs x) W1 fun e W'=>e= .returned (.bool ac0)/\J (pre++[x]) W'/\Kp W1 W')->J [] W->
  CallsIn F (n-1) P gf (#[.func (.yield l) #[] #[]]++lb) W fun e W'=>(∃v,e= .returned v)/\J xs W')
 (Ax:α->Act->World->Prop) (hAx: ∀x a' W r o,W.heap[w.heap.size+1]? =abR (.loop r)->Ax x a' W->Ax x a' (W.putObj (w.heap.size+1) o))
 (VK: ∀(l:Nat) (x:α) (W:World) (K:Act->World->Prop),w.heap.size+1<W.heap.size->(∀a' W',Below W.heap.size W W'->W'.drawn=W.drawn->Ax x a' W'->K a' W')->
  assign.wpIn (F.inRound l) (n-1-1) P (Exit.then K (fun _ _ _=>False)) {tmps:=(ps.zip (encs x)).foldl (fun t (p,v)=>t.setIfInBounds p v) a.tmps,defers:=[]} W)
 (ky: ∀(l:Nat) (pre:List α) (x:α) (a':Act) (W:World),I pre W->Ax x a' W->pre++[x]<+:xs->W.heap[w.heap.size]? =abR (.deferred (abR []))->(∃r,W.heap[w.heap.size+1]? =abR (.loop r))->body.wpIn (F.inRound l) (n-1-1) P (VJ w.heap.size Kp I (pre++[x]) W) a' W)
 (aji: ∀(W:World),I xs W->W.heap[w.heap.size]? =abR (.deferred (abR []))->Q .normal {a with defers:={target:= .collected w.heap.size,args:= #[]}::a.defers} W):
 (Code.rangeFunc g ps assign body).wpIn F n P Q a w:=by
 refine wpIn_rangeFunc ?_;intro fn D5;rw [zA];obtain ⟨rec,vJ⟩: ∃rec:LoopState->Option Code->Loop,rec=fun st pe=>{state:=st,pending:=pe,fn,tmps:=a.tmps,params:=ps,assign,body,defers:=w.heap.size}:=⟨_,rfl⟩
 obtain ⟨W1,hW1⟩: ∃W1,(w.alloc (.deferred (abR []))).alloc (.loop (rec .ready abU))=W1:=⟨_,rfl⟩;have hL1:W1.heap[w.heap.size+1]? =abR (.loop (rec .ready abU)):=by rw [<- hW1];have:=aa2 (w.alloc (.deferred (abR []))) (.loop (rec .ready abU));rwa [World.size_alloc] at this
 have hK1:W1.heap[w.heap.size]? =abR (.deferred (abR [])):=by rw [<- hW1];exact (Below.heap_alloc _ _ _ (by simp)).trans (aa2 w _)
 have hI1:I [] W1:=by rw [<- hW1];exact ac6 _ _ _ h0 (((Below.refl _ w).alloc (AC _) _).alloc (by simp) _) rfl
 refine ⟨w.heap.size+1,[{target:= .collected w.heap.size,args:= #[]}],W1,{target:= .fn (.func gf) lb,args:= #[.func (.yield (w.heap.size+1)) #[] #[]]},W1,gf,
  #[.func (.yield (w.heap.size+1)) #[] #[]]++lb,W1,?_,?_,?_,?_,fun _=>h1,?_⟩
 · rw [<- hW1,vJ];exact run_enterLoop_outer _ _ _ _ _
 · simp only [resolve,hg]
   simp [go_sem]
 · intro f' PE;simp [Target.leads] at PE;subst PE;exact hFg
 · simp [invoke,go_sem,eg]
 refine (amZ (w.heap.size+1) (fun pre W=>I pre W/\W.heap[w.heap.size+1]? =abR (.loop (rec .ready abU))/\W.heap[w.heap.size]? =abR (.deferred (abR []))) W1 (fun _ _ h=>h.1)
  (fun pre W W' ⟨h1,h2,h3⟩ hb hd=>⟨ac6 _ _ _ h1 hb hd,(hb.block _ (lw.1 h2).1).trans h2,(hb.block _ (lw.1 h3).1).trans h3⟩) ?_ ⟨hI1,hL1,hK1⟩).mono ?_
 · rintro pre x W ⟨hi,hl,hk⟩ GO
   have c7:w.heap.size+1<W.heap.size:=(lw.1 hl).1;have hy:=run_yield (P:=P) (args:=encs x) hl (by rw [vJ];exact hps x);rw [vJ] at hy;refine ⟨fn,_,assign,body,hy,roundIn_of_wpIn D5 (VK _ x W _ c7 ?_)⟩;clear hy;intro a' Wa hba hda hax
   replace hl:=(hba.block _ c7).trans hl
   replace hk:=(hba.block _ (show w.heap.size<W.heap.size by omega)).trans hk
   replace hi:=ac6 _ _ _ hi hba hda
   replace c7:w.heap.size+1<Wa.heap.size:=(lw.1 hl).1
   refine ⟨_,run_beginRound hl (by rw [vJ]),?_⟩;have G5:(Wa.putObj (w.heap.size+1) (.loop {rec .ready abU with state:= .busy})).heap[w.heap.size+1]? =abR (.loop {rec .ready abU with state:= .busy}):=aak c7;have Co:(Wa.putObj (w.heap.size+1) (.loop {rec .ready abU with state:= .busy})).heap[w.heap.size]? =abR (.deferred (abR [])):=(PP (by omega)).trans hk;refine wpIn_mono (ky _ pre x a' _ (KB _ _ _ _ hl hi) (hAx _ _ _ _ _ hl hax) GO Co ⟨_,G5⟩) ?_;rintro e a3 W3 hp;cases e with
   |normal=>
    obtain ⟨b1,b2,hi3,hkp⟩:=hp;have hl3:=b2.trans G5;have hr:=run_endRound (P:=P) abU hl3;refine ⟨_,_,hr,rfl,⟨KB _ _ _ _ hl3 hi3,?_,?_⟩,hKt (hKb hba) (hKt (hKp _ hl) (hKt hkp (hKp _ hl3)))⟩
    · refine (aak (lw.1 hl3).1).trans ?_
      rw [vJ];rfl
    exact (PP (by omega)).trans (b1.trans Co)
   |_=>exact hp.elim
 rintro e W2 ⟨⟨v,rfl⟩,hi,hl,hk⟩
 exact ⟨abU,_,by have:=run_endLoop (P:=P) hl (by rw [vJ];simp);rw [vJ] at this;exact this,aji _ (KB _ _ _ _ hl hi) ((PP (by omega)).trans hk)⟩
theorem CN {α:Type}: ∀(k:Ask α) (w:World),w.drawn<=(w.ask k).2.drawn
 | .done a,w=>AC _
 | .ask asA range k,w=>by
  simp only [World.ask];split
  · exact CN _ w
  exact EQ (Nat.le_succ _) (CN _ {w with drawn:=w.drawn+1})
theorem Qc (w:World) (c:Sys):w.drawn<=(w.sys c).2.drawn:=by
 have:=CN (Kernel.perform c w.os) w;unfold World.sys;split
 · exact AC _
 rename_i h;rw [h] at this;exact this
theorem FJ {p:Program} {w w':World} {a:Addr} {v:Value} {b:Bool} {l:List Addr} (h:w.farStore p a v b= .ok (w',l)):w'.drawn=w.drawn:=by
 unfold World.farStore at h;split at h
 · split at h
   · rename_i r hr
     injection h with h;subst h;unfold World.viewStore at hr;simp only [bind,Except.bind,pure,Except.pure] at hr
     repeat' split at hr
     all_goals first|(injection hr with hr;injection hr with hr _;subst hr;rfl)|(cases hr;done)|(cases hr;rfl)
   cases h
 cases h
theorem Qd {α:Type} {p:Program}: ∀(m:Sem α) {w w':World} {a:α},m.run p w= .ok a w'->w.drawn<=w'.drawn:=by
 intro m
 induction m with
 |pure a=>intro w w' b h;injection h with _ h;subst h;exact AC _
 |load m a k ih=>
  intro w w' b h;unfold abm at h;split at h
  · exact ih _ h
  split at h
  · exact ih _ h
  cases h
 |store m a v k ih=>
  intro w w' b h;cases v<;>(unfold abm at h;first|cases h|(
   split at h
   · split at h
     · cases h
     refine EQ (aa4 ?_) (ih h);rfl
   split at h
   · rename_i hf;exact EQ (aa4 (FJ hf).symm) (ih h)
   cases h))
 |new o k ih=>intro w w' b h;refine EQ (aa4 ?_) (ih _ h);rfl
 |shape r k ih=>intro w w' b h;exact ih _ h
 |freeze a n k ih=>intro w w' b h;refine EQ (aa4 ?_) (ih h);unfold World.freeze;split<;>rfl
 |frozen a k ih=>intro w w' b h;exact ih _ h
 |getObj r k ih=>
  intro w w' b h;unfold abm at h;split at h
  · cases h
  · exact ih _ h
  cases h
 |setObj r o k ih=>
  intro w w' b h;unfold abm at h;split at h
  · cases h
  · refine EQ (aa4 ?_) (ih h);rfl
  cases h
 |choose q k ih=>
  intro w w' b h;unfold abm at h;split at h
  · exact ih _ h
  refine EQ (Nat.le_succ w.drawn) ?_
  exact ih _ h
 |sys c k ih=>intro w w' b h;exact EQ (Qc w c) (ih _ h)
 |program k ih=>intro w w' b h;exact ih _ h
 |mark m k ih=>intro w w' b h;exact ih h
 |halt h=>intro w w' b h;cases h
theorem AG {F:Fence} {n:Nat} {P:Program} (w:World) {ops:Array Oper} {rest:List Oper} {o:Oper} {a:Act} {Q:Exit->Act->World->Prop}
 (hg:o.guard=abU) (s x:Operand) (t:TypeId) (eI:o.op=Op.call {callee:=Callee.builtin Builtin.append,args:= #[s,x],argTypes:= #[t,t]})
 (oE:Nat) (e:TypeId) (i:TypeInfo) (z:Value) (size bytes:Nat) (h1:P.underlying t=abR (.slice e)) (h2:P.info? e=abR i) (h3:i.zero=abR z) (h4:i.size=size) (h5:i.bytes=bytes) (h6:z.cells.size=size) (h7:0<size)
 (v:Value) (k:Nat) (xs:List Value) (hs:a.eval s=v) (acS:w.ownsRow oE e size v k xs) (ad:Addr) (m c:Nat) (news:List Value) (hx:a.eval x= .slice (abR ad) m c) (hn:(abO news)=m*size)
 (hc: ∀j u,news[j]? =abR u->w.cell? (ad.add j)=abR u) (h1c: ∀u∈news,u.oneCell'=ac0) (b1:k+m<=maxLen) (b2:(k+m)*bytes<=140737488355328) (b3:oE<=w.heap.size)
 (hK: ∀v' w',w'.ownsRow oE e size v' (k+m) (xs++news)->w.grownBy w' v.ownBlock->w.drawn<=w'.drawn->wpListIn F n P ops Q rest (a.put o.dst v') w'):
 wpListIn F n P ops Q (o::rest) a w:=by
 refine wpListIn_plain hg fun K hK'=>?_
 obtain ⟨v',w',bI,r1,r2,r3⟩:=run_append_own (P:=P) w oE t o.type e i z size bytes h1 h2 h3 h4 h5 h6 h7 v k xs acS ad m c news hn hc h1c b1 b2 b3;unfold Oper.wpIn;refine ⟨?_,?_⟩
 · simp [Oper.about,eI,resolve,Target.leads,Sem.run_pure]
 rw [Oper.semAt_plain F _ _ (by rw [eI];intro c A4;cases A4)]
 simp [execOp,eI,resolve,invoke,builtin,hs,hx,bI,Result.andThen];exact hK' _ _ (hK v' w' r1 r2 (Qd _ bI))
end Go
namespace Go.Vm
open Go.RowKit
def pMk (q r:List PT) (fn:List (RT q)->Option (List (RT r))):List PV->Option (PV×bS)
 | [.agg [.sl e _ rows]]=>if Nat.beq e (abO q)||rows.isEmpty then (match Bm q rows with
  |some l=>match fn l with
   |some m=>abR (.own 0 (abO r) 0 (abO m) (abO m) ac2,[.arr (abO r) (m.map (RT.pv r))])
   |none=>abU
  |none=>abU) else abU
 |_=>abU
def Ou (P : Program) (f : FuncId) (q r : List PT) (fn : List (RT q) -> Option (List (RT r))) : Prop :=
  ∀ (a : Option Addr) (c : Nat) (l : List (RT q)) (m : List (RT r)) (w : World), fn l = abR m -> (abO l) <= c ->
    (l ≠ [] -> ∃ b o, a = abR ⟨b, o, abU⟩ /\ bz (fun k => w.cell? ⟨b, k, abU⟩) o (abO q) (l.map (RT.pv q))) ->
    Calls P f #[.agg #[.slice a (abO l) c]] w fun x w' =>
      (m = [] /\ x = .returned (.slice abU 0 0) \/ m ≠ [] /\ ∃ g c' fin el, x = .returned (.slice (abR ⟨g, 0, abU⟩) (abO m) c') /\ w.heap.size <= g /\ w'.heap[g]? = abR (.cells fin el (0, 0)) /\
        (abO m) <= c' /\ c' * (abO r) <= fin.size /\ bz (fun k => fin[k]?) 0 (abO r) (m.map (RT.pv r))) /\ Below w.heap.size w w' /\ w.drawn <= w'.drawn
def CO (li:LI):Loc:=fun t=>if t=0 then abR li else abU
theorem HC {im:Im} {w w':World} {v:PV} {u:Value} {e:Nat} {rows:List Row} {li:LI} (kg:SR im fC [] [] w) (hb:Below w.heap.size w w') (hd:w.drawn<=w'.drawn) (he:li.esz=e) (hn:li.n=abO rows)
 (hr:rows≠[]->w.heap.size<=li.cZ/\ ∃cs el,w'.heap[li.cZ]? =abR (.cells cs el (0,0))/\cs.size=li.sz/\li.sh+abO rows*e<=li.sz/\bz (fun k=>cs[k]?) li.sh e rows)
 (hv:VR im (CO li) v u):tf im fC [] w v [.arr e rows] [] im (CO li) w' u:=by
 have at0: ∀{t:Nat} {l:LI},CO li t=abR l->t=0/\l=li:=fun {t l} h=>by
  unfold CO at h;split at h
  · rename_i e;injection h with h;exact ⟨e,h.symm⟩
  cases h
 have lt: ∀{b:Nat} {o:Obj},w.heap[b]? =abR o->b<w.heap.size:=fun h=>(lw.1 h).1
 have ne: ∀{k:jQ},([.arr e rows]:bS)[0]? =abR k->k.bB=ac0->rows≠[]:=fun h hs=>by injection h with h;subst h;intro h0;subst h0;cases hs
 exact {
  fZ:= .refl _
  dz:=fun t l h=>by cases h
  vr:=hv
  sr:={
   bu:=fun b o h=>by have h1:=kg.bu b o h;rw [hb.block b (lt h1)];exact h1
   cZ:=fun t l h=>by obtain ⟨rfl,rfl⟩:=at0 h;exact ⟨_,rfl,he,hn,fun h0=>(hr h0).2⟩
   iE:=fun t u l l' k k' h h' _ _ _ _ _=>(at0 h).1.trans (at0 h').1.symm
   free:=fun t l k h hk hs _=>by
    obtain ⟨rfl,rfl⟩:=at0 h;cases hi:im l.cZ with
    |none=>rfl
    |some o=>have:=lt (kg.bu _ _ hi);have:=(hr (ne hk hs)).1;omega}
  os:=hb.os
  tape:=⟨hb.tape,hd⟩
  output:=hb.output
  size:=hb.size
  frame:=fun b h _=>hb.block b h
  dF:=fun b o h=> .inl h
  mV:=fun t l h=> .inr (Nat.zero_le _)
  own:=fun t l k h hk hs=>by obtain ⟨rfl,rfl⟩:=at0 h;exact .inl (hr (ne hk hs)).1}
theorem Ak.mk {P:Program} {f:FuncId} {q r:List PT} {fn:List (RT q)->Option (List (RT r))} {F:Func} {c:Code} (hf:P.funcs[f]? =abR F) (qT:(F.name== "runtime.NumGoroutine")=ac2) (hb:F.body=abR c)
 (H:Ou P f q r fn):Ak P f (pMk q r fn):=by
 intro args v news hp im w us kg yP;unfold pMk at hp;split at hp
 case h_2=>cases hp
 rename_i e cl rows;split at hp
 case isFalse=>cases hp
 rename_i hc;split at hp
 case h_2=>cases hp
 rename_i l hl;split at hp
 case h_2=>cases hp
 rename_i m hm;injection hp with hp;simp only [abB] at hp;obtain ⟨rfl,rfl⟩:=hp;have kX:=AF hl;have bU:(abO rows)=(abO l):=by rw [kX,ww]
 obtain ⟨u,rfl,hu⟩: ∃u,us=[u]/\VR im fC (.agg [.sl e cl rows]) u:=by cases yP with|cons _ a _ b h1 h2=>cases h2;exact ⟨a,rfl,h1⟩
 obtain ⟨a,cap,rfl,zn,hh⟩: ∃a cap,u= .agg #[.slice a (abO rows) cap]/\abO rows<=cap/\(rows≠[]-> ∃b o,a=abR ⟨b,o,abU⟩/\bz (mv im b) o e rows):=by
  cases hu with
  |agg _ vs h=>
   cases h with
   |cons _ s _ b h1 h2=>
    cases h2;cases h1 with
    |sl _ _ _ a cap zn hk hh=>exact ⟨a,cap,rfl,zn,hh⟩
 rw [bU] at zn ⊢;refine .inr ⟨fT hf qT hb,(H a cap l m w hm zn fun dM=>?_).mono ?_⟩
 · have Pd:rows≠[]:=fun h0=>dM (If.1 (by rw [<- bU,h0];rfl))
   obtain ⟨b,o,rfl,hr⟩:=hh Pd;have he:e=(abO q):=by
    rw [Bool.or_eq_true] at hc;rcases hc with hc|hc
    · exact Nat.beq_eq▸hc
    exact absurd (List.isEmpty_iff.1 hc) Pd
   subst he;refine ⟨b,o,rfl,?_⟩;rw [<- kX];refine hr.mono fun k v hk=>?_
   unfold mv at hk;split at hk
   · rename_i cs _ _ hi
     have:=kg.bu _ _ hi;simp only [abK,this];exact hk
   cases hk
 rintro x w' ⟨hx,Py,hd⟩
 rcases hx with ⟨rfl,rfl⟩|⟨hm0,g,c',fin,el,rfl,hg,hw,AU,GC,hr⟩
 · exact ⟨_,rfl,im,CO ⟨0,0,abO r,0,0⟩,HC kg Py hd rfl rfl (fun h=>absurd rfl h) (.own 0 (abO r) 0 0 0 ac2 ⟨0,0,abO r,0,0⟩ abU 0 rfl rfl (AC _) (AC _) (AC _) (fun h=>by cases h) (.inl rfl))⟩
 have zp:(m.map (RT.pv r)).length=(abO m):=ww _
 have lx:(abO m)*abO r<=c'*(abO r):=aa1 _ AU;refine ⟨_,rfl,im,CO ⟨g,0,abO r,abO m,fin.size⟩,HC kg Py hd rfl zp.symm (fun _=>⟨hg,fin,el,hw,rfl,by show 0+(m.map (RT.pv r)).length*abO r<=fin.size;rw [zp,abc];exact EQ lx GC,hr⟩) (.own 0 (abO r) 0 (abO m) (abO m) ac2 ⟨g,0,abO r,abO m,fin.size⟩ (abR ⟨g,0,abU⟩) c' rfl rfl (by simp) (AC _) AU (fun h=>by cases h) (.inr ⟨fun h=>hm0 (If.1 h),by simp,by simpa using GC⟩))⟩
theorem cE.rows {F:kQ} {f:FuncId} {α:Type} {A:Arg α} {q r:List PT} {g:α->List (RT q)} {fn:List (RT q)->Option (List (RT r))} (hf:F f=abR (.ja ac2 (pMk q r fn)))
 (hA: ∀a,ru (A.enc a)=abR (.agg [.sl (abO q) ac2 ((g a).map (RT.pv q))])):cE F f (ry.rows A q r g fn):=by
 intro (a:α) (b:List (RT r)) a2 pa aA fz hb L1 hex;have hb:fn (g a)=abR b:=hb;have SU:pa=[.agg [.sl (abO q) ac2 ((g a).map (RT.pv q))]]:=by have:oK [A.enc a]=abR pa:=L1;simp only [oK,hA] at this;exact (NE this).symm
 subst SU;refine ⟨0,{v:= .own (abO aA) (abO r) 0 (abO b) (abO b) ac2,news:=[.arr (abO r) (b.map (RT.pv r))],rd:=cT (cK aA deep) a2},?_,.sl (abO r) ac2 (b.map (RT.pv r)),.own (abO aA) (abO r) 0 (abO b) (abO b) ac2,[.arr (abO r) (b.map (RT.pv r))],rfl,by simp only [DO,ww],rfl⟩;show cz F (run F 0) ac2 f a2 aA fz=_;simp only [cz,hex,hf,pMk,Nat.beq_refl,Bool.true_or,if_true,FA,hb,zl];simp [has]
theorem cE.lift {F G:kQ} {f:FuncId} {c:ry} (h: ∀f e,F f=abR e->G f=abR e) (k:cE F f c):cE G f c:=by intro a b a2 pa aA fz hb L1 hex;obtain ⟨n,r,h1,h2⟩:=k a b a2 pa aA fz hb L1 hex;exact ⟨n,r,pB (NB h n) (UF h n) h1,h2⟩
end Go.Vm
/- What a function that ranges over all pairs of points, keeps what comes of each and puts it in order gives: plain parts of its walk. -/
namespace Go.Vm
open Go.RowKit
abbrev oB:=Int×Int×Int
def MR (p:oB):Value:= .agg #[.int .i64 p.1,.int .i64 p.2.1,.int .i64 p.2.2]
def gB (l:List oB):List (oB×oB):=(aa8 (abO l)).flatMap fun i=>(l.drop (i+1)).map fun q=>(l[i]!,q)
def sZ (l:List oB) (i j:Nat):List (oB×oB):=((aa8 i).flatMap fun i=>(l.drop (i+1)).map fun q=>(l[i]!,q))++((l.drop (i+1)).take j).map fun q=>(l[i]!,q)
theorem Qe (l:List oB):sZ l 0 0=[]:=by simp [sZ]
theorem Qf (l:List oB) {i j:Nat} (h:i+1+j<abO l):sZ l i j++[(l[i]!,l[i+1+j]!)]=sZ l i (j+1):=by
 unfold sZ;rw [List.append_assoc]
 congr 1
 have:(l.drop (i+1)).take (j+1)=(l.drop (i+1)).take j++[l[i+1+j]!]:=by rw [List.take_add_one,List.getElem?_drop,pp h,getElem!_pos l _ h];rfl
 rw [this,List.map_append];rfl
theorem FK (l:List oB) (i:Nat):sZ l i (abO l- (i+1))=sZ l (i+1) 0:=by unfold sZ;rw [aaH (by simp),abn,abD,ab2,abi,aa3];simp
theorem S2 (l:List oB):sZ l (abO l) 0=gB l:=by unfold sZ gB;simp
theorem S3 (l:List oB) {i:Nat} (h:i<abO l) (j:Nat):sZ l i j<+:gB l:=by
 have h1:sZ l i j<+:sZ l (i+1) 0:=by rw [<- FK];unfold sZ;refine (List.prefix_append_right_inj _).2 ?_;rw [aaH (show (l.drop (i+1)).length<=abO l- (i+1) by simp)];exact (List.take_prefix _ _).map _
 refine h1.trans ?_;unfold sZ gB;rw [abn,abD,ab2];have:aa8 (abO l)=aa8 (i+1)++(aa8 (abO l- (i+1))).map (fun k=>i+1+k):=by rw [<- List.range_add];congr 1;omega
 rw [this,aa3];exact List.prefix_append _ _
def S4 (W:World) (b o:Nat) (l:List oB):Prop:= ∀i,i<abO l->W.cell? ⟨b,o+i*3,abU⟩=abR (.int .i64 l[i]!.1)/\W.cell? ⟨b,o+i*3+1,abU⟩=abR (.int .i64 l[i]!.2.1)/\W.cell? ⟨b,o+i*3+2,abU⟩=abR (.int .i64 l[i]!.2.2)
theorem we {W:World} {a:Addr} {v:Value} (o:Obj) (h:W.cell? a=abR v):(W.alloc o).cell? a=abR v:=cell_kept h (World.grownBy_alloc W o abU) (fun r e=>by cases e)
def ac8 (t:TypeId) (W W':World):Prop:= ∀(k:Nat) (cs:Array Value) (z:Nat×Nat),W.heap[k]? =abR (Obj.cells cs t z)->W'.heap[k]? =abR (Obj.cells cs t z)
abbrev xE:=Int×Int×Int×Int
def mtV (m:xE):List Value:=[.int .i64 m.1,.int .i64 m.2.1,.int .i64 m.2.2.1,.int .i64 m.2.2.2]
def wg (mt:oB->oB->(Int×Int)×Int) (l:List (oB×oB)):List xE:=l.flatMap fun x=>bif (mt x.1 x.2).2==0 then [((mt x.1 x.2).1.1,(mt x.1 x.2).1.2,x.1.1,x.2.1)] else []
theorem CP (mt:oB->oB->(Int×Int)×Int) (l:List (oB×oB)) (x:oB×oB):wg mt (l++[x])=wg mt l++bif (mt x.1 x.2).2==0 then [((mt x.1 x.2).1.1,(mt x.1 x.2).1.2,x.1.1,x.2.1)] else []:=by simp [wg]
theorem BB (mt:oB->oB->(Int×Int)×Int): ∀l:List (oB×oB),(wg mt l).length<=abO l
 | []=>AC _
 |x::l=>by
  have:=BB mt l;unfold wg at this ⊢;rw [UV,aa5,ut];cases (mt x.1 x.2).2==0
  · simp only [lc,aaI];omega
  simp only [kw,ut,aaI];omega
theorem Qg {w:World} {B:Nat} (hB:w.heap.size=B) (l:List Value) (t:TypeId) (j:Nat) (u:Value) (h:l[j]? =abR u):(w.alloc (.cells ⟨l⟩ t)).cell? ((⟨B,0,abU⟩:Addr).add j)=abR u:=by
 subst hB;have ab6:(⟨w.heap.size,0,abU⟩:Addr).add j=⟨w.heap.size,j,abU⟩:=by unfold Addr.add;split<;>simp_all
 rw [ab6,cell_of_row _ w.heap.size j ⟨l⟩ t (0,0) (aa2 w _)];simpa using h
theorem Qh {W w1:World} {am0 B:Nat} {t e u:TypeId} {size k:Nat} {v v':Value} {xs:List Value} {tmp:Obj} (hv:Boxed W B t v) (mC:W.ownsRow am0 e size v k xs) (KI:(W.alloc tmp).grownBy w1 v.ownBlock) (h1:u≠e) (h2:u≠t):ac8 u W (w1.setCell ⟨B,0,abU⟩ v'):=by
 intro i cs z hi;have c7:=(lw.1 hi).1;have dM:abR i≠v.ownBlock:=by
  rcases mC.2 with ⟨rfl,_⟩|⟨g,cap,cur,rfl,_,hgb,_⟩
  · simp [Value.ownBlock]
  intro e'
  obtain rfl:i=g:=by simpa [Value.ownBlock] using e'
  rw [hgb] at hi;cases hi;exact h1 rfl
 have hb:i≠B:=by rintro rfl;rw [show W.heap[i]? =_ from hv] at hi;cases hi;exact h2 rfl
 refine (Below.heap_setCell _ _ _ i hb).trans ((KI.block i (by simp;omega) dM).trans ((Below.heap_alloc W tmp i c7).trans hi))
theorem S5: ∀(l:List xE) (i j:Nat) (m:xE),l[i]? =abR m->j<4->(l.flatMap mtV)[i*4+j]? =(mtV m)[j]?
 | [],i,j,m,h,_=>by simp at h
 |a::l,0,j,m,h,hj=>by
  obtain rfl:a=m:=by simpa using h
  rw [UV,Nat.zero_mul,abc,List.getElem?_append_left (by simpa [mtV] using hj)]
 |a::l,i+1,j,m,h,hj=>by
  have:=S5 l i j m (by simpa using h) hj;rw [UV,List.getElem?_append_right (by simp [mtV];omega),<- this]
  congr 1
  simp [mtV];omega
theorem Qi {l:List xE} {cur:Array Value} (h:cur.toList.take (abO l*4)=l.flatMap mtV):bz (fun k=>cur[k]?) 0 4 (l.map (RT.pv [.i .i64,.i .i64,.i .i64,.i .i64])):=by
 intro i r hr;rw [Do,IR] at hr;obtain ⟨m,hm,rfl⟩:=hr;have hi:=(v6.1 hm).1;refine ⟨rfl,fun j c hc=>?_⟩;have hj:j<4:=(v6.1 hc).1;have e:=S5 l i j m hm hj;rw [<- h,List.getElem?_take_of_lt (by omega)] at e;have e2:cur[0+i*4+j]? =(mtV m)[j]?:=by rw [<- e,abc];simp
 match j,hj,hc,e2 with
 |0,_,hc,e2=>injection hc with hc;subst hc;exact ⟨_,rfl,e2⟩
 |1,_,hc,e2=>injection hc with hc;subst hc;exact ⟨_,rfl,e2⟩
 |2,_,hc,e2=>injection hc with hc;subst hc;exact ⟨_,rfl,e2⟩
 |3,_,hc,e2=>injection hc with hc;subst hc;exact ⟨_,rfl,e2⟩
theorem tC {W W':World} {B:Nat} {t:TypeId} {v:Value} (h:Boxed W B t v) (hb:Below W.heap.size W W'):Boxed W' B t v:=(hb.block B h.lt).trans h
theorem oW {W W':World} (hb:Below W.heap.size W W'):W.grownBy W' abU:=⟨hb.os,hb.tape,hb.output,hb.size,fun k hk _=>hb.block k hk⟩
mutual
theorem KJ (s:bS): ∀(v p:PV),p.jB=ac0->xz s v=abR p->v=p
 | .int _ _,_,_,h=>NE h
 | .bool _,_,_,h=>NE h
 | .str _,_,_,h=>NE h
 | .agg cs,p,hn,h=>by obtain ⟨l,hl,rfl⟩:=IR.1 h;rw [CQ s cs l hn hl]
 | .bN cs,p,hn,h=>by obtain ⟨l,hl,rfl⟩:=IR.1 h;rw [CQ s cs l hn hl]
 | .sl _ _ _,_,hn,h=>by injection h with h;subst h;cases hn
 | .own _ _ _ _ _ _,_,hn,h=>by
  simp only [xz] at h;split at h
  · injection h with h;subst h;cases hn
  cases h
 | .undef,_,_,h=>by cases h
 | .js,_,_,h=>by cases h
 | .ptr ..,_,_,h=>by cases h
 | .bw ..,_,_,h=>by cases h
 | .mp _,_,_,h=>by cases h
 | .eA ..,_,_,h=>by cases h
 | .dC,_,_,h=>by cases h
theorem CQ (s:bS): ∀(v p:List PV),rV p=ac0->El s v=abR p->v=p
 | [],_,_,h=>NE h
 |x::xs,p,hn,h=>by
  simp only [El] at h;split at h
  · rename_i y ys hy Pp
    injection h with h;subst h;simp only [rV,abd] at hn;rw [KJ s x y hn.1 hy,CQ s xs ys hn.2 Pp]
  cases h
end
theorem cE.ajk {F:kQ} {f:FuncId} {x:aK} {c:ry} (h:cE F f c) (hf:F f=abR (.code x)) (hk:c.kd= .pure) (ho:c.ow=ac2) {a:c.α} {b:c.β} {ps:List PV} {v:PV} (hb:c.fn a=abR b) (hp:oK (c.args.enc a)=abR ps) (hx:B6 [] (xq [] deep) ps=abR ps)
 (hv:ru (c.res.enc b)=abR v) (hn:v.jB=ac0): ∃n s z,run F n (.func f ps [] [])=abR (.func v s z):=by
 obtain ⟨n,r,h1,h2⟩:=h a b ps ps [] [] hb hp hx;rw [hk] at h2;rw [ho] at h1;obtain ⟨p,h2,rfl⟩:=h2;rw [hv] at h2;injection h2 with h2;subst h2;refine ⟨n,?_⟩;simp only [cz,hx,hf] at h1;split at h1
 · rename_i u s z hr
   simp only [Bool.false_eq_true,if_false] at h1;split at h1
   · injection h1 with h1
     injection h1 with h1;subst h1;exact ⟨s,z,hr⟩
   split at h1
   · rename_i u' hu
     injection h1 with h1;injection h1 with h1;subst h1;rw [KJ s u _ hn hu] at hr;exact ⟨s,z,hr⟩
   cases h1
 cases h1
open Classical in
noncomputable def BC {α:Type} (o:α->α->Option Int) (l:List α):Option (List α):=
 if (∀x∈l,∀y∈l,∃v,o x y=abR v)/\(∀x∈l,¬(o x x).getD 0<0)/\(∀x∈l,∀y∈l,∀z∈l,(o x y).getD 0<0->(o y z).getD 0<0->(o x z).getD 0<0)/\
  (∀x∈l,∀y∈l,∀z∈l,¬(o x y).getD 0<0-> ¬(o y z).getD 0<0-> ¬(o x z).getD 0<0)/\(∀x∈l,∀y∈l,¬(o x y).getD 0<0-> ¬(o y x).getD 0<0->x=y)
 then abR (l.mergeSort fun x y=>!ac7 ((o y x).getD 0<0)) else abU
theorem S6 {F:kQ} {g:FuncId} {r:List PT} {o:RT r->RT r->Option Int} (hc: ∀x y v,o x y=abR v->S0 F g r x y v) {l m:List (RT r)} (h:BC o l=abR m): ∃cf,S1 F g r cf l/\m=l.mergeSort fun x y=>!ac7 (cf y x<0):=by
 unfold BC at h;split at h
 · rename_i hq
   injection h with h;obtain ⟨h1,h2,h3,h4,h5⟩:=hq;exact ⟨fun x y=>(o x y).getD 0,⟨fun x hx y hy=>by obtain ⟨v,hv⟩:=h1 x hx y hy;rw [hv];exact hc x y v hv,h2,h3,h4,h5⟩,h.symm⟩
 cases h
theorem Qj {α:Type} {o:α->α->Option Int} {l m:List α} (h:BC o l=abR m):(abO m)=(abO l):=by
 unfold BC at h;split at h
 · injection h with h;rw [<- h,List.length_mergeSort]
 cases h
open Classical in
noncomputable def KK (mt:oB->oB->Option ((Int×Int)×Int)) (o:xE->xE->Option Int) (l:List oB):Option (List xE):=
 if (abO l)<=1000/\ ∀x∈gB l,∃v,mt x.1 x.2=abR v then BC o (wg (fun p q=>(mt p q).getD ((0,0),1)) (gB l)) else abU
theorem FL (l:List oB):(gB l).length<=abO l*(abO l):=by
 have: ∀n,((aa8 n).flatMap fun i=>(l.drop (i+1)).map fun q=>(l[i]!,q)).length<=n*(abO l):=fun n=>by
  induction n with
  |zero=>simp
  |succ n ih=>rw [abi,aa3,aa5,Nat.add_mul];simp only [UV,List.flatMap_nil,ab2,ww,abe];omega
 exact this _
theorem MS {w:World} {b o:Nat} {l:List oB} (h:bz (fun k=>w.cell? ⟨b,k,abU⟩) o 3 (l.map (RT.pv [.i .i64,.i .i64,.i .i64]))):S4 w b o l:=by
 intro i hi;have h1:(l.map (RT.pv [.i .i64,.i .i64,.i .i64]))[i]? =abR (RT.pv [.i .i64,.i .i64,.i .i64] l[i]!):=by rw [Do,pp hi,getElem!_pos l i hi];rfl
 obtain ⟨_,h2⟩:=h i _ h1;obtain ⟨v0,a0,b0⟩:=h2 0 _ rfl;obtain ⟨v1,a1,b1⟩:=h2 1 _ rfl;obtain ⟨v2,a2,b2⟩:=h2 2 _ rfl;injection a0 with a0;injection a1 with a1;injection a2 with a2;subst a0 a1 a2;exact ⟨b0,b1,b2⟩
end Go.Vm
