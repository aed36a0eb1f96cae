/- The logical machine, part 4: SvSort, SvSortF, SvMk, SvMeet. -/
import Derived.Test.YthljmpcakagceaaGreatHVm3
import Derived.Test.YthljmpcakagceaaGreatHVm2
import Derived.Shelf.SlSortCmp.NoneTotal
import Derived.RangeFuncNested
import Derived.RangeFuncLeaves
import Derived.OwnWalkIn
import Derived.WalkKit
import Derived.RangeFuncBox
import Derived.RangeFuncCalls
open Array renaming getElem?_eq_some_iff->v6,getElem?_append->aau,getElem?_modify->aav,getElem?_mapIdx->aaw
open List renaming getElem?_eq_getElem->ww,length_cons->AC,getElem?_eq_some_iff->Do,length_map->EQ,getElem?_map->IR,length_eq_zero_iff->NE,flatMap_cons->aa6,flatMap_append->aaj,length_append->aal,range->aam,getElem?_cons_succ->aap,take_of_length_le->aar,length_nil->aas,append_nil->aat,getElem?_set->aay,length_drop->aaS,range_succ->aaX,take_zero->ab1,map_nil->aba,length->abe,length->abj
open Nat renaming le_refl->If,le_trans->M2,mul_le_mul_right->aa9,le_of_eq->aak,mul_comm->aaA,zero_add->aaE
open Option renaming map_eq_some_iff->PP,map_some->aaV,some->abo,none->abp
open Option.some renaming inj->UV
open Go.World renaming putObj_heap_other->aa2,alloc_heap_new->aai,putObj_heap_same->aaq,cell?->abg
open Bool renaming and_eq_true->aaF,true->abq,false->abr
open Go.Sem renaming run->ab0
open Prod.mk renaming injEq->ab5
open Decidable renaming decide->abt
/- A function that puts the rows of a slice in order: what is asked of it in a program, and that the table's entry is then right. -/
namespace Go.Vm
theorem Fl: ∀{p:PT} {x:PV} {a:p.T},AZ p x=abo a->x=p.pv a
 | .i k,.int l n,a,h=>by
  have h:(bif eZ l k then abo n else abp)=abo a:=h;cases hk:eZ l k with
  |false=>rw [hk] at h;cases h
  |true=>rw [hk] at h;obtain rfl:=eH.1 hk;injection h with h;subst h;rfl
 | .b,.bool x,a,h=>by have h:abo x=abo a:=h;injection h with h;subst h;rfl
theorem Hd: ∀{r:List PT} {x:List PV} {a:RT r},Gt r x=abo a->x=RT.pv r a
 | [],[],a,h=>rfl
 | [],_::_,a,h=>by cases h
 | [p],[v],a,h=>by rw [Fl (show AZ p v=abo a from h)];rfl
 | [p],[],a,h=>by cases h
 | [p],_::_::_,a,h=>by cases h
 |p::q::r,[],a,h=>by cases h
 |p::q::r,v::vs,a,h=>by
  have h:(match AZ p v,Gt (q::r) vs with
   |some a,abo b=>abo (a,b)
   |_,_=>abp)=abo a:=h
  cases h1:AZ p v with
  |none=>rw [h1] at h;cases h
  |some x=>
   cases h2:Gt (q::r) vs with
   |none=>rw [h1,h2] at h;cases h
   |some y=>rw [h1,h2] at h;injection h with h;subst h;rw [Fl h1,Hd h2];rfl
theorem Ah {r:List PT}: ∀{x:List (List PV)} {l:List (RT r)},A0 r x=abo l->x=l.map (RT.pv r)
 | [],l,h=>by injection h with h;subst h;rfl
 |v::vs,l,h=>by
  have h:(match Gt r v,A0 r vs with
   |some a,abo l=>abo (a::l)
   |_,_=>abp)=abo l:=h
  cases h1:Gt r v with
  |none=>rw [h1] at h;cases h
  |some x=>
   cases h2:A0 r vs with
   |none=>rw [h1,h2] at h;cases h
   |some y=>rw [h1,h2] at h;injection h with h;subst h;rw [Hd h1,Ah h2];rfl
def aco:Option FuncId->List Value
 |none=>[]
 |some g=>[.func (.func g) ⟨[]⟩ ⟨[]⟩]
structure uJ (P:Program) (f:FuncId) (q:Srt):Prop where
 some_: ∀(b off c:Nat) (l m:List (RT q.r)) (arr:Array Value) (el:TypeId) (w:World),0<abj l->abj l<=c->abj l<=1048576->q.fn l=abo m->abj m=abj l->w.heap[b]? =abo (.cells arr el (0,0))->
  bw (fun k=>arr[k]?) off (abj q.r) (l.map (RT.pv q.r))->off+abj l*abj q.r<=arr.size->
  Calls P f ⟨.slice (abo ⟨b,off,abp⟩) (abj l) c::aco q.g⟩ w fun x w'=>x= .returned (.tuple #[])/\(∃fin:Array Value,fin.size=arr.size/\w'.heap[b]? =abo (.cells fin el (0,0))/\bw (fun k=>fin[k]?) off (abj q.r) (m.map (RT.pv q.r))/\
   ∀j:Nat,off+abj l*abj q.r<=j->fin[j]? =arr[j]?)/\(∀b':Nat,b'<w.heap.size->b'≠b->w'.heap[b']? =w.heap[b']?)/\w.heap.size<=w'.heap.size/\w'.os=w.os/\Tape w w'/\w'.output=w.output
 none_: ∀(a:Option Addr) (c:Nat) (w:World),Calls P f ⟨.slice a 0 c::aco q.g⟩ w fun x w'=>x= .returned (.tuple #[])/\w'=w
theorem acp {im:Im} {loc:Loc} {g:Option FuncId} {r:List PV} {us:List Value} (h:UD g r=abq) (hu:eG im loc r us):us=aco g:=by
 unfold UD at h;split at h
 · cases hu;rfl
 · rename_i g h'
   have:h'=g:=by simpa using h
   subst this;cases hu with
   |cons _ a _ b h1 h2=>
    cases h2;cases h1 with
    |eh _ _ _ a2 bs ha hb=>cases ha;cases hb;rfl
 cases h
theorem PH {im:Im} {loc:Loc} {aA:bW} {fz:List Nat} {w w':World} {t e:Nat} {li:LI} {rows qE:List Row} {arr fin:Array Value} {el:TypeId} (j8:SR im loc aA fz w) (hl:loc t=abo li) (bM:aA[t]? =abo (.arr e rows)) (dE:rows≠[]) (hf:has fz t=abr)
 (_ha:w.heap[li.de]? =abo (.cells arr el (0,0))) (hw:w'.heap[li.de]? =abo (.cells fin el (0,0))) (qt: ∀b':Nat,b'<w.heap.size->b'≠li.de->w'.heap[b']? =w.heap[b']?) (oz:w.heap.size<=w'.heap.size) (ho:w'.os=w.os) (ht:Tape w w') (hp:w'.output=w.output)
 (he:li.esz=e) (hn:li.n=abj qE) (bY:(abj qE)=abj rows) (hfs:fin.size=li.sz) (u6:li.sh+abj qE*e<=li.sz) (hr:bw (fun k=>fin[k]?) li.sh e qE):
 sR im loc aA w (.bS []) (aA.set t (.arr e qE)) fz im loc w' (.tuple #[]):=by
 have O7:t<(abj aA):=(Do.1 bM).1;have OP:qE≠[]:=by intro h;subst h;rw [aas] at bY;exact dE (NE.1 bY.symm)
 have Gn:(jL.arr e rows).bA=abq:=mX dE;have hs1:(jL.arr e qE).bA=abq:=mX OP;have AJ:=j8.free t li _ hl bM Gn hf;have old: ∀{u:Nat} {k:jL},(aA.set t (.arr e qE))[u]? =abo k->(u=t/\k= .arr e qE)\/(u≠t/\aA[u]? =abo k):=by
  intro u k h;rw [aay] at h;split at h
  · rename_i e1;subst e1;first|(rw [rc O7] at h;injection h with h;exact .inl ⟨rfl,h.symm⟩)|(injection h with h;exact .inl ⟨rfl,h.symm⟩)
  rename_i dE;exact .inr ⟨fun e=>dE e.symm,h⟩
 have sol: ∀{u:Nat} {k:jL},(aA.set t (.arr e qE))[u]? =abo k->k.bA=abq-> ∃k0,aA[u]? =abo k0/\k0.bA=abq:=by
  intro u k h hs;rcases old h with ⟨rfl,rfl⟩|⟨_,h⟩
  · exact ⟨_,bM,Gn⟩
  exact ⟨k,h,hs⟩
 have lt: ∀{b:Nat} {o:Obj},w.heap[b]? =abo o->b<w.heap.size:=fun h=>(v6.1 h).1
 exact {
  fY:= .refl _,dw:= .refl _
  vr:= .bS _ _ .nil
  sr:={
   bq:=fun b o hb=>by
    have h1:=j8.bq b o hb;have h2:b≠li.de:=fun h=>by rw [h,AJ] at hb;cases hb
    rw [qt b (lt h1) h2];exact h1
   de:=fun u lu hu=>by
    obtain ⟨k,hk,hb⟩:=j8.de u lu hu
    by_cases e1:u=t
    · subst e1
      rw [hl] at hu;injection hu with hu;subst hu;exact ⟨_,List.getElem?_set_self O7,he,hn,fun _=>⟨fin,el,hw,hfs,u6,hr⟩⟩
    refine ⟨k,by rw [List.getElem?_set_ne (fun h=>e1 h.symm)];exact hk,hb.fH (.refl _) (.refl _) fun hs=>?_⟩
    exact qt _ (hb.lt hs) fun h=>e1 (j8.iE _ _ _ _ _ _ hu hl hk bM hs Gn h)
   iE:=fun u v lu lv k k' hu hv hk HX hs uw h=>by obtain ⟨k0,a,b⟩:=sol hk hs;obtain ⟨k1,c,d⟩:=sol HX uw;exact j8.iE _ _ _ _ _ _ hu hv a c b d h
   free:=fun u lu k hu hk hs hz=>by obtain ⟨k0,a,b⟩:=sol hk hs;exact j8.free _ _ _ hu a b hz}
  os:=ho,tape:=ht,output:=hp,size:=oz
  frame:=fun b hb h=>qt b hb fun h2=>h t li _ hl bM Gn h2.symm
  dB:=fun b o h=> .inl h
  mJ:=fun u lu h=> .inl h
  own:=fun u lu k hu hk hs=>by obtain ⟨k0,a,b⟩:=sol hk hs;exact .inr ⟨u,lu,k0,hu,a,b,rfl⟩}
theorem Mm {im:Im} {loc:Loc} {aA:bW} {fz:List Nat} {w:World} (j8:SR im loc aA fz w):sR im loc aA w (.bS []) aA fz im loc w (.tuple #[]) where
 fY:= .refl _
 dw:= .refl _
 vr:= .bS _ _ .nil
 sr:=j8
 os:=rfl
 tape:= .refl _
 output:=rfl
 size:=If _
 frame:=fun _ _ _=>rfl
 dB:=fun _ _ h=> .inl h
 mJ:=fun _ _ h=> .inl h
 own:=fun t li k hl hk hs=> .inr ⟨t,li,k,hl,hk,hs,rfl⟩
theorem OZ.srt {P:Program} {f:FuncId} {q:Srt} {fn:Func} {c:Code} (hf:P.funcs[f]? =abo fn) (qG:(fn.name== "runtime.NumGoroutine")=abr) (hb:fn.body=abo c) (h0:q.fn []=abo []) (H:uJ P f q):OZ P f (Rx q):=by
 refine ⟨fn,c,hf,qG,hb,?_⟩;intro args aA fz v vg I0 hp im loc w us j8 yw;unfold Rx at hp;split at hp
 case h_2=>cases hp
 rename_i t e1 off len cap ex r;split at hp
 case h_2=>cases hp
 rename_i e3 rows bM;split at hp
 case isFalse=>cases hp
 rename_i hc;simp only [aaF,Nat.beq_eq,Bool.not_eq_true',Nat.ble_eq] at hc;obtain ⟨⟨⟨⟨⟨q1,rfl⟩,bY⟩,k8⟩,QD⟩,hg⟩:=hc;subst q1;have k8:len<=1048576:=k8;split at hp
 case h_2=>cases hp
 rename_i l IZ;split at hp
 case h_2=>cases hp
 rename_i m hm;split at hp
 case isFalse=>cases hp
 rename_i y6;have y6:(abj m)=(abj l):=by simpa using y6
 injection hp with hp;simp only [ab5] at hp;obtain ⟨rfl,rfl,rfl⟩:=hp;have kL:=Ah IZ;have zJ:(abj l)=len:=by have:=congrArg abe kL;rw [List.length_take,EQ] at this;omega
 obtain ⟨x0,us1,rfl,JJ,yw⟩: ∃x0 us1,us=x0::us1/\VR im loc (.own t (abj q.r) 0 len cap ex) x0/\eG im loc r us1:=by cases yw with|cons _ a _ b h1 h2=>exact ⟨a,b,rfl,h1,h2⟩
 obtain rfl:=acp hg yw;obtain ⟨li,a,cD,rfl,hl,he,Dk,hlc,M7,_,Dm⟩:=JJ.iA;obtain ⟨k1,iF,sF⟩:=j8.de t li hl;rw [bM] at iF;injection iF with iF;subst iF;obtain ⟨b1,b2,b3⟩:=sF;obtain rfl:(abj q.r)=e3:=by rw [<- b1,he]
 refine .inr ⟨fU hf qG hb,?_⟩;rcases Nat.eq_zero_or_pos len with hz|zI
 · subst hz
   obtain rfl:l=[]:=NE.1 zJ;rw [h0] at hm;injection hm with hm;subst hm;refine (H.none_ a cD w).mono fun x w' ⟨hx,hw⟩=>⟨_,hx,im,loc,?_⟩
   subst hw;have:aA.set t (.arr (abj q.r) (([]:List (RT q.r)).map (RT.pv q.r)++rows.drop 0))=aA:=by
    apply List.ext_getElem?;intro j;rw [aay];split
    · rename_i e;subst e;rw [rc (Do.1 bM).1,bM];rfl
    rfl
   rw [this];exact Mm j8
 have nH:rows≠[]:=by intro h;subst h;simp at bY;omega
 obtain ⟨arr,el,sP,HH,IY,cJ⟩:=b3 nH;obtain ⟨Qp,rfl,u6⟩:li.n≠0/\a=abo ⟨li.de,li.sh,abp⟩/\li.sh+cD*abj q.r<=li.sz:=by
  rcases Dm with h|⟨h1,h2,h3⟩
  · omega
  exact ⟨h1,by simpa using h2,by simpa using h3⟩
 have kY:len*abj q.r<=abj rows*(abj q.r):=aa9 _ bY;subst zJ;refine (H.some_ li.de li.sh cD l m arr el w zI (by omega) (by omega) hm y6 sP (by rw [<- kL];exact cJ.take _) (by omega)).mono fun x w' ⟨hx,⟨fin,f1,f2,f3,f4⟩,qt,oz,ho,htp,hpp⟩=>⟨_,hx,im,loc,?_⟩
 have hL:(m.map (RT.pv q.r)++rows.drop (abj l)).length=(abj rows):=by simp only [aal,EQ,aaS,y6];omega
 refine PH j8 hl bM nH QD sP f2 qt oz ho htp hpp b1 (by rw [hL];exact b2) hL (by rw [f1];exact HH) (by rw [hL];exact IY) ?_;refine f3.append ?_;rw [EQ,y6];intro i r hr;obtain ⟨g1,g2⟩:=(cJ.drop (abj l)) i r hr;refine ⟨g1,fun j c hc=>?_⟩;obtain ⟨v,v1,v2⟩:=g2 j c hc;refine ⟨v,v1,?_⟩;show fin[_]? =abo v;rw [f4 _ (by omega)];exact v2
end Go.Vm
/- slices.SortFunc at rows of numbers with a callback: the table's entry, by what the library's law says of the function. -/
namespace Go.Vm
def PT.va:(p:PT)->p.T->Value
 | .i k,n=> .int k n
 | .b,x=> .bool x
def RT.va:(r:List PT)->RT r->List Value
 | [],_=>[]
 | [p],a=>[p.va a]
 |p::q::r,a=>p.va a.1::RT.va (q::r) a.2
theorem PT.Sd (p:PT) (a:p.T):hG (p.pv a)=abo (p.va a):=by cases p<;>rfl
theorem RT.Co: ∀(r:List PT) (a:RT r),(RT.va r a).length=abj r
 | [],_=>rfl
 | [_],_=>rfl
 |_::q::r,a=>by rw [RT.va,AC,RT.Co (q::r) a.2,AC,AC,AC]
theorem RT.Is: ∀(r:List PT) (a:RT r),(RT.pv r a).length=abj r
 | [],_=>rfl
 | [_],_=>rfl
 |_::q::r,a=>by rw [RT.pv,AC,RT.Is (q::r) a.2,AC,AC,AC]
theorem RT.Se: ∀(r:List PT) (a:RT r) (j:Nat),j<abj r-> ∃c v,(RT.pv r a)[j]? =abo c/\hG c=abo v/\(RT.va r a)[j]? =abo v
 | [],_,j,h=>absurd h (Nat.not_lt_zero j)
 | [p],a,0,_=>⟨_,_,rfl,p.Sd a,rfl⟩
 | [_],_,j+1,h=>absurd h (by simp)
 |p::q::r,a,0,_=>⟨_,_,rfl,p.Sd a.1,rfl⟩
 |p::q::r,a,j+1,h=>by obtain ⟨c,v,h1,h2,h3⟩:=RT.Se (q::r) a.2 j (by simpa using h);exact ⟨c,v,by rw [RT.pv,aap];exact h1,h2,by rw [RT.va,aap];exact h3⟩
theorem PT.Fm (p:PT) (a:p.T):(p.va a).oneCell'=abq:=by cases p<;>rfl
theorem RT.Fm: ∀(r:List PT) (a:RT r),∀v∈RT.va r a,v.oneCell'=abq
 | [],_,v,h=>by cases h
 | [p],a,v,h=>by rw [RT.va,List.mem_singleton] at h;subst h;exact p.Fm a
 |p::q::r,a,v,h=>by
  rw [RT.va,List.mem_cons] at h;rcases h with rfl|h
  · exact p.Fm a.1
  exact RT.Fm (q::r) a.2 v h
theorem PT.vr {im:Im} {loc:Loc} (p:PT) (a:p.T):VR im loc (p.pv a) (p.va a):=VR.AD (p.Sd a)
theorem RT.Sf {im:Im} {loc:Loc}: ∀(r:List PT) (a:RT r),eG im loc (RT.pv r a) (RT.va r a)
 | [],_=> .nil
 | [p],a=> .cons _ _ _ _ (p.vr a) .nil
 |p::q::r,a=> .cons _ _ _ _ (p.vr a.1) (RT.Sf (q::r) a.2)
theorem U7 {w w':World} (hs:w.heap.size<=w'.heap.size) (fr: ∀b,b<w.heap.size->w'.heap[b]? =w.heap[b]?) (ho:w'.os=w.os) (ht:Tape w w') (hp:w'.output=w.output): ∃q os',w'=Sort.grow (w.drewN q) os':=by
 refine ⟨w'.drawn-w.drawn,w'.heap.extract w.heap.size w'.heap.size,?_⟩;have hh:w'.heap=w.heap++w'.heap.extract w.heap.size w'.heap.size:=by
  apply Array.ext_getElem?;intro i;rw [aau]
  by_cases h:i<w.heap.size
  · rw [rc h];exact fr i h
  rw [ut h,Array.getElem?_extract]
  by_cases h2:i<w'.heap.size
  · rw [rc (by omega)];congr 1;omega
  rw [ut (by omega),Array.getElem?_eq_none (by omega)]
 have hd:w'.drawn=w.drawn+(w'.drawn-w.drawn):=by have:=ht.dr;omega
 have htp:=ht.eq;obtain ⟨h1,t1,d1,o1,p1⟩:=w';obtain ⟨h0,t0,d0,o0,p0⟩:=w;simp only at hh hd htp ho hp;simp only [Sort.grow,World.drewN];subst htp ho hp;rw [<- hh,<- hd]
def Sg (F:kH) (g:FuncId) (r:List PT) (x y:RT r) (v:Int):Prop:= ∃n s z,run F n (.func g [.agg (RT.pv r x),.agg (RT.pv r y)] [] [])=abo (.func (.int .i64 v) s z)
structure Sh (F:kH) (g:FuncId) (r:List PT) (cf:RT r->RT r->Int) (l:List (RT r)):Prop where
 cmp: ∀x∈l,∀y∈l,Sg F g r x y (cf x y)
 irrefl: ∀x∈l,¬cf x x<0
 trans: ∀x∈l,∀y∈l,∀z∈l,cf x y<0->cf y z<0->cf x z<0
 ntrans: ∀x∈l,∀y∈l,∀z∈l,¬cf x y<0-> ¬cf y z<0-> ¬cf x z<0
 tot: ∀x∈l,∀y∈l,¬cf x y<0-> ¬cf y x<0->x=y
open Go.Sort Go.Shelf Go.Proofs in
theorem uJ.cls {P:Program} {prims:FuncId->Bool} {F:kH} (hT:ED P prims F) (xA:sS P F) (ov:P.follows .mixedOrders=abq) {f g:FuncId} {r:List PT} {ρ:Go.Shelf.Ren} (L:SlLaysF0.n6 P ρ) (hf:ρ.f 6=f) (hr:0<abj r)
 (aE: ∀w,(isAgg (ρ.t 24)).run P w= .ok abq w) (zE: ∀w,(Go.sizeOf (ρ.t 24)).run P w= .ok (abj r) w) (eg: ∀args w,(callFunc g args).run P w= .ok (.enter g args) w)
 {fn:List (RT r)->Option (List (RT r))} (DN: ∀l m,fn l=abo m-> ∃cf,Sh F g r cf l/\m=l.mergeSort fun x y=>!abt (cf y x<0)):uJ P f ⟨r,abo g,fn⟩ where
 none_ a c w:=by subst hf;exact AnyF.slices_SortFunc_none L a c (.func (.func g) #[] #[]) w
 some_ b off c l m arr el w zI _ k8 OO y6 hw cJ u6:=by
  obtain ⟨cf,S,DN⟩:=DN l m OO;have DN:=DN.symm;have cJ:bw (fun k=>arr[k]?) off (abj r) (l.map (RT.pv r)):=cJ
  have u6:off+abj l*abj r<=arr.size:=u6;have zI:0<(abj l):=zI
  letI:Inhabited {a:RT r // a∈l}:=⟨⟨l[0],List.getElem_mem zI⟩⟩
  obtain ⟨l',kM⟩: ∃l':List {a:RT r // a∈l},l'.map (fun x=>x.1)=l:=⟨l.attach,List.attach_map_subtype_val l⟩;obtain ⟨m',zR⟩: ∃m',m'=l'.mergeSort fun x y=>!abt (cf y.1 x.1<0):=⟨_,rfl⟩
  have mm:m'.map (fun x=>x.1)=m:=by
   rw [zR,<- DN]
   conv=>rhs;rw [<- kM]
   exact List.map_mergeSort (fun _ _ _ _=>rfl)
  have ml:(abj m')=(abj l):=by have y6:(abj m)=(abj l):=y6;rw [<- y6,<- mm,EQ]
  have y6:(abj m)=(abj l):=y6;have ll:(abj l')=(abj l):=by have:=congrArg abe kM;rwa [EQ] at this
  have hblk:b<w.heap.size:=(v6.1 hw).1;have cells: ∀(i j:Nat),i<abj l->j<abj r->arr[off+i*abj r+j]? =abo ((RT.va r (l'.toArray[i]!).1)[j]!):=fun i j hi hj=>by
   have h1:(l.map (RT.pv r))[i]? =abo (RT.pv r l[i]):=by rw [IR,ww hi];rfl
   obtain ⟨_,h2⟩:=cJ i _ h1;obtain ⟨cc,v,c1,c2,c3⟩:=RT.Se r l[i] j hj;obtain ⟨v',v1,v2⟩:=h2 j cc c1;rw [c2] at v1;injection v1 with v1;subst v1;have e:(l'.toArray[i]!).1=l[i]:=by
    have qk:i<(abj l'):=by omega
    rw [getElem!_pos _ i (by simpa using qk)];have:(l'.map (fun x=>x.1))[i]? =abo l[i]:=by rw [kM,ww hi]
    rw [IR,ww qk] at this;simpa using this
   rw [e,getElem!_pos _ j (by rw [RT.Co];exact hj)];rw [ww (by rw [RT.Co];exact hj)] at c3;rw [c3];exact v2
  have hH:Sort.HoldsK (fun x:{a:RT r // a∈l}=>RT.va r x.1) (abj r) w b off l'.toArray:=fun t ht=>by
   have ht:t<abj l*(abj r):=by simpa [ll] using ht
   have hi:t / (abj r)<(abj l):=Nat.div_lt_of_lt_mul (by rw [aaA];exact ht);have hj:=Nat.mod_lt t hr;refine ⟨?_,?_⟩
   · have e:=cells (t / (abj r)) (t%(abj r)) hi hj
     rw [Nat.add_assoc,Nat.div_add_mod'] at e;simp only [abg,hw];rw [Sort.get_flatK _ _ _ t (by simpa [ll] using ht)];exact e
   simp [World.frozen?,hw]
  have aiX:l'.toArray.size=(abj l):=by simp [ll]
  have lt: ∀x y:{a:RT r // a∈l},ltOf (fun x y:{a:RT r // a∈l}=>cf x.1 y.1) x y=abt (cf x.1 y.1<0):=fun _ _=>rfl
  have hO:SWO (ltOf fun x y:{a:RT r // a∈l}=>cf x.1 y.1):={
   irrefl:=fun x=>by rw [lt];exact decide_eq_false (S.irrefl x.1 x.2)
   trans:=fun x y z h1 h2=>by rw [lt] at*;exact decide_eq_true (S.trans x.1 x.2 y.1 y.2 z.1 z.2 (of_decide_eq_true h1) (of_decide_eq_true h2))
   ntrans:=fun x y z h1 h2=>by rw [lt] at*;exact decide_eq_false (S.ntrans x.1 x.2 y.1 y.2 z.1 z.2 (of_decide_eq_false h1) (of_decide_eq_false h2))}
  have amB:CmpLays P g #[] (fun x:{a:RT r // a∈l}=>RT.va r x.1) (abj r) (fun x y=>cf x.1 y.1) b off l'.toArray.size w:=by
   intro m os dk hs x y;obtain ⟨n,s,z,bI⟩:=S.cmp x.1 x.2 y.1 y.2;rw [Array.append_empty];refine (B8 hT xA ov bI (im:=fun _=>abp) (us:=[.agg (RT.va r x.1).toArray,.agg (RT.va r y.1).toArray]) (fun _ _ h=>by cases h) (.cons _ _ _ _ (.agg _ _ (RT.Sf r x.1)) (.cons _ _ _ _ (.agg _ _ (RT.Sf r y.1)) .nil))).mono fun e w' ⟨u,he,⟨dP,bg,hv,_⟩,ho,ht,hp,oz,qt⟩=>?_
   exact ⟨by rw [he,hv.eY],U7 oz qt ho ht hp⟩
  subst hf;have hc:=AnyQ.slices_SortFunc_total L (abj r) aE zE (fun x:{a:RT r // a∈l}=>RT.va r x.1) (fun x=>RT.Co r x.1) (fun x v hv=>RT.Fm r x.1 v hv) (fun x y=>cf x.1 y.1) hO g #[] b off c l'.toArray w eg amB hH hblk (by rw [aiX];omega)
   (fun x y h1 h2=>by rw [lt] at h1 h2;exact Subtype.ext (S.tot x.1 x.2 y.1 y.2 (of_decide_eq_false h1) (of_decide_eq_false h2)))
  rw [aiX] at hc;refine hc.mono fun x w' ⟨hx,n,os,TV⟩=>⟨hx,?_⟩
  subst TV;rw [show l'.toArray.toList=l' from rfl,show (l'.mergeSort fun x y=>!ltOf (fun x y:{a:RT r // a∈l}=>cf x.1 y.1) y x)=m' from zR.symm];show (∃fin:Array Value,_/\(Sort.grow (Sort.putRowK (fun x:{a:RT r // a∈l}=>RT.va r x.1) (abj r) (Sort.ahead w n) b off m'.toArray) os).heap[b]? =_/\_)/\_;obtain ⟨F,hF⟩: ∃F,F=Sort.flatK (fun x:{a:RT r // a∈l}=>RT.va r x.1) (abj r) m'.toArray:=⟨_,rfl⟩;have hFs:F.size=abj l*(abj r):=by rw [hF,Sort.size_flatK];simp [ml]
  have hp:(Sort.putRowK (fun x:{a:RT r // a∈l}=>RT.va r x.1) (abj r) (Sort.ahead w n) b off m'.toArray).heap=w.heap.modify b (Sort.onCells (Sort.putCells id off F)):=by rw [hF];rfl
  have oz:(w.heap.modify b (Sort.onCells (Sort.putCells id off F))).size=w.heap.size:=Array.size_modify;have Dn: ∀k:Nat,k<w.heap.size->(Sort.grow (Sort.putRowK (fun x:{a:RT r // a∈l}=>RT.va r x.1) (abj r) (Sort.ahead w n) b off m'.toArray) os).heap[k]? =(w.heap.modify b (Sort.onCells (Sort.putCells id off F)))[k]?:=fun k hk=>by show (_++os)[k]? =_;rw [hp,aau,rc (by rw [oz];exact hk)]
  refine ⟨⟨Sort.putCells id off F arr,by simp [Sort.putCells],?_,?_,?_⟩,fun k hk dE=>?_,?_,rfl,⟨rfl,Nat.le_add_right _ _⟩,rfl⟩
  · rw [Dn b hblk,aav,rc rfl,hw];rfl
  · intro i rr hrr
    have hrr:(m.map (RT.pv r))[i]? =abo rr:=hrr;rw [IR,PP] at hrr;obtain ⟨a,ha,rfl⟩:=hrr;have hi:i<(abj m):=(Do.1 ha).1;have qk:i<(abj m'):=by omega
    refine ⟨RT.Is r a,fun j cc hc=>?_⟩;have hj:j<(abj r):=by
     have:=(Do.1 hc).1
     rwa [RT.Is] at this
    obtain ⟨c2,v,d1,d2,d3⟩:=RT.Se r a j hj;rw [hc] at d1;injection d1 with d1;subst d1;refine ⟨v,d2,?_⟩;have df:i*abj r+j<abj l*(abj r):=by have:(i+1)*abj r<=abj l*(abj r):=aa9 _ (by omega);rw [Nat.add_mul,Nat.one_mul] at this;omega
    show (Sort.putCells _ _ _ _)[off+i*abj r+j]? =_;unfold Sort.putCells;rw [aaw,Array.getElem?_eq_getElem (by omega),aaV,rc ⟨by omega,by omega⟩,show off+i*abj r+j-off=i*abj r+j by omega,hF,Sort.get_flatK _ _ _ _ (by simpa [ml] using df)];have e1:(i*abj r+j) / (abj r)=i:=by rw [aaA,Nat.mul_add_div hr,Nat.div_eq_of_lt hj,Nat.add_zero]
    have e2:(i*abj r+j)%(abj r)=j:=by rw [aaA,Nat.mul_add_mod,Nat.mod_eq_of_lt hj]
    rw [e1,e2];have e:(m'.toArray[i]!).1=a:=by
     rw [getElem!_pos _ i (by simpa using qk)];have:(m'.map (fun x=>x.1))[i]? =abo a:=by rw [mm];exact ha
     rw [IR,ww qk] at this;simpa using this
    rw [e,getElem!_pos _ j (by rw [RT.Co];exact hj)];rw [ww (by rw [RT.Co];exact hj)] at d3;exact d3
  · intro j hj
    have hj:off+abj l*abj r<=j:=hj;unfold Sort.putCells;rw [aaw];cases arr[j]? with
    |none=>rfl
    |some x=>rw [aaV,ut];intro h;have:=h.2;omega
  · refine (Dn k hk).trans ?_
    rw [aav,ut (fun h=>dE h.symm)]
  show _<=(_++os).size
  rw [Array.size_append,hp,oz];omega
end Go.Vm
/- A function that makes one new block of rows out of a slice's rows: the table's entry; and the law of a range over a function whose body never leaves. -/
namespace Go
open Go.RowKit
def U8 {α:Type} (B:Nat) (Kp:World->World->Prop) (I:List α->World->Prop) (xs:List α) (W:World):Exit->Act->World->Prop
 | .normal,_,W'=>W'.heap[B]? =W.heap[B]?/\W'.heap[B+1]? =W.heap[B+1]?/\I xs W'/\Kp W W'
 |_,_,_=>False
theorem PI {α:Type} {F:Fence} {n:Nat} {P:Program} {g:Operand} {ps:Array Tmp} {assign body:Code} {Q:Exit->Act->World->Prop} {a:Act} {w:World}
 (zb:F.round=abp) (h1:1<=n) {gf:Nat} {lb:Array Value} (hg:a.eval g= .func (.func gf) #[] lb) (hFg:F.fn gf) (eg: ∀args w,(callFunc gf args).run P w= .ok (.enter gf args) w)
 {encs:α->Array Value} (hps: ∀x,(encs x).size=ps.size) (xs:List α) (I:List α->World->Prop)
 (J7: ∀pre W r o,W.heap[w.heap.size+1]? =abo (.loop r)->I pre W->I pre (W.putObj (w.heap.size+1) o)) (acq: ∀pre W W',I pre W->Below W.heap.size W W'->W'.drawn=W.drawn->I pre W') (h0:I [] w)
 (Kp:World->World->Prop) (hKt: ∀{A B C},Kp A B->Kp B C->Kp A C) (hKb: ∀{W W'},Below W.heap.size W W'->Kp W W') (hKp: ∀{W r} o,W.heap[w.heap.size+1]? =abo (.loop r)->Kp W (W.putObj (w.heap.size+1) o))
 (amD: ∀(l:Nat) (J:List α->World->Prop) (W:World),(∀pre W,J pre W->I pre W)->(∀pre W W',J pre W->Below W.heap.size W W'->W'.drawn=W.drawn->J pre W')->
  (∀pre x W1,J pre W1->pre++[x]<+:xs->YieldAt F (n-1-1) P l (encs x) W1 fun e W'=>e= .returned (.bool abq)/\J (pre++[x]) W'/\Kp W1 W')->J [] W->
  CallsIn F (n-1) P gf (#[.func (.yield l) #[] #[]]++lb) W fun e W'=>(∃v,e= .returned v)/\J xs W')
 (Ax:α->Act->World->Prop) (hAx: ∀x a' W r o,W.heap[w.heap.size+1]? =abo (.loop r)->Ax x a' W->Ax x a' (W.putObj (w.heap.size+1) o))
 (U9: ∀(l:Nat) (x:α) (W:World) (K:Act->World->Prop),w.heap.size+1<W.heap.size->(∀a' W',Below W.heap.size W W'->W'.drawn=W.drawn->Ax x a' W'->K a' W')->
  assign.wpIn (F.inRound l) (n-1-1) P (Exit.then K (fun _ _ _=>False)) {tmps:=(ps.zip (encs x)).foldl (fun t (p,v)=>t.setIfInBounds p v) a.tmps,defers:=[]} W)
 (kr: ∀(l:Nat) (pre:List α) (x:α) (a':Act) (W:World),I pre W->Ax x a' W->pre++[x]<+:xs->W.heap[w.heap.size]? =abo (.deferred (abo []))->(∃r,W.heap[w.heap.size+1]? =abo (.loop r))->body.wpIn (F.inRound l) (n-1-1) P (U8 w.heap.size Kp I (pre++[x]) W) a' W)
 (aiY: ∀(W:World),I xs W->W.heap[w.heap.size]? =abo (.deferred (abo []))->Q .normal {a with defers:={target:= .collected w.heap.size,args:= #[]}::a.defers} W):
 (Code.rangeFunc g ps assign body).wpIn F n P Q a w:=by
 refine wpIn_rangeFunc ?_;intro fn DN;rw [zb];obtain ⟨rec,vd⟩: ∃rec:LoopState->Option Code->Loop,rec=fun st pe=>{state:=st,pending:=pe,fn,tmps:=a.tmps,params:=ps,assign,body,defers:=w.heap.size}:=⟨_,rfl⟩
 obtain ⟨W1,hW1⟩: ∃W1,(w.alloc (.deferred (abo []))).alloc (.loop (rec .ready abp))=W1:=⟨_,rfl⟩;have hL1:W1.heap[w.heap.size+1]? =abo (.loop (rec .ready abp)):=by rw [<- hW1];have:=aai (w.alloc (.deferred (abo []))) (.loop (rec .ready abp));rwa [World.size_alloc] at this
 have hK1:W1.heap[w.heap.size]? =abo (.deferred (abo [])):=by rw [<- hW1];exact (Below.heap_alloc _ _ _ (by simp)).trans (aai w _)
 have hI1:I [] W1:=by rw [<- hW1];exact acq _ _ _ h0 (((Below.refl _ w).alloc (If _) _).alloc (by simp) _) rfl
 refine ⟨w.heap.size+1,[{target:= .collected w.heap.size,args:= #[]}],W1,{target:= .fn (.func gf) lb,args:= #[.func (.yield (w.heap.size+1)) #[] #[]]},W1,gf,
  #[.func (.yield (w.heap.size+1)) #[] #[]]++lb,W1,?_,?_,?_,?_,fun _=>h1,?_⟩
 · rw [<- hW1,vd];exact run_enterLoop_outer _ _ _ _ _
 · simp only [resolve,hg]
   simp [go_sem]
 · intro f' Pa;simp [Target.leads] at Pa;subst Pa;exact hFg
 · simp [invoke,go_sem,eg]
 refine (amD (w.heap.size+1) (fun pre W=>I pre W/\W.heap[w.heap.size+1]? =abo (.loop (rec .ready abp))/\W.heap[w.heap.size]? =abo (.deferred (abo []))) W1 (fun _ _ h=>h.1)
  (fun pre W W' ⟨h1,h2,h3⟩ hb hd=>⟨acq _ _ _ h1 hb hd,(hb.block _ (v6.1 h2).1).trans h2,(hb.block _ (v6.1 h3).1).trans h3⟩) ?_ ⟨hI1,hL1,hK1⟩).mono ?_
 · rintro pre x W ⟨hi,hl,hk⟩ Gp
   have df:w.heap.size+1<W.heap.size:=(v6.1 hl).1;have hy:=run_yield (P:=P) (args:=encs x) hl (by rw [vd];exact hps x);rw [vd] at hy;refine ⟨fn,_,assign,body,hy,roundIn_of_wpIn DN (U9 _ x W _ df ?_)⟩;clear hy;intro a' Wa hba hda hax
   replace hl:=(hba.block _ df).trans hl
   replace hk:=(hba.block _ (show w.heap.size<W.heap.size by omega)).trans hk
   replace hi:=acq _ _ _ hi hba hda
   replace df:w.heap.size+1<Wa.heap.size:=(v6.1 hl).1
   refine ⟨_,run_beginRound hl (by rw [vd]),?_⟩;have GF:(Wa.putObj (w.heap.size+1) (.loop {rec .ready abp with state:= .busy})).heap[w.heap.size+1]? =abo (.loop {rec .ready abp with state:= .busy}):=aaq df;have BZ:(Wa.putObj (w.heap.size+1) (.loop {rec .ready abp with state:= .busy})).heap[w.heap.size]? =abo (.deferred (abo [])):=(aa2 (by omega)).trans hk;refine wpIn_mono (kr _ pre x a' _ (J7 _ _ _ _ hl hi) (hAx _ _ _ _ _ hl hax) Gp BZ ⟨_,GF⟩) ?_;rintro e a3 W3 hp;cases e with
   |normal=>
    obtain ⟨b1,b2,hi3,hkp⟩:=hp;have hl3:=b2.trans GF;have hr:=run_endRound (P:=P) abp hl3;refine ⟨_,_,hr,rfl,⟨J7 _ _ _ _ hl3 hi3,?_,?_⟩,hKt (hKb hba) (hKt (hKp _ hl) (hKt hkp (hKp _ hl3)))⟩
    · refine (aaq (v6.1 hl3).1).trans ?_
      rw [vd];rfl
    exact (aa2 (by omega)).trans (b1.trans BZ)
   |_=>exact hp.elim
 rintro e W2 ⟨⟨v,rfl⟩,hi,hl,hk⟩
 exact ⟨abp,_,by have:=run_endLoop (P:=P) hl (by rw [vd];simp);rw [vd] at this;exact this,aiY _ (J7 _ _ _ _ hl hi) ((aa2 (by omega)).trans hk)⟩
theorem Cp {α:Type}: ∀(k:Ask α) (w:World),w.drawn<=(w.ask k).2.drawn
 | .done a,w=>If _
 | .ask ase range k,w=>by
  simp only [World.ask];split
  · exact Cp _ w
  exact M2 (Nat.le_succ _) (Cp _ {w with drawn:=w.drawn+1})
theorem PJ (w:World) (c:Sys):w.drawn<=(w.sys c).2.drawn:=by
 have:=Cp (Kernel.perform c w.os) w;unfold World.sys;split
 · exact If _
 rename_i h;rw [h] at this;exact this
theorem Fo {p:Program} {w w':World} {a:Addr} {v:Value} {b:Bool} {l:List Addr} (h:w.farStore p a v b= .ok (w',l)):w'.drawn=w.drawn:=by
 unfold World.farStore at h;split at h
 · split at h
   · rename_i r hr
     injection h with h;subst h;unfold World.viewStore at hr;simp only [bind,Except.bind,pure,Except.pure] at hr
     repeat' split at hr
     all_goals first|(injection hr with hr;injection hr with hr _;subst hr;rfl)|(cases hr;done)|(cases hr;rfl)
   cases h
 cases h
theorem PK {α:Type} {p:Program}: ∀(m:Sem α) {w w':World} {a:α},m.run p w= .ok a w'->w.drawn<=w'.drawn:=by
 intro m
 induction m with
 |pure a=>intro w w' b h;injection h with _ h;subst h;exact If _
 |load m a k ih=>
  intro w w' b h;unfold ab0 at h;split at h
  · exact ih _ h
  split at h
  · exact ih _ h
  cases h
 |store m a v k ih=>
  intro w w' b h;cases v<;>(unfold ab0 at h;first|cases h|(
   split at h
   · split at h
     · cases h
     refine M2 (aak ?_) (ih h);rfl
   split at h
   · rename_i hf;exact M2 (aak (Fo hf).symm) (ih h)
   cases h))
 |new o k ih=>intro w w' b h;refine M2 (aak ?_) (ih _ h);rfl
 |shape r k ih=>intro w w' b h;exact ih _ h
 |freeze a n k ih=>intro w w' b h;refine M2 (aak ?_) (ih h);unfold World.freeze;split<;>rfl
 |frozen a k ih=>intro w w' b h;exact ih _ h
 |getObj r k ih=>
  intro w w' b h;unfold ab0 at h;split at h
  · cases h
  · exact ih _ h
  cases h
 |setObj r o k ih=>
  intro w w' b h;unfold ab0 at h;split at h
  · cases h
  · refine M2 (aak ?_) (ih h);rfl
  cases h
 |choose q k ih=>
  intro w w' b h;unfold ab0 at h;split at h
  · exact ih _ h
  refine M2 (Nat.le_succ w.drawn) ?_
  exact ih _ h
 |sys c k ih=>intro w w' b h;exact M2 (PJ w c) (ih _ h)
 |program k ih=>intro w w' b h;exact ih _ h
 |mark m k ih=>intro w w' b h;exact ih h
 |halt h=>intro w w' b h;cases h
theorem Ai {F:Fence} {n:Nat} {P:Program} (w:World) {ops:Array Oper} {rest:List Oper} {o:Oper} {a:Act} {Q:Exit->Act->World->Prop}
 (hg:o.guard=abp) (s x:Operand) (t:TypeId) (eO:o.op=Op.call {callee:=Callee.builtin Builtin.append,args:= #[s,x],argTypes:= #[t,t]})
 (ou:Nat) (e:TypeId) (i:TypeInfo) (z:Value) (size bytes:Nat) (h1:P.underlying t=abo (.slice e)) (h2:P.info? e=abo i) (h3:i.zero=abo z) (h4:i.size=size) (h5:i.bytes=bytes) (h6:z.cells.size=size) (h7:0<size)
 (v:Value) (k:Nat) (xs:List Value) (hs:a.eval s=v) (acb:w.ownsRow ou e size v k xs) (ad:Addr) (m c:Nat) (news:List Value) (hx:a.eval x= .slice (abo ad) m c) (hn:(abj news)=m*size)
 (hc: ∀j u,news[j]? =abo u->w.cell? (ad.add j)=abo u) (h1c: ∀u∈news,u.oneCell'=abq) (b1:k+m<=maxLen) (b2:(k+m)*bytes<=140737488355328) (b3:ou<=w.heap.size)
 (hK: ∀v' w',w'.ownsRow ou e size v' (k+m) (xs++news)->w.grownBy w' v.ownBlock->w.drawn<=w'.drawn->wpListIn F n P ops Q rest (a.put o.dst v') w'):
 wpListIn F n P ops Q (o::rest) a w:=by
 refine wpListIn_plain hg fun K hK'=>?_
 obtain ⟨v',w',bI,r1,r2,r3⟩:=run_append_own (P:=P) w ou t o.type e i z size bytes h1 h2 h3 h4 h5 h6 h7 v k xs acb ad m c news hn hc h1c b1 b2 b3;unfold Oper.wpIn;refine ⟨?_,?_⟩
 · simp [Oper.about,eO,resolve,Target.leads,Sem.run_pure]
 rw [Oper.semAt_plain F _ _ (by rw [eO];intro c AI;cases AI)]
 simp [execOp,eO,resolve,invoke,builtin,hs,hx,bI,Result.andThen];exact hK' _ _ (hK v' w' r1 r2 (PK _ bI))
end Go
namespace Go.Vm
open Go.RowKit
def pMk (q r:List PT) (fn:List (RT q)->Option (List (RT r))):List PV->Option (PV×bW)
 | [.agg [.sl e _ rows]]=>if Nat.beq e (abj q)||rows.isEmpty then (match A0 q rows with
  |some l=>match fn l with
   |some m=>abo (.own 0 (abj r) 0 (abj m) (abj m) abr,[.arr (abj r) (m.map (RT.pv r))])
   |none=>abp
  |none=>abp) else abp
 |_=>abp
def NU (P : Program) (f : FuncId) (q r : List PT) (fn : List (RT q) -> Option (List (RT r))) : Prop :=
  ∀ (a : Option Addr) (c : Nat) (l : List (RT q)) (m : List (RT r)) (w : World), fn l = abo m -> (abj l) <= c ->
    (l ≠ [] -> ∃ b o, a = abo ⟨b, o, abp⟩ /\ bw (fun k => w.cell? ⟨b, k, abp⟩) o (abj q) (l.map (RT.pv q))) ->
    Calls P f #[.agg #[.slice a (abj l) c]] w fun x w' =>
      (m = [] /\ x = .returned (.slice abp 0 0) \/ m ≠ [] /\ ∃ g c' fin el, x = .returned (.slice (abo ⟨g, 0, abp⟩) (abj m) c') /\ w.heap.size <= g /\ w'.heap[g]? = abo (.cells fin el (0, 0)) /\
        (abj m) <= c' /\ c' * (abj r) <= fin.size /\ bw (fun k => fin[k]?) 0 (abj r) (m.map (RT.pv r))) /\ Below w.heap.size w w' /\ w.drawn <= w'.drawn
def Cq (li:LI):Loc:=fun t=>if t=0 then abo li else abp
theorem He {im:Im} {w w':World} {v:PV} {u:Value} {e:Nat} {rows:List Row} {li:LI} (j8:SR im fE [] [] w) (hb:Below w.heap.size w w') (hd:w.drawn<=w'.drawn) (he:li.esz=e) (hn:li.n=abj rows)
 (hr:rows≠[]->w.heap.size<=li.de/\ ∃cs el,w'.heap[li.de]? =abo (.cells cs el (0,0))/\cs.size=li.sz/\li.sh+abj rows*e<=li.sz/\bw (fun k=>cs[k]?) li.sh e rows)
 (hv:VR im (Cq li) v u):sR im fE [] w v [.arr e rows] [] im (Cq li) w' u:=by
 have at0: ∀{t:Nat} {l:LI},Cq li t=abo l->t=0/\l=li:=fun {t l} h=>by
  unfold Cq at h;split at h
  · rename_i e;injection h with h;exact ⟨e,h.symm⟩
  cases h
 have lt: ∀{b:Nat} {o:Obj},w.heap[b]? =abo o->b<w.heap.size:=fun h=>(v6.1 h).1
 have ne: ∀{k:jL},([.arr e rows]:bW)[0]? =abo k->k.bA=abq->rows≠[]:=fun h hs=>by injection h with h;subst h;intro h0;subst h0;cases hs
 exact {
  fY:= .refl _
  dw:=fun t l h=>by cases h
  vr:=hv
  sr:={
   bq:=fun b o h=>by have h1:=j8.bq b o h;rw [hb.block b (lt h1)];exact h1
   de:=fun t l h=>by obtain ⟨rfl,rfl⟩:=at0 h;exact ⟨_,rfl,he,hn,fun h0=>(hr h0).2⟩
   iE:=fun t u l l' k k' h h' _ _ _ _ _=>(at0 h).1.trans (at0 h').1.symm
   free:=fun t l k h hk hs _=>by
    obtain ⟨rfl,rfl⟩:=at0 h;cases hi:im l.de with
    |none=>rfl
    |some o=>have:=lt (j8.bq _ _ hi);have:=(hr (ne hk hs)).1;omega}
  os:=hb.os
  tape:=⟨hb.tape,hd⟩
  output:=hb.output
  size:=hb.size
  frame:=fun b h _=>hb.block b h
  dB:=fun b o h=> .inl h
  mJ:=fun t l h=> .inr (Nat.zero_le _)
  own:=fun t l k h hk hs=>by obtain ⟨rfl,rfl⟩:=at0 h;exact .inl (hr (ne hk hs)).1}
theorem zP.mk {P:Program} {f:FuncId} {q r:List PT} {fn:List (RT q)->Option (List (RT r))} {F:Func} {c:Code} (hf:P.funcs[f]? =abo F) (qG:(F.name== "runtime.NumGoroutine")=abr) (hb:F.body=abo c)
 (H:NU P f q r fn):zP P f (pMk q r fn):=by
 intro args v news hp im w us j8 yw;unfold pMk at hp;split at hp
 case h_2=>cases hp
 rename_i e cl rows;split at hp
 case isFalse=>cases hp
 rename_i hc;split at hp
 case h_2=>cases hp
 rename_i l hl;split at hp
 case h_2=>cases hp
 rename_i m hm;injection hp with hp;simp only [ab5] at hp;obtain ⟨rfl,rfl⟩:=hp;have kL:=Ah hl;have bY:(abj rows)=(abj l):=by rw [kL,EQ]
 obtain ⟨u,rfl,hu⟩: ∃u,us=[u]/\VR im fE (.agg [.sl e cl rows]) u:=by cases yw with|cons _ a _ b h1 h2=>cases h2;exact ⟨a,rfl,h1⟩
 obtain ⟨a,cap,rfl,y4,hh⟩: ∃a cap,u= .agg #[.slice a (abj rows) cap]/\abj rows<=cap/\(rows≠[]-> ∃b o,a=abo ⟨b,o,abp⟩/\bw (lZ im b) o e rows):=by
  cases hu with
  |agg _ vs h=>
   cases h with
   |cons _ s _ b h1 h2=>
    cases h2;cases h1 with
    |sl _ _ _ a cap y4 hk hh=>exact ⟨a,cap,rfl,y4,hh⟩
 rw [bY] at y4 ⊢;refine .inr ⟨fU hf qG hb,(H a cap l m w hm y4 fun dE=>?_).mono ?_⟩
 · have OP:rows≠[]:=fun h0=>dE (NE.1 (by rw [<- bY,h0];rfl))
   obtain ⟨b,o,rfl,hr⟩:=hh OP;have he:e=(abj q):=by
    rw [Bool.or_eq_true] at hc;rcases hc with hc|hc
    · exact Nat.beq_eq▸hc
    exact absurd (List.isEmpty_iff.1 hc) OP
   subst he;refine ⟨b,o,rfl,?_⟩;rw [<- kL];refine hr.mono fun k v hk=>?_
   unfold lZ at hk;split at hk
   · rename_i cs _ _ hi
     have:=j8.bq _ _ hi;simp only [abg,this];exact hk
   cases hk
 rintro x w' ⟨hx,Li,hd⟩
 rcases hx with ⟨rfl,rfl⟩|⟨hm0,g,c',fin,el,rfl,hg,hw,Aw,Gd,hr⟩
 · exact ⟨_,rfl,im,Cq ⟨0,0,abj r,0,0⟩,He j8 Li hd rfl rfl (fun h=>absurd rfl h) (.own 0 (abj r) 0 0 0 abr ⟨0,0,abj r,0,0⟩ abp 0 rfl rfl (If _) (If _) (If _) (fun h=>by cases h) (.inl rfl))⟩
 have y6:(m.map (RT.pv r)).length=(abj m):=EQ _
 have kY:(abj m)*abj r<=c'*(abj r):=aa9 _ Aw;refine ⟨_,rfl,im,Cq ⟨g,0,abj r,abj m,fin.size⟩,He j8 Li hd rfl y6.symm (fun _=>⟨hg,fin,el,hw,rfl,by show 0+(m.map (RT.pv r)).length*abj r<=fin.size;rw [y6,aaE];exact M2 kY Gd,hr⟩) (.own 0 (abj r) 0 (abj m) (abj m) abr ⟨g,0,abj r,abj m,fin.size⟩ (abo ⟨g,0,abp⟩) c' rfl rfl (by simp) (If _) Aw (fun h=>by cases h) (.inr ⟨fun h=>hm0 (NE.1 h),by simp,by simpa using Gd⟩))⟩
theorem cQ.rows {F:kH} {f:FuncId} {α:Type} {A:Arg α} {q r:List PT} {g:α->List (RT q)} {fn:List (RT q)->Option (List (RT r))} (hf:F f=abo (.iZ abr (pMk q r fn)))
 (hA: ∀a,qS (A.enc a)=abo (.agg [.sl (abj q) abr ((g a).map (RT.pv q))])):cQ F f (ru.rows A q r g fn):=by
 intro (a:α) (b:List (RT r)) a2 pa aA fz hb Lv hex;have hb:fn (g a)=abo b:=hb;have Sc:pa=[.agg [.sl (abj q) abr ((g a).map (RT.pv q))]]:=by have:oA [A.enc a]=abo pa:=Lv;simp only [oA,hA] at this;exact (UV this).symm
 subst Sc;refine ⟨0,{v:= .own (abj aA) (abj r) 0 (abj b) (abj b) abr,news:=[.arr (abj r) (b.map (RT.pv r))],rd:=cW (cK aA deep) a2},?_,.sl (abj r) abr (b.map (RT.pv r)),.own (abj aA) (abj r) 0 (abj b) (abj b) abr,[.arr (abj r) (b.map (RT.pv r))],rfl,by simp only [Dt,EQ],rfl⟩;show cC F (run F 0) abr f a2 aA fz=_;simp only [cC,hex,hf,pMk,Nat.beq_refl,Bool.true_or,if_true,Fe,hb,yY];simp [has]
theorem cQ.lift {F G:kH} {f:FuncId} {c:ru} (h: ∀f e,F f=abo e->G f=abo e) (k:cQ F f c):cQ G f c:=by intro a b a2 pa aA fz hb Lv hex;obtain ⟨n,r,h1,h2⟩:=k a b a2 pa aA fz hb Lv hex;exact ⟨n,r,o6 (M4 h n) (T3 h n) h1,h2⟩
end Go.Vm
/- What a function that ranges over all pairs of points, keeps what comes of each and puts it in order gives: plain parts of its walk. -/
namespace Go.Vm
open Go.RowKit
abbrev oo:=Int×Int×Int
def Mn (p:oo):Value:= .agg #[.int .i64 p.1,.int .i64 p.2.1,.int .i64 p.2.2]
def gB (l:List oo):List (oo×oo):=(aam (abj l)).flatMap fun i=>(l.drop (i+1)).map fun q=>(l[i]!,q)
def sJ (l:List oo) (i j:Nat):List (oo×oo):=((aam i).flatMap fun i=>(l.drop (i+1)).map fun q=>(l[i]!,q))++((l.drop (i+1)).take j).map fun q=>(l[i]!,q)
theorem PL (l:List oo):sJ l 0 0=[]:=by simp [sJ]
theorem PM (l:List oo) {i j:Nat} (h:i+1+j<abj l):sJ l i j++[(l[i]!,l[i+1+j]!)]=sJ l i (j+1):=by
 unfold sJ;rw [List.append_assoc]
 congr 1
 have:(l.drop (i+1)).take (j+1)=(l.drop (i+1)).take j++[l[i+1+j]!]:=by rw [List.take_add_one,List.getElem?_drop,ww h,getElem!_pos l _ h];rfl
 rw [this,List.map_append];rfl
theorem Fp (l:List oo) (i:Nat):sJ l i (abj l- (i+1))=sJ l (i+1) 0:=by unfold sJ;rw [aar (by simp),ab1,aba,aat,aaX,aaj];simp
theorem Si (l:List oo):sJ l (abj l) 0=gB l:=by unfold sJ gB;simp
theorem Sj (l:List oo) {i:Nat} (h:i<abj l) (j:Nat):sJ l i j<+:gB l:=by
 have h1:sJ l i j<+:sJ l (i+1) 0:=by rw [<- Fp];unfold sJ;refine (List.prefix_append_right_inj _).2 ?_;rw [aar (show (l.drop (i+1)).length<=abj l- (i+1) by simp)];exact (List.take_prefix _ _).map _
 refine h1.trans ?_;unfold sJ gB;rw [ab1,aba,aat];have:aam (abj l)=aam (i+1)++(aam (abj l- (i+1))).map (fun k=>i+1+k):=by rw [<- List.range_add];congr 1;omega
 rw [this,aaj];exact List.prefix_append _ _
def Sk (W:World) (b o:Nat) (l:List oo):Prop:= ∀i,i<abj l->W.cell? ⟨b,o+i*3,abp⟩=abo (.int .i64 l[i]!.1)/\W.cell? ⟨b,o+i*3+1,abp⟩=abo (.int .i64 l[i]!.2.1)/\W.cell? ⟨b,o+i*3+2,abp⟩=abo (.int .i64 l[i]!.2.2)
theorem vI {W:World} {a:Addr} {v:Value} (o:Obj) (h:W.cell? a=abo v):(W.alloc o).cell? a=abo v:=cell_kept h (World.grownBy_alloc W o abp) (fun r e=>by cases e)
def acs (t:TypeId) (W W':World):Prop:= ∀(k:Nat) (cs:Array Value) (z:Nat×Nat),W.heap[k]? =abo (Obj.cells cs t z)->W'.heap[k]? =abo (Obj.cells cs t z)
abbrev wZ:=Int×Int×Int×Int
def mtV (m:wZ):List Value:=[.int .i64 m.1,.int .i64 m.2.1,.int .i64 m.2.2.1,.int .i64 m.2.2.2]
def vJ (mt:oo->oo->(Int×Int)×Int) (l:List (oo×oo)):List wZ:=l.flatMap fun x=>bif (mt x.1 x.2).2==0 then [((mt x.1 x.2).1.1,(mt x.1 x.2).1.2,x.1.1,x.2.1)] else []
theorem Cr (mt:oo->oo->(Int×Int)×Int) (l:List (oo×oo)) (x:oo×oo):vJ mt (l++[x])=vJ mt l++bif (mt x.1 x.2).2==0 then [((mt x.1 x.2).1.1,(mt x.1 x.2).1.2,x.1.1,x.2.1)] else []:=by simp [vJ]
theorem Be (mt:oo->oo->(Int×Int)×Int): ∀l:List (oo×oo),(vJ mt l).length<=abj l
 | []=>If _
 |x::l=>by
  have:=Be mt l;unfold vJ at this ⊢;rw [aa6,aal,AC];cases (mt x.1 x.2).2==0
  · simp only [pp,aas];omega
  simp only [lw,AC,aas];omega
theorem PN {w:World} {B:Nat} (hB:w.heap.size=B) (l:List Value) (t:TypeId) (j:Nat) (u:Value) (h:l[j]? =abo u):(w.alloc (.cells ⟨l⟩ t)).cell? ((⟨B,0,abp⟩:Addr).add j)=abo u:=by
 subst hB;have abn:(⟨w.heap.size,0,abp⟩:Addr).add j=⟨w.heap.size,j,abp⟩:=by unfold Addr.add;split<;>simp_all
 rw [abn,cell_of_row _ w.heap.size j ⟨l⟩ t (0,0) (aai w _)];simpa using h
theorem PO {W w1:World} {amE B:Nat} {t e u:TypeId} {size k:Nat} {v v':Value} {xs:List Value} {tmp:Obj} (hv:Boxed W B t v) (mg:W.ownsRow amE e size v k xs) (Kf:(W.alloc tmp).grownBy w1 v.ownBlock) (h1:u≠e) (h2:u≠t):acs u W (w1.setCell ⟨B,0,abp⟩ v'):=by
 intro i cs z hi;have df:=(v6.1 hi).1;have dE:abo i≠v.ownBlock:=by
  rcases mg.2 with ⟨rfl,_⟩|⟨g,cap,cur,rfl,_,hgb,_⟩
  · simp [Value.ownBlock]
  intro e'
  obtain rfl:i=g:=by simpa [Value.ownBlock] using e'
  rw [hgb] at hi;cases hi;exact h1 rfl
 have hb:i≠B:=by rintro rfl;rw [show W.heap[i]? =_ from hv] at hi;cases hi;exact h2 rfl
 refine (Below.heap_setCell _ _ _ i hb).trans ((Kf.block i (by simp;omega) dE).trans ((Below.heap_alloc W tmp i df).trans hi))
theorem Sl: ∀(l:List wZ) (i j:Nat) (m:wZ),l[i]? =abo m->j<4->(l.flatMap mtV)[i*4+j]? =(mtV m)[j]?
 | [],i,j,m,h,_=>by simp at h
 |a::l,0,j,m,h,hj=>by
  obtain rfl:a=m:=by simpa using h
  rw [aa6,Nat.zero_mul,aaE,List.getElem?_append_left (by simpa [mtV] using hj)]
 |a::l,i+1,j,m,h,hj=>by
  have:=Sl l i j m (by simpa using h) hj;rw [aa6,List.getElem?_append_right (by simp [mtV];omega),<- this]
  congr 1
  simp [mtV];omega
theorem PQ {l:List wZ} {cur:Array Value} (h:cur.toList.take (abj l*4)=l.flatMap mtV):bw (fun k=>cur[k]?) 0 4 (l.map (RT.pv [.i .i64,.i .i64,.i .i64,.i .i64])):=by
 intro i r hr;rw [IR,PP] at hr;obtain ⟨m,hm,rfl⟩:=hr;have hi:=(Do.1 hm).1;refine ⟨rfl,fun j c hc=>?_⟩;have hj:j<4:=(Do.1 hc).1;have e:=Sl l i j m hm hj;rw [<- h,List.getElem?_take_of_lt (by omega)] at e;have e2:cur[0+i*4+j]? =(mtV m)[j]?:=by rw [<- e,aaE];simp
 match j,hj,hc,e2 with
 |0,_,hc,e2=>injection hc with hc;subst hc;exact ⟨_,rfl,e2⟩
 |1,_,hc,e2=>injection hc with hc;subst hc;exact ⟨_,rfl,e2⟩
 |2,_,hc,e2=>injection hc with hc;subst hc;exact ⟨_,rfl,e2⟩
 |3,_,hc,e2=>injection hc with hc;subst hc;exact ⟨_,rfl,e2⟩
theorem sZ {W W':World} {B:Nat} {t:TypeId} {v:Value} (h:Boxed W B t v) (hb:Below W.heap.size W W'):Boxed W' B t v:=(hb.block B h.lt).trans h
theorem oK {W W':World} (hb:Below W.heap.size W W'):W.grownBy W' abp:=⟨hb.os,hb.tape,hb.output,hb.size,fun k hk _=>hb.block k hk⟩
mutual
theorem Kg (s:bW): ∀(v p:PV),p.jt=abq->w5 s v=abo p->v=p
 | .int _ _,_,_,h=>UV h
 | .bool _,_,_,h=>UV h
 | .str _,_,_,h=>UV h
 | .agg cs,p,hn,h=>by obtain ⟨l,hl,rfl⟩:=PP.1 h;rw [Cs s cs l hn hl]
 | .bS cs,p,hn,h=>by obtain ⟨l,hl,rfl⟩:=PP.1 h;rw [Cs s cs l hn hl]
 | .sl _ _ _,_,hn,h=>by injection h with h;subst h;cases hn
 | .own _ _ _ _ _ _,_,hn,h=>by
  simp only [w5] at h;split at h
  · injection h with h;subst h;cases hn
  cases h
 | .undef,_,_,h=>by cases h
 | .jl,_,_,h=>by cases h
 | .ptr ..,_,_,h=>by cases h
 | .bu ..,_,_,h=>by cases h
 | .mp _,_,_,h=>by cases h
 | .eh ..,_,_,h=>by cases h
 | .dz,_,_,h=>by cases h
theorem Cs (s:bW): ∀(v p:List PV),rH p=abq->D3 s v=abo p->v=p
 | [],_,_,h=>UV h
 |x::xs,p,hn,h=>by
  simp only [D3] at h;split at h
  · rename_i y ys hy OY
    injection h with h;subst h;simp only [rH,aaF] at hn;rw [Kg s x y hn.1 hy,Cs s xs ys hn.2 OY]
  cases h
end
theorem cQ.ai0 {F:kH} {f:FuncId} {x:aK} {c:ru} (h:cQ F f c) (hf:F f=abo (.code x)) (hk:c.kd= .pure) (ho:c.ow=abr) {a:c.α} {b:c.β} {ps:List PV} {v:PV} (hb:c.fn a=abo b) (hp:oA (c.args.enc a)=abo ps) (hx:BH [] (wU [] deep) ps=abo ps)
 (hv:qS (c.res.enc b)=abo v) (hn:v.jt=abq): ∃n s z,run F n (.func f ps [] [])=abo (.func v s z):=by
 obtain ⟨n,r,h1,h2⟩:=h a b ps ps [] [] hb hp hx;rw [hk] at h2;rw [ho] at h1;obtain ⟨p,h2,rfl⟩:=h2;rw [hv] at h2;injection h2 with h2;subst h2;refine ⟨n,?_⟩;simp only [cC,hx,hf] at h1;split at h1
 · rename_i u s z hr
   simp only [Bool.false_eq_true,if_false] at h1;split at h1
   · injection h1 with h1
     injection h1 with h1;subst h1;exact ⟨s,z,hr⟩
   split at h1
   · rename_i u' hu
     injection h1 with h1;injection h1 with h1;subst h1;rw [Kg s u _ hn hu] at hr;exact ⟨s,z,hr⟩
   cases h1
 cases h1
open Classical in
noncomputable def Bg {α:Type} (o:α->α->Option Int) (l:List α):Option (List α):=
 if (∀x∈l,∀y∈l,∃v,o x y=abo v)/\(∀x∈l,¬(o x x).getD 0<0)/\(∀x∈l,∀y∈l,∀z∈l,(o x y).getD 0<0->(o y z).getD 0<0->(o x z).getD 0<0)/\
  (∀x∈l,∀y∈l,∀z∈l,¬(o x y).getD 0<0-> ¬(o y z).getD 0<0-> ¬(o x z).getD 0<0)/\(∀x∈l,∀y∈l,¬(o x y).getD 0<0-> ¬(o y x).getD 0<0->x=y)
 then abo (l.mergeSort fun x y=>!abt ((o y x).getD 0<0)) else abp
theorem Sm {F:kH} {g:FuncId} {r:List PT} {o:RT r->RT r->Option Int} (hc: ∀x y v,o x y=abo v->Sg F g r x y v) {l m:List (RT r)} (h:Bg o l=abo m): ∃cf,Sh F g r cf l/\m=l.mergeSort fun x y=>!abt (cf y x<0):=by
 unfold Bg at h;split at h
 · rename_i hq
   injection h with h;obtain ⟨h1,h2,h3,h4,h5⟩:=hq;exact ⟨fun x y=>(o x y).getD 0,⟨fun x hx y hy=>by obtain ⟨v,hv⟩:=h1 x hx y hy;rw [hv];exact hc x y v hv,h2,h3,h4,h5⟩,h.symm⟩
 cases h
theorem PR {α:Type} {o:α->α->Option Int} {l m:List α} (h:Bg o l=abo m):(abj m)=(abj l):=by
 unfold Bg at h;split at h
 · injection h with h;rw [<- h,List.length_mergeSort]
 cases h
open Classical in
noncomputable def Kh (mt:oo->oo->Option ((Int×Int)×Int)) (o:wZ->wZ->Option Int) (l:List oo):Option (List wZ):=
 if (abj l)<=1000/\ ∀x∈gB l,∃v,mt x.1 x.2=abo v then Bg o (vJ (fun p q=>(mt p q).getD ((0,0),1)) (gB l)) else abp
theorem Fq (l:List oo):(gB l).length<=abj l*(abj l):=by
 have: ∀n,((aam n).flatMap fun i=>(l.drop (i+1)).map fun q=>(l[i]!,q)).length<=n*(abj l):=fun n=>by
  induction n with
  |zero=>simp
  |succ n ih=>rw [aaX,aaj,aal,Nat.add_mul];simp only [aa6,List.flatMap_nil,aat,EQ,aaS];omega
 exact this _
theorem Mo {w:World} {b o:Nat} {l:List oo} (h:bw (fun k=>w.cell? ⟨b,k,abp⟩) o 3 (l.map (RT.pv [.i .i64,.i .i64,.i .i64]))):Sk w b o l:=by
 intro i hi;have h1:(l.map (RT.pv [.i .i64,.i .i64,.i .i64]))[i]? =abo (RT.pv [.i .i64,.i .i64,.i .i64] l[i]!):=by rw [IR,ww hi,getElem!_pos l i hi];rfl
 obtain ⟨_,h2⟩:=h i _ h1;obtain ⟨v0,a0,b0⟩:=h2 0 _ rfl;obtain ⟨v1,a1,b1⟩:=h2 1 _ rfl;obtain ⟨v2,a2,b2⟩:=h2 2 _ rfl;injection a0 with a0;injection a1 with a1;injection a2 with a2;subst a0 a1 a2;exact ⟨b0,b1,b2⟩
end Go.Vm
