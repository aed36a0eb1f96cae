/- The logical machine, part 4: SvSort, SvSortF, SvMk, SvMeet. -/
import Derived.Test.YtmikolhhnhndkaaGreatEVm3
import Derived.Test.YtmikolhhnhndkaaGreatEVm2
import Derived.Shelf.SlSortCmp.NoneTotal
import Derived.RangeFuncNested
import Derived.RangeFuncLeaves
import Derived.OwnWalkIn
import Derived.WalkKit
import Derived.RangeFuncBox
import Derived.RangeFuncCalls
open Array renaming getElem?_eq_some_iff->ut,getElem?_append->adc,getElem?_modify->ads,getElem?_mapIdx->adu
open List renaming getElem?_eq_getElem->v6,length_cons->ww,getElem?_eq_some_iff->AC,length_map->Do,getElem?_map->If,length_eq_zero_iff->M2,flatMap_cons->ac6,flatMap_append->ad1,length_append->ad3,range->ad4,getElem?_cons_succ->ad5,take_of_length_le->ad7,length_nil->ad8,append_nil->ad9,getElem?_set->adz,length_drop->adG,range_succ->adV,take_zero->adX,map_nil->adZ,length->ae6,length->aea
open Nat renaming le_refl->EQ,le_trans->IR,mul_le_mul_right->acl,le_of_eq->ad2,mul_comm->adA,zero_add->adB
open Option renaming map_eq_some_iff->NE,map_some->adU,some->aeb,none->aec
open Option.some renaming inj->PP
open Go.World renaming putObj_heap_other->UV,alloc_heap_new->ad0,putObj_heap_same->ad6,cell?->ae9
open Bool renaming and_eq_true->adD,true->aed,false->aee
open Go.Sem renaming run->adW
open Prod.mk renaming injEq->adY
open Decidable renaming decide->aef
/- A function that puts the rows of a slice in order: what is asked of it in a program, and that the table's entry is then right. -/
namespace Go.Vm
theorem Eh: ∀{p:PT} {x:PV} {a:p.T},zV p x=aeb a->x=p.pv a
 | .i k,.int l n,a,h=>by
  have h:(bif eG l k then aeb n else aec)=aeb a:=h;cases hk:eG l k with
  |false=>rw [hk] at h;cases h
  |true=>rw [hk] at h;obtain rfl:=eu.1 hk;injection h with h;subst h;rfl
 | .b,.bool x,a,h=>by have h:aeb x=aeb a:=h;injection h with h;subst h;rfl
theorem F7: ∀{r:List PT} {x:List PV} {a:RT r},Fl r x=aeb a->x=RT.pv r a
 | [],[],a,h=>rfl
 | [],_::_,a,h=>by cases h
 | [p],[v],a,h=>by rw [Eh (show zV p v=aeb a from h)];rfl
 | [p],[],a,h=>by cases h
 | [p],_::_::_,a,h=>by cases h
 |p::q::r,[],a,h=>by cases h
 |p::q::r,v::vs,a,h=>by
  have h:(match zV p v,Fl (q::r) vs with
   |some a,aeb b=>aeb (a,b)
   |_,_=>aec)=aeb a:=h
  cases h1:zV p v with
  |none=>rw [h1] at h;cases h
  |some x=>
   cases h2:Fl (q::r) vs with
   |none=>rw [h1,h2] at h;cases h
   |some y=>rw [h1,h2] at h;injection h with h;subst h;rw [Eh h1,F7 h2];rfl
theorem y6 {r:List PT}: ∀{x:List (List PV)} {l:List (RT r)},zW r x=aeb l->x=l.map (RT.pv r)
 | [],l,h=>by injection h with h;subst h;rfl
 |v::vs,l,h=>by
  have h:(match Fl r v,zW r vs with
   |some a,aeb l=>aeb (a::l)
   |_,_=>aec)=aeb l:=h
  cases h1:Fl r v with
  |none=>rw [h1] at h;cases h
  |some x=>
   cases h2:zW r vs with
   |none=>rw [h1,h2] at h;cases h
   |some y=>rw [h1,h2] at h;injection h with h;subst h;rw [F7 h1,y6 h2];rfl
def Zb:Option FuncId->List Value
 |none=>[]
 |some g=>[.func (.func g) ⟨[]⟩ ⟨[]⟩]
structure tp (P:Program) (f:FuncId) (q:Srt):Prop where
 some_: ∀(b off c:Nat) (l m:List (RT q.r)) (arr:Array Value) (el:TypeId) (w:World),0<aea l->aea l<=c->aea l<=1048576->q.fn l=aeb m->aea m=aea l->w.heap[b]? =aeb (.cells arr el (0,0))->
  bz (fun k=>arr[k]?) off (aea q.r) (l.map (RT.pv q.r))->off+aea l*aea q.r<=arr.size->
  Calls P f ⟨.slice (aeb ⟨b,off,aec⟩) (aea l) c::Zb q.g⟩ w fun x w'=>x= .returned (.tuple #[])/\(∃fin:Array Value,fin.size=arr.size/\w'.heap[b]? =aeb (.cells fin el (0,0))/\bz (fun k=>fin[k]?) off (aea q.r) (m.map (RT.pv q.r))/\
   ∀j:Nat,off+aea l*aea q.r<=j->fin[j]? =arr[j]?)/\(∀b':Nat,b'<w.heap.size->b'≠b->w'.heap[b']? =w.heap[b']?)/\w.heap.size<=w'.heap.size/\w'.os=w.os/\Tape w w'/\w'.output=w.output
 none_: ∀(a:Option Addr) (c:Nat) (w:World),Calls P f ⟨.slice a 0 c::Zb q.g⟩ w fun x w'=>x= .returned (.tuple #[])/\w'=w
theorem Zc {im:Im} {loc:Loc} {g:Option FuncId} {r:List PV} {us:List Value} (h:Tk g r=aed) (hu:eo im loc r us):us=Zb g:=by
 unfold Tk at h;split at h
 · cases hu;rfl
 · rename_i g h'
   have:h'=g:=by simpa using h
   subst this;cases hu with
   |cons _ a _ b h1 h2=>
    cases h2;cases h1 with
    |ed _ _ _ a2 bs ha hb=>cases ha;cases hb;rfl
 cases h
theorem Om {P:Program} {im:Im} {loc:Loc} {az:bS} {fz:List Nat} {w w':World} {t e:Nat} {li:LI} {rows pQ:List Row} {arr fin:Array Value} {el:TypeId} (jt:SR im loc az fz w) (hl:loc t=aeb li) (bK:az[t]? =aeb (.arr e rows)) (dC:rows≠[]) (hf:has fz t=aee)
 (ha:w.heap[li.cX]? =aeb (.cells arr el (0,0))) (hw:w'.heap[li.cX]? =aeb (.cells fin el (0,0))) (pG: ∀b':Nat,b'<w.heap.size->b'≠li.cX->w'.heap[b']? =w.heap[b']?) (nJ:w.heap.size<=w'.heap.size) (ho:w'.os=w.os) (ht:Tape w w') (hp:w'.output=w.output)
 (he:li.esz=e) (hn:li.n=aea pQ) (bU:(aea pQ)=aea rows) (hfs:fin.size=li.sz) (tP:li.sh+aea pQ*e<=li.sz) (hr:bz (fun k=>fin[k]?) li.sh e pQ):
 rJ im loc az w (.bT []) (az.set t (.arr e pQ)) fz im loc w' (.tuple #[]):=by
 have NO:t<(aea az):=(AC.1 bK).1;have Nu:pQ≠[]:=by intro h;subst h;rw [ad8] at bU;exact dC (M2.1 bU.symm)
 have Fg:(jc.arr e rows).bA=aed:=lW dC;have hs1:(jc.arr e pQ).bA=aed:=lW Nu;have zF:=jt.free t li _ hl bK Fg hf;have old: ∀{u:Nat} {k:jc},(az.set t (.arr e pQ))[u]? =aeb k->(u=t/\k= .arr e pQ)\/(u≠t/\az[u]? =aeb k):=by
  intro u k h;rw [adz] at h;split at h
  · rename_i e1;subst e1;first|(rw [rc NO] at h;injection h with h;exact .inl ⟨rfl,h.symm⟩)|(injection h with h;exact .inl ⟨rfl,h.symm⟩)
  rename_i dC;exact .inr ⟨fun e=>dC e.symm,h⟩
 have sol: ∀{u:Nat} {k:jc},(az.set t (.arr e pQ))[u]? =aeb k->k.bA=aed-> ∃k0,az[u]? =aeb k0/\k0.bA=aed:=by
  intro u k h hs;rcases old h with ⟨rfl,rfl⟩|⟨_,h⟩
  · exact ⟨_,bK,Fg⟩
  exact ⟨k,h,hs⟩
 have lt: ∀{b:Nat} {o:Obj},w.heap[b]? =aeb o->b<w.heap.size:=fun h=>(ut.1 h).1
 exact {
  fD:= .refl _,dp:= .refl _
  vr:= .bT _ _ .nil
  sr:={
   bu:=fun b o hb=>by
    have h1:=jt.bu b o hb;have h2:b≠li.cX:=fun h=>by rw [h,zF] at hb;cases hb
    rw [pG b (lt h1) h2];exact h1
   cX:=fun u lu hu=>by
    obtain ⟨k,hk,hb⟩:=jt.cX u lu hu
    by_cases e1:u=t
    · subst e1
      rw [hl] at hu;injection hu with hu;subst hu;exact ⟨_,List.getElem?_set_self NO,he,hn,fun _=>⟨fin,el,hw,hfs,tP,hr⟩⟩
    refine ⟨k,by rw [List.getElem?_set_ne (fun h=>e1 h.symm)];exact hk,hb.fc (.refl _) (.refl _) fun hs=>?_⟩
    exact pG _ (hb.lt hs) fun h=>e1 (jt.gQ _ _ _ _ _ _ hu hl hk bK hs Fg h)
   gQ:=fun u v lu lv k k' hu hv hk IA hs s6 h=>by obtain ⟨k0,a,b⟩:=sol hk hs;obtain ⟨k1,c,d⟩:=sol IA s6;exact jt.gQ _ _ _ _ _ _ hu hv a c b d h
   free:=fun u lu k hu hk hs hz=>by obtain ⟨k0,a,b⟩:=sol hk hs;exact jt.free _ _ _ hu a b hz}
  os:=ho,tape:=ht,output:=hp,size:=nJ
  frame:=fun b hb h=>pG b hb fun h2=>h t li _ hl bK Fg h2.symm
  dy:=fun b o h=> .inl h
  lH:=fun u lu h=> .inl h
  own:=fun u lu k hu hk hs=>by obtain ⟨k0,a,b⟩:=sol hk hs;exact .inr ⟨u,lu,k0,hu,a,b,rfl⟩}
theorem Lo {im:Im} {loc:Loc} {az:bS} {fz:List Nat} {w:World} (jt:SR im loc az fz w):rJ im loc az w (.bT []) az fz im loc w (.tuple #[]) where
 fD:= .refl _
 dp:= .refl _
 vr:= .bT _ _ .nil
 sr:=jt
 os:=rfl
 tape:= .refl _
 output:=rfl
 size:=EQ _
 frame:=fun _ _ _=>rfl
 dy:=fun _ _ h=> .inl h
 lH:=fun _ _ h=> .inl h
 own:=fun t li k hl hk hs=> .inr ⟨t,li,k,hl,hk,hs,rfl⟩
theorem NG.YO {P:Program} {f:FuncId} {q:Srt} {fn:Func} {c:Code} (hf:P.funcs[f]? =aeb fn) (pS:(fn.name== "runtime.NumGoroutine")=aee) (hb:fn.body=aeb c) (h0:q.fn []=aeb []) (H:tp P f q):NG P f (Qe q):=by
 refine ⟨fn,c,hf,pS,hb,?_⟩;intro args az fz v tX HN hp im loc w us jt xh;unfold Qe at hp;split at hp
 case h_2=>cases hp
 rename_i t e1 off len cap ex r;split at hp
 case h_2=>cases hp
 rename_i e3 rows bK;split at hp
 case isFalse=>cases hp
 rename_i hc;simp only [adD,Nat.beq_eq,Bool.not_eq_true',Nat.ble_eq] at hc;obtain ⟨⟨⟨⟨⟨q1,rfl⟩,bU⟩,j8⟩,Pe⟩,hg⟩:=hc;subst q1;have j8:len<=1048576:=j8;split at hp
 case h_2=>cases hp
 rename_i l HM;split at hp
 case h_2=>cases hp
 rename_i m hm;split at hp
 case isFalse=>cases hp
 rename_i xS;have xS:(aea m)=(aea l):=by simpa using xS
 injection hp with hp;simp only [adY] at hp;obtain ⟨rfl,rfl,rfl⟩:=hp;have jT:=y6 HM;have yD:(aea l)=len:=by have:=congrArg ae6 jT;rw [List.length_take,Do] at this;omega
 obtain ⟨x0,Xy,rfl,IE,xh⟩: ∃x0 Xy,us=x0::Xy/\VR im loc (.own t (aea q.r) 0 len cap ex) x0/\eo im loc r Xy:=by cases xh with|cons _ a _ b h1 h2=>exact ⟨a,b,rfl,h1,h2⟩
 obtain rfl:=Zc hg xh;obtain ⟨li,a,cw,rfl,hl,he,Cn,hlc,L4,_,Cp⟩:=IE.gO;obtain ⟨k1,gR,rj⟩:=jt.cX t li hl;rw [bK] at gR;injection gR with gR;subst gR;obtain ⟨b1,b2,b3⟩:=rj;obtain rfl:(aea q.r)=e3:=by rw [<- b1,he]
 refine .inr ⟨fy hf pS hb,?_⟩;rcases Nat.eq_zero_or_pos len with hz|yC
 · subst hz
   obtain rfl:l=[]:=M2.1 yD;rw [h0] at hm;injection hm with hm;subst hm;refine (H.none_ a cw w).mono fun x w' ⟨hx,hw⟩=>⟨_,hx,im,loc,?_⟩
   subst hw;have:az.set t (.arr (aea q.r) (([]:List (RT q.r)).map (RT.pv q.r)++rows.drop 0))=az:=by
    apply List.ext_getElem?;intro j;rw [adz];split
    · rename_i e;subst e;rw [rc (AC.1 bK).1,bK];rfl
    rfl
   rw [this];exact Lo jt
 have mI:rows≠[]:=by intro h;subst h;simp at bU;omega
 obtain ⟨arr,el,rH,GA,HL,cC⟩:=b3 mI;obtain ⟨OZ,rfl,tP⟩:li.n≠0/\a=aeb ⟨li.cX,li.sh,aec⟩/\li.sh+cw*aea q.r<=li.sz:=by
  rcases Cp with h|⟨h1,h2,h3⟩
  · omega
  exact ⟨h1,by simpa using h2,by simpa using h3⟩
 have jZ:len*aea q.r<=aea rows*(aea q.r):=acl _ bU;subst yD;refine (H.some_ li.cX li.sh cw l m arr el w yC (by omega) (by omega) hm xS rH (by rw [<- jT];exact cC.take _) (by omega)).mono fun x w' ⟨hx,⟨fin,f1,f2,f3,f4⟩,pG,nJ,ho,Xz,hpp⟩=>⟨_,hx,im,loc,?_⟩
 have hL:(m.map (RT.pv q.r)++rows.drop (aea l)).length=(aea rows):=by simp only [ad3,Do,adG,xS];omega
 refine Om (P:=P) jt hl bK mI Pe rH f2 pG nJ ho Xz hpp b1 (by rw [hL];exact b2) hL (by rw [f1];exact GA) (by rw [hL];exact HL) ?_;refine f3.append ?_;rw [Do,xS];intro i r hr;obtain ⟨g1,g2⟩:=(cC.drop (aea l)) i r hr;refine ⟨g1,fun j c hc=>?_⟩;obtain ⟨v,v1,v2⟩:=g2 j c hc;refine ⟨v,v1,?_⟩;show fin[_]? =aeb v;rw [f4 _ (by omega)];exact v2
end Go.Vm
/- slices.SortFunc at rows of numbers with a callback: the table's entry, by what the library's law says of the function. -/
namespace Go.Vm
def PT.va:(p:PT)->p.T->Value
 | .i k,n=> .int k n
 | .b,x=> .bool x
def RT.va:(r:List PT)->RT r->List Value
 | [],_=>[]
 | [p],a=>[p.va a]
 |p::q::r,a=>p.va a.1::RT.va (q::r) a.2
theorem PT.QR (p:PT) (a:p.T):gB (p.pv a)=aeb (p.va a):=by cases p<;>rfl
theorem RT.Bp: ∀(r:List PT) (a:RT r),(RT.va r a).length=aea r
 | [],_=>rfl
 | [_],_=>rfl
 |_::q::r,a=>by rw [RT.va,ww,RT.Bp (q::r) a.2,ww,ww,ww]
theorem RT.Hf: ∀(r:List PT) (a:RT r),(RT.pv r a).length=aea r
 | [],_=>rfl
 | [_],_=>rfl
 |_::q::r,a=>by rw [RT.pv,ww,RT.Hf (q::r) a.2,ww,ww,ww]
theorem RT.QS: ∀(r:List PT) (a:RT r) (j:Nat),j<aea r-> ∃c v,(RT.pv r a)[j]? =aeb c/\gB c=aeb v/\(RT.va r a)[j]? =aeb v
 | [],_,j,h=>absurd h (Nat.not_lt_zero j)
 | [p],a,0,_=>⟨_,_,rfl,p.QR a,rfl⟩
 | [_],_,j+1,h=>absurd h (by simp)
 |p::q::r,a,0,_=>⟨_,_,rfl,p.QR a.1,rfl⟩
 |p::q::r,a,j+1,h=>by obtain ⟨c,v,h1,h2,h3⟩:=RT.QS (q::r) a.2 j (by simpa using h);exact ⟨c,v,by rw [RT.pv,ad5];exact h1,h2,by rw [RT.va,ad5];exact h3⟩
theorem PT.Ei (p:PT) (a:p.T):(p.va a).oneCell'=aed:=by cases p<;>rfl
theorem RT.Ei: ∀(r:List PT) (a:RT r),∀v∈RT.va r a,v.oneCell'=aed
 | [],_,v,h=>by cases h
 | [p],a,v,h=>by rw [RT.va,List.mem_singleton] at h;subst h;exact p.Ei a
 |p::q::r,a,v,h=>by
  rw [RT.va,List.mem_cons] at h;rcases h with rfl|h
  · exact p.Ei a.1
  exact RT.Ei (q::r) a.2 v h
theorem PT.vr {im:Im} {loc:Loc} (p:PT) (a:p.T):VR im loc (p.pv a) (p.va a):=VR.zy (p.QR a)
theorem RT.QT {im:Im} {loc:Loc}: ∀(r:List PT) (a:RT r),eo im loc (RT.pv r a) (RT.va r a)
 | [],_=> .nil
 | [p],a=> .cons _ _ _ _ (p.vr a) .nil
 |p::q::r,a=> .cons _ _ _ _ (p.vr a.1) (RT.QT (q::r) a.2)
theorem TO {w w':World} (hs:w.heap.size<=w'.heap.size) (fr: ∀b,b<w.heap.size->w'.heap[b]? =w.heap[b]?) (ho:w'.os=w.os) (ht:Tape w w') (hp:w'.output=w.output): ∃q os',w'=Sort.grow (w.drewN q) os':=by
 refine ⟨w'.drawn-w.drawn,w'.heap.extract w.heap.size w'.heap.size,?_⟩;have hh:w'.heap=w.heap++w'.heap.extract w.heap.size w'.heap.size:=by
  apply Array.ext_getElem?;intro i;rw [adc]
  by_cases h:i<w.heap.size
  · rw [rc h];exact fr i h
  rw [sp h,Array.getElem?_extract]
  by_cases h2:i<w'.heap.size
  · rw [rc (by omega)];congr 1;omega
  rw [sp (by omega),Array.getElem?_eq_none (by omega)]
 have hd:w'.drawn=w.drawn+(w'.drawn-w.drawn):=by have:=ht.dr;omega
 have Xz:=ht.eq;obtain ⟨h1,t1,d1,o1,p1⟩:=w';obtain ⟨h0,t0,d0,o0,p0⟩:=w;simp only at hh hd Xz ho hp;simp only [Sort.grow,World.drewN];subst Xz ho hp;rw [<- hh,<- hd]
def QU (F:jM) (g:FuncId) (r:List PT) (x y:RT r) (v:Int):Prop:= ∃n s z,run F n (.func g [.agg (RT.pv r x),.agg (RT.pv r y)] [] [])=aeb (.func (.int .i64 v) s z)
structure QV (F:jM) (g:FuncId) (r:List PT) (cf:RT r->RT r->Int) (l:List (RT r)):Prop where
 cmp: ∀x∈l,∀y∈l,QU F g r x y (cf x y)
 irrefl: ∀x∈l,¬cf x x<0
 trans: ∀x∈l,∀y∈l,∀z∈l,cf x y<0->cf y z<0->cf x z<0
 ntrans: ∀x∈l,∀y∈l,∀z∈l,¬cf x y<0-> ¬cf y z<0-> ¬cf x z<0
 tot: ∀x∈l,∀y∈l,¬cf x y<0-> ¬cf y x<0->x=y
open Go.Sort Go.Shelf Go.Proofs in
theorem tp.cls {P:Program} {prims:FuncId->Bool} {F:jM} (hT:DD P prims F) (vY:rL P F) (nG:P.follows .mixedOrders=aed) {f g:FuncId} {r:List PT} {ρ:Go.Shelf.Ren} (L:SlLaysF0.n6 P ρ) (hf:ρ.f 6=f) (hr:0<aea r)
 (aE: ∀w,(isAgg (ρ.t 24)).run P w= .ok aed w) (zE: ∀w,(Go.sizeOf (ρ.t 24)).run P w= .ok (aea r) w) (eg: ∀args w,(callFunc g args).run P w= .ok (.enter g args) w)
 {fn:List (RT r)->Option (List (RT r))} (CN: ∀l m,fn l=aeb m-> ∃cf,QV F g r cf l/\m=l.mergeSort fun x y=>!aef (cf y x<0)):tp P f ⟨r,aeb g,fn⟩ where
 none_ a c w:=by subst hf;exact AnyF.slices_SortFunc_none L a c (.func (.func g) #[] #[]) w
 some_ b off c l m arr el w yC _ j8 Nt xS hw cC tP:=by
  obtain ⟨cf,S,CN⟩:=CN l m Nt;have CN:=CN.symm;have cC:bz (fun k=>arr[k]?) off (aea r) (l.map (RT.pv r)):=cC
  have tP:off+aea l*aea r<=arr.size:=tP;have yC:0<(aea l):=yC
  letI:Inhabited {a:RT r // a∈l}:=⟨⟨l[0],List.getElem_mem yC⟩⟩
  obtain ⟨l',jU⟩: ∃l':List {a:RT r // a∈l},l'.map (fun x=>x.1)=l:=⟨l.attach,List.attach_map_subtype_val l⟩;obtain ⟨m',zq⟩: ∃m',m'=l'.mergeSort fun x y=>!aef (cf y.1 x.1<0):=⟨_,rfl⟩
  have mm:m'.map (fun x=>x.1)=m:=by
   rw [zq,<- CN]
   conv=>rhs;rw [<- jU]
   exact List.map_mergeSort (fun _ _ _ _=>rfl)
  have ml:(aea m')=(aea l):=by have xS:(aea m)=(aea l):=xS;rw [<- xS,<- mm,Do]
  have xS:(aea m)=(aea l):=xS;have ll:(aea l')=(aea l):=by have:=congrArg ae6 jU;rwa [Do] at this
  have hblk:b<w.heap.size:=(ut.1 hw).1;have cells: ∀(i j:Nat),i<aea l->j<aea r->arr[off+i*aea r+j]? =aeb ((RT.va r (l'.toArray[i]!).1)[j]!):=fun i j hi hj=>by
   have h1:(l.map (RT.pv r))[i]? =aeb (RT.pv r l[i]):=by rw [If,v6 hi];rfl
   obtain ⟨_,h2⟩:=cC i _ h1;obtain ⟨cc,v,c1,c2,c3⟩:=RT.QS r l[i] j hj;obtain ⟨v',v1,v2⟩:=h2 j cc c1;rw [c2] at v1;injection v1 with v1;subst v1;have e:(l'.toArray[i]!).1=l[i]:=by
    have qG:i<(aea l'):=by omega
    rw [getElem!_pos _ i (by simpa using qG)];have:(l'.map (fun x=>x.1))[i]? =aeb l[i]:=by rw [jU,v6 hi]
    rw [If,v6 qG] at this;simpa using this
   rw [e,getElem!_pos _ j (by rw [RT.Bp];exact hj)];rw [v6 (by rw [RT.Bp];exact hj)] at c3;rw [c3];exact v2
  have hH:Sort.HoldsK (fun x:{a:RT r // a∈l}=>RT.va r x.1) (aea r) w b off l'.toArray:=fun t ht=>by
   have ht:t<aea l*(aea r):=by simpa [ll] using ht
   have hi:t / (aea r)<(aea l):=Nat.div_lt_of_lt_mul (by rw [adA];exact ht);have hj:=Nat.mod_lt t hr;refine ⟨?_,?_⟩
   · have e:=cells (t / (aea r)) (t%(aea r)) hi hj
     rw [Nat.add_assoc,Nat.div_add_mod'] at e;simp only [ae9,hw];rw [Sort.get_flatK _ _ _ t (by simpa [ll] using ht)];exact e
   simp [World.frozen?,hw]
  have afI:l'.toArray.size=(aea l):=by simp [ll]
  have lt: ∀x y:{a:RT r // a∈l},ltOf (fun x y:{a:RT r // a∈l}=>cf x.1 y.1) x y=aef (cf x.1 y.1<0):=fun _ _=>rfl
  have hO:SWO (ltOf fun x y:{a:RT r // a∈l}=>cf x.1 y.1):={
   irrefl:=fun x=>by rw [lt];exact decide_eq_false (S.irrefl x.1 x.2)
   trans:=fun x y z h1 h2=>by rw [lt] at*;exact decide_eq_true (S.trans x.1 x.2 y.1 y.2 z.1 z.2 (of_decide_eq_true h1) (of_decide_eq_true h2))
   ntrans:=fun x y z h1 h2=>by rw [lt] at*;exact decide_eq_false (S.ntrans x.1 x.2 y.1 y.2 z.1 z.2 (of_decide_eq_false h1) (of_decide_eq_false h2))}
  have ajr:CmpLays P g #[] (fun x:{a:RT r // a∈l}=>RT.va r x.1) (aea r) (fun x y=>cf x.1 y.1) b off l'.toArray.size w:=by
   intro m os dk hs x y;obtain ⟨n,s,z,bG⟩:=S.cmp x.1 x.2 y.1 y.2;rw [Array.append_empty];refine (A' hT vY nG bG (im:=fun _=>aec) (us:=[.agg (RT.va r x.1).toArray,.agg (RT.va r y.1).toArray]) (fun _ _ h=>by cases h) (.cons _ _ _ _ (.agg _ _ (RT.QT r x.1)) (.cons _ _ _ _ (.agg _ _ (RT.QT r y.1)) .nil))).mono fun e w' ⟨u,he,⟨dK,ba,hv,_⟩,ho,ht,hp,nJ,pG⟩=>?_
   exact ⟨by rw [he,hv.eF],TO nJ pG ho ht hp⟩
  subst hf;have hc:=AnyQ.slices_SortFunc_total L (aea r) aE zE (fun x:{a:RT r // a∈l}=>RT.va r x.1) (fun x=>RT.Bp r x.1) (fun x v hv=>RT.Ei r x.1 v hv) (fun x y=>cf x.1 y.1) hO g #[] b off c l'.toArray w eg ajr hH hblk (by rw [afI];omega)
   (fun x y h1 h2=>by rw [lt] at h1 h2;exact Subtype.ext (S.tot x.1 x.2 y.1 y.2 (of_decide_eq_false h1) (of_decide_eq_false h2)))
  rw [afI] at hc;refine hc.mono fun x w' ⟨hx,n,os,Sy⟩=>⟨hx,?_⟩
  subst Sy;rw [show l'.toArray.toList=l' from rfl,show (l'.mergeSort fun x y=>!ltOf (fun x y:{a:RT r // a∈l}=>cf x.1 y.1) y x)=m' from zq.symm];show (∃fin:Array Value,_/\(Sort.grow (Sort.putRowK (fun x:{a:RT r // a∈l}=>RT.va r x.1) (aea r) (Sort.ahead w n) b off m'.toArray) os).heap[b]? =_/\_)/\_;obtain ⟨F,hF⟩: ∃F,F=Sort.flatK (fun x:{a:RT r // a∈l}=>RT.va r x.1) (aea r) m'.toArray:=⟨_,rfl⟩;have hFs:F.size=aea l*(aea r):=by rw [hF,Sort.size_flatK];simp [ml]
  have hp:(Sort.putRowK (fun x:{a:RT r // a∈l}=>RT.va r x.1) (aea r) (Sort.ahead w n) b off m'.toArray).heap=w.heap.modify b (Sort.onCells (Sort.putCells id off F)):=by rw [hF];rfl
  have nJ:(w.heap.modify b (Sort.onCells (Sort.putCells id off F))).size=w.heap.size:=Array.size_modify;have Cq: ∀k:Nat,k<w.heap.size->(Sort.grow (Sort.putRowK (fun x:{a:RT r // a∈l}=>RT.va r x.1) (aea r) (Sort.ahead w n) b off m'.toArray) os).heap[k]? =(w.heap.modify b (Sort.onCells (Sort.putCells id off F)))[k]?:=fun k hk=>by show (_++os)[k]? =_;rw [hp,adc,rc (by rw [nJ];exact hk)]
  refine ⟨⟨Sort.putCells id off F arr,by simp [Sort.putCells],?_,?_,?_⟩,fun k hk dC=>?_,?_,rfl,⟨rfl,Nat.le_add_right _ _⟩,rfl⟩
  · rw [Cq b hblk,ads,rc rfl,hw];rfl
  · intro i rr hrr
    have hrr:(m.map (RT.pv r))[i]? =aeb rr:=hrr;rw [If,NE] at hrr;obtain ⟨a,ha,rfl⟩:=hrr;have hi:i<(aea m):=(AC.1 ha).1;have qG:i<(aea m'):=by omega
    refine ⟨RT.Hf r a,fun j cc hc=>?_⟩;have hj:j<(aea r):=by
     have:=(AC.1 hc).1
     rwa [RT.Hf] at this
    obtain ⟨c2,v,d1,d2,d3⟩:=RT.QS r a j hj;rw [hc] at d1;injection d1 with d1;subst d1;refine ⟨v,d2,?_⟩;have cY:i*aea r+j<aea l*(aea r):=by have:(i+1)*aea r<=aea l*(aea r):=acl _ (by omega);rw [Nat.add_mul,Nat.one_mul] at this;omega
    show (Sort.putCells _ _ _ _)[off+i*aea r+j]? =_;unfold Sort.putCells;rw [adu,Array.getElem?_eq_getElem (by omega),adU,rc ⟨by omega,by omega⟩,show off+i*aea r+j-off=i*aea r+j by omega,hF,Sort.get_flatK _ _ _ _ (by simpa [ml] using cY)];have e1:(i*aea r+j) / (aea r)=i:=by rw [adA,Nat.mul_add_div hr,Nat.div_eq_of_lt hj,Nat.add_zero]
    have e2:(i*aea r+j)%(aea r)=j:=by rw [adA,Nat.mul_add_mod,Nat.mod_eq_of_lt hj]
    rw [e1,e2];have e:(m'.toArray[i]!).1=a:=by
     rw [getElem!_pos _ i (by simpa using qG)];have:(m'.map (fun x=>x.1))[i]? =aeb a:=by rw [mm];exact ha
     rw [If,v6 qG] at this;simpa using this
    rw [e,getElem!_pos _ j (by rw [RT.Bp];exact hj)];rw [v6 (by rw [RT.Bp];exact hj)] at d3;exact d3
  · intro j hj
    have hj:off+aea l*aea r<=j:=hj;unfold Sort.putCells;rw [adu];cases arr[j]? with
    |none=>rfl
    |some x=>rw [adU,sp];intro h;have:=h.2;omega
  · refine (Cq k hk).trans ?_
    rw [ads,sp (fun h=>dC h.symm)]
  show _<=(_++os).size
  rw [Array.size_append,hp,nJ];omega
end Go.Vm
/- A function that makes one new block of rows out of a slice's rows: the table's entry; and the law of a range over a function whose body never leaves. -/
namespace Go
open Go.RowKit
def TP {α:Type} (B:Nat) (Kp:World->World->Prop) (I:List α->World->Prop) (xs:List α) (W:World):Exit->Act->World->Prop
 | .normal,_,W'=>W'.heap[B]? =W.heap[B]?/\W'.heap[B+1]? =W.heap[B+1]?/\I xs W'/\Kp W W'
 |_,_,_=>False
theorem On {α:Type} {F:Fence} {n:Nat} {P:Program} {g:Operand} {ps:Array Tmp} {assign body:Code} {Q:Exit->Act->World->Prop} {a:Act} {w:World}
 (xY:F.round=aec) (h1:1<=n) {gf:Nat} {lb:Array Value} (hg:a.eval g= .func (.func gf) #[] lb) (hFg:F.fn gf) (eg: ∀args w,(callFunc gf args).run P w= .ok (.enter gf args) w)
 {encs:α->Array Value} (hps: ∀x,(encs x).size=ps.size) (xs:List α) (I:List α->World->Prop)
 (I4: ∀pre W r o,W.heap[w.heap.size+1]? =aeb (.loop r)->I pre W->I pre (W.putObj (w.heap.size+1) o)) (Zd: ∀pre W W',I pre W->Below W.heap.size W W'->W'.drawn=W.drawn->I pre W') (h0:I [] w)
 (Kp:World->World->Prop) (hKt: ∀{A B C},Kp A B->Kp B C->Kp A C) (hKb: ∀{W W'},Below W.heap.size W W'->Kp W W') (hKp: ∀{W r} o,W.heap[w.heap.size+1]? =aeb (.loop r)->Kp W (W.putObj (w.heap.size+1) o))
 (ajt: ∀(l:Nat) (J:List α->World->Prop) (W:World),(∀pre W,J pre W->I pre W)->(∀pre W W',J pre W->Below W.heap.size W W'->W'.drawn=W.drawn->J pre W')->
  (∀pre x W1,J pre W1->pre++[x]<+:xs->YieldAt F (n-1-1) P l (encs x) W1 fun e W'=>e= .returned (.bool aed)/\J (pre++[x]) W'/\Kp W1 W')->J [] W->
  CallsIn F (n-1) P gf (#[.func (.yield l) #[] #[]]++lb) W fun e W'=>(∃v,e= .returned v)/\J xs W')
 (Ax:α->Act->World->Prop) (hAx: ∀x a' W r o,W.heap[w.heap.size+1]? =aeb (.loop r)->Ax x a' W->Ax x a' (W.putObj (w.heap.size+1) o))
 (TQ: ∀(l:Nat) (x:α) (W:World) (K:Act->World->Prop),w.heap.size+1<W.heap.size->(∀a' W',Below W.heap.size W W'->W'.drawn=W.drawn->Ax x a' W'->K a' W')->
  assign.wpIn (F.inRound l) (n-1-1) P (Exit.then K (fun _ _ _=>False)) {tmps:=(ps.zip (encs x)).foldl (fun t (p,v)=>t.setIfInBounds p v) a.tmps,defers:=[]} W)
 (jz: ∀(l:Nat) (pre:List α) (x:α) (a':Act) (W:World),I pre W->Ax x a' W->pre++[x]<+:xs->W.heap[w.heap.size]? =aeb (.deferred (aeb []))->(∃r,W.heap[w.heap.size+1]? =aeb (.loop r))->body.wpIn (F.inRound l) (n-1-1) P (TP w.heap.size Kp I (pre++[x]) W) a' W)
 (afJ: ∀(W:World),I xs W->W.heap[w.heap.size]? =aeb (.deferred (aeb []))->Q .normal {a with defers:={target:= .collected w.heap.size,args:= #[]}::a.defers} W):
 (Code.rangeFunc g ps assign body).wpIn F n P Q a w:=by
 refine wpIn_rangeFunc ?_;intro fn CN;rw [xY];obtain ⟨rec,tT⟩: ∃rec:LoopState->Option Code->Loop,rec=fun st pe=>{state:=st,pending:=pe,fn,tmps:=a.tmps,params:=ps,assign,body,defers:=w.heap.size}:=⟨_,rfl⟩
 obtain ⟨W1,hW1⟩: ∃W1,(w.alloc (.deferred (aeb []))).alloc (.loop (rec .ready aec))=W1:=⟨_,rfl⟩;have hL1:W1.heap[w.heap.size+1]? =aeb (.loop (rec .ready aec)):=by rw [<- hW1];have:=ad0 (w.alloc (.deferred (aeb []))) (.loop (rec .ready aec));rwa [World.size_alloc] at this
 have hK1:W1.heap[w.heap.size]? =aeb (.deferred (aeb [])):=by rw [<- hW1];exact (Below.heap_alloc _ _ _ (by simp)).trans (ad0 w _)
 have hI1:I [] W1:=by rw [<- hW1];exact Zd _ _ _ h0 (((Below.refl _ w).alloc (EQ _) _).alloc (by simp) _) rfl
 refine ⟨w.heap.size+1,[{target:= .collected w.heap.size,args:= #[]}],W1,{target:= .fn (.func gf) lb,args:= #[.func (.yield (w.heap.size+1)) #[] #[]]},W1,gf,
  #[.func (.yield (w.heap.size+1)) #[] #[]]++lb,W1,?_,?_,?_,?_,fun _=>h1,?_⟩
 · rw [<- hW1,tT];exact run_enterLoop_outer _ _ _ _ _
 · simp only [resolve,hg]
   simp [go_sem]
 · intro f' NS;simp [Target.leads] at NS;subst NS;exact hFg
 · simp [invoke,go_sem,eg]
 refine (ajt (w.heap.size+1) (fun pre W=>I pre W/\W.heap[w.heap.size+1]? =aeb (.loop (rec .ready aec))/\W.heap[w.heap.size]? =aeb (.deferred (aeb []))) W1 (fun _ _ h=>h.1)
  (fun pre W W' ⟨h1,h2,h3⟩ hb hd=>⟨Zd _ _ _ h1 hb hd,(hb.block _ (ut.1 h2).1).trans h2,(hb.block _ (ut.1 h3).1).trans h3⟩) ?_ ⟨hI1,hL1,hK1⟩).mono ?_
 · rintro pre x W ⟨hi,hl,hk⟩ Fh
   have cY:w.heap.size+1<W.heap.size:=(ut.1 hl).1;have hy:=run_yield (P:=P) (args:=encs x) hl (by rw [tT];exact hps x);rw [tT] at hy;refine ⟨fn,_,assign,body,hy,roundIn_of_wpIn CN (TQ _ x W _ cY ?_)⟩;clear hy;intro a' Wa hba hda hax
   replace hl:=(hba.block _ cY).trans hl
   replace hk:=(hba.block _ (show w.heap.size<W.heap.size by omega)).trans hk
   replace hi:=Zd _ _ _ hi hba hda
   replace cY:w.heap.size+1<Wa.heap.size:=(ut.1 hl).1
   refine ⟨_,run_beginRound hl (by rw [tT]),?_⟩;have Fy:(Wa.putObj (w.heap.size+1) (.loop {rec .ready aec with state:= .busy})).heap[w.heap.size+1]? =aeb (.loop {rec .ready aec with state:= .busy}):=ad6 cY;have A2:(Wa.putObj (w.heap.size+1) (.loop {rec .ready aec with state:= .busy})).heap[w.heap.size]? =aeb (.deferred (aeb [])):=(UV (by omega)).trans hk;refine wpIn_mono (jz _ pre x a' _ (I4 _ _ _ _ hl hi) (hAx _ _ _ _ _ hl hax) Fh A2 ⟨_,Fy⟩) ?_;rintro e a3 W3 hp;cases e with
   |normal=>
    obtain ⟨b1,b2,hi3,Xp⟩:=hp;have hl3:=b2.trans Fy;have hr:=run_endRound (P:=P) aec hl3;refine ⟨_,_,hr,rfl,⟨I4 _ _ _ _ hl3 hi3,?_,?_⟩,hKt (hKb hba) (hKt (hKp _ hl) (hKt Xp (hKp _ hl3)))⟩
    · refine (ad6 (ut.1 hl3).1).trans ?_
      rw [tT];rfl
    exact (UV (by omega)).trans (b1.trans A2)
   |_=>exact hp.elim
 rintro e W2 ⟨⟨v,rfl⟩,hi,hl,hk⟩
 exact ⟨aec,_,by have:=run_endLoop (P:=P) hl (by rw [tT];simp);rw [tT] at this;exact this,afJ _ (I4 _ _ _ _ hl hi) ((UV (by omega)).trans hk)⟩
theorem Bq {α:Type}: ∀(k:Ask α) (w:World),w.drawn<=(w.ask k).2.drawn
 | .done a,w=>EQ _
 | .ask ao8 range k,w=>by
  simp only [World.ask];split
  · exact Bq _ w
  exact IR (Nat.le_succ _) (Bq _ {w with drawn:=w.drawn+1})
theorem Oo (w:World) (c:Sys):w.drawn<=(w.sys c).2.drawn:=by
 have:=Bq (Kernel.perform c w.os) w;unfold World.sys;split
 · exact EQ _
 rename_i h;rw [h] at this;exact this
theorem Ej {p:Program} {w w':World} {a:Addr} {v:Value} {b:Bool} {l:List Addr} (h:w.farStore p a v b= .ok (w',l)):w'.drawn=w.drawn:=by
 unfold World.farStore at h;split at h
 · split at h
   · rename_i r hr
     injection h with h;subst h;unfold World.viewStore at hr;simp only [bind,Except.bind,pure,Except.pure] at hr
     repeat' split at hr
     all_goals first|(injection hr with hr;injection hr with hr _;subst hr;rfl)|(cases hr;done)|(cases hr;rfl)
   cases h
 cases h
theorem Oq {α:Type} {p:Program}: ∀(m:Sem α) {w w':World} {a:α},m.run p w= .ok a w'->w.drawn<=w'.drawn:=by
 intro m
 induction m with
 |pure a=>intro w w' b h;injection h with _ h;subst h;exact EQ _
 |load m a k ih=>
  intro w w' b h;unfold adW at h;split at h
  · exact ih _ h
  split at h
  · exact ih _ h
  cases h
 |store m a v k ih=>
  intro w w' b h;cases v<;>(unfold adW at h;first|cases h|(
   split at h
   · split at h
     · cases h
     refine IR (ad2 ?_) (ih h);rfl
   split at h
   · rename_i hf;exact IR (ad2 (Ej hf).symm) (ih h)
   cases h))
 |new o k ih=>intro w w' b h;refine IR (ad2 ?_) (ih _ h);rfl
 |shape r k ih=>intro w w' b h;exact ih _ h
 |freeze a n k ih=>intro w w' b h;refine IR (ad2 ?_) (ih h);unfold World.freeze;split<;>rfl
 |frozen a k ih=>intro w w' b h;exact ih _ h
 |getObj r k ih=>
  intro w w' b h;unfold adW at h;split at h
  · cases h
  · exact ih _ h
  cases h
 |setObj r o k ih=>
  intro w w' b h;unfold adW at h;split at h
  · cases h
  · refine IR (ad2 ?_) (ih h);rfl
  cases h
 |choose q k ih=>
  intro w w' b h;unfold adW at h;split at h
  · exact ih _ h
  refine IR (Nat.le_succ w.drawn) ?_
  exact ih _ h
 |sys c k ih=>intro w w' b h;exact IR (Oo w c) (ih _ h)
 |program k ih=>intro w w' b h;exact ih _ h
 |mark m k ih=>intro w w' b h;exact ih h
 |halt h=>intro w w' b h;cases h
theorem y7 {F:Fence} {n:Nat} {P:Program} (w:World) {ops:Array Oper} {rest:List Oper} {o:Oper} {a:Act} {Q:Exit->Act->World->Prop}
 (hg:o.guard=aec) (s x:Operand) (t:TypeId) (eA:o.op=Op.call {callee:=Callee.builtin Builtin.append,args:= #[s,x],argTypes:= #[t,t]})
 (nF:Nat) (e:TypeId) (i:TypeInfo) (z:Value) (size bytes:Nat) (h1:P.underlying t=aeb (.slice e)) (h2:P.info? e=aeb i) (h3:i.zero=aeb z) (h4:i.size=size) (h5:i.bytes=bytes) (h6:z.cells.size=size) (h7:0<size)
 (v:Value) (k:Nat) (xs:List Value) (hs:a.eval s=v) (Y2:w.ownsRow nF e size v k xs) (ad:Addr) (m c:Nat) (news:List Value) (hx:a.eval x= .slice (aeb ad) m c) (hn:(aea news)=m*size)
 (hc: ∀j u,news[j]? =aeb u->w.cell? (ad.add j)=aeb u) (h1c: ∀u∈news,u.oneCell'=aed) (b1:k+m<=maxLen) (b2:(k+m)*bytes<=140737488355328) (b3:nF<=w.heap.size)
 (hK: ∀v' w',w'.ownsRow nF e size v' (k+m) (xs++news)->w.grownBy w' v.ownBlock->w.drawn<=w'.drawn->wpListIn F n P ops Q rest (a.put o.dst v') w'):
 wpListIn F n P ops Q (o::rest) a w:=by
 refine wpListIn_plain hg fun K hK'=>?_
 obtain ⟨v',w',bG,r1,r2,r3⟩:=run_append_own (P:=P) w nF t o.type e i z size bytes h1 h2 h3 h4 h5 h6 h7 v k xs Y2 ad m c news hn hc h1c b1 b2 b3;unfold Oper.wpIn;refine ⟨?_,?_⟩
 · simp [Oper.about,eA,resolve,Target.leads,Sem.run_pure]
 rw [Oper.semAt_plain F _ _ (by rw [eA];intro c zD;cases zD)]
 simp [execOp,eA,resolve,invoke,builtin,hs,hx,bG,Result.andThen];exact hK' _ _ (hK v' w' r1 r2 (Oq _ bG))
end Go
namespace Go.Vm
open Go.RowKit
def Ze (q r:List PT) (fn:List (RT q)->Option (List (RT r))):List PV->Option (PV×bS)
 | [.agg [.sl e _ rows]]=>if Nat.beq e (aea q)||rows.isEmpty then (match zW q rows with
  |some l=>match fn l with
   |some m=>aeb (.own 0 (aea r) 0 (aea m) (aea m) aee,[.arr (aea r) (m.map (RT.pv r))])
   |none=>aec
  |none=>aec) else aec
 |_=>aec
def MO (P : Program) (f : FuncId) (q r : List PT) (fn : List (RT q) -> Option (List (RT r))) : Prop :=
  ∀ (a : Option Addr) (c : Nat) (l : List (RT q)) (m : List (RT r)) (w : World), fn l = aeb m -> (aea l) <= c ->
    (l ≠ [] -> ∃ b o, a = aeb ⟨b, o, aec⟩ /\ bz (fun k => w.cell? ⟨b, k, aec⟩) o (aea q) (l.map (RT.pv q))) ->
    Calls P f #[.agg #[.slice a (aea l) c]] w fun x w' =>
      (m = [] /\ x = .returned (.slice aec 0 0) \/ m ≠ [] /\ ∃ g c' fin el, x = .returned (.slice (aeb ⟨g, 0, aec⟩) (aea m) c') /\ w.heap.size <= g /\ w'.heap[g]? = aeb (.cells fin el (0, 0)) /\
        (aea m) <= c' /\ c' * (aea r) <= fin.size /\ bz (fun k => fin[k]?) 0 (aea r) (m.map (RT.pv r))) /\ Below w.heap.size w w' /\ w.drawn <= w'.drawn
def Br (li:LI):Loc:=fun t=>if t=0 then aeb li else aec
theorem F8 {im:Im} {w w':World} {v:PV} {u:Value} {e:Nat} {rows:List Row} {li:LI} (jt:SR im eZ [] [] w) (hb:Below w.heap.size w w') (hd:w.drawn<=w'.drawn) (he:li.esz=e) (hn:li.n=aea rows)
 (hr:rows≠[]->w.heap.size<=li.cX/\ ∃cs el,w'.heap[li.cX]? =aeb (.cells cs el (0,0))/\cs.size=li.sz/\li.sh+aea rows*e<=li.sz/\bz (fun k=>cs[k]?) li.sh e rows)
 (hv:VR im (Br li) v u):rJ im eZ [] w v [.arr e rows] [] im (Br li) w' u:=by
 have Za: ∀{t:Nat} {l:LI},Br li t=aeb l->t=0/\l=li:=fun {t l} h=>by
  unfold Br at h;split at h
  · rename_i e;injection h with h;exact ⟨e,h.symm⟩
  cases h
 have lt: ∀{b:Nat} {o:Obj},w.heap[b]? =aeb o->b<w.heap.size:=fun h=>(ut.1 h).1
 have ne: ∀{k:jc},([.arr e rows]:bS)[0]? =aeb k->k.bA=aed->rows≠[]:=fun h hs=>by injection h with h;subst h;intro h0;subst h0;cases hs
 exact {
  fD:= .refl _
  dp:=fun t l h=>by cases h
  vr:=hv
  sr:={
   bu:=fun b o h=>by have h1:=jt.bu b o h;rw [hb.block b (lt h1)];exact h1
   cX:=fun t l h=>by obtain ⟨rfl,rfl⟩:=Za h;exact ⟨_,rfl,he,hn,fun h0=>(hr h0).2⟩
   gQ:=fun t u l l' k k' h h' _ _ _ _ _=>(Za h).1.trans (Za h').1.symm
   free:=fun t l k h hk hs _=>by
    obtain ⟨rfl,rfl⟩:=Za h;cases hi:im l.cX with
    |none=>rfl
    |some o=>have:=lt (jt.bu _ _ hi);have:=(hr (ne hk hs)).1;omega}
  os:=hb.os
  tape:=⟨hb.tape,hd⟩
  output:=hb.output
  size:=hb.size
  frame:=fun b h _=>hb.block b h
  dy:=fun b o h=> .inl h
  lH:=fun t l h=> .inr (Nat.zero_le _)
  own:=fun t l k h hk hs=>by obtain ⟨rfl,rfl⟩:=Za h;exact .inl (hr (ne hk hs)).1}
theorem yI.mk {P:Program} {f:FuncId} {q r:List PT} {fn:List (RT q)->Option (List (RT r))} {F:Func} {c:Code} (hf:P.funcs[f]? =aeb F) (pS:(F.name== "runtime.NumGoroutine")=aee) (hb:F.body=aeb c)
 (H:MO P f q r fn):yI P f (Ze q r fn):=by
 intro args v news hp im w us jt xh;unfold Ze at hp;split at hp
 case h_2=>cases hp
 rename_i e cl rows;split at hp
 case isFalse=>cases hp
 rename_i hc;split at hp
 case h_2=>cases hp
 rename_i l hl;split at hp
 case h_2=>cases hp
 rename_i m hm;injection hp with hp;simp only [adY] at hp;obtain ⟨rfl,rfl⟩:=hp;have jT:=y6 hl;have bU:(aea rows)=(aea l):=by rw [jT,Do]
 obtain ⟨u,rfl,hu⟩: ∃u,us=[u]/\VR im eZ (.agg [.sl e cl rows]) u:=by cases xh with|cons _ a _ b h1 h2=>cases h2;exact ⟨a,rfl,h1⟩
 obtain ⟨a,cap,rfl,xQ,hh⟩: ∃a cap,u= .agg #[.slice a (aea rows) cap]/\aea rows<=cap/\(rows≠[]-> ∃b o,a=aeb ⟨b,o,aec⟩/\bz (kV im b) o e rows):=by
  cases hu with
  |agg _ vs h=>
   cases h with
   |cons _ s _ b h1 h2=>
    cases h2;cases h1 with
    |sl _ _ _ a cap xQ hk hh=>exact ⟨a,cap,rfl,xQ,hh⟩
 rw [bU] at xQ ⊢;refine .inr ⟨fy hf pS hb,(H a cap l m w hm xQ fun dC=>?_).mono ?_⟩
 · have Nu:rows≠[]:=fun h0=>dC (M2.1 (by rw [<- bU,h0];rfl))
   obtain ⟨b,o,rfl,hr⟩:=hh Nu;have he:e=(aea q):=by
    rw [Bool.or_eq_true] at hc;rcases hc with hc|hc
    · exact Nat.beq_eq▸hc
    exact absurd (List.isEmpty_iff.1 hc) Nu
   subst he;refine ⟨b,o,rfl,?_⟩;rw [<- jT];refine hr.mono fun k v hk=>?_
   unfold kV at hk;split at hk
   · rename_i cs _ _ hi
     have:=jt.bu _ _ hi;simp only [ae9,this];exact hk
   cases hk
 rintro x w' ⟨hx,NM,hd⟩
 rcases hx with ⟨rfl,rfl⟩|⟨hm0,g,c',fin,el,rfl,hg,hw,zn,E5,hr⟩
 · exact ⟨_,rfl,im,Br ⟨0,0,aea r,0,0⟩,F8 jt NM hd rfl rfl (fun h=>absurd rfl h) (.own 0 (aea r) 0 0 0 aee ⟨0,0,aea r,0,0⟩ aec 0 rfl rfl (EQ _) (EQ _) (EQ _) (fun h=>by cases h) (.inl rfl))⟩
 have xS:(m.map (RT.pv r)).length=(aea m):=Do _
 have jZ:(aea m)*aea r<=c'*(aea r):=acl _ zn;refine ⟨_,rfl,im,Br ⟨g,0,aea r,aea m,fin.size⟩,F8 jt NM hd rfl xS.symm (fun _=>⟨hg,fin,el,hw,rfl,by show 0+(m.map (RT.pv r)).length*aea r<=fin.size;rw [xS,adB];exact IR jZ E5,hr⟩) (.own 0 (aea r) 0 (aea m) (aea m) aee ⟨g,0,aea r,aea m,fin.size⟩ (aeb ⟨g,0,aec⟩) c' rfl rfl (by simp) (EQ _) zn (fun h=>by cases h) (.inr ⟨fun h=>hm0 (M2.1 h),by simp,by simpa using E5⟩))⟩
theorem cM.rows {F:jM} {f:FuncId} {α:Type} {A:Arg α} {q r:List PT} {g:α->List (RT q)} {fn:List (RT q)->Option (List (RT r))} (hf:F f=aeb (.ir aee (Ze q r fn)))
 (hA: ∀a,qc (A.enc a)=aeb (.agg [.sl (aea q) aee ((g a).map (RT.pv q))])):cM F f (qt.rows A q r g fn):=by
 intro (a:α) (b:List (RT r)) a2 pa az fz hb Kz hex;have hb:fn (g a)=aeb b:=hb;have QQ:pa=[.agg [.sl (aea q) aee ((g a).map (RT.pv q))]]:=by have:oz [A.enc a]=aeb pa:=Kz;simp only [oz,hA] at this;exact (PP this).symm
 subst QQ;refine ⟨0,{v:= .own (aea az) (aea r) 0 (aea b) (aea b) aee,news:=[.arr (aea r) (b.map (RT.pv r))],rd:=cQ (cD az deep) a2},?_,.sl (aea r) aee (b.map (RT.pv r)),.own (aea az) (aea r) 0 (aea b) (aea b) aee,[.arr (aea r) (b.map (RT.pv r))],rfl,by simp only [Cv,Do],rfl⟩;show cu F (run F 0) aee f a2 az fz=_;simp only [cu,hex,hf,Ze,Nat.beq_refl,Bool.true_or,if_true,Ea,hb,xO];simp [has]
theorem cM.lift {F G:jM} {f:FuncId} {c:qt} (h: ∀f e,F f=aeb e->G f=aeb e) (k:cM F f c):cM G f c:=by intro a b a2 pa az fz hb Kz hex;obtain ⟨n,r,h1,h2⟩:=k a b a2 pa az fz hb Kz hex;exact ⟨n,r,ot (L1 h n) (SH h n) h1,h2⟩
end Go.Vm
/- What a function that ranges over all pairs of points, keeps what comes of each and puts it in order gives: plain parts of its walk. -/
namespace Go.Vm
open Go.RowKit
abbrev nC:=Int×Int×Int
def Lp (p:nC):Value:= .agg #[.int .i64 p.1,.int .i64 p.2.1,.int .i64 p.2.2]
def fN (l:List nC):List (nC×nC):=(ad4 (aea l)).flatMap fun i=>(l.drop (i+1)).map fun q=>(l[i]!,q)
def rA (l:List nC) (i j:Nat):List (nC×nC):=((ad4 i).flatMap fun i=>(l.drop (i+1)).map fun q=>(l[i]!,q))++((l.drop (i+1)).take j).map fun q=>(l[i]!,q)
theorem Ot (l:List nC):rA l 0 0=[]:=by simp [rA]
theorem Ou (l:List nC) {i j:Nat} (h:i+1+j<aea l):rA l i j++[(l[i]!,l[i+1+j]!)]=rA l i (j+1):=by
 unfold rA;rw [List.append_assoc]
 congr 1
 have:(l.drop (i+1)).take (j+1)=(l.drop (i+1)).take j++[l[i+1+j]!]:=by rw [List.take_add_one,List.getElem?_drop,v6 h,getElem!_pos l _ h];rfl
 rw [this,List.map_append];rfl
theorem Ek (l:List nC) (i:Nat):rA l i (aea l- (i+1))=rA l (i+1) 0:=by unfold rA;rw [ad7 (by simp),adX,adZ,ad9,adV,ad1];simp
theorem QW (l:List nC):rA l (aea l) 0=fN l:=by unfold rA fN;simp
theorem QX (l:List nC) {i:Nat} (h:i<aea l) (j:Nat):rA l i j<+:fN l:=by
 have h1:rA l i j<+:rA l (i+1) 0:=by rw [<- Ek];unfold rA;refine (List.prefix_append_right_inj _).2 ?_;rw [ad7 (show (l.drop (i+1)).length<=aea l- (i+1) by simp)];exact (List.take_prefix _ _).map _
 refine h1.trans ?_;unfold rA fN;rw [adX,adZ,ad9];have:ad4 (aea l)=ad4 (i+1)++(ad4 (aea l- (i+1))).map (fun k=>i+1+k):=by rw [<- List.range_add];congr 1;omega
 rw [this,ad1];exact List.prefix_append _ _
def QY (W:World) (b o:Nat) (l:List nC):Prop:= ∀i,i<aea l->W.cell? ⟨b,o+i*3,aec⟩=aeb (.int .i64 l[i]!.1)/\W.cell? ⟨b,o+i*3+1,aec⟩=aeb (.int .i64 l[i]!.2.1)/\W.cell? ⟨b,o+i*3+2,aec⟩=aeb (.int .i64 l[i]!.2.2)
theorem uC {W:World} {a:Addr} {v:Value} (o:Obj) (h:W.cell? a=aeb v):(W.alloc o).cell? a=aeb v:=cell_kept h (World.grownBy_alloc W o aec) (fun r e=>by cases e)
def Zf (t:TypeId) (W W':World):Prop:= ∀(k:Nat) (cs:Array Value) (z:Nat×Nat),W.heap[k]? =aeb (Obj.cells cs t z)->W'.heap[k]? =aeb (Obj.cells cs t z)
abbrev uD:=Int×Int×Int×Int
def X1 (m:uD):List Value:=[.int .i64 m.1,.int .i64 m.2.1,.int .i64 m.2.2.1,.int .i64 m.2.2.2]
def uE (mt:nC->nC->(Int×Int)×Int) (l:List (nC×nC)):List uD:=l.flatMap fun x=>bif (mt x.1 x.2).2==0 then [((mt x.1 x.2).1.1,(mt x.1 x.2).1.2,x.1.1,x.2.1)] else []
theorem Bs (mt:nC->nC->(Int×Int)×Int) (l:List (nC×nC)) (x:nC×nC):uE mt (l++[x])=uE mt l++bif (mt x.1 x.2).2==0 then [((mt x.1 x.2).1.1,(mt x.1 x.2).1.2,x.1.1,x.2.1)] else []:=by simp [uE]
theorem Ai (mt:nC->nC->(Int×Int)×Int): ∀l:List (nC×nC),(uE mt l).length<=aea l
 | []=>EQ _
 |x::l=>by
  have:=Ai mt l;unfold uE at this ⊢;rw [ac6,ad3,ww];cases (mt x.1 x.2).2==0
  · simp only [pp,ad8];omega
  simp only [lw,ww,ad8];omega
theorem Ov {w:World} {B:Nat} (hB:w.heap.size=B) (l:List Value) (t:TypeId) (j:Nat) (u:Value) (h:l[j]? =aeb u):(w.alloc (.cells ⟨l⟩ t)).cell? ((⟨B,0,aec⟩:Addr).add j)=aeb u:=by
 subst hB;have Yf:(⟨w.heap.size,0,aec⟩:Addr).add j=⟨w.heap.size,j,aec⟩:=by unfold Addr.add;split<;>simp_all
 rw [Yf,cell_of_row _ w.heap.size j ⟨l⟩ t (0,0) (ad0 w _)];simpa using h
theorem Ow {W w1:World} {aju B:Nat} {t e u:TypeId} {size k:Nat} {v v':Value} {xs:List Value} {tmp:Obj} (hv:Boxed W B t v) (k8:W.ownsRow aju e size v k xs) (Ja:(W.alloc tmp).grownBy w1 v.ownBlock) (h1:u≠e) (h2:u≠t):Zf u W (w1.setCell ⟨B,0,aec⟩ v'):=by
 intro i cs z hi;have cY:=(ut.1 hi).1;have dC:aeb i≠v.ownBlock:=by
  rcases k8.2 with ⟨rfl,_⟩|⟨g,cap,cur,rfl,_,hgb,_⟩
  · simp [Value.ownBlock]
  intro e'
  obtain rfl:i=g:=by simpa [Value.ownBlock] using e'
  rw [hgb] at hi;cases hi;exact h1 rfl
 have hb:i≠B:=by rintro rfl;rw [show W.heap[i]? =_ from hv] at hi;cases hi;exact h2 rfl
 refine (Below.heap_setCell _ _ _ i hb).trans ((Ja.block i (by simp;omega) dC).trans ((Below.heap_alloc W tmp i cY).trans hi))
theorem QZ: ∀(l:List uD) (i j:Nat) (m:uD),l[i]? =aeb m->j<4->(l.flatMap X1)[i*4+j]? =(X1 m)[j]?
 | [],i,j,m,h,_=>by simp at h
 |a::l,0,j,m,h,hj=>by
  obtain rfl:a=m:=by simpa using h
  rw [ac6,Nat.zero_mul,adB,List.getElem?_append_left (by simpa [X1] using hj)]
 |a::l,i+1,j,m,h,hj=>by
  have:=QZ l i j m (by simpa using h) hj;rw [ac6,List.getElem?_append_right (by simp [X1];omega),<- this]
  congr 1
  simp [X1];omega
theorem Ox {l:List uD} {cur:Array Value} (h:cur.toList.take (aea l*4)=l.flatMap X1):bz (fun k=>cur[k]?) 0 4 (l.map (RT.pv [.i .i64,.i .i64,.i .i64,.i .i64])):=by
 intro i r hr;rw [If,NE] at hr;obtain ⟨m,hm,rfl⟩:=hr;have hi:=(AC.1 hm).1;refine ⟨rfl,fun j c hc=>?_⟩;have hj:j<4:=(AC.1 hc).1;have e:=QZ l i j m hm hj;rw [<- h,List.getElem?_take_of_lt (by omega)] at e;have e2:cur[0+i*4+j]? =(X1 m)[j]?:=by rw [<- e,adB];simp
 match j,hj,hc,e2 with
 |0,_,hc,e2=>injection hc with hc;subst hc;exact ⟨_,rfl,e2⟩
 |1,_,hc,e2=>injection hc with hc;subst hc;exact ⟨_,rfl,e2⟩
 |2,_,hc,e2=>injection hc with hc;subst hc;exact ⟨_,rfl,e2⟩
 |3,_,hc,e2=>injection hc with hc;subst hc;exact ⟨_,rfl,e2⟩
theorem rS {W W':World} {B:Nat} {t:TypeId} {v:Value} (h:Boxed W B t v) (hb:Below W.heap.size W W'):Boxed W' B t v:=(hb.block B h.lt).trans h
theorem nT {W W':World} (hb:Below W.heap.size W W'):W.grownBy W' aec:=⟨hb.os,hb.tape,hb.output,hb.size,fun k hk _=>hb.block k hk⟩
mutual
theorem Jb (s:bS): ∀(v p:PV),p.iQ=aed->vB s v=aeb p->v=p
 | .int _ _,_,_,h=>PP h
 | .bool _,_,_,h=>PP h
 | .str _,_,_,h=>PP h
 | .agg cs,p,hn,h=>by obtain ⟨l,hl,rfl⟩:=NE.1 h;rw [Bt s cs l hn hl]
 | .bT cs,p,hn,h=>by obtain ⟨l,hl,rfl⟩:=NE.1 h;rw [Bt s cs l hn hl]
 | .sl _ _ _,_,hn,h=>by injection h with h;subst h;cases hn
 | .own _ _ _ _ _ _,_,hn,h=>by
  simp only [vB] at h;split at h
  · injection h with h;subst h;cases hn
  cases h
 | .undef,_,_,h=>by cases h
 | .iI,_,_,h=>by cases h
 | .ptr ..,_,_,h=>by cases h
 | .bw ..,_,_,h=>by cases h
 | .mp _,_,_,h=>by cases h
 | .ed ..,_,_,h=>by cases h
 | .dv,_,_,h=>by cases h
theorem Bt (s:bS): ∀(v p:List PV),qC p=aed->C4 s v=aeb p->v=p
 | [],_,_,h=>PP h
 |x::xs,p,hn,h=>by
  simp only [C4] at h;split at h
  · rename_i y ys hy NF
    injection h with h;subst h;simp only [qC,adD] at hn;rw [Jb s x y hn.1 hy,Bt s xs ys hn.2 NF]
  cases h
end
theorem cM.afL {F:jM} {f:FuncId} {x:aL} {c:qt} (h:cM F f c) (hf:F f=aeb (.code x)) (hk:c.kd= .pure) (ho:c.ow=aee) {a:c.α} {b:c.β} {ps:List PV} {v:PV} (hb:c.fn a=aeb b) (hp:oz (c.args.enc a)=aeb ps) (hx:AL [] (vt [] deep) ps=aeb ps)
 (hv:qc (c.res.enc b)=aeb v) (hn:v.iQ=aed): ∃n s z,run F n (.func f ps [] [])=aeb (.func v s z):=by
 obtain ⟨n,r,h1,h2⟩:=h a b ps ps [] [] hb hp hx;rw [hk] at h2;rw [ho] at h1;obtain ⟨p,h2,rfl⟩:=h2;rw [hv] at h2;injection h2 with h2;subst h2;refine ⟨n,?_⟩;simp only [cu,hx,hf] at h1;split at h1
 · rename_i u s z hr
   simp only [Bool.false_eq_true,if_false] at h1;split at h1
   · injection h1 with h1
     injection h1 with h1;subst h1;exact ⟨s,z,hr⟩
   split at h1
   · rename_i u' hu
     injection h1 with h1;injection h1 with h1;subst h1;rw [Jb s u _ hn hu] at hr;exact ⟨s,z,hr⟩
   cases h1
 cases h1
open Classical in
noncomputable def Aj {α:Type} (o:α->α->Option Int) (l:List α):Option (List α):=
 if (∀x∈l,∀y∈l,∃v,o x y=aeb v)/\(∀x∈l,¬(o x x).getD 0<0)/\(∀x∈l,∀y∈l,∀z∈l,(o x y).getD 0<0->(o y z).getD 0<0->(o x z).getD 0<0)/\
  (∀x∈l,∀y∈l,∀z∈l,¬(o x y).getD 0<0-> ¬(o y z).getD 0<0-> ¬(o x z).getD 0<0)/\(∀x∈l,∀y∈l,¬(o x y).getD 0<0-> ¬(o y x).getD 0<0->x=y)
 then aeb (l.mergeSort fun x y=>!aef ((o y x).getD 0<0)) else aec
theorem Q0 {F:jM} {g:FuncId} {r:List PT} {o:RT r->RT r->Option Int} (hc: ∀x y v,o x y=aeb v->QU F g r x y v) {l m:List (RT r)} (h:Aj o l=aeb m): ∃cf,QV F g r cf l/\m=l.mergeSort fun x y=>!aef (cf y x<0):=by
 unfold Aj at h;split at h
 · rename_i hq
   injection h with h;obtain ⟨h1,h2,h3,h4,h5⟩:=hq;exact ⟨fun x y=>(o x y).getD 0,⟨fun x hx y hy=>by obtain ⟨v,hv⟩:=h1 x hx y hy;rw [hv];exact hc x y v hv,h2,h3,h4,h5⟩,h.symm⟩
 cases h
theorem Oy {α:Type} {o:α->α->Option Int} {l m:List α} (h:Aj o l=aeb m):(aea m)=(aea l):=by
 unfold Aj at h;split at h
 · injection h with h;rw [<- h,List.length_mergeSort]
 cases h
open Classical in
noncomputable def Jc (mt:nC->nC->Option ((Int×Int)×Int)) (o:uD->uD->Option Int) (l:List nC):Option (List uD):=
 if (aea l)<=1000/\ ∀x∈fN l,∃v,mt x.1 x.2=aeb v then Aj o (uE (fun p q=>(mt p q).getD ((0,0),1)) (fN l)) else aec
theorem El (l:List nC):(fN l).length<=aea l*(aea l):=by
 have: ∀n,((ad4 n).flatMap fun i=>(l.drop (i+1)).map fun q=>(l[i]!,q)).length<=n*(aea l):=fun n=>by
  induction n with
  |zero=>simp
  |succ n ih=>rw [adV,ad1,ad3,Nat.add_mul];simp only [ac6,List.flatMap_nil,ad9,Do,adG];omega
 exact this _
theorem Lq {w:World} {b o:Nat} {l:List nC} (h:bz (fun k=>w.cell? ⟨b,k,aec⟩) o 3 (l.map (RT.pv [.i .i64,.i .i64,.i .i64]))):QY w b o l:=by
 intro i hi;have h1:(l.map (RT.pv [.i .i64,.i .i64,.i .i64]))[i]? =aeb (RT.pv [.i .i64,.i .i64,.i .i64] l[i]!):=by rw [If,v6 hi,getElem!_pos l i hi];rfl
 obtain ⟨_,h2⟩:=h i _ h1;obtain ⟨v0,a0,b0⟩:=h2 0 _ rfl;obtain ⟨v1,a1,b1⟩:=h2 1 _ rfl;obtain ⟨v2,a2,b2⟩:=h2 2 _ rfl;injection a0 with a0;injection a1 with a1;injection a2 with a2;subst a0 a1 a2;exact ⟨b0,b1,b2⟩
end Go.Vm
