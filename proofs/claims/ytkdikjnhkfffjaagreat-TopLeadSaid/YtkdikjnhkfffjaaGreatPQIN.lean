/- slices.Insert of one point: what the call does to the cells. -/
import Derived.Test.YtkdikjnhkfffjaaGreatChecked
import Derived.WalkKit
import Derived.Lib.Walk
import Derived.Lib.SliceRun
import Derived.Lib.Overlaps
import Derived.Lib.AppendZerosOnto
import Derived.Laws.Externs
import Derived.Laws.NewBlocks
import Derived.Shelf.RegionOpenPlain
import Derived.Test.YtkdikjnhkfffjaaGreatPVm2
open Array renaming getElem?_setIfInBounds_self_of_lt->EQ,getElem?_eq_some_iff->IR,getElem?_push->aai
open Go.Lib renaming wpList_append_run->If
open Go.World renaming cell?->NE,frozen?->abq,shape?->abr
open List renaming getElem?_eq_getElem->PP,mem_of_mem_drop->WF,getElem?_drop->aaQ,length_drop->ab0
open Nat renaming min->UV,add_assoc->aaP
open Option renaming some->abt,none->abu
open Bool renaming true->abv
namespace Go.Proofs.YtkdikjnhkfffjaaGreat
open Go.RowKit Go.Lib Go.Vm
theorem QI{P:Program}(w:World){o:Oper}{a:Act}{K:Act->World->Prop}{Q:Exit->Act->World->Prop}(d s:Operand)(t t':TypeId)
 (ho:o.op= .call {callee:= .builtin .copy,args:= #[d,s],argTypes:= #[t,t']}) (v u:Value) (hd:a.eval d=v) (hs:a.eval s=u) {v':Value} {w':World}
 (hr:(Builtin.copy_ #[t,t'] o.type #[v,u]).run P w= .ok v' w') (h:K (a.put o.dst v') w'):o.wp P a w K Q:=by
 unfold Oper.wp execOp;simp only[ho,resolve,invoke,builtin,Sem.run_bind,Sem.run_pure,Result.andThen_ok,List.map_toArray,List.map_cons,List.map_nil,hd,hs,hr];exact h
theorem Hd{P:Program}(w:World){ops:Array Oper}{rest:List Oper}{o:Oper}{a:Act}{Q:Exit->Act->World->Prop}(R7:o.guard=abu)(d s:Operand)(t t':TypeId)
 (ho:o.op= .call {callee:= .builtin .copy,args:= #[d,s],argTypes:= #[t,t']}) (v u:Value) (hd:a.eval d=v) (hs:a.eval s=u) {v':Value} {w':World}
 (hr:(Builtin.copy_ #[t,t'] o.type #[v,u]).run P w= .ok v' w') (h:wpList P ops Q rest (a.put o.dst v') w'):wpList P ops Q (o::rest) a w:=
 wpList_plain R7 λ_ hK=>QI w d s t t' ho v u hd hs hr (hK _ _ h)
theorem Kw{P:Program}{ops:Array Oper}{o:Oper}{a:Act}{w:World}{K:Act->World->Prop}{Q:Exit->Act->World->Prop}{E:Prop}
 (hg:o.guard=abu) (d x:Operand) (dT sT:TypeId) (iM:o.op=Op.call {callee:=Callee.builtin Builtin.copy,args:= #[d,x],argTypes:= #[dT,sT]})
 (v u:Value) (hd:a.eval d=v) (hx:a.eval x=u) {v':Value} {w':World} (hr:(Builtin.copy_ #[dT,sT] o.type #[v,u]).run P w= .ok v' w') (hK:K (a.put o.dst v') w'):
 if Region.wanted o (yielded ops a.tmps)=abv then Oper.wp P o a w K Q else E:=by
 have hw:Region.wanted o (yielded ops a.tmps)=abv:=by simp[Region.wanted,hg]
 rw[AC hw];exact QI w d x dT sT iM v u hd hx hr hK
set_option maxHeartbeats 4000000 in
set_option maxRecDepth 100000 in
theorem ZF(b off n c i vb tM vc:Nat)(cs vs:List Value)(arr:Array Value)(el:TypeId)(w:World)(hi:i<n)(yt:n+1<=c)(hn6:n<=1048576)(ZC:vb≠b)
 (hg:w.heap[b]? =abt (.cells arr el (0,0))) (wM:off+(n+1)*3<=arr.size) (IW:cs.length=n*3) (WM:vs.length=3)
 (v8: ∀j v,cs[j]? =abt v->arr[off+j]? =abt v) (NP: ∀j v,vs[j]? =abt v->w.cell? ⟨vb,tM+j,abu⟩=abt v) (h1c: ∀v∈cs,v.oneCell'=abv) (h1v: ∀v∈vs,v.oneCell'=abv)
 (hov: ∀lb cb,(callFunc 110 #[.slice (abt ⟨vb,tM,abu⟩) 1 vc,.slice (abt ⟨b,off+(i+1)*3,abu⟩) lb cb]).run Tryz.prog w= .ok (.value (.bool false)) w):
 Calls Tryz.prog 49 #[.slice (abt ⟨b,off,abu⟩) n c,.int .i64 i,.slice (abt ⟨vb,tM,abu⟩) 1 vc] w λe w'=>
  e= .returned (.slice (abt ⟨b,off,abu⟩) (n+1) c)/\w'=(w.drew.setRow b (qB (off+(i+1)*3) (cs.drop (i*3)) arr.toList).toArray).setRow b (qB (off+i*3) vs (qB (off+(i+1)*3) (cs.drop (i*3)) arr.toList)).toArray:=by
 have uS:=run_underlying Tryz.underlying22;have hz2: ¬((i:Int)=(n:Int)):=by omega
 have FX:(Tryz.prog.info? 28).map (·.size)=abt 3:=by kernel_rfl
 have hdl:(cs.drop (i*3)).length=(n-i)*3:=by rw[ab0,IW,Nat.sub_mul]
 obtain⟨A1,hA1⟩: ∃A1:List Value,A1=qB (off+(i+1)*3) (cs.drop (i*3)) arr.toList:=⟨_,rfl⟩;have ajE:A1.length=arr.size:=by rw[hA1,dQ _ _ _ (by rw[hdl];simp;omega)];simp
 have R7:w.drew.heap[b]? =abt (.cells arr el (0,0)):=hg;have ajF: ∀ty dc sc,(Builtin.copy_ #[22,22] ty #[.slice (abt ⟨b,off+(i+1)*3,abu⟩) (n-i) dc,.slice (abt ⟨b,off+i*3,abu⟩) (n+1-i) sc]).run Tryz.prog w.drew= .ok (goInt (UV (n+1-i) (n-i))) (w.drew.setRow b A1.toArray):=λty dc sc=>by
  rw[hA1];refine uT w.drew 22 22 ty 28 3 b (off+(i+1)*3) _ dc ⟨b,off+i*3,abu⟩ _ sc arr el (cs.drop (i*3)) Tryz.underlying22 FX R7 ?_ (λj v hj=>?_) (by rw[hdl];omega) (λv hv=>h1c v (WF hv))
  ·have:UV (n+1-i) (n-i)=n-i:=by show min _ _=_;omega
   rw[hdl,this]
  rw[Addr.add_lit,aaP]
  rw[aaQ]at hj;have:=v8 _ _ hj;rw[show w.drew.cell? ⟨b,off+(i*3+j),abu⟩=w.cell? ⟨b,off+(i*3+j),abu⟩from rfl];simp only[NE,hg];exact this
 obtain⟨W1,hW1⟩: ∃W1,W1=w.drew.setRow b A1.toArray:=⟨_,rfl⟩;have XU:W1.heap[b]? =abt (.cells A1.toArray el (0,0)):=by rw[hW1,cJ R7];exact EQ (IR.1 R7).1
 have aqN: ∀ty dc,(Builtin.copy_ #[22,22] ty #[.slice (abt ⟨b,off+i*3,abu⟩) (n+1-i) dc,.slice (abt ⟨vb,tM,abu⟩) 1 vc]).run Tryz.prog W1= .ok (goInt (UV 1 (n+1-i))) (W1.setRow b (qB (off+i*3) vs A1).toArray):=λty dc=>by
  refine(uT W1 22 22 ty 28 3 b (off+i*3) _ dc ⟨vb,tM,abu⟩ 1 vc A1.toArray el vs Tryz.underlying22 FX XU ?_ (λj v hj=>?_) (by simp[ajE,WM];omega) h1v)
  ·have:UV 1 (n+1-i)=1:=by show min _ _=_;omega
   rw[WM,this]
  rw[Addr.add_lit]
  have h1:=NP j v hj;rw[<-h1];have hh:W1.heap[vb]? =w.heap[vb]?:=by rw[hW1,cJ R7,Array.getElem?_setIfInBounds,Do (λe=>ZC e.symm)];rfl
  simp only[NE,hh]
 rw[<-hW1]at ajF;rw[<-hA1,<-hW1];have hw1:IntKind.i64.wrap ((i:Int)+1)=(i:Int)+1:=by rw[IntKind.wrap_i64];omega
 have PW:(0:Int)<=(i:Int)+1:=by omega
 have AN:i<=n:=by omega
 have htn:((i:Int)+1).toNat=i+1:=by omega
 have Sn: ¬(c=i+1):=by omega
 have hb3:(i:Int)<=(n:Int)+1:=by omega
 have hb4: ¬(c=i):=by omega
 have mixed:Tryz.prog.follows .mixedOrders=abv:=Tryz.checked.mixed;clear XU hW1 ajE hA1 R7 hg
 go_enter Tryz.func49,Tryz.ntmps49
 go_wp2_with (simp only[hov])
 go_region_law_o (refine Kw rfl _ _ 22 22 rfl _ _ (by simp[Act.eval,Act.put]) (by simp[Act.eval,Act.put]) (ajF _ _ _) ?_)
 go_wp2_with (at_builtin;refine Hd _ rfl _ _ 22 22 rfl _ _ rfl rfl (aqN _ _) ?_)
 go_ret
 exact⟨rfl,rfl⟩
set_option maxHeartbeats 4000000 in
set_option maxRecDepth 100000 in
theorem acN(r8:Option Addr)(n c vb tM vc:Nat)(w w':World)(v':Value)(_:n<=c)
 (dy:(Builtin.append_ #[22,22] 22 #[.slice r8 n c,.slice (abt ⟨vb,tM,abu⟩) 1 vc]).run Tryz.prog w= .ok v' w'):
 Calls Tryz.prog 49 #[.slice r8 n c,.int .i64 n,.slice (abt ⟨vb,tM,abu⟩) 1 vc] w λe W=>e= .returned v'/\W=w':=by
 have uS:=run_underlying Tryz.underlying22;have mixed:Tryz.prog.follows .mixedOrders=abv:=Tryz.checked.mixed
 go_enter Tryz.func49,Tryz.ntmps49
 cases r8 with
 |none=>
  go_wp2_with (at_builtin;refine If _ rfl _ _ _ _ rfl _ _ rfl rfl _ _ dy ?_)
  go_ret
  exact⟨rfl,rfl⟩
 |some a=>
  obtain⟨ab,ao,asp⟩:=a
  go_wp2_with (at_builtin;refine If _ rfl _ _ _ _ rfl _ _ rfl rfl _ _ dy ?_)
  all_goals (go_ret;exact⟨rfl,rfl⟩)
set_option maxHeartbeats 4000000 in
set_option maxRecDepth 100000 in
theorem ZG(b off n i vb tM vc:Nat)(cs vs:List Value)(w:World)(hi:i<n)(hn:n<=1048576)(IW:cs.length=n*3)(WM:vs.length=3)
 (v8: ∀j v,cs[j]? =abt v->w.cell? ⟨b,off+j,abu⟩=abt v) (NP: ∀j v,vs[j]? =abt v->w.cell? ⟨vb,tM+j,abu⟩=abt v) (h1c: ∀v∈cs,v.oneCell'=abv) (h1v: ∀v∈vs,v.oneCell'=abv):
 ∃(G:Nat) (B3:Array Value),n+1<=G/\B3.size=G*3/\(∀j v,j<i*3->cs[j]? =abt v->B3.toList[j]? =abt v)/\
 Calls Tryz.prog 49 #[.slice (abt ⟨b,off,abu⟩) n n,.int .i64 i,.slice (abt ⟨vb,tM,abu⟩) 1 vc] w λe w'=>
  e= .returned (.slice (abt ⟨w.heap.size,0,abu⟩) (n+1) G)/\
  w'.heap=w.heap.push (.cells (qB ((i+1)*3) (cs.drop (i*3)) (qB (i*3) vs B3.toList)).toArray 28 (0,0))/\w'.os=w.os/\Go.Vm.Tape w w'/\w'.output=w.output:=by
 have uS:=run_underlying Tryz.underlying22;have u3:=run_underlying Tryz.underlying3;have mixed:Tryz.prog.follows .mixedOrders=abv:=Tryz.checked.mixed;have FX:(Tryz.prog.info? 28).map (·.size)=abt 3:=by kernel_rfl
 have hzE:(Tryz.prog.info? 28).bind (·.zero)=abt (.agg #[.int .i64 0,.int .i64 0,.int .i64 0]):=by kernel_rfl
 have hbE:(Tryz.prog.info? 28).map (·.bytes)=abt 24:=by kernel_rfl
 obtain⟨i0,HX⟩: ∃i0,Tryz.prog.info? 28=abt i0:=by
  cases h:Tryz.prog.info? 28 with
  |none=>rw[h]at FX;cases FX
  |some i0=>exact⟨i0,rfl⟩
 have PK:i0.size=3:=by rw[HX]at FX;simpa using FX
 have hz0:i0.zero=abt (.agg #[.int .i64 0,.int .i64 0,.int .i64 0]):=by rw[HX]at hzE;simpa using hzE
 have hzb:i0.bytes=24:=by rw[HX]at hbE;simpa using hbE
 have hz2: ¬((i:Int)=(n:Int)):=by omega
 have hz3:(n:Int)<(n:Int)+1:=by omega
 have hbw:b<w.heap.size:=block_lt_of_cell (v8 0 _ (PP (by omega)));have hvw:vb<w.heap.size:=block_lt_of_cell (NP 0 _ (PP (by omega)));have Ax:(n:Int)+1- (i:Int)=((n+1-i:Nat):Int):=by omega
 have hik:i+(n+1-i)=n+1:=by omega
 have ze:(Builtin.firstCells i0.size i (.slice (abt ⟨b,off,abu⟩) i n)).run Tryz.prog w.drew= .ok (cs.take (i*3)).toArray w.drew:=by
  rw[PK];exact run_firstCells_some w.drew 3 i ⟨b,off,abu⟩ i n (cs.take (i*3)) (by rw[List.length_take];omega) (λj v hj=>by
   rw[Addr.add_lit];rw[List.getElem?_take]at hj;split at hj
   ·exact v8 j v hj
   cases hj)
 have hrz: ∀ty,(Builtin.append_ #[22,3] ty #[.slice (abt ⟨b,off,abu⟩) i n,.int .i64 ((n:Int)+1- (i:Int))]).run Tryz.prog w= .ok (.slice (abt ⟨w.heap.size,0,abu⟩) (n+1) (grownCap w (n+1) n 28)) (w.drew.alloc (.cells ((cs.take (i*3)).toArray++Builtin.zeroCells (Value.agg #[.int .i64 0,.int .i64 0,.int .i64 0]).cells (n+1-i)++Builtin.zeroCells (Value.agg #[.int .i64 0,.int .i64 0,.int .i64 0]).cells (grownCap w (n+1) n 28- (n+1))) 28)):=λty=>by
  have h:=Lib.run_append_grow_zeros w 22 3 ty 28 i0 _ .i64 .i64 Tryz.underlying22 Tryz.underlying3 HX hz0 (abt ⟨b,off,abu⟩) i n (cs.take (i*3)) ze (n+1-i) (by omega) (by omega) (by omega) (by omega) (by rw[hzb];omega) (by rw[hzb,hik];exact growslice_fits (by omega) (by omega));rw[hik]at h;rw[Ax];exact h
 obtain⟨G,hG⟩: ∃G,G=grownCap w (n+1) n 28:=⟨_,rfl⟩;obtain⟨B3,QJ⟩: ∃B3:Array Value,B3=(cs.take (i*3)).toArray++Builtin.zeroCells (Value.agg #[.int .i64 0,.int .i64 0,.int .i64 0]).cells (n+1-i)++Builtin.zeroCells (Value.agg #[.int .i64 0,.int .i64 0,.int .i64 0]).cells (G- (n+1)):=⟨_,rfl⟩;rw[<-hG]at hrz;rw[<-QJ]at hrz;have hGn:n+1<=G:=by rw[hG];exact grownCap_ge w _ _ _
 have hRl:B3.size=G*3:=by rw[QJ];simp[Builtin.zeroCells,Value.cells];omega
 refine⟨G,B3,hGn,hRl,λj v hj hc=>?_,?_⟩
 ·rw[QJ]
  simp only[Array.toList_append];rw[List.append_assoc,List.getElem?_append_left (by simp;omega)];simp only[List.getElem?_take_of_lt hj];exact hc
 obtain⟨W1,hW1⟩: ∃W1,W1=w.drew.alloc (.cells B3 28):=⟨_,rfl⟩;rw[<-hW1]at hrz;have hh1:W1.heap=w.heap.push (.cells B3 28 (0,0)):=by rw[hW1];rfl
 have Mw:W1.os=w.os/\Go.Vm.Tape w W1/\W1.output=w.output:=by rw[hW1];exact⟨rfl,⟨rfl,Nat.le_succ _⟩,rfl⟩
 have QK: ∀(x y:Obj),(w.heap.push x).setIfInBounds w.heap.size y=w.heap.push y:=λx y=>by apply Array.ext';simp
 obtain⟨A,hA⟩: ∃A:List Value,A=qB (i*3) vs B3.toList:=⟨_,rfl⟩;have hAl:A.length=G*3:=by rw[hA,dQ _ _ _ (by rw[WM];simp[hRl];omega)];simpa using hRl
 rw[<-hA];have hdl:(cs.drop (i*3)).length=(n-i)*3:=by rw[ab0,IW,Nat.sub_mul]
 have aqQ: ∀(W:World),W.heap=W1.heap-> ∀ty dc,(Builtin.copy_ #[22,22] ty #[.slice (abt ⟨w.heap.size,i*3,abu⟩) (n+1-i) dc,.slice (abt ⟨vb,tM,abu⟩) 1 vc]).run Tryz.prog W= .ok (goInt (UV 1 (n+1-i))) (W.setRow w.heap.size A.toArray):=λW hW ty dc=>by
  rw[hA];refine uT W 22 22 ty 28 3 w.heap.size (i*3) _ dc ⟨vb,tM,abu⟩ 1 vc B3 28 vs Tryz.underlying22 FX (by rw[hW,hh1];simp) ?_ (λj v hj=>?_) (by rw[WM,hRl];omega) h1v
  ·have:UV 1 (n+1-i)=1:=by show min _ _=_;omega
   rw[WM,this]
  rw[Addr.add_lit]
  have h1:=NP j v hj;rw[<-h1];have hh:W.heap[vb]? =w.heap[vb]?:=by rw[hW,hh1,aai,Do (by omega)]
  simp only[NE,hh]
 have ajH: ∀(W:World),W.heap=(W1.setRow w.heap.size A.toArray).heap-> ∀ty dc sc,(Builtin.copy_ #[22,22] ty #[.slice (abt ⟨w.heap.size,(i+1)*3,abu⟩) (n-i) dc,.slice (abt ⟨b,off+i*3,abu⟩) (n-i) sc]).run Tryz.prog W= .ok (goInt (UV (n-i) (n-i))) (W.setRow w.heap.size (qB ((i+1)*3) (cs.drop (i*3)) A).toArray):=λW hW ty dc sc=>by
  have XU:W1.heap[w.heap.size]? =abt (.cells B3 28 (0,0)):=by rw[hh1];simp
  have NZ:W.heap=w.heap.push (.cells A.toArray 28 (0,0)):=by rw[hW,cJ XU,hh1,QK]
  have e:=uT (P:=Tryz.prog) W 22 22 ty 28 3 w.heap.size ((i+1)*3) (n-i) dc ⟨b,off+i*3,abu⟩ (n-i) sc A.toArray 28 (cs.drop (i*3)) Tryz.underlying22 FX (by rw[NZ];simp) (by
   have:UV (n-i) (n-i)=n-i:=by show min _ _=_;omega
   rw[hdl,this]) (λj v hj=>by
   rw[Addr.add_lit,aaP];rw[aaQ]at hj;have h1:=v8 _ _ hj;rw[<-h1];have hh:W.heap[b]? =w.heap[b]?:=by rw[NZ,aai,Do (by omega)]
   simp only[NE,hh]) (by rw[hdl];simp[hAl];omega) (λv hv=>h1c v (WF hv))
  exact e
 have ajI:G<=9223372036854775807:=by have:=grownCap_le_maxLen w (n+1) n 28 (by unfold maxLen;omega);rw[<-hG]at this;unfold maxLen at this;omega
 have hGi: ¬(G=i):=by omega
 have axh: ¬(G=i+1):=by omega
 have hci: ¬(n=i):=by omega
 have hw1:IntKind.i64.wrap ((i:Int)+1)=(i:Int)+1:=by rw[IntKind.wrap_i64];omega
 have PW:(0:Int)<=(i:Int)+1:=by omega
 have AN:i<=n:=by omega
 have htn:((i:Int)+1).toNat=i+1:=by omega
 have hb3:(i:Int)<=(n:Int):=by omega
 have fin: ∀W:World,W.heap=(W1.setRow w.heap.size A.toArray).heap->(W.setRow w.heap.size (qB ((i+1)*3) (cs.drop (i*3)) A).toArray).heap=w.heap.push (.cells (qB ((i+1)*3) (cs.drop (i*3)) A).toArray 28 (0,0)):=λW hW=>by
  have XU:W1.heap[w.heap.size]? =abt (.cells B3 28 (0,0)):=by rw[hh1];simp
  have NZ:W.heap=w.heap.push (.cells A.toArray 28 (0,0)):=by rw[hW,cJ XU,hh1,QK]
  have hg2:W.heap[w.heap.size]? =abt (.cells A.toArray 28 (0,0)):=by rw[NZ];simp
  rw[cJ hg2,NZ,QK]
 clear Ax hik ze QJ hG hRl hA hAl hW1 hh1 QK
 go_enter Tryz.func49,Tryz.ntmps49
 go_wp2_with (first
  |(at_builtin;refine If _ rfl _ _ _ _ rfl _ _ rfl rfl _ _ (hrz _) ?_)
  |(at_builtin;refine Hd _ rfl _ _ 22 22 rfl _ _ rfl rfl (aqQ _ rfl _ _) ?_)
  |(at_builtin;refine Hd _ rfl _ _ 22 22 rfl _ _ rfl rfl (ajH _ rfl _ _ _) ?_))
 have hF:((W1.setRow w.heap.size A.toArray).drew).heap=(W1.setRow w.heap.size A.toArray).heap:=rfl
 go_region_law_o (refine Kw rfl _ _ 22 22 rfl (.slice (abt ⟨w.heap.size,(i+1)*3,abu⟩) (n-i) (G- (i+1))) (.slice (abt ⟨b,off+i*3,abu⟩) (n-i) (n-i)) (by simp[Act.eval,Act.put]) (by simp[Act.eval,Act.put]) (ajH _ hF 3 (G- (i+1)) (n-i)) ?_)
 go_wp2
 go_ret
 exact⟨rfl,fin _ rfl,Mw.1,⟨Mw.2.1.eq,Nat.le_succ_of_le Mw.2.1.dr⟩,Mw.2.2⟩
theorem WN:Qf Tryz.prog 49 3 22 where
 ends:=acN
 room b off n c i vb tM vc cs vs arr av el ev w hi yt hn ZC hg hgv wM IW WM v8 NP h1c h1v:=by
  have FX:(Tryz.prog.info? 28).map (·.size)=abt 3:=by kernel_rfl
  have hz: ∀w,(sizeOf 28).run Tryz.prog w= .ok 3 w:=λw=>by
   cases h:Tryz.prog.info? 28 with
   |none=>rw[h]at FX;cases FX
   |some i0=>rw[h]at FX;simp[sizeOf,typeInfo,h];simpa using FX
  have h3:(i+1)*3=i*3+vs.length:=by omega
  have hov: ∀lb cb,(callFunc 110 #[.slice (abt ⟨vb,tM,abu⟩) 1 vc,.slice (abt ⟨b,off+(i+1)*3,abu⟩) lb cb]).run Tryz.prog w= .ok (.value (.bool false)) w:=λlb cb=>by
   rw[run_callFunc_extern Tryz.func110 (by kernel_rfl) (by kernel_rfl) (by kernel_rfl) (e:=Extern.SlicesOverlaps.overlaps #[22,22] #[4]) (by kernel_rfl),
    Lib.run_overlaps_apart w 22 4 28 Tryz.underlying22 3 hz ⟨vb,tM,abu⟩ ⟨b,off+(i+1)*3,abu⟩ 1 vc lb cb ZC ev el av.size arr.size (by simp[abr,hgv]) (by simp[abr,hg]) (by omega) (by simp[abq,hgv]) (by simp[abq,hgv])]
   rfl
  have LK:(qB (off+(i+1)*3) (cs.drop (i*3)) arr.toList).length=arr.size:=by rw[dQ _ _ _ (by simp[IW];omega)];simp
  refine⟨qB (off+i*3) vs (qB (off+(i+1)*3) (cs.drop (i*3)) arr.toList),?_,?_,?_⟩
  ·rw[dQ _ _ _ (by rw[LK];omega),LK]
  ·rw[h3,<-aaP]
   exact ab7 (by simp[IW,WM];omega) (by omega) λj v _ hj=>by simpa using v8 j v hj
  refine(ZF b off n c i vb tM vc cs vs arr el w hi yt hn ZC hg wM IW WM v8 (λj v hj=>by simp only[NE,hgv];exact NP j v hj) h1c h1v hov).mono λx w' ⟨hx,hw⟩=>?_
  subst hw;refine⟨hx,?_,rfl,⟨rfl,Nat.le_succ _⟩,rfl⟩;have R7:w.drew.heap[b]? =abt (.cells arr el (0,0)):=hg;have iL:=(IR.1 R7).1;have e1:=cJ (w:=w.drew) (cs:=(qB (off+(i+1)*3) (cs.drop (i*3)) arr.toList).toArray) R7;rw[cJ (cur:=(qB (off+(i+1)*3) (cs.drop (i*3)) arr.toList).toArray) (t:=el) (by rw[e1];exact EQ iL),e1,Array.setIfInBounds_setIfInBounds];rfl
 full b off n i vb tM vc cs vs w hi hn IW WM v8 NP h1c h1v:=by
  obtain⟨G,B3,g1,g2,g3,g4⟩:=ZG b off n i vb tM vc cs vs w hi hn IW WM v8 NP h1c h1v;have h3:(i+1)*3=i*3+vs.length:=by omega
  have LK:(qB (i*3) vs B3.toList).length=G*3:=by rw[dQ _ _ _ (by simp[g2,WM];omega)];simp[g2]
  refine⟨G,_,28,g1,?_,?_,g4⟩
  ·rw[dQ _ _ _ (by rw[LK];simp[IW];omega),LK]
  rw[h3]
  exact YJ (by simp[g2,IW,WM];omega) (by omega) g3
theorem agp:Fp Tryz.prog 49 (NC 3):=by
 have FX:(Tryz.prog.info? 28).map (·.size)=abt 3:=by kernel_rfl
 have hzE:(Tryz.prog.info? 28).bind (·.zero)=abt (.agg #[.int .i64 0,.int .i64 0,.int .i64 0]):=by kernel_rfl
 have hbE:(Tryz.prog.info? 28).map (·.bytes)=abt 24:=by kernel_rfl
 cases h:Tryz.prog.info? 28 with
 |none=>rw[h]at FX;cases FX
 |some i0=>
  rw[h]at FX hzE hbE;have hb:i0.bytes=24:=by simpa using hbE
  cases hc:Tryz.f49.body with
  |none=>exact absurd hc (by intro h;cases h)
  |some c=>exact Fp.ins Tryz.func49 (by kernel_rfl) hc Tryz.underlying22 h (by simpa using FX) (by simpa using hzE) rfl (by omega) (by decide) WN
end Go.Proofs.YtkdikjnhkfffjaaGreat
