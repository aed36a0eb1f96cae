/- slices.Insert of one point: what the call does to the cells. -/
import Derived.Test.YthljiplggdanpaaGreatChecked
import Derived.WalkKit
import Derived.Lib.Walk
import Derived.Lib.SliceRun
import Derived.Lib.Overlaps
import Derived.Lib.AppendZerosOnto
import Derived.Laws.Externs
import Derived.Laws.NewBlocks
import Derived.Shelf.RegionOpenPlain
import Derived.Test.YthljiplggdanpaaGreatPVm2
open Array renaming getElem?_setIfInBounds_self_of_lt->EQ,getElem?_eq_some_iff->IR,getElem?_push->aa9
open Go.Lib renaming wpList_append_run->If
open Go.World renaming cell?->NE,frozen?->ab3,shape?->ab4
open List renaming getElem?_eq_getElem->PP,mem_of_mem_drop->WF,getElem?_drop->aaF,length_drop->ab1
open Nat renaming min->UV,add_assoc->aaE
open Option renaming some->aba,none->abb
open Bool renaming true->abc
namespace Go.Proofs.YthljiplggdanpaaGreat
open Go.RowKit Go.Lib Go.Vm
theorem QH {P:Program} (w:World) {o:Oper} {a:Act} {K:Act->World->Prop} {Q:Exit->Act->World->Prop} (d s:Operand) (t t':TypeId)
 (ho:o.op= .call {callee:= .builtin .copy,args:= #[d,s],argTypes:= #[t,t']}) (v u:Value) (hd:a.eval d=v) (hs:a.eval s=u) {v':Value} {w':World}
 (hr:(Builtin.copy_ #[t,t'] o.type #[v,u]).run P w= .ok v' w') (h:K (a.put o.dst v') w'):o.wp P a w K Q:=by
 unfold Oper.wp execOp;simp only [ho,resolve,invoke,builtin,Sem.run_bind,Sem.run_pure,Result.andThen_ok,List.map_toArray,List.map_cons,List.map_nil,hd,hs,hr];exact h
theorem He {P:Program} (w:World) {ops:Array Oper} {rest:List Oper} {o:Oper} {a:Act} {Q:Exit->Act->World->Prop} (RY:o.guard=abb) (d s:Operand) (t t':TypeId)
 (ho:o.op= .call {callee:= .builtin .copy,args:= #[d,s],argTypes:= #[t,t']}) (v u:Value) (hd:a.eval d=v) (hs:a.eval s=u) {v':Value} {w':World}
 (hr:(Builtin.copy_ #[t,t'] o.type #[v,u]).run P w= .ok v' w') (h:wpList P ops Q rest (a.put o.dst v') w'):wpList P ops Q (o::rest) a w:=
 wpList_plain RY fun _ hK=>QH w d s t t' ho v u hd hs hr (hK _ _ h)
theorem Kw {P:Program} {ops:Array Oper} {o:Oper} {a:Act} {w:World} {K:Act->World->Prop} {Q:Exit->Act->World->Prop} {E:Prop}
 (hg:o.guard=abb) (d x:Operand) (dT sT:TypeId) (iA:o.op=Op.call {callee:=Callee.builtin Builtin.copy,args:= #[d,x],argTypes:= #[dT,sT]})
 (v u:Value) (hd:a.eval d=v) (hx:a.eval x=u) {v':Value} {w':World} (hr:(Builtin.copy_ #[dT,sT] o.type #[v,u]).run P w= .ok v' w') (hK:K (a.put o.dst v') w'):
 if Region.wanted o (yielded ops a.tmps)=abc then Oper.wp P o a w K Q else E:=by
 have hw:Region.wanted o (yielded ops a.tmps)=abc:=by simp [Region.wanted,hg]
 rw [AC hw];exact QH w d x dT sT iA v u hd hx hr hK
set_option maxHeartbeats 4000000 in
set_option maxRecDepth 100000 in
theorem Zl (b off n c i vb tH vc:Nat) (cs vs:List Value) (arr:Array Value) (el:TypeId) (w:World) (hi:i<n) (ye:n+1<=c) (hn6:n<=1048576) (Zj:vb≠b)
 (hg:w.heap[b]? =aba (.cells arr el (0,0))) (wC:off+(n+1)*3<=arr.size) (IA:cs.length=n*3) (Ww:vs.length=3)
 (wB: ∀j v,cs[j]? =aba v->arr[off+j]? =aba v) (NK: ∀j v,vs[j]? =aba v->w.cell? ⟨vb,tH+j,abb⟩=aba v) (h1c: ∀v∈cs,v.oneCell'=abc) (h1v: ∀v∈vs,v.oneCell'=abc)
 (hov: ∀lb cb,(callFunc 279 #[.slice (aba ⟨vb,tH,abb⟩) 1 vc,.slice (aba ⟨b,off+(i+1)*3,abb⟩) lb cb]).run Tryz.prog w= .ok (.value (.bool false)) w):
 Calls Tryz.prog 225 #[.slice (aba ⟨b,off,abb⟩) n c,.int .i64 i,.slice (aba ⟨vb,tH,abb⟩) 1 vc] w fun e w'=>
  e= .returned (.slice (aba ⟨b,off,abb⟩) (n+1) c)/\w'=(w.drew.setRow b (rQ (off+(i+1)*3) (cs.drop (i*3)) arr.toList).toArray).setRow b (rQ (off+i*3) vs (rQ (off+(i+1)*3) (cs.drop (i*3)) arr.toList)).toArray:=by
 have uS:=run_underlying Tryz.underlying24;have hz2: ¬((i:Int)=(n:Int)):=by omega
 have FZ:(Tryz.prog.info? 93).map (·.size)=aba 3:=by kernel_rfl
 have hdl:(cs.drop (i*3)).length=(n-i)*3:=by rw [ab1,IA,Nat.sub_mul]
 obtain ⟨A1,hA1⟩: ∃A1:List Value,A1=rQ (off+(i+1)*3) (cs.drop (i*3)) arr.toList:=⟨_,rfl⟩;have ajR:A1.length=arr.size:=by rw [hA1,dJ _ _ _ (by rw [hdl];simp;omega)];simp
 have RY:w.drew.heap[b]? =aba (.cells arr el (0,0)):=hg;have ajS: ∀ty dc sc,(Builtin.copy_ #[24,24] ty #[.slice (aba ⟨b,off+(i+1)*3,abb⟩) (n-i) dc,.slice (aba ⟨b,off+i*3,abb⟩) (n+1-i) sc]).run Tryz.prog w.drew= .ok (goInt (UV (n+1-i) (n-i))) (w.drew.setRow b A1.toArray):=fun ty dc sc=>by
  rw [hA1];refine uI w.drew 24 24 ty 93 3 b (off+(i+1)*3) _ dc ⟨b,off+i*3,abb⟩ _ sc arr el (cs.drop (i*3)) Tryz.underlying24 FZ RY ?_ (fun j v hj=>?_) (by rw [hdl];omega) (fun v hv=>h1c v (WF hv))
  · have:UV (n+1-i) (n-i)=n-i:=by show min _ _=_;omega
    rw [hdl,this]
  rw [Addr.add_lit,aaE]
  rw [aaF] at hj;have:=wB _ _ hj;rw [show w.drew.cell? ⟨b,off+(i*3+j),abb⟩=w.cell? ⟨b,off+(i*3+j),abb⟩ from rfl];simp only [NE,hg];exact this
 obtain ⟨W1,hW1⟩: ∃W1,W1=w.drew.setRow b A1.toArray:=⟨_,rfl⟩;have XG:W1.heap[b]? =aba (.cells A1.toArray el (0,0)):=by rw [hW1,cm RY];exact EQ (IR.1 RY).1
 have arh: ∀ty dc,(Builtin.copy_ #[24,24] ty #[.slice (aba ⟨b,off+i*3,abb⟩) (n+1-i) dc,.slice (aba ⟨vb,tH,abb⟩) 1 vc]).run Tryz.prog W1= .ok (goInt (UV 1 (n+1-i))) (W1.setRow b (rQ (off+i*3) vs A1).toArray):=fun ty dc=>by
  refine (uI W1 24 24 ty 93 3 b (off+i*3) _ dc ⟨vb,tH,abb⟩ 1 vc A1.toArray el vs Tryz.underlying24 FZ XG ?_ (fun j v hj=>?_) (by simp [ajR,Ww];omega) h1v)
  · have:UV 1 (n+1-i)=1:=by show min _ _=_;omega
    rw [Ww,this]
  rw [Addr.add_lit]
  have h1:=NK j v hj;rw [<- h1];have hh:W1.heap[vb]? =w.heap[vb]?:=by rw [hW1,cm RY,Array.getElem?_setIfInBounds,Do (fun e=>Zj e.symm)];rfl
  simp only [NE,hh]
 rw [<- hW1] at ajS;rw [<- hA1,<- hW1];have hw1:IntKind.i64.wrap ((i:Int)+1)=(i:Int)+1:=by rw [IntKind.wrap_i64];omega
 have Pp:(0:Int)<=(i:Int)+1:=by omega
 have D1:i<=n:=by omega
 have htn:((i:Int)+1).toNat=i+1:=by omega
 have Sf: ¬(c=i+1):=by omega
 have hb3:(i:Int)<=(n:Int)+1:=by omega
 have hb4: ¬(c=i):=by omega
 have mixed:Tryz.prog.follows .mixedOrders=abc:=Tryz.checked.mixed;clear XG hW1 ajR hA1 RY hg
 go_enter Tryz.func225,Tryz.ntmps225
 go_wp2_with (simp only [hov])
 go_region_law_o (refine Kw rfl _ _ 24 24 rfl _ _ (by simp [Act.eval,Act.put]) (by simp [Act.eval,Act.put]) (ajS _ _ _) ?_)
 go_wp2_with (at_builtin;refine He _ rfl _ _ 24 24 rfl _ _ rfl rfl (arh _ _) ?_)
 go_ret
 exact ⟨rfl,rfl⟩
set_option maxHeartbeats 4000000 in
set_option maxRecDepth 100000 in
theorem acB (qB:Option Addr) (n c vb tH vc:Nat) (w w':World) (v':Value) (_:n<=c)
 (dq:(Builtin.append_ #[24,24] 24 #[.slice qB n c,.slice (aba ⟨vb,tH,abb⟩) 1 vc]).run Tryz.prog w= .ok v' w'):
 Calls Tryz.prog 225 #[.slice qB n c,.int .i64 n,.slice (aba ⟨vb,tH,abb⟩) 1 vc] w fun e W=>e= .returned v'/\W=w':=by
 have uS:=run_underlying Tryz.underlying24;have mixed:Tryz.prog.follows .mixedOrders=abc:=Tryz.checked.mixed
 go_enter Tryz.func225,Tryz.ntmps225
 cases qB with
 |none=>
  go_wp2_with (at_builtin;refine If _ rfl _ _ _ _ rfl _ _ rfl rfl _ _ dq ?_)
  go_ret
  exact ⟨rfl,rfl⟩
 |some a=>
  obtain ⟨ab,ao,asp⟩:=a
  go_wp2_with (at_builtin;refine If _ rfl _ _ _ _ rfl _ _ rfl rfl _ _ dq ?_)
  all_goals (go_ret;exact ⟨rfl,rfl⟩)
set_option maxHeartbeats 4000000 in
set_option maxRecDepth 100000 in
theorem Zm (b off n i vb tH vc:Nat) (cs vs:List Value) (w:World) (hi:i<n) (hn:n<=1048576) (IA:cs.length=n*3) (Ww:vs.length=3)
 (wB: ∀j v,cs[j]? =aba v->w.cell? ⟨b,off+j,abb⟩=aba v) (NK: ∀j v,vs[j]? =aba v->w.cell? ⟨vb,tH+j,abb⟩=aba v) (h1c: ∀v∈cs,v.oneCell'=abc) (h1v: ∀v∈vs,v.oneCell'=abc):
 ∃(G:Nat) (BV:Array Value),n+1<=G/\BV.size=G*3/\(∀j v,j<i*3->cs[j]? =aba v->BV.toList[j]? =aba v)/\
 Calls Tryz.prog 225 #[.slice (aba ⟨b,off,abb⟩) n n,.int .i64 i,.slice (aba ⟨vb,tH,abb⟩) 1 vc] w fun e w'=>
  e= .returned (.slice (aba ⟨w.heap.size,0,abb⟩) (n+1) G)/\
  w'.heap=w.heap.push (.cells (rQ ((i+1)*3) (cs.drop (i*3)) (rQ (i*3) vs BV.toList)).toArray 93 (0,0))/\w'.os=w.os/\Go.Vm.Tape w w'/\w'.output=w.output:=by
 have uS:=run_underlying Tryz.underlying24;have u3:=run_underlying Tryz.underlying3;have mixed:Tryz.prog.follows .mixedOrders=abc:=Tryz.checked.mixed;have FZ:(Tryz.prog.info? 93).map (·.size)=aba 3:=by kernel_rfl
 have hzE:(Tryz.prog.info? 93).bind (·.zero)=aba (.agg #[.int .i64 0,.int .i64 0,.int .i64 0]):=by kernel_rfl
 have hbE:(Tryz.prog.info? 93).map (·.bytes)=aba 24:=by kernel_rfl
 obtain ⟨i0,Ps⟩: ∃i0,Tryz.prog.info? 93=aba i0:=by
  cases h:Tryz.prog.info? 93 with
  |none=>rw [h] at FZ;cases FZ
  |some i0=>exact ⟨i0,rfl⟩
 have PL:i0.size=3:=by rw [Ps] at FZ;simpa using FZ
 have hz0:i0.zero=aba (.agg #[.int .i64 0,.int .i64 0,.int .i64 0]):=by rw [Ps] at hzE;simpa using hzE
 have hzb:i0.bytes=24:=by rw [Ps] at hbE;simpa using hbE
 have hz2: ¬((i:Int)=(n:Int)):=by omega
 have hz3:(n:Int)<(n:Int)+1:=by omega
 have hbw:b<w.heap.size:=block_lt_of_cell (wB 0 _ (PP (by omega)));have hvw:vb<w.heap.size:=block_lt_of_cell (NK 0 _ (PP (by omega)));have Ao:(n:Int)+1- (i:Int)=((n+1-i:Nat):Int):=by omega
 have hik:i+(n+1-i)=n+1:=by omega
 have yY:(Builtin.firstCells i0.size i (.slice (aba ⟨b,off,abb⟩) i n)).run Tryz.prog w.drew= .ok (cs.take (i*3)).toArray w.drew:=by
  rw [PL];exact run_firstCells_some w.drew 3 i ⟨b,off,abb⟩ i n (cs.take (i*3)) (by rw [List.length_take];omega) (fun j v hj=>by
   rw [Addr.add_lit];rw [List.getElem?_take] at hj;split at hj
   · exact wB j v hj
   cases hj)
 have hrz: ∀ty,(Builtin.append_ #[24,3] ty #[.slice (aba ⟨b,off,abb⟩) i n,.int .i64 ((n:Int)+1- (i:Int))]).run Tryz.prog w= .ok (.slice (aba ⟨w.heap.size,0,abb⟩) (n+1) (grownCap w (n+1) n 93)) (w.drew.alloc (.cells ((cs.take (i*3)).toArray++Builtin.zeroCells (Value.agg #[.int .i64 0,.int .i64 0,.int .i64 0]).cells (n+1-i)++Builtin.zeroCells (Value.agg #[.int .i64 0,.int .i64 0,.int .i64 0]).cells (grownCap w (n+1) n 93- (n+1))) 93)):=fun ty=>by
  have h:=Lib.run_append_grow_zeros w 24 3 ty 93 i0 _ .i64 .i64 Tryz.underlying24 Tryz.underlying3 Ps hz0 (aba ⟨b,off,abb⟩) i n (cs.take (i*3)) yY (n+1-i) (by omega) (by omega) (by omega) (by omega) (by rw [hzb];omega) (by rw [hzb,hik];exact growslice_fits (by omega) (by omega));rw [hik] at h;rw [Ao];exact h
 obtain ⟨G,hG⟩: ∃G,G=grownCap w (n+1) n 93:=⟨_,rfl⟩;obtain ⟨BV,QI⟩: ∃BV:Array Value,BV=(cs.take (i*3)).toArray++Builtin.zeroCells (Value.agg #[.int .i64 0,.int .i64 0,.int .i64 0]).cells (n+1-i)++Builtin.zeroCells (Value.agg #[.int .i64 0,.int .i64 0,.int .i64 0]).cells (G- (n+1)):=⟨_,rfl⟩;rw [<- hG] at hrz;rw [<- QI] at hrz;have hGn:n+1<=G:=by rw [hG];exact grownCap_ge w _ _ _
 have hRl:BV.size=G*3:=by rw [QI];simp [Builtin.zeroCells,Value.cells];omega
 refine ⟨G,BV,hGn,hRl,fun j v hj hc=>?_,?_⟩
 · rw [QI]
   simp only [Array.toList_append];rw [List.append_assoc,List.getElem?_append_left (by simp;omega)];simp only [List.getElem?_take_of_lt hj];exact hc
 obtain ⟨W1,hW1⟩: ∃W1,W1=w.drew.alloc (.cells BV 93):=⟨_,rfl⟩;rw [<- hW1] at hrz;have hh1:W1.heap=w.heap.push (.cells BV 93 (0,0)):=by rw [hW1];rfl
 have Mn:W1.os=w.os/\Go.Vm.Tape w W1/\W1.output=w.output:=by rw [hW1];exact ⟨rfl,⟨rfl,Nat.le_succ _⟩,rfl⟩
 have QJ: ∀(x y:Obj),(w.heap.push x).setIfInBounds w.heap.size y=w.heap.push y:=fun x y=>by apply Array.ext';simp
 obtain ⟨A,hA⟩: ∃A:List Value,A=rQ (i*3) vs BV.toList:=⟨_,rfl⟩;have hAl:A.length=G*3:=by rw [hA,dJ _ _ _ (by rw [Ww];simp [hRl];omega)];simpa using hRl
 rw [<- hA];have hdl:(cs.drop (i*3)).length=(n-i)*3:=by rw [ab1,IA,Nat.sub_mul]
 have ark: ∀(W:World),W.heap=W1.heap-> ∀ty dc,(Builtin.copy_ #[24,24] ty #[.slice (aba ⟨w.heap.size,i*3,abb⟩) (n+1-i) dc,.slice (aba ⟨vb,tH,abb⟩) 1 vc]).run Tryz.prog W= .ok (goInt (UV 1 (n+1-i))) (W.setRow w.heap.size A.toArray):=fun W hW ty dc=>by
  rw [hA];refine uI W 24 24 ty 93 3 w.heap.size (i*3) _ dc ⟨vb,tH,abb⟩ 1 vc BV 93 vs Tryz.underlying24 FZ (by rw [hW,hh1];simp) ?_ (fun j v hj=>?_) (by rw [Ww,hRl];omega) h1v
  · have:UV 1 (n+1-i)=1:=by show min _ _=_;omega
    rw [Ww,this]
  rw [Addr.add_lit]
  have h1:=NK j v hj;rw [<- h1];have hh:W.heap[vb]? =w.heap[vb]?:=by rw [hW,hh1,aa9,Do (by omega)]
  simp only [NE,hh]
 have ajU: ∀(W:World),W.heap=(W1.setRow w.heap.size A.toArray).heap-> ∀ty dc sc,(Builtin.copy_ #[24,24] ty #[.slice (aba ⟨w.heap.size,(i+1)*3,abb⟩) (n-i) dc,.slice (aba ⟨b,off+i*3,abb⟩) (n-i) sc]).run Tryz.prog W= .ok (goInt (UV (n-i) (n-i))) (W.setRow w.heap.size (rQ ((i+1)*3) (cs.drop (i*3)) A).toArray):=fun W hW ty dc sc=>by
  have XG:W1.heap[w.heap.size]? =aba (.cells BV 93 (0,0)):=by rw [hh1];simp
  have NU:W.heap=w.heap.push (.cells A.toArray 93 (0,0)):=by rw [hW,cm XG,hh1,QJ]
  have e:=uI (P:=Tryz.prog) W 24 24 ty 93 3 w.heap.size ((i+1)*3) (n-i) dc ⟨b,off+i*3,abb⟩ (n-i) sc A.toArray 93 (cs.drop (i*3)) Tryz.underlying24 FZ (by rw [NU];simp) (by
   have:UV (n-i) (n-i)=n-i:=by show min _ _=_;omega
   rw [hdl,this]) (fun j v hj=>by
   rw [Addr.add_lit,aaE];rw [aaF] at hj;have h1:=wB _ _ hj;rw [<- h1];have hh:W.heap[b]? =w.heap[b]?:=by rw [NU,aa9,Do (by omega)]
   simp only [NE,hh]) (by rw [hdl];simp [hAl];omega) (fun v hv=>h1c v (WF hv))
  exact e
 have ajV:G<=9223372036854775807:=by have:=grownCap_le_maxLen w (n+1) n 93 (by unfold maxLen;omega);rw [<- hG] at this;unfold maxLen at this;omega
 have hGi: ¬(G=i):=by omega
 have axQ: ¬(G=i+1):=by omega
 have hci: ¬(n=i):=by omega
 have hw1:IntKind.i64.wrap ((i:Int)+1)=(i:Int)+1:=by rw [IntKind.wrap_i64];omega
 have Pp:(0:Int)<=(i:Int)+1:=by omega
 have D1:i<=n:=by omega
 have htn:((i:Int)+1).toNat=i+1:=by omega
 have hb3:(i:Int)<=(n:Int):=by omega
 have fin: ∀W:World,W.heap=(W1.setRow w.heap.size A.toArray).heap->(W.setRow w.heap.size (rQ ((i+1)*3) (cs.drop (i*3)) A).toArray).heap=w.heap.push (.cells (rQ ((i+1)*3) (cs.drop (i*3)) A).toArray 93 (0,0)):=fun W hW=>by
  have XG:W1.heap[w.heap.size]? =aba (.cells BV 93 (0,0)):=by rw [hh1];simp
  have NU:W.heap=w.heap.push (.cells A.toArray 93 (0,0)):=by rw [hW,cm XG,hh1,QJ]
  have hg2:W.heap[w.heap.size]? =aba (.cells A.toArray 93 (0,0)):=by rw [NU];simp
  rw [cm hg2,NU,QJ]
 clear Ao hik yY QI hG hRl hA hAl hW1 hh1 QJ
 go_enter Tryz.func225,Tryz.ntmps225
 go_wp2_with (first
  |(at_builtin;refine If _ rfl _ _ _ _ rfl _ _ rfl rfl _ _ (hrz _) ?_)
  |(at_builtin;refine He _ rfl _ _ 24 24 rfl _ _ rfl rfl (ark _ rfl _ _) ?_)
  |(at_builtin;refine He _ rfl _ _ 24 24 rfl _ _ rfl rfl (ajU _ rfl _ _ _) ?_))
 have hF:((W1.setRow w.heap.size A.toArray).drew).heap=(W1.setRow w.heap.size A.toArray).heap:=rfl
 go_region_law_o (refine Kw rfl _ _ 24 24 rfl (.slice (aba ⟨w.heap.size,(i+1)*3,abb⟩) (n-i) (G- (i+1))) (.slice (aba ⟨b,off+i*3,abb⟩) (n-i) (n-i)) (by simp [Act.eval,Act.put]) (by simp [Act.eval,Act.put]) (ajU _ hF 3 (G- (i+1)) (n-i)) ?_)
 go_wp2
 go_ret
 exact ⟨rfl,fin _ rfl,Mn.1,⟨Mn.2.1.eq,Nat.le_succ_of_le Mn.2.1.dr⟩,Mn.2.2⟩
theorem Wx:Qe Tryz.prog 225 3 24 where
 ends:=acB
 room b off n c i vb tH vc cs vs arr av el ev w hi ye hn Zj hg hgv wC IA Ww wB NK h1c h1v:=by
  have FZ:(Tryz.prog.info? 93).map (·.size)=aba 3:=by kernel_rfl
  have hz: ∀w,(sizeOf 93).run Tryz.prog w= .ok 3 w:=fun w=>by
   cases h:Tryz.prog.info? 93 with
   |none=>rw [h] at FZ;cases FZ
   |some i0=>rw [h] at FZ;simp [sizeOf,typeInfo,h];simpa using FZ
  have h3:(i+1)*3=i*3+vs.length:=by omega
  have hov: ∀lb cb,(callFunc 279 #[.slice (aba ⟨vb,tH,abb⟩) 1 vc,.slice (aba ⟨b,off+(i+1)*3,abb⟩) lb cb]).run Tryz.prog w= .ok (.value (.bool false)) w:=fun lb cb=>by
   rw [run_callFunc_extern Tryz.func279 (by kernel_rfl) (by kernel_rfl) (by kernel_rfl) (e:=Extern.SlicesOverlaps.overlaps #[24,24] #[4]) (by kernel_rfl),
    Lib.run_overlaps_apart w 24 4 93 Tryz.underlying24 3 hz ⟨vb,tH,abb⟩ ⟨b,off+(i+1)*3,abb⟩ 1 vc lb cb Zj ev el av.size arr.size (by simp [ab4,hgv]) (by simp [ab4,hg]) (by omega) (by simp [ab3,hgv]) (by simp [ab3,hgv])]
   rfl
  have Me:(rQ (off+(i+1)*3) (cs.drop (i*3)) arr.toList).length=arr.size:=by rw [dJ _ _ _ (by simp [IA];omega)];simp
  refine ⟨rQ (off+i*3) vs (rQ (off+(i+1)*3) (cs.drop (i*3)) arr.toList),?_,?_,?_⟩
  · rw [dJ _ _ _ (by rw [Me];omega),Me]
  · rw [h3,<- aaE]
    exact abQ (by simp [IA,Ww];omega) (by omega) fun j v _ hj=>by simpa using wB j v hj
  refine (Zl b off n c i vb tH vc cs vs arr el w hi ye hn Zj hg wC IA Ww wB (fun j v hj=>by simp only [NE,hgv];exact NK j v hj) h1c h1v hov).mono fun x w' ⟨hx,hw⟩=>?_
  subst hw;refine ⟨hx,?_,rfl,⟨rfl,Nat.le_succ _⟩,rfl⟩;have RY:w.drew.heap[b]? =aba (.cells arr el (0,0)):=hg;have iz:=(IR.1 RY).1;have e1:=cm (w:=w.drew) (cs:=(rQ (off+(i+1)*3) (cs.drop (i*3)) arr.toList).toArray) RY;rw [cm (cur:=(rQ (off+(i+1)*3) (cs.drop (i*3)) arr.toList).toArray) (t:=el) (by rw [e1];exact EQ iz),e1,Array.setIfInBounds_setIfInBounds];rfl
 full b off n i vb tH vc cs vs w hi hn IA Ww wB NK h1c h1v:=by
  obtain ⟨G,BV,g1,g2,g3,g4⟩:=Zm b off n i vb tH vc cs vs w hi hn IA Ww wB NK h1c h1v;have h3:(i+1)*3=i*3+vs.length:=by omega
  have Me:(rQ (i*3) vs BV.toList).length=G*3:=by rw [dJ _ _ _ (by simp [g2,Ww];omega)];simp [g2]
  refine ⟨G,_,93,g1,?_,?_,g4⟩
  · rw [dJ _ _ _ (by rw [Me];simp [IA];omega),Me]
  rw [h3]
  exact Ys (by simp [g2,IA,Ww];omega) (by omega) g3
theorem agh:Fs Tryz.prog 225 (Ny 3):=by
 have FZ:(Tryz.prog.info? 93).map (·.size)=aba 3:=by kernel_rfl
 have hzE:(Tryz.prog.info? 93).bind (·.zero)=aba (.agg #[.int .i64 0,.int .i64 0,.int .i64 0]):=by kernel_rfl
 have hbE:(Tryz.prog.info? 93).map (·.bytes)=aba 24:=by kernel_rfl
 cases h:Tryz.prog.info? 93 with
 |none=>rw [h] at FZ;cases FZ
 |some i0=>
  rw [h] at FZ hzE hbE;have hb:i0.bytes=24:=by simpa using hbE
  cases hc:Tryz.f225.body with
  |none=>exact absurd hc (by intro h;cases h)
  |some c=>exact Fs.ins Tryz.func225 (by kernel_rfl) hc Tryz.underlying24 h (by simpa using FZ) (by simpa using hzE) rfl (by omega) (by decide) Wx
end Go.Proofs.YthljiplggdanpaaGreat
