/- slices.Insert of one point: what the call does to the cells. -/
import Derived.Test.YtfejhjllooomlaaGreatChecked
import Derived.WalkKit
import Derived.Lib.Walk
import Derived.Lib.SliceRun
import Derived.Lib.Overlaps
import Derived.Lib.AppendZerosOnto
import Derived.Laws.Externs
import Derived.Laws.NewBlocks
import Derived.Shelf.RegionOpenPlain
import Derived.Test.YtfejhjllooomlaaGreatAVm2
open Array renaming getElem?_setIfInBounds_self_of_lt->lw,getElem?_eq_some_iff->ut,getElem?_push->Do
open Go.Lib renaming wpList_append_run->rc
open Go.World renaming cell?->v4,frozen?->M2,shape?->NE
open List renaming getElem?_eq_getElem->v6,mem_of_mem_drop->AC,getElem?_drop->If,length_drop->IR
open Nat renaming min->ww,add_assoc->EQ
open Option renaming some->PP,none->UV
open Bool renaming true->aa4
namespace Go.Proofs.YtfejhjllooomlaaGreat
open Go.RowKit Go.Lib Go.Vm
theorem KX {P:Program} (w:World) {o:Oper} {a:Act} {K:Act->World->Prop} {Q:Exit->Act->World->Prop} (d s:Operand) (t t':TypeId)
 (ho:o.op= .call {callee:= .builtin .copy,args:= #[d,s],argTypes:= #[t,t']}) (v u:Value) (hd:a.eval d=v) (hs:a.eval s=u) {v':Value} {w':World}
 (hr:(Builtin.copy_ #[t,t'] o.type #[v,u]).run P w= .ok v' w') (h:K (a.put o.dst v') w'):o.wp P a w K Q:=by
 unfold Oper.wp execOp;simp only [ho,resolve,invoke,builtin,Sem.run_bind,Sem.run_pure,Result.andThen_ok,List.map_toArray,List.map_cons,List.map_nil,hd,hs,hr];exact h
theorem CJ {P:Program} (w:World) {ops:Array Oper} {rest:List Oper} {o:Oper} {a:Act} {Q:Exit->Act->World->Prop} (L4:o.guard=UV) (d s:Operand) (t t':TypeId)
 (ho:o.op= .call {callee:= .builtin .copy,args:= #[d,s],argTypes:= #[t,t']}) (v u:Value) (hd:a.eval d=v) (hs:a.eval s=u) {v':Value} {w':World}
 (hr:(Builtin.copy_ #[t,t'] o.type #[v,u]).run P w= .ok v' w') (h:wpList P ops Q rest (a.put o.dst v') w'):wpList P ops Q (o::rest) a w:=
 wpList_plain L4 fun _ hK=>KX w d s t t' ho v u hd hs hr (hK _ _ h)
theorem FI {P:Program} {ops:Array Oper} {o:Oper} {a:Act} {w:World} {K:Act->World->Prop} {Q:Exit->Act->World->Prop} {E:Prop}
 (hg:o.guard=UV) (d x:Operand) (dT sT:TypeId) (fR:o.op=Op.call {callee:=Callee.builtin Builtin.copy,args:= #[d,x],argTypes:= #[dT,sT]})
 (v u:Value) (hd:a.eval d=v) (hx:a.eval x=u) {v':Value} {w':World} (hr:(Builtin.copy_ #[dT,sT] o.type #[v,u]).run P w= .ok v' w') (hK:K (a.put o.dst v') w'):
 if Region.wanted o (yielded ops a.tmps)=aa4 then Oper.wp P o a w K Q else E:=by
 have hw:Region.wanted o (yielded ops a.tmps)=aa4:=by simp [Region.wanted,hg]
 rw [lm hw];exact KX w d x dT sT fR v u hd hx hr hK
set_option maxHeartbeats 4000000 in
set_option maxRecDepth 100000 in
theorem S6 (b off n c i vb o3 vc:Nat) (cs vs:List Value) (arr:Array Value) (el:TypeId) (w:World) (hi:i<n) (tQ:n+1<=c) (hn6:n<=1048576) (hvb:vb≠b)
 (hg:w.heap[b]? =PP (.cells arr el (0,0))) (xI:off+(n+1)*3<=arr.size) (zK:cs.length=n*3) (Qw:vs.length=3)
 (np: ∀j v,cs[j]? =PP v->arr[off+j]? =PP v) (Is: ∀j v,vs[j]? =PP v->w.cell? ⟨vb,o3+j,UV⟩=PP v) (h1c: ∀v∈cs,v.oneCell'=aa4) (h1v: ∀v∈vs,v.oneCell'=aa4)
 (hov: ∀lb cb,(callFunc 152 #[.slice (PP ⟨vb,o3,UV⟩) 1 vc,.slice (PP ⟨b,off+(i+1)*3,UV⟩) lb cb]).run Tryz.prog w= .ok (.value (.bool false)) w):
 Calls Tryz.prog 90 #[.slice (PP ⟨b,off,UV⟩) n c,.int .i64 i,.slice (PP ⟨vb,o3,UV⟩) 1 vc] w fun e w'=>
  e= .returned (.slice (PP ⟨b,off,UV⟩) (n+1) c)/\w'=(w.drew.setRow b (nH (off+(i+1)*3) (cs.drop (i*3)) arr.toList).toArray).setRow b (nH (off+i*3) vs (nH (off+(i+1)*3) (cs.drop (i*3)) arr.toList)).toArray:=by
 have uS:=run_underlying Tryz.underlying24;have hz2: ¬((i:Int)=(n:Int)):=by omega
 have I3:(Tryz.prog.info? 76).map (·.size)=PP 3:=by kernel_rfl
 have hdl:(cs.drop (i*3)).length=(n-i)*3:=by rw [IR,zK,Nat.sub_mul]
 obtain ⟨A1,hA1⟩: ∃A1:List Value,A1=nH (off+(i+1)*3) (cs.drop (i*3)) arr.toList:=⟨_,rfl⟩;have alg:A1.length=arr.size:=by rw [hA1,dA _ _ _ (by rw [hdl];simp;omega)];simp
 have L4:w.drew.heap[b]? =PP (.cells arr el (0,0)):=hg;have alh: ∀ty dc sc,(Builtin.copy_ #[24,24] ty #[.slice (PP ⟨b,off+(i+1)*3,UV⟩) (n-i) dc,.slice (PP ⟨b,off+i*3,UV⟩) (n+1-i) sc]).run Tryz.prog w.drew= .ok (goInt (ww (n+1-i) (n-i))) (w.drew.setRow b A1.toArray):=fun ty dc sc=>by
  rw [hA1];refine pW w.drew 24 24 ty 76 3 b (off+(i+1)*3) _ dc ⟨b,off+i*3,UV⟩ _ sc arr el (cs.drop (i*3)) Tryz.underlying24 I3 L4 ?_ (fun j v hj=>?_) (by rw [hdl];omega) (fun v hv=>h1c v (AC hv))
  · have:ww (n+1-i) (n-i)=n-i:=by show min _ _=_;omega
    rw [hdl,this]
  rw [Addr.add_lit,EQ]
  rw [If] at hj;have:=np _ _ hj;rw [show w.drew.cell? ⟨b,off+(i*3+j),UV⟩=w.cell? ⟨b,off+(i*3+j),UV⟩ from rfl];simp only [v4,hg];exact this
 obtain ⟨W1,UN⟩: ∃W1,W1=w.drew.setRow b A1.toArray:=⟨_,rfl⟩;have Vj:W1.heap[b]? =PP (.cells A1.toArray el (0,0)):=by rw [UN,cu L4];exact lw (ut.1 L4).1
 have aq2: ∀ty dc,(Builtin.copy_ #[24,24] ty #[.slice (PP ⟨b,off+i*3,UV⟩) (n+1-i) dc,.slice (PP ⟨vb,o3,UV⟩) 1 vc]).run Tryz.prog W1= .ok (goInt (ww 1 (n+1-i))) (W1.setRow b (nH (off+i*3) vs A1).toArray):=fun ty dc=>by
  refine (pW W1 24 24 ty 76 3 b (off+i*3) _ dc ⟨vb,o3,UV⟩ 1 vc A1.toArray el vs Tryz.underlying24 I3 Vj ?_ (fun j v hj=>?_) (by simp [alg,Qw];omega) h1v)
  · have:ww 1 (n+1-i)=1:=by show min _ _=_;omega
    rw [Qw,this]
  rw [Addr.add_lit]
  have h1:=Is j v hj;rw [<- h1];have hh:W1.heap[vb]? =w.heap[vb]?:=by rw [UN,cu L4,Array.getElem?_setIfInBounds,ls (fun e=>hvb e.symm)];rfl
  simp only [v4,hh]
 rw [<- UN] at alh;rw [<- hA1,<- UN];have hw1:IntKind.i64.wrap ((i:Int)+1)=(i:Int)+1:=by rw [IntKind.wrap_i64];omega
 have J3:(0:Int)<=(i:Int)+1:=by omega
 have rq:i<=n:=by omega
 have htn:((i:Int)+1).toNat=i+1:=by omega
 have RN: ¬(c=i+1):=by omega
 have hb3:(i:Int)<=(n:Int)+1:=by omega
 have hb4: ¬(c=i):=by omega
 have mixed:Tryz.prog.follows .mixedOrders=aa4:=Tryz.checked.mixed;clear Vj UN alg hA1 L4 hg
 go_enter Tryz.func90,Tryz.ntmps90
 go_wp2_with (simp only [hov])
 go_region_law_o (refine FI rfl _ _ 24 24 rfl _ _ (by simp [Act.eval,Act.put]) (by simp [Act.eval,Act.put]) (alh _ _ _) ?_)
 go_wp2_with (at_builtin;refine CJ _ rfl _ _ 24 24 rfl _ _ rfl rfl (aq2 _ _) ?_)
 go_ret
 exact ⟨rfl,rfl⟩
set_option maxHeartbeats 4000000 in
set_option maxRecDepth 100000 in
theorem YH (oo:Option Addr) (n c vb o3 vc:Nat) (w w':World) (v':Value) (_:n<=c)
 (cf:(Builtin.append_ #[24,24] 24 #[.slice oo n c,.slice (PP ⟨vb,o3,UV⟩) 1 vc]).run Tryz.prog w= .ok v' w'):
 Calls Tryz.prog 90 #[.slice oo n c,.int .i64 n,.slice (PP ⟨vb,o3,UV⟩) 1 vc] w fun e W=>e= .returned v'/\W=w':=by
 have uS:=run_underlying Tryz.underlying24;have mixed:Tryz.prog.follows .mixedOrders=aa4:=Tryz.checked.mixed
 go_enter Tryz.func90,Tryz.ntmps90
 cases oo with
 |none=>
  go_wp2_with (at_builtin;refine rc _ rfl _ _ _ _ rfl _ _ rfl rfl _ _ cf ?_)
  go_ret
  exact ⟨rfl,rfl⟩
 |some a=>
  obtain ⟨ab,ao,asp⟩:=a
  go_wp2_with (at_builtin;refine rc _ rfl _ _ _ _ rfl _ _ rfl rfl _ _ cf ?_)
  all_goals (go_ret;exact ⟨rfl,rfl⟩)
set_option maxHeartbeats 4000000 in
set_option maxRecDepth 100000 in
theorem S7 (b off n i vb o3 vc:Nat) (cs vs:List Value) (w:World) (hi:i<n) (hn:n<=1048576) (zK:cs.length=n*3) (Qw:vs.length=3)
 (np: ∀j v,cs[j]? =PP v->w.cell? ⟨b,off+j,UV⟩=PP v) (Is: ∀j v,vs[j]? =PP v->w.cell? ⟨vb,o3+j,UV⟩=PP v) (h1c: ∀v∈cs,v.oneCell'=aa4) (h1v: ∀v∈vs,v.oneCell'=aa4):
 ∃(G:Nat) (L6:Array Value),n+1<=G/\L6.size=G*3/\(∀j v,j<i*3->cs[j]? =PP v->L6.toList[j]? =PP v)/\
 Calls Tryz.prog 90 #[.slice (PP ⟨b,off,UV⟩) n n,.int .i64 i,.slice (PP ⟨vb,o3,UV⟩) 1 vc] w fun e w'=>
  e= .returned (.slice (PP ⟨w.heap.size,0,UV⟩) (n+1) G)/\
  w'.heap=w.heap.push (.cells (nH ((i+1)*3) (cs.drop (i*3)) (nH (i*3) vs L6.toList)).toArray 76 (0,0))/\w'.os=w.os/\Go.Vm.Tape w w'/\w'.output=w.output:=by
 have uS:=run_underlying Tryz.underlying24;have u3:=run_underlying Tryz.underlying3;have mixed:Tryz.prog.follows .mixedOrders=aa4:=Tryz.checked.mixed;have I3:(Tryz.prog.info? 76).map (·.size)=PP 3:=by kernel_rfl
 have hzE:(Tryz.prog.info? 76).bind (·.zero)=PP (.agg #[.int .i64 0,.int .i64 0,.int .i64 0]):=by kernel_rfl
 have hbE:(Tryz.prog.info? 76).map (·.bytes)=PP 24:=by kernel_rfl
 obtain ⟨i0,R4⟩: ∃i0,Tryz.prog.info? 76=PP i0:=by
  cases h:Tryz.prog.info? 76 with
  |none=>rw [h] at I3;cases I3
  |some i0=>exact ⟨i0,rfl⟩
 have Rl:i0.size=3:=by rw [R4] at I3;simpa using I3
 have hz0:i0.zero=PP (.agg #[.int .i64 0,.int .i64 0,.int .i64 0]):=by rw [R4] at hzE;simpa using hzE
 have hzb:i0.bytes=24:=by rw [R4] at hbE;simpa using hbE
 have hz2: ¬((i:Int)=(n:Int)):=by omega
 have hz3:(n:Int)<(n:Int)+1:=by omega
 have hbw:b<w.heap.size:=block_lt_of_cell (np 0 _ (v6 (by omega)));have hvw:vb<w.heap.size:=block_lt_of_cell (Is 0 _ (v6 (by omega)));have vu:(n:Int)+1- (i:Int)=((n+1-i:Nat):Int):=by omega
 have JD:i+(n+1-i)=n+1:=by omega
 have xJ:(Builtin.firstCells i0.size i (.slice (PP ⟨b,off,UV⟩) i n)).run Tryz.prog w.drew= .ok (cs.take (i*3)).toArray w.drew:=by
  rw [Rl];exact run_firstCells_some w.drew 3 i ⟨b,off,UV⟩ i n (cs.take (i*3)) (by rw [List.length_take];omega) (fun j v hj=>by
   rw [Addr.add_lit];rw [List.getElem?_take] at hj;split at hj
   · exact np j v hj
   cases hj)
 have hrz: ∀ty,(Builtin.append_ #[24,3] ty #[.slice (PP ⟨b,off,UV⟩) i n,.int .i64 ((n:Int)+1- (i:Int))]).run Tryz.prog w= .ok (.slice (PP ⟨w.heap.size,0,UV⟩) (n+1) (grownCap w (n+1) n 76)) (w.drew.alloc (.cells ((cs.take (i*3)).toArray++Builtin.zeroCells (Value.agg #[.int .i64 0,.int .i64 0,.int .i64 0]).cells (n+1-i)++Builtin.zeroCells (Value.agg #[.int .i64 0,.int .i64 0,.int .i64 0]).cells (grownCap w (n+1) n 76- (n+1))) 76)):=fun ty=>by
  have h:=Lib.run_append_grow_zeros w 24 3 ty 76 i0 _ .i64 .i64 Tryz.underlying24 Tryz.underlying3 R4 hz0 (PP ⟨b,off,UV⟩) i n (cs.take (i*3)) xJ (n+1-i) (by omega) (by omega) (by omega) (by omega) (by rw [hzb];omega) (by rw [hzb,JD];exact growslice_fits (by omega) (by omega));rw [JD] at h;rw [vu];exact h
 obtain ⟨G,hG⟩: ∃G,G=grownCap w (n+1) n 76:=⟨_,rfl⟩;obtain ⟨L6,YI⟩: ∃L6:Array Value,L6=(cs.take (i*3)).toArray++Builtin.zeroCells (Value.agg #[.int .i64 0,.int .i64 0,.int .i64 0]).cells (n+1-i)++Builtin.zeroCells (Value.agg #[.int .i64 0,.int .i64 0,.int .i64 0]).cells (G- (n+1)):=⟨_,rfl⟩;rw [<- hG] at hrz;rw [<- YI] at hrz;have hGn:n+1<=G:=by rw [hG];exact grownCap_ge w _ _ _
 have hRl:L6.size=G*3:=by rw [YI];simp [Builtin.zeroCells,Value.cells];omega
 refine ⟨G,L6,hGn,hRl,fun j v hj hc=>?_,?_⟩
 · rw [YI]
   simp only [Array.toList_append];rw [List.append_assoc,List.getElem?_append_left (by simp;omega)];simp only [List.getElem?_take_of_lt hj];exact hc
 obtain ⟨W1,UN⟩: ∃W1,W1=w.drew.alloc (.cells L6 76):=⟨_,rfl⟩;rw [<- UN] at hrz;have hh1:W1.heap=w.heap.push (.cells L6 76 (0,0)):=by rw [UN];rfl
 have Kr:W1.os=w.os/\Go.Vm.Tape w W1/\W1.output=w.output:=by rw [UN];exact ⟨rfl,⟨rfl,Nat.le_succ _⟩,rfl⟩
 have YJ: ∀(x y:Obj),(w.heap.push x).setIfInBounds w.heap.size y=w.heap.push y:=fun x y=>by apply Array.ext';simp
 obtain ⟨A,hA⟩: ∃A:List Value,A=nH (i*3) vs L6.toList:=⟨_,rfl⟩;have hAl:A.length=G*3:=by rw [hA,dA _ _ _ (by rw [Qw];simp [hRl];omega)];simpa using hRl
 rw [<- hA];have hdl:(cs.drop (i*3)).length=(n-i)*3:=by rw [IR,zK,Nat.sub_mul]
 have aq3: ∀(W:World),W.heap=W1.heap-> ∀ty dc,(Builtin.copy_ #[24,24] ty #[.slice (PP ⟨w.heap.size,i*3,UV⟩) (n+1-i) dc,.slice (PP ⟨vb,o3,UV⟩) 1 vc]).run Tryz.prog W= .ok (goInt (ww 1 (n+1-i))) (W.setRow w.heap.size A.toArray):=fun W hW ty dc=>by
  rw [hA];refine pW W 24 24 ty 76 3 w.heap.size (i*3) _ dc ⟨vb,o3,UV⟩ 1 vc L6 76 vs Tryz.underlying24 I3 (by rw [hW,hh1];simp) ?_ (fun j v hj=>?_) (by rw [Qw,hRl];omega) h1v
  · have:ww 1 (n+1-i)=1:=by show min _ _=_;omega
    rw [Qw,this]
  rw [Addr.add_lit]
  have h1:=Is j v hj;rw [<- h1];have hh:W.heap[vb]? =w.heap[vb]?:=by rw [hW,hh1,Do,ls (by omega)]
  simp only [v4,hh]
 have alm: ∀(W:World),W.heap=(W1.setRow w.heap.size A.toArray).heap-> ∀ty dc sc,(Builtin.copy_ #[24,24] ty #[.slice (PP ⟨w.heap.size,(i+1)*3,UV⟩) (n-i) dc,.slice (PP ⟨b,off+i*3,UV⟩) (n-i) sc]).run Tryz.prog W= .ok (goInt (ww (n-i) (n-i))) (W.setRow w.heap.size (nH ((i+1)*3) (cs.drop (i*3)) A).toArray):=fun W hW ty dc sc=>by
  have Vj:W1.heap[w.heap.size]? =PP (.cells L6 76 (0,0)):=by rw [hh1];simp
  have PR:W.heap=w.heap.push (.cells A.toArray 76 (0,0)):=by rw [hW,cu Vj,hh1,YJ]
  have e:=pW (P:=Tryz.prog) W 24 24 ty 76 3 w.heap.size ((i+1)*3) (n-i) dc ⟨b,off+i*3,UV⟩ (n-i) sc A.toArray 76 (cs.drop (i*3)) Tryz.underlying24 I3 (by rw [PR];simp) (by
   have:ww (n-i) (n-i)=n-i:=by show min _ _=_;omega
   rw [hdl,this]) (fun j v hj=>by
   rw [Addr.add_lit,EQ];rw [If] at hj;have h1:=np _ _ hj;rw [<- h1];have hh:W.heap[b]? =w.heap[b]?:=by rw [PR,Do,ls (by omega)]
   simp only [v4,hh]) (by rw [hdl];simp [hAl];omega) (fun v hv=>h1c v (AC hv))
  exact e
 have avJ:G<=9223372036854775807:=by have:=grownCap_le_maxLen w (n+1) n 76 (by unfold maxLen;omega);rw [<- hG] at this;unfold maxLen at this;omega
 have hGi: ¬(G=i):=by omega
 have avK: ¬(G=i+1):=by omega
 have hci: ¬(n=i):=by omega
 have hw1:IntKind.i64.wrap ((i:Int)+1)=(i:Int)+1:=by rw [IntKind.wrap_i64];omega
 have J3:(0:Int)<=(i:Int)+1:=by omega
 have rq:i<=n:=by omega
 have htn:((i:Int)+1).toNat=i+1:=by omega
 have hb3:(i:Int)<=(n:Int):=by omega
 have fin: ∀W:World,W.heap=(W1.setRow w.heap.size A.toArray).heap->(W.setRow w.heap.size (nH ((i+1)*3) (cs.drop (i*3)) A).toArray).heap=w.heap.push (.cells (nH ((i+1)*3) (cs.drop (i*3)) A).toArray 76 (0,0)):=fun W hW=>by
  have Vj:W1.heap[w.heap.size]? =PP (.cells L6 76 (0,0)):=by rw [hh1];simp
  have PR:W.heap=w.heap.push (.cells A.toArray 76 (0,0)):=by rw [hW,cu Vj,hh1,YJ]
  have hg2:W.heap[w.heap.size]? =PP (.cells A.toArray 76 (0,0)):=by rw [PR];simp
  rw [cu hg2,PR,YJ]
 clear vu JD xJ YI hG hRl hA hAl UN hh1 YJ
 go_enter Tryz.func90,Tryz.ntmps90
 go_wp2_with (first
  |(at_builtin;refine rc _ rfl _ _ _ _ rfl _ _ rfl rfl _ _ (hrz _) ?_)
  |(at_builtin;refine CJ _ rfl _ _ 24 24 rfl _ _ rfl rfl (aq3 _ rfl _ _) ?_)
  |(at_builtin;refine CJ _ rfl _ _ 24 24 rfl _ _ rfl rfl (alm _ rfl _ _ _) ?_))
 have hF:((W1.setRow w.heap.size A.toArray).drew).heap=(W1.setRow w.heap.size A.toArray).heap:=rfl
 go_region_law_o (refine FI rfl _ _ 24 24 rfl (.slice (PP ⟨w.heap.size,(i+1)*3,UV⟩) (n-i) (G- (i+1))) (.slice (PP ⟨b,off+i*3,UV⟩) (n-i) (n-i)) (by simp [Act.eval,Act.put]) (by simp [Act.eval,Act.put]) (alm _ hF 3 (G- (i+1)) (n-i)) ?_)
 go_wp2
 go_ret
 exact ⟨rfl,fin _ rfl,Kr.1,⟨Kr.2.1.eq,Nat.le_succ_of_le Kr.2.1.dr⟩,Kr.2.2⟩
theorem Qx:Kt Tryz.prog 90 3 24 where
 ends:=YH
 room b off n c i vb o3 vc cs vs arr av el ev w hi tQ hn hvb hg hgv xI zK Qw np Is h1c h1v:=by
  have I3:(Tryz.prog.info? 76).map (·.size)=PP 3:=by kernel_rfl
  have hz: ∀w,(sizeOf 76).run Tryz.prog w= .ok 3 w:=fun w=>by
   cases h:Tryz.prog.info? 76 with
   |none=>rw [h] at I3;cases I3
   |some i0=>rw [h] at I3;simp [sizeOf,typeInfo,h];simpa using I3
  have h3:(i+1)*3=i*3+vs.length:=by omega
  have hov: ∀lb cb,(callFunc 152 #[.slice (PP ⟨vb,o3,UV⟩) 1 vc,.slice (PP ⟨b,off+(i+1)*3,UV⟩) lb cb]).run Tryz.prog w= .ok (.value (.bool false)) w:=fun lb cb=>by
   rw [run_callFunc_extern Tryz.func152 (by kernel_rfl) (by kernel_rfl) (by kernel_rfl) (e:=Extern.SlicesOverlaps.overlaps #[24,24] #[4]) (by kernel_rfl),
    Lib.run_overlaps_apart w 24 4 76 Tryz.underlying24 3 hz ⟨vb,o3,UV⟩ ⟨b,off+(i+1)*3,UV⟩ 1 vc lb cb hvb ev el av.size arr.size (by simp [NE,hgv]) (by simp [NE,hg]) (by omega) (by simp [M2,hgv]) (by simp [M2,hgv])]
   rfl
  have G9:(nH (off+(i+1)*3) (cs.drop (i*3)) arr.toList).length=arr.size:=by rw [dA _ _ _ (by simp [zK];omega)];simp
  refine ⟨nH (off+i*3) vs (nH (off+(i+1)*3) (cs.drop (i*3)) arr.toList),?_,?_,?_⟩
  · rw [dA _ _ _ (by rw [G9];omega),G9]
  · rw [h3,<- EQ]
    exact Vn (by simp [zK,Qw];omega) (by omega) fun j v _ hj=>by simpa using np j v hj
  refine (S6 b off n c i vb o3 vc cs vs arr el w hi tQ hn hvb hg xI zK Qw np (fun j v hj=>by simp only [v4,hgv];exact Is j v hj) h1c h1v hov).mono fun x w' ⟨hx,hw⟩=>?_
  subst hw;refine ⟨hx,?_,rfl,⟨rfl,Nat.le_succ _⟩,rfl⟩;have L4:w.drew.heap[b]? =PP (.cells arr el (0,0)):=hg;have dW:=(ut.1 L4).1;have e1:=cu (w:=w.drew) (cs:=(nH (off+(i+1)*3) (cs.drop (i*3)) arr.toList).toArray) L4;rw [cu (cur:=(nH (off+(i+1)*3) (cs.drop (i*3)) arr.toList).toArray) (t:=el) (by rw [e1];exact lw dW),e1,Array.setIfInBounds_setIfInBounds];rfl
 full b off n i vb o3 vc cs vs w hi hn zK Qw np Is h1c h1v:=by
  obtain ⟨G,L6,g1,g2,g3,g4⟩:=S7 b off n i vb o3 vc cs vs w hi hn zK Qw np Is h1c h1v;have h3:(i+1)*3=i*3+vs.length:=by omega
  have G9:(nH (i*3) vs L6.toList).length=G*3:=by rw [dA _ _ _ (by simp [g2,Qw];omega)];simp [g2]
  refine ⟨G,_,76,g1,?_,?_,g4⟩
  · rw [dA _ _ _ (by rw [G9];simp [zK];omega),G9]
  rw [h3]
  exact RZ (by simp [g2,zK,Qw];omega) (by omega) g3
theorem aha:PM Tryz.prog 90 (Ih 3):=by
 have I3:(Tryz.prog.info? 76).map (·.size)=PP 3:=by kernel_rfl
 have hzE:(Tryz.prog.info? 76).bind (·.zero)=PP (.agg #[.int .i64 0,.int .i64 0,.int .i64 0]):=by kernel_rfl
 have hbE:(Tryz.prog.info? 76).map (·.bytes)=PP 24:=by kernel_rfl
 cases h:Tryz.prog.info? 76 with
 |none=>rw [h] at I3;cases I3
 |some i0=>
  rw [h] at I3 hzE hbE;have hb:i0.bytes=24:=by simpa using hbE
  cases hc:Tryz.f90.body with
  |none=>exact absurd hc (by intro h;cases h)
  |some c=>exact PM.ins Tryz.func90 (by kernel_rfl) hc Tryz.underlying24 h (by simpa using I3) (by simpa using hzE) rfl (by omega) (by decide) Qx
end Go.Proofs.YtfejhjllooomlaaGreat
