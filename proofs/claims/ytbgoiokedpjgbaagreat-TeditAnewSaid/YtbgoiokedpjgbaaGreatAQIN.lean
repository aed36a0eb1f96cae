/- slices.Insert of one point: what the call does to the cells. -/
import Derived.Test.YtbgoiokedpjgbaaGreatChecked
import Derived.WalkKit
import Derived.Lib.Walk
import Derived.Lib.SliceRun
import Derived.Lib.Overlaps
import Derived.Lib.AppendZerosOnto
import Derived.Laws.Externs
import Derived.Laws.NewBlocks
import Derived.Shelf.RegionOpenPlain
import Derived.Test.YtbgoiokedpjgbaaGreatAVm2
open Array renaming getElem?_setIfInBounds_self_of_lt->pp,getElem?_eq_some_iff->ut,getElem?_push->EQ
open Go.Lib renaming wpList_append_run->rc
open Go.World renaming cell?->v6,frozen?->NE,shape?->PP
open List renaming getElem?_eq_getElem->ww,mem_of_mem_drop->Do,getElem?_drop->IR,length_drop->M2
open Nat renaming min->AC,add_assoc->If
open Option renaming some->UV,none->acl
open Bool renaming true->ad5
namespace Go.Proofs.YtbgoiokedpjgbaaGreat
open Go.RowKit Go.Lib Go.Vm
theorem LZ {P:Program} (w:World) {o:Oper} {a:Act} {K:Act->World->Prop} {Q:Exit->Act->World->Prop} (d s:Operand) (t t':TypeId)
 (ho:o.op= .call {callee:= .builtin .copy,args:= #[d,s],argTypes:= #[t,t']}) (v u:Value) (hd:a.eval d=v) (hs:a.eval s=u) {v':Value} {w':World}
 (hr:(Builtin.copy_ #[t,t'] o.type #[v,u]).run P w= .ok v' w') (h:K (a.put o.dst v') w'):o.wp P a w K Q:=by
 unfold Oper.wp execOp;simp only [ho,resolve,invoke,builtin,Sem.run_bind,Sem.run_pure,Result.andThen_ok,List.map_toArray,List.map_cons,List.map_nil,hd,hs,hr];exact h
theorem Dd {P:Program} (w:World) {ops:Array Oper} {rest:List Oper} {o:Oper} {a:Act} {Q:Exit->Act->World->Prop} (M':o.guard=acl) (d s:Operand) (t t':TypeId)
 (ho:o.op= .call {callee:= .builtin .copy,args:= #[d,s],argTypes:= #[t,t']}) (v u:Value) (hd:a.eval d=v) (hs:a.eval s=u) {v':Value} {w':World}
 (hr:(Builtin.copy_ #[t,t'] o.type #[v,u]).run P w= .ok v' w') (h:wpList P ops Q rest (a.put o.dst v') w'):wpList P ops Q (o::rest) a w:=
 wpList_plain M' fun _ hK=>LZ w d s t t' ho v u hd hs hr (hK _ _ h)
theorem F' {P:Program} {ops:Array Oper} {o:Oper} {a:Act} {w:World} {K:Act->World->Prop} {Q:Exit->Act->World->Prop} {E:Prop}
 (hg:o.guard=acl) (d x:Operand) (dT sT:TypeId) (fP:o.op=Op.call {callee:=Callee.builtin Builtin.copy,args:= #[d,x],argTypes:= #[dT,sT]})
 (v u:Value) (hd:a.eval d=v) (hx:a.eval x=u) {v':Value} {w':World} (hr:(Builtin.copy_ #[dT,sT] o.type #[v,u]).run P w= .ok v' w') (hK:K (a.put o.dst v') w'):
 if Region.wanted o (yielded ops a.tmps)=ad5 then Oper.wp P o a w K Q else E:=by
 have hw:Region.wanted o (yielded ops a.tmps)=ad5:=by simp [Region.wanted,hg]
 rw [ls hw];exact LZ w d x dT sT fP v u hd hx hr hK
set_option maxHeartbeats 4000000 in
set_option maxRecDepth 100000 in
theorem Uj (b off n c i vb ph vc:Nat) (cs vs:List Value) (arr:Array Value) (el:TypeId) (w:World) (hi:i<n) (ud:n+1<=c) (hn6:n<=1048576) (Ue:vb≠b)
 (hg:w.heap[b]? =UV (.cells arr el (0,0))) (rl:off+(n+1)*3<=arr.size) (zV:cs.length=n*3) (Rw:vs.length=3)
 (nA: ∀j v,cs[j]? =UV v->arr[off+j]? =UV v) (Ji: ∀j v,vs[j]? =UV v->w.cell? ⟨vb,ph+j,acl⟩=UV v) (h1c: ∀v∈cs,v.oneCell'=ad5) (h1v: ∀v∈vs,v.oneCell'=ad5)
 (hov: ∀lb cb,(callFunc 112 #[.slice (UV ⟨vb,ph,acl⟩) 1 vc,.slice (UV ⟨b,off+(i+1)*3,acl⟩) lb cb]).run Tryz.prog w= .ok (.value (.bool false)) w):
 Calls Tryz.prog 60 #[.slice (UV ⟨b,off,acl⟩) n c,.int .i64 i,.slice (UV ⟨vb,ph,acl⟩) 1 vc] w fun e w'=>
  e= .returned (.slice (UV ⟨b,off,acl⟩) (n+1) c)/\w'=(w.drew.setRow b (ni (off+(i+1)*3) (cs.drop (i*3)) arr.toList).toArray).setRow b (ni (off+i*3) vs (ni (off+(i+1)*3) (cs.drop (i*3)) arr.toList)).toArray:=by
 have uS:=run_underlying Tryz.underlying24;have hz2: ¬((i:Int)=(n:Int)):=by omega
 have B5:(Tryz.prog.info? 58).map (·.size)=UV 3:=by kernel_rfl
 have hdl:(cs.drop (i*3)).length=(n-i)*3:=by rw [M2,zV,Nat.sub_mul]
 obtain ⟨A1,hA1⟩: ∃A1:List Value,A1=ni (off+(i+1)*3) (cs.drop (i*3)) arr.toList:=⟨_,rfl⟩;have anC:A1.length=arr.size:=by rw [hA1,de _ _ _ (by rw [hdl];simp;omega)];simp
 have M':w.drew.heap[b]? =UV (.cells arr el (0,0)):=hg;have anD: ∀ty dc sc,(Builtin.copy_ #[24,24] ty #[.slice (UV ⟨b,off+(i+1)*3,acl⟩) (n-i) dc,.slice (UV ⟨b,off+i*3,acl⟩) (n+1-i) sc]).run Tryz.prog w.drew= .ok (goInt (AC (n+1-i) (n-i))) (w.drew.setRow b A1.toArray):=fun ty dc sc=>by
  rw [hA1];refine pY w.drew 24 24 ty 58 3 b (off+(i+1)*3) _ dc ⟨b,off+i*3,acl⟩ _ sc arr el (cs.drop (i*3)) Tryz.underlying24 B5 M' ?_ (fun j v hj=>?_) (by rw [hdl];omega) (fun v hv=>h1c v (Do hv))
  · have:AC (n+1-i) (n-i)=n-i:=by show min _ _=_;omega
    rw [hdl,this]
  rw [Addr.add_lit,If]
  rw [IR] at hj;have:=nA _ _ hj;rw [show w.drew.cell? ⟨b,off+(i*3+j),acl⟩=w.cell? ⟨b,off+(i*3+j),acl⟩ from rfl];simp only [v6,hg];exact this
 obtain ⟨W1,Wg⟩: ∃W1,W1=w.drew.setRow b A1.toArray:=⟨_,rfl⟩;have Ss:W1.heap[b]? =UV (.cells A1.toArray el (0,0)):=by rw [Wg,bZ M'];exact pp (ut.1 M').1
 have as1: ∀ty dc,(Builtin.copy_ #[24,24] ty #[.slice (UV ⟨b,off+i*3,acl⟩) (n+1-i) dc,.slice (UV ⟨vb,ph,acl⟩) 1 vc]).run Tryz.prog W1= .ok (goInt (AC 1 (n+1-i))) (W1.setRow b (ni (off+i*3) vs A1).toArray):=fun ty dc=>by
  refine (pY W1 24 24 ty 58 3 b (off+i*3) _ dc ⟨vb,ph,acl⟩ 1 vc A1.toArray el vs Tryz.underlying24 B5 Ss ?_ (fun j v hj=>?_) (by simp [anC,Rw];omega) h1v)
  · have:AC 1 (n+1-i)=1:=by show min _ _=_;omega
    rw [Rw,this]
  rw [Addr.add_lit]
  have h1:=Ji j v hj;rw [<- h1];have hh:W1.heap[vb]? =w.heap[vb]?:=by rw [Wg,bZ M',Array.getElem?_setIfInBounds,lw (fun e=>Ue e.symm)];rfl
  simp only [v6,hh]
 rw [<- Wg] at anD;rw [<- hA1,<- Wg];have hw1:IntKind.i64.wrap ((i:Int)+1)=(i:Int)+1:=by rw [IntKind.wrap_i64];omega
 have K1:(0:Int)<=(i:Int)+1:=by omega
 have wK:i<=n:=by omega
 have htn:((i:Int)+1).toNat=i+1:=by omega
 have hb2: ¬(c=i+1):=by omega
 have hb3:(i:Int)<=(n:Int)+1:=by omega
 have hb4: ¬(c=i):=by omega
 have mixed:Tryz.prog.follows .mixedOrders=ad5:=Tryz.checked.mixed;clear Ss Wg anC hA1 M' hg
 go_enter Tryz.func60,Tryz.ntmps60
 go_wp2_with (simp only [hov])
 go_region_law_o (refine F' rfl _ _ 24 24 rfl _ _ (by simp [Act.eval,Act.put]) (by simp [Act.eval,Act.put]) (anD _ _ _) ?_)
 go_wp2_with (at_builtin;refine Dd _ rfl _ _ 24 24 rfl _ _ rfl rfl (as1 _ _) ?_)
 go_ret
 exact ⟨rfl,rfl⟩
set_option maxHeartbeats 4000000 in
set_option maxRecDepth 100000 in
theorem aaj (oE:Option Addr) (n c vb ph vc:Nat) (w w':World) (v':Value) (_:n<=c)
 (cB:(Builtin.append_ #[24,24] 24 #[.slice oE n c,.slice (UV ⟨vb,ph,acl⟩) 1 vc]).run Tryz.prog w= .ok v' w'):
 Calls Tryz.prog 60 #[.slice oE n c,.int .i64 n,.slice (UV ⟨vb,ph,acl⟩) 1 vc] w fun e W=>e= .returned v'/\W=w':=by
 have uS:=run_underlying Tryz.underlying24;have mixed:Tryz.prog.follows .mixedOrders=ad5:=Tryz.checked.mixed
 go_enter Tryz.func60,Tryz.ntmps60
 cases oE with
 |none=>
  go_wp2_with (at_builtin;refine rc _ rfl _ _ _ _ rfl _ _ rfl rfl _ _ cB ?_)
  go_ret
  exact ⟨rfl,rfl⟩
 |some a=>
  obtain ⟨ab,ao,asp⟩:=a
  go_wp2_with (at_builtin;refine rc _ rfl _ _ _ _ rfl _ _ rfl rfl _ _ cB ?_)
  all_goals (go_ret;exact ⟨rfl,rfl⟩)
set_option maxHeartbeats 4000000 in
set_option maxRecDepth 100000 in
theorem Uk (b off n i vb ph vc:Nat) (cs vs:List Value) (w:World) (hi:i<n) (hn:n<=1048576) (zV:cs.length=n*3) (Rw:vs.length=3)
 (nA: ∀j v,cs[j]? =UV v->w.cell? ⟨b,off+j,acl⟩=UV v) (Ji: ∀j v,vs[j]? =UV v->w.cell? ⟨vb,ph+j,acl⟩=UV v) (h1c: ∀v∈cs,v.oneCell'=ad5) (h1v: ∀v∈vs,v.oneCell'=ad5):
 ∃(G:Nat) (x3:Array Value),n+1<=G/\x3.size=G*3/\(∀j v,j<i*3->cs[j]? =UV v->x3.toList[j]? =UV v)/\
 Calls Tryz.prog 60 #[.slice (UV ⟨b,off,acl⟩) n n,.int .i64 i,.slice (UV ⟨vb,ph,acl⟩) 1 vc] w fun e w'=>
  e= .returned (.slice (UV ⟨w.heap.size,0,acl⟩) (n+1) G)/\
  w'.heap=w.heap.push (.cells (ni ((i+1)*3) (cs.drop (i*3)) (ni (i*3) vs x3.toList)).toArray 58 (0,0))/\w'.os=w.os/\Go.Vm.Tape w w'/\w'.output=w.output:=by
 have uS:=run_underlying Tryz.underlying24;have u3:=run_underlying Tryz.underlying3;have mixed:Tryz.prog.follows .mixedOrders=ad5:=Tryz.checked.mixed;have B5:(Tryz.prog.info? 58).map (·.size)=UV 3:=by kernel_rfl
 have hzE:(Tryz.prog.info? 58).bind (·.zero)=UV (.agg #[.int .i64 0,.int .i64 0,.int .i64 0]):=by kernel_rfl
 have hbE:(Tryz.prog.info? 58).map (·.bytes)=UV 24:=by kernel_rfl
 obtain ⟨i0,Pv⟩: ∃i0,Tryz.prog.info? 58=UV i0:=by
  cases h:Tryz.prog.info? 58 with
  |none=>rw [h] at B5;cases B5
  |some i0=>exact ⟨i0,rfl⟩
 have KV:i0.size=3:=by rw [Pv] at B5;simpa using B5
 have hz0:i0.zero=UV (.agg #[.int .i64 0,.int .i64 0,.int .i64 0]):=by rw [Pv] at hzE;simpa using hzE
 have hzb:i0.bytes=24:=by rw [Pv] at hbE;simpa using hbE
 have hz2: ¬((i:Int)=(n:Int)):=by omega
 have hz3:(n:Int)<(n:Int)+1:=by omega
 have hbw:b<w.heap.size:=block_lt_of_cell (nA 0 _ (ww (by omega)));have hvw:vb<w.heap.size:=block_lt_of_cell (Ji 0 _ (ww (by omega)));have vI:(n:Int)+1- (i:Int)=((n+1-i:Nat):Int):=by omega
 have KC:i+(n+1-i)=n+1:=by omega
 have uW:(Builtin.firstCells i0.size i (.slice (UV ⟨b,off,acl⟩) i n)).run Tryz.prog w.drew= .ok (cs.take (i*3)).toArray w.drew:=by
  rw [KV];exact run_firstCells_some w.drew 3 i ⟨b,off,acl⟩ i n (cs.take (i*3)) (by rw [List.length_take];omega) (fun j v hj=>by
   rw [Addr.add_lit];rw [List.getElem?_take] at hj;split at hj
   · exact nA j v hj
   cases hj)
 have hrz: ∀ty,(Builtin.append_ #[24,3] ty #[.slice (UV ⟨b,off,acl⟩) i n,.int .i64 ((n:Int)+1- (i:Int))]).run Tryz.prog w= .ok (.slice (UV ⟨w.heap.size,0,acl⟩) (n+1) (grownCap w (n+1) n 58)) (w.drew.alloc (.cells ((cs.take (i*3)).toArray++Builtin.zeroCells (Value.agg #[.int .i64 0,.int .i64 0,.int .i64 0]).cells (n+1-i)++Builtin.zeroCells (Value.agg #[.int .i64 0,.int .i64 0,.int .i64 0]).cells (grownCap w (n+1) n 58- (n+1))) 58)):=fun ty=>by
  have h:=Lib.run_append_grow_zeros w 24 3 ty 58 i0 _ .i64 .i64 Tryz.underlying24 Tryz.underlying3 Pv hz0 (UV ⟨b,off,acl⟩) i n (cs.take (i*3)) uW (n+1-i) (by omega) (by omega) (by omega) (by omega) (by rw [hzb];omega) (by rw [hzb,KC];exact growslice_fits (by omega) (by omega));rw [KC] at h;rw [vI];exact h
 obtain ⟨G,hG⟩: ∃G,G=grownCap w (n+1) n 58:=⟨_,rfl⟩;obtain ⟨x3,L0⟩: ∃x3:Array Value,x3=(cs.take (i*3)).toArray++Builtin.zeroCells (Value.agg #[.int .i64 0,.int .i64 0,.int .i64 0]).cells (n+1-i)++Builtin.zeroCells (Value.agg #[.int .i64 0,.int .i64 0,.int .i64 0]).cells (G- (n+1)):=⟨_,rfl⟩;rw [<- hG] at hrz;rw [<- L0] at hrz;have hGn:n+1<=G:=by rw [hG];exact grownCap_ge w _ _ _
 have hRl:x3.size=G*3:=by rw [L0];simp [Builtin.zeroCells,Value.cells];omega
 refine ⟨G,x3,hGn,hRl,fun j v hj hc=>?_,?_⟩
 · rw [L0]
   simp only [Array.toList_append];rw [List.append_assoc,List.getElem?_append_left (by simp;omega)];simp only [List.getElem?_take_of_lt hj];exact hc
 obtain ⟨W1,Wg⟩: ∃W1,W1=w.drew.alloc (.cells x3 58):=⟨_,rfl⟩;rw [<- Wg] at hrz;have hh1:W1.heap=w.heap.push (.cells x3 58 (0,0)):=by rw [Wg];rfl
 have Hl:W1.os=w.os/\Go.Vm.Tape w W1/\W1.output=w.output:=by rw [Wg];exact ⟨rfl,⟨rfl,Nat.le_succ _⟩,rfl⟩
 have L1: ∀(x y:Obj),(w.heap.push x).setIfInBounds w.heap.size y=w.heap.push y:=fun x y=>by apply Array.ext';simp
 obtain ⟨A,hA⟩: ∃A:List Value,A=ni (i*3) vs x3.toList:=⟨_,rfl⟩;have hAl:A.length=G*3:=by rw [hA,de _ _ _ (by rw [Rw];simp [hRl];omega)];simpa using hRl
 rw [<- hA];have hdl:(cs.drop (i*3)).length=(n-i)*3:=by rw [M2,zV,Nat.sub_mul]
 have as3: ∀(W:World),W.heap=W1.heap-> ∀ty dc,(Builtin.copy_ #[24,24] ty #[.slice (UV ⟨w.heap.size,i*3,acl⟩) (n+1-i) dc,.slice (UV ⟨vb,ph,acl⟩) 1 vc]).run Tryz.prog W= .ok (goInt (AC 1 (n+1-i))) (W.setRow w.heap.size A.toArray):=fun W hW ty dc=>by
  rw [hA];refine pY W 24 24 ty 58 3 w.heap.size (i*3) _ dc ⟨vb,ph,acl⟩ 1 vc x3 58 vs Tryz.underlying24 B5 (by rw [hW,hh1];simp) ?_ (fun j v hj=>?_) (by rw [Rw,hRl];omega) h1v
  · have:AC 1 (n+1-i)=1:=by show min _ _=_;omega
    rw [Rw,this]
  rw [Addr.add_lit]
  have h1:=Ji j v hj;rw [<- h1];have hh:W.heap[vb]? =w.heap[vb]?:=by rw [hW,hh1,EQ,lw (by omega)]
  simp only [v6,hh]
 have anF: ∀(W:World),W.heap=(W1.setRow w.heap.size A.toArray).heap-> ∀ty dc sc,(Builtin.copy_ #[24,24] ty #[.slice (UV ⟨w.heap.size,(i+1)*3,acl⟩) (n-i) dc,.slice (UV ⟨b,off+i*3,acl⟩) (n-i) sc]).run Tryz.prog W= .ok (goInt (AC (n-i) (n-i))) (W.setRow w.heap.size (ni ((i+1)*3) (cs.drop (i*3)) A).toArray):=fun W hW ty dc sc=>by
  have Ss:W1.heap[w.heap.size]? =UV (.cells x3 58 (0,0)):=by rw [hh1];simp
  have Jr:W.heap=w.heap.push (.cells A.toArray 58 (0,0)):=by rw [hW,bZ Ss,hh1,L1]
  have e:=pY (P:=Tryz.prog) W 24 24 ty 58 3 w.heap.size ((i+1)*3) (n-i) dc ⟨b,off+i*3,acl⟩ (n-i) sc A.toArray 58 (cs.drop (i*3)) Tryz.underlying24 B5 (by rw [Jr];simp) (by
   have:AC (n-i) (n-i)=n-i:=by show min _ _=_;omega
   rw [hdl,this]) (fun j v hj=>by
   rw [Addr.add_lit,If];rw [IR] at hj;have h1:=nA _ _ hj;rw [<- h1];have hh:W.heap[b]? =w.heap[b]?:=by rw [Jr,EQ,lw (by omega)]
   simp only [v6,hh]) (by rw [hdl];simp [hAl];omega) (fun v hv=>h1c v (Do hv))
  exact e
 have anG:G<=9223372036854775807:=by have:=grownCap_le_maxLen w (n+1) n 58 (by unfold maxLen;omega);rw [<- hG] at this;unfold maxLen at this;omega
 have hGi: ¬(G=i):=by omega
 have axz: ¬(G=i+1):=by omega
 have hci: ¬(n=i):=by omega
 have hw1:IntKind.i64.wrap ((i:Int)+1)=(i:Int)+1:=by rw [IntKind.wrap_i64];omega
 have K1:(0:Int)<=(i:Int)+1:=by omega
 have wK:i<=n:=by omega
 have htn:((i:Int)+1).toNat=i+1:=by omega
 have hb3:(i:Int)<=(n:Int):=by omega
 have fin: ∀W:World,W.heap=(W1.setRow w.heap.size A.toArray).heap->(W.setRow w.heap.size (ni ((i+1)*3) (cs.drop (i*3)) A).toArray).heap=w.heap.push (.cells (ni ((i+1)*3) (cs.drop (i*3)) A).toArray 58 (0,0)):=fun W hW=>by
  have Ss:W1.heap[w.heap.size]? =UV (.cells x3 58 (0,0)):=by rw [hh1];simp
  have Jr:W.heap=w.heap.push (.cells A.toArray 58 (0,0)):=by rw [hW,bZ Ss,hh1,L1]
  have hg2:W.heap[w.heap.size]? =UV (.cells A.toArray 58 (0,0)):=by rw [Jr];simp
  rw [bZ hg2,Jr,L1]
 clear vI KC uW L0 hG hRl hA hAl Wg hh1 L1
 go_enter Tryz.func60,Tryz.ntmps60
 go_wp2_with (first
  |(at_builtin;refine rc _ rfl _ _ _ _ rfl _ _ rfl rfl _ _ (hrz _) ?_)
  |(at_builtin;refine Dd _ rfl _ _ 24 24 rfl _ _ rfl rfl (as3 _ rfl _ _) ?_)
  |(at_builtin;refine Dd _ rfl _ _ 24 24 rfl _ _ rfl rfl (anF _ rfl _ _ _) ?_))
 have hF:((W1.setRow w.heap.size A.toArray).drew).heap=(W1.setRow w.heap.size A.toArray).heap:=rfl
 go_region_law_o (refine F' rfl _ _ 24 24 rfl (.slice (UV ⟨w.heap.size,(i+1)*3,acl⟩) (n-i) (G- (i+1))) (.slice (UV ⟨b,off+i*3,acl⟩) (n-i) (n-i)) (by simp [Act.eval,Act.put]) (by simp [Act.eval,Act.put]) (anF _ hF 3 (G- (i+1)) (n-i)) ?_)
 go_wp2
 go_ret
 exact ⟨rfl,fin _ rfl,Hl.1,⟨Hl.2.1.eq,Nat.le_succ_of_le Hl.2.1.dr⟩,Hl.2.2⟩
theorem Rx:Lp Tryz.prog 60 3 24 where
 ends:=aaj
 room b off n c i vb ph vc cs vs arr av el ev w hi ud hn Ue hg hgv rl zV Rw nA Ji h1c h1v:=by
  have B5:(Tryz.prog.info? 58).map (·.size)=UV 3:=by kernel_rfl
  have hz: ∀w,(sizeOf 58).run Tryz.prog w= .ok 3 w:=fun w=>by
   cases h:Tryz.prog.info? 58 with
   |none=>rw [h] at B5;cases B5
   |some i0=>rw [h] at B5;simp [sizeOf,typeInfo,h];simpa using B5
  have h3:(i+1)*3=i*3+vs.length:=by omega
  have hov: ∀lb cb,(callFunc 112 #[.slice (UV ⟨vb,ph,acl⟩) 1 vc,.slice (UV ⟨b,off+(i+1)*3,acl⟩) lb cb]).run Tryz.prog w= .ok (.value (.bool false)) w:=fun lb cb=>by
   rw [run_callFunc_extern Tryz.func112 (by kernel_rfl) (by kernel_rfl) (by kernel_rfl) (e:=Extern.SlicesOverlaps.overlaps #[24,24] #[4]) (by kernel_rfl),
    Lib.run_overlaps_apart w 24 4 58 Tryz.underlying24 3 hz ⟨vb,ph,acl⟩ ⟨b,off+(i+1)*3,acl⟩ 1 vc lb cb Ue ev el av.size arr.size (by simp [PP,hgv]) (by simp [PP,hg]) (by omega) (by simp [NE,hgv]) (by simp [NE,hgv])]
   rfl
  have HU:(ni (off+(i+1)*3) (cs.drop (i*3)) arr.toList).length=arr.size:=by rw [de _ _ _ (by simp [zV];omega)];simp
  refine ⟨ni (off+i*3) vs (ni (off+(i+1)*3) (cs.drop (i*3)) arr.toList),?_,?_,?_⟩
  · rw [de _ _ _ (by rw [HU];omega),HU]
  · rw [h3,<- If]
    exact WM (by simp [zV,Rw];omega) (by omega) fun j v _ hj=>by simpa using nA j v hj
  refine (Uj b off n c i vb ph vc cs vs arr el w hi ud hn Ue hg rl zV Rw nA (fun j v hj=>by simp only [v6,hgv];exact Ji j v hj) h1c h1v hov).mono fun x w' ⟨hx,hw⟩=>?_
  subst hw;refine ⟨hx,?_,rfl,⟨rfl,Nat.le_succ _⟩,rfl⟩;have M':w.drew.heap[b]? =UV (.cells arr el (0,0)):=hg;have dV:=(ut.1 M').1;have e1:=bZ (w:=w.drew) (cs:=(ni (off+(i+1)*3) (cs.drop (i*3)) arr.toList).toArray) M';rw [bZ (cur:=(ni (off+(i+1)*3) (cs.drop (i*3)) arr.toList).toArray) (t:=el) (by rw [e1];exact pp dV),e1,Array.setIfInBounds_setIfInBounds];rfl
 full b off n i vb ph vc cs vs w hi hn zV Rw nA Ji h1c h1v:=by
  obtain ⟨G,x3,g1,g2,g3,g4⟩:=Uk b off n i vb ph vc cs vs w hi hn zV Rw nA Ji h1c h1v;have h3:(i+1)*3=i*3+vs.length:=by omega
  have HU:(ni (i*3) vs x3.toList).length=G*3:=by rw [de _ _ _ (by simp [g2,Rw];omega)];simp [g2]
  refine ⟨G,_,58,g1,?_,?_,g4⟩
  · rw [de _ _ _ (by rw [HU];simp [zV];omega),HU]
  rw [h3]
  exact Ti (by simp [g2,zV,Rw];omega) (by omega) g3
theorem ajk:By Tryz.prog 60 (I9 3):=by
 have B5:(Tryz.prog.info? 58).map (·.size)=UV 3:=by kernel_rfl
 have hzE:(Tryz.prog.info? 58).bind (·.zero)=UV (.agg #[.int .i64 0,.int .i64 0,.int .i64 0]):=by kernel_rfl
 have hbE:(Tryz.prog.info? 58).map (·.bytes)=UV 24:=by kernel_rfl
 cases h:Tryz.prog.info? 58 with
 |none=>rw [h] at B5;cases B5
 |some i0=>
  rw [h] at B5 hzE hbE;have hb:i0.bytes=24:=by simpa using hbE
  cases hc:Tryz.f60.body with
  |none=>exact absurd hc (by intro h;cases h)
  |some c=>exact By.ins Tryz.func60 (by kernel_rfl) hc Tryz.underlying24 h (by simpa using B5) (by simpa using hzE) rfl (by omega) (by decide) Rx
end Go.Proofs.YtbgoiokedpjgbaaGreat
