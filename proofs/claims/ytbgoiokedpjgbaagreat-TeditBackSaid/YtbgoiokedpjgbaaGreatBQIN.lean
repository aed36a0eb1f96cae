/- slices.Insert of one point: what the call does to the cells. -/
import Derived.Test.YtbgoiokedpjgbaaGreatChecked
import Derived.WalkKit
import Derived.Lib.Walk
import Derived.Lib.SliceRun
import Derived.Lib.Overlaps
import Derived.Lib.AppendZerosOnto
import Derived.Laws.Externs
import Derived.Laws.NewBlocks
import Derived.Shelf.RegionOpenPlain
import Derived.Test.YtbgoiokedpjgbaaGreatBVm2
open Array renaming getElem?_setIfInBounds_self_of_lt->ut,getElem?_eq_some_iff->ww,getElem?_push->If
open Go.Lib renaming wpList_append_run->v6
open Go.World renaming cell?->AC,frozen?->PP,shape?->UV
open List renaming getElem?_eq_getElem->Do,mem_of_mem_drop->F0s,getElem?_drop->M2,length_drop->NE
open Nat renaming min->EQ,add_assoc->IR
open Option renaming some->acl,none->adc
open Bool renaming true->ae9
namespace Go.Proofs.YtbgoiokedpjgbaaGreat
open Go.RowKit Go.Lib Go.Vm
theorem LZ {P:Program} (w:World) {o:Oper} {a:Act} {K:Act->World->Prop} {Q:Exit->Act->World->Prop} (d s:Operand) (t t':TypeId)
 (ho:o.op= .call {callee:= .builtin .copy,args:= #[d,s],argTypes:= #[t,t']}) (v u:Value) (hd:a.eval d=v) (hs:a.eval s=u) {v':Value} {w':World}
 (hr:(Builtin.copy_ #[t,t'] o.type #[v,u]).run P w= .ok v' w') (h:K (a.put o.dst v') w'):o.wp P a w K Q:=by
 unfold Oper.wp execOp;simp only [ho,resolve,invoke,builtin,Sem.run_bind,Sem.run_pure,Result.andThen_ok,List.map_toArray,List.map_cons,List.map_nil,hd,hs,hr];exact h
theorem CZ {P:Program} (w:World) {ops:Array Oper} {rest:List Oper} {o:Oper} {a:Act} {Q:Exit->Act->World->Prop} (NF:o.guard=adc) (d s:Operand) (t t':TypeId)
 (ho:o.op= .call {callee:= .builtin .copy,args:= #[d,s],argTypes:= #[t,t']}) (v u:Value) (hd:a.eval d=v) (hs:a.eval s=u) {v':Value} {w':World}
 (hr:(Builtin.copy_ #[t,t'] o.type #[v,u]).run P w= .ok v' w') (h:wpList P ops Q rest (a.put o.dst v') w'):wpList P ops Q (o::rest) a w:=
 wpList_plain NF fun _ hK=>LZ w d s t t' ho v u hd hs hr (hK _ _ h)
theorem F4 {P:Program} {ops:Array Oper} {o:Oper} {a:Act} {w:World} {K:Act->World->Prop} {Q:Exit->Act->World->Prop} {E:Prop}
 (hg:o.guard=adc) (d x:Operand) (dT sT:TypeId) (fB:o.op=Op.call {callee:=Callee.builtin Builtin.copy,args:= #[d,x],argTypes:= #[dT,sT]})
 (v u:Value) (hd:a.eval d=v) (hx:a.eval x=u) {v':Value} {w':World} (hr:(Builtin.copy_ #[dT,sT] o.type #[v,u]).run P w= .ok v' w') (hK:K (a.put o.dst v') w'):
 if Region.wanted o (yielded ops a.tmps)=ae9 then Oper.wp P o a w K Q else E:=by
 have hw:Region.wanted o (yielded ops a.tmps)=ae9:=by simp [Region.wanted,hg]
 rw [pp hw];exact LZ w d x dT sT fB v u hd hx hr hK
set_option maxHeartbeats 4000000 in
set_option maxRecDepth 100000 in
theorem Va (b off n c i vb oV vc:Nat) (cs vs:List Value) (arr:Array Value) (el:TypeId) (w:World) (hi:i<n) (tj:n+1<=c) (hn6:n<=1048576) (U7:vb≠b)
 (hg:w.heap[b]? =acl (.cells arr el (0,0))) (qW:off+(n+1)*3<=arr.size) (A7:cs.length=n*3) (Sz:vs.length=3)
 (mZ: ∀j v,cs[j]? =acl v->arr[off+j]? =acl v) (I3: ∀j v,vs[j]? =acl v->w.cell? ⟨vb,oV+j,adc⟩=acl v) (h1c: ∀v∈cs,v.oneCell'=ae9) (h1v: ∀v∈vs,v.oneCell'=ae9)
 (hov: ∀lb cb,(callFunc 112 #[.slice (acl ⟨vb,oV,adc⟩) 1 vc,.slice (acl ⟨b,off+(i+1)*3,adc⟩) lb cb]).run Tryz.prog w= .ok (.value (.bool false)) w):
 Calls Tryz.prog 60 #[.slice (acl ⟨b,off,adc⟩) n c,.int .i64 i,.slice (acl ⟨vb,oV,adc⟩) 1 vc] w fun e w'=>
  e= .returned (.slice (acl ⟨b,off,adc⟩) (n+1) c)/\w'=(w.drew.setRow b (mM (off+(i+1)*3) (cs.drop (i*3)) arr.toList).toArray).setRow b (mM (off+i*3) vs (mM (off+(i+1)*3) (cs.drop (i*3)) arr.toList)).toArray:=by
 have uS:=run_underlying Tryz.underlying24;have hz2: ¬((i:Int)=(n:Int)):=by omega
 have BP:(Tryz.prog.info? 58).map (·.size)=acl 3:=by kernel_rfl
 have hdl:(cs.drop (i*3)).length=(n-i)*3:=by rw [NE,A7,Nat.sub_mul]
 obtain ⟨A1,hA1⟩: ∃A1:List Value,A1=mM (off+(i+1)*3) (cs.drop (i*3)) arr.toList:=⟨_,rfl⟩;have apu:A1.length=arr.size:=by rw [hA1,cW _ _ _ (by rw [hdl];simp;omega)];simp
 have NF:w.drew.heap[b]? =acl (.cells arr el (0,0)):=hg;have apv: ∀ty dc sc,(Builtin.copy_ #[24,24] ty #[.slice (acl ⟨b,off+(i+1)*3,adc⟩) (n-i) dc,.slice (acl ⟨b,off+i*3,adc⟩) (n+1-i) sc]).run Tryz.prog w.drew= .ok (goInt (EQ (n+1-i) (n-i))) (w.drew.setRow b A1.toArray):=fun ty dc sc=>by
  rw [hA1];refine pP w.drew 24 24 ty 58 3 b (off+(i+1)*3) _ dc ⟨b,off+i*3,adc⟩ _ sc arr el (cs.drop (i*3)) Tryz.underlying24 BP NF ?_ (fun j v hj=>?_) (by rw [hdl];omega) (fun v hv=>h1c v (F0s hv))
  · have:EQ (n+1-i) (n-i)=n-i:=by show min _ _=_;omega
    rw [hdl,this]
  rw [Addr.add_lit,IR]
  rw [M2] at hj
  have:=mZ _ _ hj
  rw [show w.drew.cell? ⟨b,off+(i*3+j),adc⟩=w.cell? ⟨b,off+(i*3+j),adc⟩ from rfl];simp only [AC,hg];exact this
 obtain ⟨W1,W0⟩: ∃W1,W1=w.drew.setRow b A1.toArray:=⟨_,rfl⟩;have Tp:W1.heap[b]? =acl (.cells A1.toArray el (0,0)):=by
  rw [W0,bV NF];exact ut (ww.1 NF).1
 have avk: ∀ty dc,(Builtin.copy_ #[24,24] ty #[.slice (acl ⟨b,off+i*3,adc⟩) (n+1-i) dc,.slice (acl ⟨vb,oV,adc⟩) 1 vc]).run Tryz.prog W1= .ok (goInt (EQ 1 (n+1-i))) (W1.setRow b (mM (off+i*3) vs A1).toArray):=fun ty dc=>by
  refine (pP W1 24 24 ty 58 3 b (off+i*3) _ dc ⟨vb,oV,adc⟩ 1 vc A1.toArray el vs Tryz.underlying24 BP Tp ?_ (fun j v hj=>?_) (by simp [apu,Sz];omega) h1v)
  · have:EQ 1 (n+1-i)=1:=by show min _ _=_;omega
    rw [Sz,this]
  rw [Addr.add_lit]
  have h1:=I3 j v hj;rw [<- h1];have hh:W1.heap[vb]? =w.heap[vb]?:=by rw [W0,bV NF,Array.getElem?_setIfInBounds,rc (fun e=>U7 e.symm)];rfl
  simp only [AC,hh]
 rw [<- W0] at apv;rw [<- hA1,<- W0];have hw1:IntKind.i64.wrap ((i:Int)+1)=(i:Int)+1:=by rw [IntKind.wrap_i64];omega
 have KZ:(0:Int)<=(i:Int)+1:=by omega
 have uu:i<=n:=by omega
 have htn:((i:Int)+1).toNat=i+1:=by omega
 have hb2: ¬(c=i+1):=by omega
 have hb3:(i:Int)<=(n:Int)+1:=by omega
 have hb4: ¬(c=i):=by omega
 have mixed:Tryz.prog.follows .mixedOrders=ae9:=Tryz.checked.mixed;clear Tp W0 apu hA1 NF hg
 go_enter Tryz.func60,Tryz.ntmps60
 go_wp2_with (simp only [hov])
 go_region_law_o (refine F4 rfl _ _ 24 24 rfl _ _ (by simp [Act.eval,Act.put]) (by simp [Act.eval,Act.put]) (apv _ _ _) ?_)
 go_wp2_with (at_builtin;refine CZ _ rfl _ _ 24 24 rfl _ _ rfl rfl (avk _ _) ?_)
 go_ret
 exact ⟨rfl,rfl⟩
set_option maxHeartbeats 4000000 in
set_option maxRecDepth 100000 in
theorem aaD (od:Option Addr) (n c vb oV vc:Nat) (w w':World) (v':Value) (_:n<=c)
 (cu:(Builtin.append_ #[24,24] 24 #[.slice od n c,.slice (acl ⟨vb,oV,adc⟩) 1 vc]).run Tryz.prog w= .ok v' w'):
 Calls Tryz.prog 60 #[.slice od n c,.int .i64 n,.slice (acl ⟨vb,oV,adc⟩) 1 vc] w fun e W=>e= .returned v'/\W=w':=by
 have uS:=run_underlying Tryz.underlying24;have mixed:Tryz.prog.follows .mixedOrders=ae9:=Tryz.checked.mixed
 go_enter Tryz.func60,Tryz.ntmps60
 cases od with
 |none=>
  go_wp2_with (at_builtin;refine v6 _ rfl _ _ _ _ rfl _ _ rfl rfl _ _ cu ?_)
  go_ret
  exact ⟨rfl,rfl⟩
 |some a=>
  obtain ⟨ab,ao,asp⟩:=a
  go_wp2_with (at_builtin;refine v6 _ rfl _ _ _ _ rfl _ _ rfl rfl _ _ cu ?_)
  all_goals (go_ret;exact ⟨rfl,rfl⟩)
set_option maxHeartbeats 4000000 in
set_option maxRecDepth 100000 in
theorem Vb (b off n i vb oV vc:Nat) (cs vs:List Value) (w:World) (hi:i<n) (hn:n<=1048576) (A7:cs.length=n*3) (Sz:vs.length=3)
 (mZ: ∀j v,cs[j]? =acl v->w.cell? ⟨b,off+j,adc⟩=acl v) (I3: ∀j v,vs[j]? =acl v->w.cell? ⟨vb,oV+j,adc⟩=acl v) (h1c: ∀v∈cs,v.oneCell'=ae9) (h1v: ∀v∈vs,v.oneCell'=ae9):
 ∃(G:Nat) (xy:Array Value),n+1<=G/\xy.size=G*3/\(∀j v,j<i*3->cs[j]? =acl v->xy.toList[j]? =acl v)/\
 Calls Tryz.prog 60 #[.slice (acl ⟨b,off,adc⟩) n n,.int .i64 i,.slice (acl ⟨vb,oV,adc⟩) 1 vc] w fun e w'=>
  e= .returned (.slice (acl ⟨w.heap.size,0,adc⟩) (n+1) G)/\
  w'.heap=w.heap.push (.cells (mM ((i+1)*3) (cs.drop (i*3)) (mM (i*3) vs xy.toList)).toArray 58 (0,0))/\w'.os=w.os/\w'.tape=w.tape/\w'.output=w.output:=by
 have uS:=run_underlying Tryz.underlying24;have u3:=run_underlying Tryz.underlying3;have mixed:Tryz.prog.follows .mixedOrders=ae9:=Tryz.checked.mixed;have BP:(Tryz.prog.info? 58).map (·.size)=acl 3:=by kernel_rfl
 have hzE:(Tryz.prog.info? 58).bind (·.zero)=acl (.agg #[.int .i64 0,.int .i64 0,.int .i64 0]):=by kernel_rfl
 have hbE:(Tryz.prog.info? 58).map (·.bytes)=acl 24:=by kernel_rfl
 obtain ⟨i0,P7⟩: ∃i0,Tryz.prog.info? 58=acl i0:=by
  cases h:Tryz.prog.info? 58 with
  |none=>rw [h] at BP;cases BP
  |some i0=>exact ⟨i0,rfl⟩
 have KT:i0.size=3:=by rw [P7] at BP;simpa using BP
 have hz0:i0.zero=acl (.agg #[.int .i64 0,.int .i64 0,.int .i64 0]):=by rw [P7] at hzE;simpa using hzE
 have hzb:i0.bytes=24:=by rw [P7] at hbE;simpa using hbE
 have hz2: ¬((i:Int)=(n:Int)):=by omega
 have hz3:(n:Int)<(n:Int)+1:=by omega
 have hbw:b<w.heap.size:=block_lt_of_cell (mZ 0 _ (Do (by omega)))
 have hvw:vb<w.heap.size:=block_lt_of_cell (I3 0 _ (Do (by omega)))
 have uX:(n:Int)+1- (i:Int)=((n+1-i:Nat):Int):=by omega
 have KA:i+(n+1-i)=n+1:=by omega
 have uj:(Builtin.firstCells i0.size i (.slice (acl ⟨b,off,adc⟩) i n)).run Tryz.prog w.drew= .ok (cs.take (i*3)).toArray w.drew:=by
  rw [KT];exact run_firstCells_some w.drew 3 i ⟨b,off,adc⟩ i n (cs.take (i*3)) (by rw [List.length_take];omega) (fun j v hj=>by
   rw [Addr.add_lit];rw [List.getElem?_take] at hj;split at hj
   · exact mZ j v hj
   cases hj)
 have hrz: ∀ty,(Builtin.append_ #[24,3] ty #[.slice (acl ⟨b,off,adc⟩) i n,.int .i64 ((n:Int)+1- (i:Int))]).run Tryz.prog w= .ok (.slice (acl ⟨w.heap.size,0,adc⟩) (n+1) (grownCap w (n+1) n 58)) (w.drew.alloc (.cells ((cs.take (i*3)).toArray++Builtin.zeroCells (Value.agg #[.int .i64 0,.int .i64 0,.int .i64 0]).cells (n+1-i)++Builtin.zeroCells (Value.agg #[.int .i64 0,.int .i64 0,.int .i64 0]).cells (grownCap w (n+1) n 58- (n+1))) 58)):=fun ty=>by
  have h:=Lib.run_append_grow_zeros w 24 3 ty 58 i0 _ .i64 .i64 Tryz.underlying24 Tryz.underlying3 P7 hz0 (acl ⟨b,off,adc⟩) i n (cs.take (i*3)) uj (n+1-i) (by omega) (by omega) (by omega) (by omega) (by rw [hzb];omega) (by rw [hzb,KA];exact growslice_fits (by omega) (by omega))
  rw [KA] at h;rw [uX];exact h
 obtain ⟨G,hG⟩: ∃G,G=grownCap w (n+1) n 58:=⟨_,rfl⟩;obtain ⟨xy,L0⟩: ∃xy:Array Value,xy=(cs.take (i*3)).toArray++Builtin.zeroCells (Value.agg #[.int .i64 0,.int .i64 0,.int .i64 0]).cells (n+1-i)++Builtin.zeroCells (Value.agg #[.int .i64 0,.int .i64 0,.int .i64 0]).cells (G- (n+1)):=⟨_,rfl⟩;rw [<- hG] at hrz;rw [<- L0] at hrz;have hGn:n+1<=G:=by rw [hG];exact grownCap_ge w _ _ _
 have hRl:xy.size=G*3:=by
  rw [L0];simp [Builtin.zeroCells,Value.cells];omega
 refine ⟨G,xy,hGn,hRl,fun j v hj hc=>?_,?_⟩
 · rw [L0]
   simp only [Array.toList_append];rw [List.append_assoc,List.getElem?_append_left (by simp;omega)]
   simp only [List.getElem?_take_of_lt hj];exact hc
 obtain ⟨W1,W0⟩: ∃W1,W1=w.drew.alloc (.cells xy 58):=⟨_,rfl⟩;rw [<- W0] at hrz;have hh1:W1.heap=w.heap.push (.cells xy 58 (0,0)):=by rw [W0];rfl
 have Hj:W1.os=w.os/\W1.tape=w.tape/\W1.output=w.output:=by rw [W0];exact ⟨rfl,rfl,rfl⟩
 have L1: ∀(x y:Obj),(w.heap.push x).setIfInBounds w.heap.size y=w.heap.push y:=fun x y=>by
  apply Array.ext';simp
 obtain ⟨A,hA⟩: ∃A:List Value,A=mM (i*3) vs xy.toList:=⟨_,rfl⟩;have hAl:A.length=G*3:=by rw [hA,cW _ _ _ (by rw [Sz];simp [hRl];omega)];simpa using hRl
 rw [<- hA];have hdl:(cs.drop (i*3)).length=(n-i)*3:=by rw [NE,A7,Nat.sub_mul]
 have avm: ∀(W:World),W.heap=W1.heap-> ∀ty dc,(Builtin.copy_ #[24,24] ty #[.slice (acl ⟨w.heap.size,i*3,adc⟩) (n+1-i) dc,.slice (acl ⟨vb,oV,adc⟩) 1 vc]).run Tryz.prog W= .ok (goInt (EQ 1 (n+1-i))) (W.setRow w.heap.size A.toArray):=fun W hW ty dc=>by
  rw [hA];refine pP W 24 24 ty 58 3 w.heap.size (i*3) _ dc ⟨vb,oV,adc⟩ 1 vc xy 58 vs Tryz.underlying24 BP (by rw [hW,hh1];simp) ?_ (fun j v hj=>?_) (by rw [Sz,hRl];omega) h1v
  · have:EQ 1 (n+1-i)=1:=by show min _ _=_;omega
    rw [Sz,this]
  rw [Addr.add_lit]
  have h1:=I3 j v hj;rw [<- h1];have hh:W.heap[vb]? =w.heap[vb]?:=by rw [hW,hh1,If,rc (by omega)]
  simp only [AC,hh]
 have apx: ∀(W:World),W.heap=(W1.setRow w.heap.size A.toArray).heap-> ∀ty dc sc,(Builtin.copy_ #[24,24] ty #[.slice (acl ⟨w.heap.size,(i+1)*3,adc⟩) (n-i) dc,.slice (acl ⟨b,off+i*3,adc⟩) (n-i) sc]).run Tryz.prog W= .ok (goInt (EQ (n-i) (n-i))) (W.setRow w.heap.size (mM ((i+1)*3) (cs.drop (i*3)) A).toArray):=fun W hW ty dc sc=>by
  have Tp:W1.heap[w.heap.size]? =acl (.cells xy 58 (0,0)):=by rw [hh1];simp
  have Jb:W.heap=w.heap.push (.cells A.toArray 58 (0,0)):=by rw [hW,bV Tp,hh1,L1]
  have e:=pP (P:=Tryz.prog) W 24 24 ty 58 3 w.heap.size ((i+1)*3) (n-i) dc ⟨b,off+i*3,adc⟩ (n-i) sc A.toArray 58 (cs.drop (i*3)) Tryz.underlying24 BP (by rw [Jb];simp) (by
   have:EQ (n-i) (n-i)=n-i:=by show min _ _=_;omega
   rw [hdl,this]) (fun j v hj=>by
   rw [Addr.add_lit,IR];rw [M2] at hj;have h1:=mZ _ _ hj;rw [<- h1];have hh:W.heap[b]? =w.heap[b]?:=by rw [Jb,If,rc (by omega)]
   simp only [AC,hh]) (by rw [hdl];simp [hAl];omega) (fun v hv=>h1c v (F0s hv))
  exact e
 have apy:G<=9223372036854775807:=by
  have:=grownCap_le_maxLen w (n+1) n 58 (by unfold maxLen;omega)
  rw [<- hG] at this;unfold maxLen at this;omega
 have hGi: ¬(G=i):=by omega
 have ay6: ¬(G=i+1):=by omega
 have hci: ¬(n=i):=by omega
 have hw1:IntKind.i64.wrap ((i:Int)+1)=(i:Int)+1:=by rw [IntKind.wrap_i64];omega
 have KZ:(0:Int)<=(i:Int)+1:=by omega
 have uu:i<=n:=by omega
 have htn:((i:Int)+1).toNat=i+1:=by omega
 have hb3:(i:Int)<=(n:Int):=by omega
 have fin: ∀W:World,W.heap=(W1.setRow w.heap.size A.toArray).heap->(W.setRow w.heap.size (mM ((i+1)*3) (cs.drop (i*3)) A).toArray).heap=w.heap.push (.cells (mM ((i+1)*3) (cs.drop (i*3)) A).toArray 58 (0,0)):=fun W hW=>by
  have Tp:W1.heap[w.heap.size]? =acl (.cells xy 58 (0,0)):=by rw [hh1];simp
  have Jb:W.heap=w.heap.push (.cells A.toArray 58 (0,0)):=by rw [hW,bV Tp,hh1,L1]
  have hg2:W.heap[w.heap.size]? =acl (.cells A.toArray 58 (0,0)):=by rw [Jb];simp
  rw [bV hg2,Jb,L1]
 clear uX KA uj L0 hG hRl hA hAl W0 hh1 L1
 go_enter Tryz.func60,Tryz.ntmps60
 go_wp2_with (first
  |(at_builtin;refine v6 _ rfl _ _ _ _ rfl _ _ rfl rfl _ _ (hrz _) ?_)
  |(at_builtin;refine CZ _ rfl _ _ 24 24 rfl _ _ rfl rfl (avm _ rfl _ _) ?_)
  |(at_builtin;refine CZ _ rfl _ _ 24 24 rfl _ _ rfl rfl (apx _ rfl _ _ _) ?_))
 have hF:((W1.setRow w.heap.size A.toArray).drew).heap=(W1.setRow w.heap.size A.toArray).heap:=rfl
 go_region_law_o (refine F4 rfl _ _ 24 24 rfl (.slice (acl ⟨w.heap.size,(i+1)*3,adc⟩) (n-i) (G- (i+1))) (.slice (acl ⟨b,off+i*3,adc⟩) (n-i) (n-i)) (by simp [Act.eval,Act.put]) (by simp [Act.eval,Act.put]) (apx _ hF 3 (G- (i+1)) (n-i)) ?_)
 go_wp2
 go_ret
 exact ⟨rfl,fin _ rfl,Hj.1,Hj.2.1,Hj.2.2⟩
theorem SA:Lo Tryz.prog 60 3 24 where
 ends:=aaD
 room b off n c i vb oV vc cs vs arr av el ev w hi tj hn U7 hg hgv qW A7 Sz mZ I3 h1c h1v:=by
  have BP:(Tryz.prog.info? 58).map (·.size)=acl 3:=by kernel_rfl
  have hz: ∀w,(sizeOf 58).run Tryz.prog w= .ok 3 w:=fun w=>by
   cases h:Tryz.prog.info? 58 with
   |none=>rw [h] at BP;cases BP
   |some i0=>rw [h] at BP;simp [sizeOf,typeInfo,h];simpa using BP
  have h3:(i+1)*3=i*3+vs.length:=by omega
  have hov: ∀lb cb,(callFunc 112 #[.slice (acl ⟨vb,oV,adc⟩) 1 vc,.slice (acl ⟨b,off+(i+1)*3,adc⟩) lb cb]).run Tryz.prog w= .ok (.value (.bool false)) w:=fun lb cb=>by
   rw [run_callFunc_extern Tryz.func112 (by kernel_rfl) (by kernel_rfl) (by kernel_rfl) (e:=Extern.SlicesOverlaps.overlaps #[24,24] #[4]) (by kernel_rfl),
    Lib.run_overlaps_apart w 24 4 58 Tryz.underlying24 3 hz ⟨vb,oV,adc⟩ ⟨b,off+(i+1)*3,adc⟩ 1 vc lb cb U7 ev el av.size arr.size (by simp [UV,hgv]) (by simp [UV,hg]) (by omega) (by simp [PP,hgv]) (by simp [PP,hgv])]
   rfl
  have HE:(mM (off+(i+1)*3) (cs.drop (i*3)) arr.toList).length=arr.size:=by rw [cW _ _ _ (by simp [A7];omega)];simp
  refine ⟨mM (off+i*3) vs (mM (off+(i+1)*3) (cs.drop (i*3)) arr.toList),?_,?_,?_⟩
  · rw [cW _ _ _ (by rw [HE];omega),HE]
  · rw [h3,<- IR]
    exact Xy (by simp [A7,Sz];omega) (by omega) fun j v _ hj=>by simpa using mZ j v hj
  refine (Va b off n c i vb oV vc cs vs arr el w hi tj hn U7 hg qW A7 Sz mZ (fun j v hj=>by simp only [AC,hgv];exact I3 j v hj) h1c h1v hov).mono fun x w' ⟨hx,hw⟩=>?_
  subst hw;refine ⟨hx,?_,rfl,rfl,rfl⟩;have NF:w.drew.heap[b]? =acl (.cells arr el (0,0)):=hg;have dI:=(ww.1 NF).1;have e1:=bV (w:=w.drew) (cs:=(mM (off+(i+1)*3) (cs.drop (i*3)) arr.toList).toArray) NF
  rw [bV (cur:=(mM (off+(i+1)*3) (cs.drop (i*3)) arr.toList).toArray) (t:=el) (by rw [e1];exact ut dI),e1,Array.setIfInBounds_setIfInBounds]
  rfl
 full b off n i vb oV vc cs vs w hi hn A7 Sz mZ I3 h1c h1v:=by
  obtain ⟨G,xy,g1,g2,g3,g4⟩:=Vb b off n i vb oV vc cs vs w hi hn A7 Sz mZ I3 h1c h1v;have h3:(i+1)*3=i*3+vs.length:=by omega
  have HE:(mM (i*3) vs xy.toList).length=G*3:=by rw [cW _ _ _ (by simp [g2,Sz];omega)];simp [g2]
  refine ⟨G,_,58,g1,?_,?_,g4⟩
  · rw [cW _ _ _ (by rw [HE];simp [A7];omega),HE]
  rw [h3]
  exact Ua (by simp [g2,A7,Sz];omega) (by omega) g3
theorem akv:Bk Tryz.prog 60 (IT 3):=by
 have BP:(Tryz.prog.info? 58).map (·.size)=acl 3:=by kernel_rfl
 have hzE:(Tryz.prog.info? 58).bind (·.zero)=acl (.agg #[.int .i64 0,.int .i64 0,.int .i64 0]):=by kernel_rfl
 have hbE:(Tryz.prog.info? 58).map (·.bytes)=acl 24:=by kernel_rfl
 cases h:Tryz.prog.info? 58 with
 |none=>rw [h] at BP;cases BP
 |some i0=>
  rw [h] at BP hzE hbE;have hb:i0.bytes=24:=by simpa using hbE
  cases hc:Tryz.f60.body with
  |none=>exact absurd hc (by intro h;cases h)
  |some c=>exact Bk.ins Tryz.func60 (by kernel_rfl) hc Tryz.underlying24 h (by simpa using BP) (by simpa using hzE) rfl (by omega) (by decide) SA
end Go.Proofs.YtbgoiokedpjgbaaGreat
