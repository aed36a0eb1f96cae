/- slices.Insert of one point: what the call does to the cells. -/
import Derived.Test.YtbgoiokedpjgbaaGreatChecked
import Derived.WalkKit
import Derived.Lib.Walk
import Derived.Lib.SliceRun
import Derived.Lib.Overlaps
import Derived.Lib.AppendZerosOnto
import Derived.Laws.Externs
import Derived.Laws.NewBlocks
import Derived.Shelf.RegionOpenPlain
import Derived.Test.YtbgoiokedpjgbaaGreatQVm2
open Array renaming getElem?_setIfInBounds_self_of_lt->ut,getElem?_eq_some_iff->ww,getElem?_push->If
open Go.Lib renaming wpList_append_run->v6
open Go.World renaming cell?->AC,frozen?->PP,shape?->UV
open List renaming getElem?_eq_getElem->Do,mem_of_mem_drop->F0s,getElem?_drop->M2,length_drop->NE
open Nat renaming min->EQ,add_assoc->IR
open Option renaming some->WF,none->acl
open Bool renaming true->adc
namespace Go.Proofs.YtbgoiokedpjgbaaGreat
open Go.RowKit Go.Lib Go.Vm
theorem Mi {P:Program} (w:World) {o:Oper} {a:Act} {K:Act->World->Prop} {Q:Exit->Act->World->Prop} (d s:Operand) (t t':TypeId)
 (ho:o.op= .call {callee:= .builtin .copy,args:= #[d,s],argTypes:= #[t,t']}) (v u:Value) (hd:a.eval d=v) (hs:a.eval s=u) {v':Value} {w':World}
 (hr:(Builtin.copy_ #[t,t'] o.type #[v,u]).run P w= .ok v' w') (h:K (a.put o.dst v') w'):o.wp P a w K Q:=by
 unfold Oper.wp execOp;simp only [ho,resolve,invoke,builtin,Sem.run_bind,Sem.run_pure,Result.andThen_ok,List.map_toArray,List.map_cons,List.map_nil,hd,hs,hr];exact h
theorem Db {P:Program} (w:World) {ops:Array Oper} {rest:List Oper} {o:Oper} {a:Act} {Q:Exit->Act->World->Prop} (NT:o.guard=acl) (d s:Operand) (t t':TypeId)
 (ho:o.op= .call {callee:= .builtin .copy,args:= #[d,s],argTypes:= #[t,t']}) (v u:Value) (hd:a.eval d=v) (hs:a.eval s=u) {v':Value} {w':World}
 (hr:(Builtin.copy_ #[t,t'] o.type #[v,u]).run P w= .ok v' w') (h:wpList P ops Q rest (a.put o.dst v') w'):wpList P ops Q (o::rest) a w:=
 wpList_plain NT fun _ hK=>Mi w d s t t' ho v u hd hs hr (hK _ _ h)
theorem Gd {P:Program} {ops:Array Oper} {o:Oper} {a:Act} {w:World} {K:Act->World->Prop} {Q:Exit->Act->World->Prop} {E:Prop}
 (hg:o.guard=acl) (d x:Operand) (dT sT:TypeId) (fF:o.op=Op.call {callee:=Callee.builtin Builtin.copy,args:= #[d,x],argTypes:= #[dT,sT]})
 (v u:Value) (hd:a.eval d=v) (hx:a.eval x=u) {v':Value} {w':World} (hr:(Builtin.copy_ #[dT,sT] o.type #[v,u]).run P w= .ok v' w') (hK:K (a.put o.dst v') w'):
 if Region.wanted o (yielded ops a.tmps)=adc then Oper.wp P o a w K Q else E:=by
 have hw:Region.wanted o (yielded ops a.tmps)=adc:=by simp [Region.wanted,hg]
 rw [pp hw];exact Mi w d x dT sT fF v u hd hx hr hK
set_option maxHeartbeats 4000000 in
set_option maxRecDepth 100000 in
theorem Vb (b off n c i vb oW vc:Nat) (cs vs:List Value) (arr:Array Value) (el:TypeId) (w:World) (hi:i<n) (tN:n+1<=c) (hn6:n<=1048576) (U8:vb≠b)
 (hg:w.heap[b]? =WF (.cells arr el (0,0))) (qY:off+(n+1)*3<=arr.size) (Bg:cs.length=n*3) (SG:vs.length=3)
 (mE: ∀j v,cs[j]? =WF v->arr[off+j]? =WF v) (Jn: ∀j v,vs[j]? =WF v->w.cell? ⟨vb,oW+j,acl⟩=WF v) (h1c: ∀v∈cs,v.oneCell'=adc) (h1v: ∀v∈vs,v.oneCell'=adc)
 (hov: ∀lb cb,(callFunc 112 #[.slice (WF ⟨vb,oW,acl⟩) 1 vc,.slice (WF ⟨b,off+(i+1)*3,acl⟩) lb cb]).run Tryz.prog w= .ok (.value (.bool false)) w):
 Calls Tryz.prog 60 #[.slice (WF ⟨b,off,acl⟩) n c,.int .i64 i,.slice (WF ⟨vb,oW,acl⟩) 1 vc] w fun e w'=>
  e= .returned (.slice (WF ⟨b,off,acl⟩) (n+1) c)/\w'=(w.drew.setRow b (mP (off+(i+1)*3) (cs.drop (i*3)) arr.toList).toArray).setRow b (mP (off+i*3) vs (mP (off+(i+1)*3) (cs.drop (i*3)) arr.toList)).toArray:=by
 have uS:=run_underlying Tryz.underlying24;have hz2: ¬((i:Int)=(n:Int)):=by omega
 have B0:(Tryz.prog.info? 58).map (·.size)=WF 3:=by kernel_rfl
 have hdl:(cs.drop (i*3)).length=(n-i)*3:=by rw [NE,Bg,Nat.sub_mul]
 obtain ⟨A1,hA1⟩: ∃A1:List Value,A1=mP (off+(i+1)*3) (cs.drop (i*3)) arr.toList:=⟨_,rfl⟩;have aoB:A1.length=arr.size:=by rw [hA1,c8 _ _ _ (by rw [hdl];simp;omega)];simp
 have NT:w.drew.heap[b]? =WF (.cells arr el (0,0)):=hg;have aoC: ∀ty dc sc,(Builtin.copy_ #[24,24] ty #[.slice (WF ⟨b,off+(i+1)*3,acl⟩) (n-i) dc,.slice (WF ⟨b,off+i*3,acl⟩) (n+1-i) sc]).run Tryz.prog w.drew= .ok (goInt (EQ (n+1-i) (n-i))) (w.drew.setRow b A1.toArray):=fun ty dc sc=>by
  rw [hA1];refine pN w.drew 24 24 ty 58 3 b (off+(i+1)*3) _ dc ⟨b,off+i*3,acl⟩ _ sc arr el (cs.drop (i*3)) Tryz.underlying24 B0 NT ?_ (fun j v hj=>?_) (by rw [hdl];omega) (fun v hv=>h1c v (F0s hv))
  · have:EQ (n+1-i) (n-i)=n-i:=by show min _ _=_;omega
    rw [hdl,this]
  rw [Addr.add_lit,IR]
  rw [M2] at hj
  have:=mE _ _ hj
  rw [show w.drew.cell? ⟨b,off+(i*3+j),acl⟩=w.cell? ⟨b,off+(i*3+j),acl⟩ from rfl];simp only [AC,hg];exact this
 obtain ⟨W1,W0⟩: ∃W1,W1=w.drew.setRow b A1.toArray:=⟨_,rfl⟩;have Ts:W1.heap[b]? =WF (.cells A1.toArray el (0,0)):=by
  rw [W0,bV NT];exact ut (ww.1 NT).1
 have auk: ∀ty dc,(Builtin.copy_ #[24,24] ty #[.slice (WF ⟨b,off+i*3,acl⟩) (n+1-i) dc,.slice (WF ⟨vb,oW,acl⟩) 1 vc]).run Tryz.prog W1= .ok (goInt (EQ 1 (n+1-i))) (W1.setRow b (mP (off+i*3) vs A1).toArray):=fun ty dc=>by
  refine (pN W1 24 24 ty 58 3 b (off+i*3) _ dc ⟨vb,oW,acl⟩ 1 vc A1.toArray el vs Tryz.underlying24 B0 Ts ?_ (fun j v hj=>?_) (by simp [aoB,SG];omega) h1v)
  · have:EQ 1 (n+1-i)=1:=by show min _ _=_;omega
    rw [SG,this]
  rw [Addr.add_lit]
  have h1:=Jn j v hj;rw [<- h1];have hh:W1.heap[vb]? =w.heap[vb]?:=by rw [W0,bV NT,Array.getElem?_setIfInBounds,rc (fun e=>U8 e.symm)];rfl
  simp only [AC,hh]
 rw [<- W0] at aoC;rw [<- hA1,<- W0];have hw1:IntKind.i64.wrap ((i:Int)+1)=(i:Int)+1:=by rw [IntKind.wrap_i64];omega
 have Ll:(0:Int)<=(i:Int)+1:=by omega
 have sE:i<=n:=by omega
 have htn:((i:Int)+1).toNat=i+1:=by omega
 have hb2: ¬(c=i+1):=by omega
 have hb3:(i:Int)<=(n:Int)+1:=by omega
 have hb4: ¬(c=i):=by omega
 have mixed:Tryz.prog.follows .mixedOrders=adc:=Tryz.checked.mixed;clear Ts W0 aoB hA1 NT hg
 go_enter Tryz.func60,Tryz.ntmps60
 go_wp2_with (simp only [hov])
 go_region_law_o (refine Gd rfl _ _ 24 24 rfl _ _ (by simp [Act.eval,Act.put]) (by simp [Act.eval,Act.put]) (aoC _ _ _) ?_)
 go_wp2_with (at_builtin;refine Db _ rfl _ _ 24 24 rfl _ _ rfl rfl (auk _ _) ?_)
 go_ret
 exact ⟨rfl,rfl⟩
set_option maxHeartbeats 4000000 in
set_option maxRecDepth 100000 in
theorem aaB (o7:Option Addr) (n c vb oW vc:Nat) (w w':World) (v':Value) (_:n<=c)
 (cy:(Builtin.append_ #[24,24] 24 #[.slice o7 n c,.slice (WF ⟨vb,oW,acl⟩) 1 vc]).run Tryz.prog w= .ok v' w'):
 Calls Tryz.prog 60 #[.slice o7 n c,.int .i64 n,.slice (WF ⟨vb,oW,acl⟩) 1 vc] w fun e W=>e= .returned v'/\W=w':=by
 have uS:=run_underlying Tryz.underlying24;have mixed:Tryz.prog.follows .mixedOrders=adc:=Tryz.checked.mixed
 go_enter Tryz.func60,Tryz.ntmps60
 cases o7 with
 |none=>
  go_wp2_with (at_builtin;refine v6 _ rfl _ _ _ _ rfl _ _ rfl rfl _ _ cy ?_)
  go_ret
  exact ⟨rfl,rfl⟩
 |some a=>
  obtain ⟨ab,ao,asp⟩:=a
  go_wp2_with (at_builtin;refine v6 _ rfl _ _ _ _ rfl _ _ rfl rfl _ _ cy ?_)
  all_goals (go_ret;exact ⟨rfl,rfl⟩)
set_option maxHeartbeats 4000000 in
set_option maxRecDepth 100000 in
theorem Vc (b off n i vb oW vc:Nat) (cs vs:List Value) (w:World) (hi:i<n) (hn:n<=1048576) (Bg:cs.length=n*3) (SG:vs.length=3)
 (mE: ∀j v,cs[j]? =WF v->w.cell? ⟨b,off+j,acl⟩=WF v) (Jn: ∀j v,vs[j]? =WF v->w.cell? ⟨vb,oW+j,acl⟩=WF v) (h1c: ∀v∈cs,v.oneCell'=adc) (h1v: ∀v∈vs,v.oneCell'=adc):
 ∃(G:Nat) (xT:Array Value),n+1<=G/\xT.size=G*3/\(∀j v,j<i*3->cs[j]? =WF v->xT.toList[j]? =WF v)/\
 Calls Tryz.prog 60 #[.slice (WF ⟨b,off,acl⟩) n n,.int .i64 i,.slice (WF ⟨vb,oW,acl⟩) 1 vc] w fun e w'=>
  e= .returned (.slice (WF ⟨w.heap.size,0,acl⟩) (n+1) G)/\
  w'.heap=w.heap.push (.cells (mP ((i+1)*3) (cs.drop (i*3)) (mP (i*3) vs xT.toList)).toArray 58 (0,0))/\w'.os=w.os/\w'.tape=w.tape/\w'.output=w.output:=by
 have uS:=run_underlying Tryz.underlying24;have u3:=run_underlying Tryz.underlying3;have mixed:Tryz.prog.follows .mixedOrders=adc:=Tryz.checked.mixed;have B0:(Tryz.prog.info? 58).map (·.size)=WF 3:=by kernel_rfl
 have hzE:(Tryz.prog.info? 58).bind (·.zero)=WF (.agg #[.int .i64 0,.int .i64 0,.int .i64 0]):=by kernel_rfl
 have hbE:(Tryz.prog.info? 58).map (·.bytes)=WF 24:=by kernel_rfl
 obtain ⟨i0,Qi⟩: ∃i0,Tryz.prog.info? 58=WF i0:=by
  cases h:Tryz.prog.info? 58 with
  |none=>rw [h] at B0;cases B0
  |some i0=>exact ⟨i0,rfl⟩
 have Lf:i0.size=3:=by rw [Qi] at B0;simpa using B0
 have hz0:i0.zero=WF (.agg #[.int .i64 0,.int .i64 0,.int .i64 0]):=by rw [Qi] at hzE;simpa using hzE
 have hzb:i0.bytes=24:=by rw [Qi] at hbE;simpa using hbE
 have hz2: ¬((i:Int)=(n:Int)):=by omega
 have hz3:(n:Int)<(n:Int)+1:=by omega
 have hbw:b<w.heap.size:=block_lt_of_cell (mE 0 _ (Do (by omega)))
 have hvw:vb<w.heap.size:=block_lt_of_cell (Jn 0 _ (Do (by omega)))
 have vz:(n:Int)+1- (i:Int)=((n+1-i:Nat):Int):=by omega
 have KV:i+(n+1-i)=n+1:=by omega
 have uN:(Builtin.firstCells i0.size i (.slice (WF ⟨b,off,acl⟩) i n)).run Tryz.prog w.drew= .ok (cs.take (i*3)).toArray w.drew:=by
  rw [Lf];exact run_firstCells_some w.drew 3 i ⟨b,off,acl⟩ i n (cs.take (i*3)) (by rw [List.length_take];omega) (fun j v hj=>by
   rw [Addr.add_lit];rw [List.getElem?_take] at hj;split at hj
   · exact mE j v hj
   cases hj)
 have hrz: ∀ty,(Builtin.append_ #[24,3] ty #[.slice (WF ⟨b,off,acl⟩) i n,.int .i64 ((n:Int)+1- (i:Int))]).run Tryz.prog w= .ok (.slice (WF ⟨w.heap.size,0,acl⟩) (n+1) (grownCap w (n+1) n 58)) (w.drew.alloc (.cells ((cs.take (i*3)).toArray++Builtin.zeroCells (Value.agg #[.int .i64 0,.int .i64 0,.int .i64 0]).cells (n+1-i)++Builtin.zeroCells (Value.agg #[.int .i64 0,.int .i64 0,.int .i64 0]).cells (grownCap w (n+1) n 58- (n+1))) 58)):=fun ty=>by
  have h:=Lib.run_append_grow_zeros w 24 3 ty 58 i0 _ .i64 .i64 Tryz.underlying24 Tryz.underlying3 Qi hz0 (WF ⟨b,off,acl⟩) i n (cs.take (i*3)) uN (n+1-i) (by omega) (by omega) (by omega) (by omega) (by rw [hzb];omega) (by rw [hzb,KV];exact growslice_fits (by omega) (by omega))
  rw [KV] at h;rw [vz];exact h
 obtain ⟨G,hG⟩: ∃G,G=grownCap w (n+1) n 58:=⟨_,rfl⟩;obtain ⟨xT,Mj⟩: ∃xT:Array Value,xT=(cs.take (i*3)).toArray++Builtin.zeroCells (Value.agg #[.int .i64 0,.int .i64 0,.int .i64 0]).cells (n+1-i)++Builtin.zeroCells (Value.agg #[.int .i64 0,.int .i64 0,.int .i64 0]).cells (G- (n+1)):=⟨_,rfl⟩;rw [<- hG] at hrz;rw [<- Mj] at hrz;have hGn:n+1<=G:=by rw [hG];exact grownCap_ge w _ _ _
 have hRl:xT.size=G*3:=by
  rw [Mj];simp [Builtin.zeroCells,Value.cells];omega
 refine ⟨G,xT,hGn,hRl,fun j v hj hc=>?_,?_⟩
 · rw [Mj]
   simp only [Array.toList_append];rw [List.append_assoc,List.getElem?_append_left (by simp;omega)]
   simp only [List.getElem?_take_of_lt hj];exact hc
 obtain ⟨W1,W0⟩: ∃W1,W1=w.drew.alloc (.cells xT 58):=⟨_,rfl⟩;rw [<- W0] at hrz;have hh1:W1.heap=w.heap.push (.cells xT 58 (0,0)):=by rw [W0];rfl
 have Hy:W1.os=w.os/\W1.tape=w.tape/\W1.output=w.output:=by rw [W0];exact ⟨rfl,rfl,rfl⟩
 have Mk: ∀(x y:Obj),(w.heap.push x).setIfInBounds w.heap.size y=w.heap.push y:=fun x y=>by
  apply Array.ext';simp
 obtain ⟨A,hA⟩: ∃A:List Value,A=mP (i*3) vs xT.toList:=⟨_,rfl⟩;have hAl:A.length=G*3:=by rw [hA,c8 _ _ _ (by rw [SG];simp [hRl];omega)];simpa using hRl
 rw [<- hA];have hdl:(cs.drop (i*3)).length=(n-i)*3:=by rw [NE,Bg,Nat.sub_mul]
 have aum: ∀(W:World),W.heap=W1.heap-> ∀ty dc,(Builtin.copy_ #[24,24] ty #[.slice (WF ⟨w.heap.size,i*3,acl⟩) (n+1-i) dc,.slice (WF ⟨vb,oW,acl⟩) 1 vc]).run Tryz.prog W= .ok (goInt (EQ 1 (n+1-i))) (W.setRow w.heap.size A.toArray):=fun W hW ty dc=>by
  rw [hA];refine pN W 24 24 ty 58 3 w.heap.size (i*3) _ dc ⟨vb,oW,acl⟩ 1 vc xT 58 vs Tryz.underlying24 B0 (by rw [hW,hh1];simp) ?_ (fun j v hj=>?_) (by rw [SG,hRl];omega) h1v
  · have:EQ 1 (n+1-i)=1:=by show min _ _=_;omega
    rw [SG,this]
  rw [Addr.add_lit]
  have h1:=Jn j v hj;rw [<- h1];have hh:W.heap[vb]? =w.heap[vb]?:=by rw [hW,hh1,If,rc (by omega)]
  simp only [AC,hh]
 have aoE: ∀(W:World),W.heap=(W1.setRow w.heap.size A.toArray).heap-> ∀ty dc sc,(Builtin.copy_ #[24,24] ty #[.slice (WF ⟨w.heap.size,(i+1)*3,acl⟩) (n-i) dc,.slice (WF ⟨b,off+i*3,acl⟩) (n-i) sc]).run Tryz.prog W= .ok (goInt (EQ (n-i) (n-i))) (W.setRow w.heap.size (mP ((i+1)*3) (cs.drop (i*3)) A).toArray):=fun W hW ty dc sc=>by
  have Ts:W1.heap[w.heap.size]? =WF (.cells xT 58 (0,0)):=by rw [hh1];simp
  have Jw:W.heap=w.heap.push (.cells A.toArray 58 (0,0)):=by rw [hW,bV Ts,hh1,Mk]
  have e:=pN (P:=Tryz.prog) W 24 24 ty 58 3 w.heap.size ((i+1)*3) (n-i) dc ⟨b,off+i*3,acl⟩ (n-i) sc A.toArray 58 (cs.drop (i*3)) Tryz.underlying24 B0 (by rw [Jw];simp) (by
   have:EQ (n-i) (n-i)=n-i:=by show min _ _=_;omega
   rw [hdl,this]) (fun j v hj=>by
   rw [Addr.add_lit,IR];rw [M2] at hj;have h1:=mE _ _ hj;rw [<- h1];have hh:W.heap[b]? =w.heap[b]?:=by rw [Jw,If,rc (by omega)]
   simp only [AC,hh]) (by rw [hdl];simp [hAl];omega) (fun v hv=>h1c v (F0s hv))
  exact e
 have aoF:G<=9223372036854775807:=by
  have:=grownCap_le_maxLen w (n+1) n 58 (by unfold maxLen;omega)
  rw [<- hG] at this;unfold maxLen at this;omega
 have hGi: ¬(G=i):=by omega
 have ax8: ¬(G=i+1):=by omega
 have hci: ¬(n=i):=by omega
 have hw1:IntKind.i64.wrap ((i:Int)+1)=(i:Int)+1:=by rw [IntKind.wrap_i64];omega
 have Ll:(0:Int)<=(i:Int)+1:=by omega
 have sE:i<=n:=by omega
 have htn:((i:Int)+1).toNat=i+1:=by omega
 have hb3:(i:Int)<=(n:Int):=by omega
 have fin: ∀W:World,W.heap=(W1.setRow w.heap.size A.toArray).heap->(W.setRow w.heap.size (mP ((i+1)*3) (cs.drop (i*3)) A).toArray).heap=w.heap.push (.cells (mP ((i+1)*3) (cs.drop (i*3)) A).toArray 58 (0,0)):=fun W hW=>by
  have Ts:W1.heap[w.heap.size]? =WF (.cells xT 58 (0,0)):=by rw [hh1];simp
  have Jw:W.heap=w.heap.push (.cells A.toArray 58 (0,0)):=by rw [hW,bV Ts,hh1,Mk]
  have hg2:W.heap[w.heap.size]? =WF (.cells A.toArray 58 (0,0)):=by rw [Jw];simp
  rw [bV hg2,Jw,Mk]
 clear vz KV uN Mj hG hRl hA hAl W0 hh1 Mk
 go_enter Tryz.func60,Tryz.ntmps60
 go_wp2_with (first
  |(at_builtin;refine v6 _ rfl _ _ _ _ rfl _ _ rfl rfl _ _ (hrz _) ?_)
  |(at_builtin;refine Db _ rfl _ _ 24 24 rfl _ _ rfl rfl (aum _ rfl _ _) ?_)
  |(at_builtin;refine Db _ rfl _ _ 24 24 rfl _ _ rfl rfl (aoE _ rfl _ _ _) ?_))
 have hF:((W1.setRow w.heap.size A.toArray).drew).heap=(W1.setRow w.heap.size A.toArray).heap:=rfl
 go_region_law_o (refine Gd rfl _ _ 24 24 rfl (.slice (WF ⟨w.heap.size,(i+1)*3,acl⟩) (n-i) (G- (i+1))) (.slice (WF ⟨b,off+i*3,acl⟩) (n-i) (n-i)) (by simp [Act.eval,Act.put]) (by simp [Act.eval,Act.put]) (aoE _ hF 3 (G- (i+1)) (n-i)) ?_)
 go_wp2
 go_ret
 exact ⟨rfl,fin _ rfl,Hy.1,Hy.2.1,Hy.2.2⟩
theorem SH:LL Tryz.prog 60 3 24 where
 ends:=aaB
 room b off n c i vb oW vc cs vs arr av el ev w hi tN hn U8 hg hgv qY Bg SG mE Jn h1c h1v:=by
  have B0:(Tryz.prog.info? 58).map (·.size)=WF 3:=by kernel_rfl
  have hz: ∀w,(sizeOf 58).run Tryz.prog w= .ok 3 w:=fun w=>by
   cases h:Tryz.prog.info? 58 with
   |none=>rw [h] at B0;cases B0
   |some i0=>rw [h] at B0;simp [sizeOf,typeInfo,h];simpa using B0
  have h3:(i+1)*3=i*3+vs.length:=by omega
  have hov: ∀lb cb,(callFunc 112 #[.slice (WF ⟨vb,oW,acl⟩) 1 vc,.slice (WF ⟨b,off+(i+1)*3,acl⟩) lb cb]).run Tryz.prog w= .ok (.value (.bool false)) w:=fun lb cb=>by
   rw [run_callFunc_extern Tryz.func112 (by kernel_rfl) (by kernel_rfl) (by kernel_rfl) (e:=Extern.SlicesOverlaps.overlaps #[24,24] #[4]) (by kernel_rfl),
    Lib.run_overlaps_apart w 24 4 58 Tryz.underlying24 3 hz ⟨vb,oW,acl⟩ ⟨b,off+(i+1)*3,acl⟩ 1 vc lb cb U8 ev el av.size arr.size (by simp [UV,hgv]) (by simp [UV,hg]) (by omega) (by simp [PP,hgv]) (by simp [PP,hgv])]
   rfl
  have HX:(mP (off+(i+1)*3) (cs.drop (i*3)) arr.toList).length=arr.size:=by rw [c8 _ _ _ (by simp [Bg];omega)];simp
  refine ⟨mP (off+i*3) vs (mP (off+(i+1)*3) (cs.drop (i*3)) arr.toList),?_,?_,?_⟩
  · rw [c8 _ _ _ (by rw [HX];omega),HX]
  · rw [h3,<- IR]
    exact Xy (by simp [Bg,SG];omega) (by omega) fun j v _ hj=>by simpa using mE j v hj
  refine (Vb b off n c i vb oW vc cs vs arr el w hi tN hn U8 hg qY Bg SG mE (fun j v hj=>by simp only [AC,hgv];exact Jn j v hj) h1c h1v hov).mono fun x w' ⟨hx,hw⟩=>?_
  subst hw;refine ⟨hx,?_,rfl,rfl,rfl⟩;have NT:w.drew.heap[b]? =WF (.cells arr el (0,0)):=hg;have dM:=(ww.1 NT).1;have e1:=bV (w:=w.drew) (cs:=(mP (off+(i+1)*3) (cs.drop (i*3)) arr.toList).toArray) NT
  rw [bV (cur:=(mP (off+(i+1)*3) (cs.drop (i*3)) arr.toList).toArray) (t:=el) (by rw [e1];exact ut dM),e1,Array.setIfInBounds_setIfInBounds]
  rfl
 full b off n i vb oW vc cs vs w hi hn Bg SG mE Jn h1c h1v:=by
  obtain ⟨G,xT,g1,g2,g3,g4⟩:=Vc b off n i vb oW vc cs vs w hi hn Bg SG mE Jn h1c h1v;have h3:(i+1)*3=i*3+vs.length:=by omega
  have HX:(mP (i*3) vs xT.toList).length=G*3:=by rw [c8 _ _ _ (by simp [g2,SG];omega)];simp [g2]
  refine ⟨G,_,58,g1,?_,?_,g4⟩
  · rw [c8 _ _ _ (by rw [HX];simp [Bg];omega),HX]
  rw [h3]
  exact Ub (by simp [g2,Bg,SG];omega) (by omega) g3
theorem akd:Bu Tryz.prog 60 (Jd 3):=by
 have B0:(Tryz.prog.info? 58).map (·.size)=WF 3:=by kernel_rfl
 have hzE:(Tryz.prog.info? 58).bind (·.zero)=WF (.agg #[.int .i64 0,.int .i64 0,.int .i64 0]):=by kernel_rfl
 have hbE:(Tryz.prog.info? 58).map (·.bytes)=WF 24:=by kernel_rfl
 cases h:Tryz.prog.info? 58 with
 |none=>rw [h] at B0;cases B0
 |some i0=>
  rw [h] at B0 hzE hbE;have hb:i0.bytes=24:=by simpa using hbE
  cases hc:Tryz.f60.body with
  |none=>exact absurd hc (by intro h;cases h)
  |some c=>exact Bu.ins Tryz.func60 (by kernel_rfl) hc Tryz.underlying24 h (by simpa using B0) (by simpa using hzE) rfl (by omega) (by decide) SH
end Go.Proofs.YtbgoiokedpjgbaaGreat
