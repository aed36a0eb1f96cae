/- slices.Insert of one point: what the call does to the cells. -/
import Derived.Test.YthljmpcakagceaaGreatChecked
import Derived.WalkKit
import Derived.Lib.Walk
import Derived.Lib.SliceRun
import Derived.Lib.Overlaps
import Derived.Lib.AppendZerosOnto
import Derived.Laws.Externs
import Derived.Laws.NewBlocks
import Derived.Shelf.RegionOpenPlain
import Derived.Test.YthljmpcakagceaaGreatCVm2
namespace Go.Proofs.YthljmpcakagceaaGreat
open Go.RowKit Go.Lib Go.Vm
theorem SS {P:Program} (w:World) {o:Oper} {a:Act} {K:Act->World->Prop} {Q:Exit->Act->World->Prop} (d s:Operand) (t t':TypeId)
 (ho:o.op= .call {callee:= .builtin .copy,args:= #[d,s],argTypes:= #[t,t']}) (v u:Value) (hd:a.eval d=v) (hs:a.eval s=u) {v':Value} {w':World}
 (hr:(Builtin.copy_ #[t,t'] o.type #[v,u]).run P w= .ok v' w') (h:K (a.put o.dst v') w'):o.wp P a w K Q:=by
 unfold Oper.wp execOp;simp only [ho,resolve,invoke,builtin,Sem.run_bind,Sem.run_pure,Result.andThen_ok,List.map_toArray,List.map_cons,List.map_nil,hd,hs,hr];exact h
theorem IL {P:Program} (w:World) {ops:Array Oper} {rest:List Oper} {o:Oper} {a:Act} {Q:Exit->Act->World->Prop} (hgd:o.guard=none) (d s:Operand) (t t':TypeId)
 (ho:o.op= .call {callee:= .builtin .copy,args:= #[d,s],argTypes:= #[t,t']}) (v u:Value) (hd:a.eval d=v) (hs:a.eval s=u) {v':Value} {w':World}
 (hr:(Builtin.copy_ #[t,t'] o.type #[v,u]).run P w= .ok v' w') (h:wpList P ops Q rest (a.put o.dst v') w'):wpList P ops Q (o::rest) a w:=
 wpList_plain hgd fun _ hK=>SS w d s t t' ho v u hd hs hr (hK _ _ h)
theorem L5 {P:Program} {ops:Array Oper} {o:Oper} {a:Act} {w:World} {K:Act->World->Prop} {Q:Exit->Act->World->Prop} {E:Prop}
 (hg:o.guard=none) (d x:Operand) (dT sT:TypeId) (hop:o.op=Op.call {callee:=Callee.builtin Builtin.copy,args:= #[d,x],argTypes:= #[dT,sT]})
 (v u:Value) (hd:a.eval d=v) (hx:a.eval x=u) {v':Value} {w':World} (hr:(Builtin.copy_ #[dT,sT] o.type #[v,u]).run P w= .ok v' w') (hK:K (a.put o.dst v') w'):
 if Region.wanted o (yielded ops a.tmps)=true then Oper.wp P o a w K Q else E:=by
 have hw:Region.wanted o (yielded ops a.tmps)=true:=by simp [Region.wanted,hg]
 rw [if_pos hw];exact SS w d x dT sT hop v u hd hx hr hK
set_option maxHeartbeats 4000000 in
set_option maxRecDepth 100000 in
theorem aBI (b off n c i vb voff vc:Nat) (cs vs:List Value) (arr:Array Value) (el:TypeId) (w:World) (hi:i<n) (hroom:n+1<=c) (hn6:n<=1048576) (hvb:vb≠b)
 (hg:w.heap[b]? =some (.cells arr el (0,0))) (hfit:off+(n+1)*3<=arr.size) (hcl:cs.length=n*3) (hvl:vs.length=3)
 (hcs: ∀j v,cs[j]? =some v->arr[off+j]? =some v) (hvs: ∀j v,vs[j]? =some v->w.cell? ⟨vb,voff+j,none⟩=some v) (h1c: ∀v∈cs,v.oneCell'=true) (h1v: ∀v∈vs,v.oneCell'=true)
 (hov: ∀lb cb,(callFunc 158 #[.slice (some ⟨vb,voff,none⟩) 1 vc,.slice (some ⟨b,off+(i+1)*3,none⟩) lb cb]).run Tryz.prog w= .ok (.value (.bool false)) w):
 Calls Tryz.prog 102 #[.slice (some ⟨b,off,none⟩) n c,.int .i64 i,.slice (some ⟨vb,voff,none⟩) 1 vc] w fun e w'=>
  e= .returned (.slice (some ⟨b,off,none⟩) (n+1) c)/\w'=(w.drew.setRow b (spl (off+(i+1)*3) (cs.drop (i*3)) arr.toList).toArray).setRow b (spl (off+i*3) vs (spl (off+(i+1)*3) (cs.drop (i*3)) arr.toList)).toArray:=by
 have uS:=run_underlying Tryz.underlying22;have hz2: ¬((i:Int)=(n:Int)):=by omega
 have hsE:(Tryz.prog.info? 64).map (·.size)=some 3:=by kernel_rfl
 have hdl:(cs.drop (i*3)).length=(n-i)*3:=by rw [List.length_drop,hcl,Nat.sub_mul]
 obtain ⟨A1,hA1⟩: ∃A1:List Value,A1=spl (off+(i+1)*3) (cs.drop (i*3)) arr.toList:=⟨_,rfl⟩;have hA1l:A1.length=arr.size:=by rw [hA1,dJ _ _ _ (by rw [hdl];simp;omega)];simp
 have hgd:w.drew.heap[b]? =some (.cells arr el (0,0)):=hg;have hcp1: ∀ty dc sc,(Builtin.copy_ #[22,22] ty #[.slice (some ⟨b,off+(i+1)*3,none⟩) (n-i) dc,.slice (some ⟨b,off+i*3,none⟩) (n+1-i) sc]).run Tryz.prog w.drew= .ok (goInt (Nat.min (n+1-i) (n-i))) (w.drew.setRow b A1.toArray):=fun ty dc sc=>by
  rw [hA1];refine sL w.drew 22 22 ty 64 3 b (off+(i+1)*3) _ dc ⟨b,off+i*3,none⟩ _ sc arr el (cs.drop (i*3)) Tryz.underlying22 hsE hgd ?_ (fun j v hj=>?_) (by rw [hdl];omega) (fun v hv=>h1c v (List.mem_of_mem_drop hv))
  · have:Nat.min (n+1-i) (n-i)=n-i:=by show min _ _=_;omega
    rw [hdl,this]
  · rw [Addr.add_lit,Nat.add_assoc]
    rw [List.getElem?_drop] at hj
    have:=hcs _ _ hj
    rw [show w.drew.cell? ⟨b,off+(i*3+j),none⟩=w.cell? ⟨b,off+(i*3+j),none⟩ from rfl];simp only [World.cell?,hg];exact this
 obtain ⟨W1,hW1⟩: ∃W1,W1=w.drew.setRow b A1.toArray:=⟨_,rfl⟩;have hg1:W1.heap[b]? =some (.cells A1.toArray el (0,0)):=by
  rw [hW1,cI hgd];exact Array.getElem?_setIfInBounds_self_of_lt (Array.getElem?_eq_some_iff.1 hgd).1
 have hcp2: ∀ty dc,(Builtin.copy_ #[22,22] ty #[.slice (some ⟨b,off+i*3,none⟩) (n+1-i) dc,.slice (some ⟨vb,voff,none⟩) 1 vc]).run Tryz.prog W1= .ok (goInt (Nat.min 1 (n+1-i))) (W1.setRow b (spl (off+i*3) vs A1).toArray):=fun ty dc=>by
  refine (sL W1 22 22 ty 64 3 b (off+i*3) _ dc ⟨vb,voff,none⟩ 1 vc A1.toArray el vs Tryz.underlying22 hsE hg1 ?_ (fun j v hj=>?_) (by simp [hA1l,hvl];omega) h1v)
  · have:Nat.min 1 (n+1-i)=1:=by show min _ _=_;omega
    rw [hvl,this]
  · rw [Addr.add_lit]
    have h1:=hvs j v hj;rw [<- h1];have hh:W1.heap[vb]? =w.heap[vb]?:=by rw [hW1,cI hgd,Array.getElem?_setIfInBounds,if_neg (fun e=>hvb e.symm)];rfl
    simp only [World.cell?,hh]
 rw [<- hW1] at hcp1;rw [<- hA1,<- hW1];have hw1:IntKind.i64.wrap ((i:Int)+1)=(i:Int)+1:=by rw [IntKind.wrap_i64];omega
 have hb1:(0:Int)<=(i:Int)+1:=by omega
 have hin:i<=n:=by omega
 have htn:((i:Int)+1).toNat=i+1:=by omega
 have hb2: ¬(c=i+1):=by omega
 have hb3:(i:Int)<=(n:Int)+1:=by omega
 have hb4: ¬(c=i):=by omega
 have mixed:Tryz.prog.follows .mixedOrders=true:=Tryz.checked.mixed;clear hg1 hW1 hA1l hA1 hgd hg
 go_enter Tryz.func102,Tryz.ntmps102
 go_wp2_with (simp only [hov])
 go_region_law_o (refine L5 rfl _ _ 22 22 rfl _ _ (by simp [Act.eval,Act.put]) (by simp [Act.eval,Act.put]) (hcp1 _ _ _) ?_)
 go_wp2_with (at_builtin;refine IL _ rfl _ _ 22 22 rfl _ _ rfl rfl (hcp2 _ _) ?_)
 go_ret
 exact ⟨rfl,rfl⟩
set_option maxHeartbeats 4000000 in
set_option maxRecDepth 100000 in
theorem aFA (base:Option Addr) (n c vb voff vc:Nat) (w w':World) (v':Value) (_:n<=c)
 (hrun:(Builtin.append_ #[22,22] 22 #[.slice base n c,.slice (some ⟨vb,voff,none⟩) 1 vc]).run Tryz.prog w= .ok v' w'):
 Calls Tryz.prog 102 #[.slice base n c,.int .i64 n,.slice (some ⟨vb,voff,none⟩) 1 vc] w fun e W=>e= .returned v'/\W=w':=by
 have uS:=run_underlying Tryz.underlying22;have mixed:Tryz.prog.follows .mixedOrders=true:=Tryz.checked.mixed
 go_enter Tryz.func102,Tryz.ntmps102
 cases base with
 |none=>
  go_wp2_with (at_builtin;refine Lib.wpList_append_run _ rfl _ _ _ _ rfl _ _ rfl rfl _ _ hrun ?_)
  go_ret
  exact ⟨rfl,rfl⟩
 |some a=>
  obtain ⟨ab,ao,asp⟩:=a
  go_wp2_with (at_builtin;refine Lib.wpList_append_run _ rfl _ _ _ _ rfl _ _ rfl rfl _ _ hrun ?_)
  all_goals (go_ret;exact ⟨rfl,rfl⟩)
set_option maxHeartbeats 4000000 in
set_option maxRecDepth 100000 in
theorem aBJ (b off n i vb voff vc:Nat) (cs vs:List Value) (w:World) (hi:i<n) (hn:n<=1048576) (hcl:cs.length=n*3) (hvl:vs.length=3)
 (hcs: ∀j v,cs[j]? =some v->w.cell? ⟨b,off+j,none⟩=some v) (hvs: ∀j v,vs[j]? =some v->w.cell? ⟨vb,voff+j,none⟩=some v) (h1c: ∀v∈cs,v.oneCell'=true) (h1v: ∀v∈vs,v.oneCell'=true):
 ∃(G:Nat) (ROW:Array Value),n+1<=G/\ROW.size=G*3/\(∀j v,j<i*3->cs[j]? =some v->ROW.toList[j]? =some v)/\
 Calls Tryz.prog 102 #[.slice (some ⟨b,off,none⟩) n n,.int .i64 i,.slice (some ⟨vb,voff,none⟩) 1 vc] w fun e w'=>
  e= .returned (.slice (some ⟨w.heap.size,0,none⟩) (n+1) G)/\
  w'.heap=w.heap.push (.cells (spl ((i+1)*3) (cs.drop (i*3)) (spl (i*3) vs ROW.toList)).toArray 64 (0,0))/\w'.os=w.os/\w'.tape=w.tape/\w'.output=w.output:=by
 have uS:=run_underlying Tryz.underlying22;have u3:=run_underlying Tryz.underlying3;have mixed:Tryz.prog.follows .mixedOrders=true:=Tryz.checked.mixed;have hsE:(Tryz.prog.info? 64).map (·.size)=some 3:=by kernel_rfl
 have hzE:(Tryz.prog.info? 64).bind (·.zero)=some (.agg #[.int .i64 0,.int .i64 0,.int .i64 0]):=by kernel_rfl
 have hbE:(Tryz.prog.info? 64).map (·.bytes)=some 24:=by kernel_rfl
 obtain ⟨i0,hi0⟩: ∃i0,Tryz.prog.info? 64=some i0:=by
  cases h:Tryz.prog.info? 64 with
  |none=>rw [h] at hsE;cases hsE
  |some i0=>exact ⟨i0,rfl⟩
 have hzs:i0.size=3:=by rw [hi0] at hsE;simpa using hsE
 have hz0:i0.zero=some (.agg #[.int .i64 0,.int .i64 0,.int .i64 0]):=by rw [hi0] at hzE;simpa using hzE
 have hzb:i0.bytes=24:=by rw [hi0] at hbE;simpa using hbE
 have hz2: ¬((i:Int)=(n:Int)):=by omega
 have hz3:(n:Int)<(n:Int)+1:=by omega
 have hbw:b<w.heap.size:=block_lt_of_cell (hcs 0 _ (List.getElem?_eq_getElem (by omega)))
 have hvw:vb<w.heap.size:=block_lt_of_cell (hvs 0 _ (List.getElem?_eq_getElem (by omega)))
 have hkk:(n:Int)+1- (i:Int)=((n+1-i:Nat):Int):=by omega
 have hik:i+(n+1-i)=n+1:=by omega
 have hold:(Builtin.firstCells i0.size i (.slice (some ⟨b,off,none⟩) i n)).run Tryz.prog w.drew= .ok (cs.take (i*3)).toArray w.drew:=by
  rw [hzs];exact run_firstCells_some w.drew 3 i ⟨b,off,none⟩ i n (cs.take (i*3)) (by rw [List.length_take];omega) (fun j v hj=>by
   rw [Addr.add_lit];rw [List.getElem?_take] at hj;split at hj
   · exact hcs j v hj
   · cases hj)
 have hrz: ∀ty,(Builtin.append_ #[22,3] ty #[.slice (some ⟨b,off,none⟩) i n,.int .i64 ((n:Int)+1- (i:Int))]).run Tryz.prog w= .ok (.slice (some ⟨w.heap.size,0,none⟩) (n+1) (grownCap w (n+1) n 64)) (w.drew.alloc (.cells ((cs.take (i*3)).toArray++Builtin.zeroCells (Value.agg #[.int .i64 0,.int .i64 0,.int .i64 0]).cells (n+1-i)++Builtin.zeroCells (Value.agg #[.int .i64 0,.int .i64 0,.int .i64 0]).cells (grownCap w (n+1) n 64- (n+1))) 64)):=fun ty=>by
  have h:=Lib.run_append_grow_zeros w 22 3 ty 64 i0 _ .i64 .i64 Tryz.underlying22 Tryz.underlying3 hi0 hz0 (some ⟨b,off,none⟩) i n (cs.take (i*3)) hold (n+1-i) (by omega) (by omega) (by omega) (by omega) (by rw [hzb];omega) (by rw [hzb,hik];exact growslice_fits (by omega) (by omega))
  rw [hik] at h;rw [hkk];exact h
 obtain ⟨G,hG⟩: ∃G,G=grownCap w (n+1) n 64:=⟨_,rfl⟩;obtain ⟨ROW,hROW⟩: ∃ROW:Array Value,ROW=(cs.take (i*3)).toArray++Builtin.zeroCells (Value.agg #[.int .i64 0,.int .i64 0,.int .i64 0]).cells (n+1-i)++Builtin.zeroCells (Value.agg #[.int .i64 0,.int .i64 0,.int .i64 0]).cells (G- (n+1)):=⟨_,rfl⟩;rw [<- hG] at hrz;rw [<- hROW] at hrz;have hGn:n+1<=G:=by rw [hG];exact I3 w _ _ _
 have hRl:ROW.size=G*3:=by
  rw [hROW];simp [Builtin.zeroCells,Value.cells];omega
 refine ⟨G,ROW,hGn,hRl,fun j v hj hc=>?_,?_⟩
 · rw [hROW]
   simp only [Array.toList_append];rw [List.append_assoc,List.getElem?_append_left (by simp;omega)]
   simp only [List.getElem?_take_of_lt hj];exact hc
 obtain ⟨W1,hW1⟩: ∃W1,W1=w.drew.alloc (.cells ROW 64):=⟨_,rfl⟩;rw [<- hW1] at hrz;have hh1:W1.heap=w.heap.push (.cells ROW 64 (0,0)):=by rw [hW1];rfl
 have hx1:W1.os=w.os/\W1.tape=w.tape/\W1.output=w.output:=by rw [hW1];exact ⟨rfl,rfl,rfl⟩
 have pset: ∀(x y:Obj),(w.heap.push x).setIfInBounds w.heap.size y=w.heap.push y:=fun x y=>by
  apply Array.ext';simp
 obtain ⟨A,hA⟩: ∃A:List Value,A=spl (i*3) vs ROW.toList:=⟨_,rfl⟩;have hAl:A.length=G*3:=by rw [hA,dJ _ _ _ (by rw [hvl];simp [hRl];omega)];simpa using hRl
 rw [<- hA];have hdl:(cs.drop (i*3)).length=(n-i)*3:=by rw [List.length_drop,hcl,Nat.sub_mul]
 have hcpA: ∀(W:World),W.heap=W1.heap-> ∀ty dc,(Builtin.copy_ #[22,22] ty #[.slice (some ⟨w.heap.size,i*3,none⟩) (n+1-i) dc,.slice (some ⟨vb,voff,none⟩) 1 vc]).run Tryz.prog W= .ok (goInt (Nat.min 1 (n+1-i))) (W.setRow w.heap.size A.toArray):=fun W hW ty dc=>by
  rw [hA];refine sL W 22 22 ty 64 3 w.heap.size (i*3) _ dc ⟨vb,voff,none⟩ 1 vc ROW 64 vs Tryz.underlying22 hsE (by rw [hW,hh1];simp) ?_ (fun j v hj=>?_) (by rw [hvl,hRl];omega) h1v
  · have:Nat.min 1 (n+1-i)=1:=by show min _ _=_;omega
    rw [hvl,this]
  · rw [Addr.add_lit]
    have h1:=hvs j v hj;rw [<- h1];have hh:W.heap[vb]? =w.heap[vb]?:=by rw [hW,hh1,Array.getElem?_push,if_neg (by omega)]
    simp only [World.cell?,hh]
 have hcpB: ∀(W:World),W.heap=(W1.setRow w.heap.size A.toArray).heap-> ∀ty dc sc,(Builtin.copy_ #[22,22] ty #[.slice (some ⟨w.heap.size,(i+1)*3,none⟩) (n-i) dc,.slice (some ⟨b,off+i*3,none⟩) (n-i) sc]).run Tryz.prog W= .ok (goInt (Nat.min (n-i) (n-i))) (W.setRow w.heap.size (spl ((i+1)*3) (cs.drop (i*3)) A).toArray):=fun W hW ty dc sc=>by
  have hg1:W1.heap[w.heap.size]? =some (.cells ROW 64 (0,0)):=by rw [hh1];simp
  have hW2:W.heap=w.heap.push (.cells A.toArray 64 (0,0)):=by rw [hW,cI hg1,hh1,pset]
  have e:=sL (P:=Tryz.prog) W 22 22 ty 64 3 w.heap.size ((i+1)*3) (n-i) dc ⟨b,off+i*3,none⟩ (n-i) sc A.toArray 64 (cs.drop (i*3)) Tryz.underlying22 hsE (by rw [hW2];simp) (by
   have:Nat.min (n-i) (n-i)=n-i:=by show min _ _=_;omega
   rw [hdl,this]) (fun j v hj=>by
   rw [Addr.add_lit,Nat.add_assoc];rw [List.getElem?_drop] at hj;have h1:=hcs _ _ hj;rw [<- h1];have hh:W.heap[b]? =w.heap[b]?:=by rw [hW2,Array.getElem?_push,if_neg (by omega)]
   simp only [World.cell?,hh]) (by rw [hdl];simp [hAl];omega) (fun v hv=>h1c v (List.mem_of_mem_drop hv))
  exact e
 have hG63:G<=9223372036854775807:=by
  have:=grownCap_le_maxLen w (n+1) n 64 (by unfold maxLen;omega)
  rw [<- hG] at this;unfold maxLen at this;omega
 have hGi: ¬(G=i):=by omega
 have hGim: ¬(G=i+1):=by omega
 have hci: ¬(n=i):=by omega
 have hw1:IntKind.i64.wrap ((i:Int)+1)=(i:Int)+1:=by rw [IntKind.wrap_i64];omega
 have hb1:(0:Int)<=(i:Int)+1:=by omega
 have hin:i<=n:=by omega
 have htn:((i:Int)+1).toNat=i+1:=by omega
 have hb3:(i:Int)<=(n:Int):=by omega
 have fin: ∀W:World,W.heap=(W1.setRow w.heap.size A.toArray).heap->(W.setRow w.heap.size (spl ((i+1)*3) (cs.drop (i*3)) A).toArray).heap=w.heap.push (.cells (spl ((i+1)*3) (cs.drop (i*3)) A).toArray 64 (0,0)):=fun W hW=>by
  have hg1:W1.heap[w.heap.size]? =some (.cells ROW 64 (0,0)):=by rw [hh1];simp
  have hW2:W.heap=w.heap.push (.cells A.toArray 64 (0,0)):=by rw [hW,cI hg1,hh1,pset]
  have hg2:W.heap[w.heap.size]? =some (.cells A.toArray 64 (0,0)):=by rw [hW2];simp
  rw [cI hg2,hW2,pset]
 clear hkk hik hold hROW hG hRl hA hAl hW1 hh1 pset
 go_enter Tryz.func102,Tryz.ntmps102
 go_wp2_with (first
  |(at_builtin;refine Lib.wpList_append_run _ rfl _ _ _ _ rfl _ _ rfl rfl _ _ (hrz _) ?_)
  |(at_builtin;refine IL _ rfl _ _ 22 22 rfl _ _ rfl rfl (hcpA _ rfl _ _) ?_)
  |(at_builtin;refine IL _ rfl _ _ 22 22 rfl _ _ rfl rfl (hcpB _ rfl _ _ _) ?_))
 have hF:((W1.setRow w.heap.size A.toArray).drew).heap=(W1.setRow w.heap.size A.toArray).heap:=rfl
 go_region_law_o (refine L5 rfl _ _ 22 22 rfl (.slice (some ⟨w.heap.size,(i+1)*3,none⟩) (n-i) (G- (i+1))) (.slice (some ⟨b,off+i*3,none⟩) (n-i) (n-i)) (by simp [Act.eval,Act.put]) (by simp [Act.eval,Act.put]) (hcpB _ hF 3 (G- (i+1)) (n-i)) ?_)
 go_wp2
 go_ret
 exact ⟨rfl,fin _ rfl,hx1.1,hx1.2.1,hx1.2.2⟩
theorem aAd:RZ Tryz.prog 102 3 22 where
 ends:=aFA
 room b off n c i vb voff vc cs vs arr av el ev w hi hroom hn hvb hg hgv hfit hcl hvl hcs hvs h1c h1v:=by
  have hsE:(Tryz.prog.info? 64).map (·.size)=some 3:=by kernel_rfl
  have hz: ∀w,(sizeOf 64).run Tryz.prog w= .ok 3 w:=fun w=>by
   cases h:Tryz.prog.info? 64 with
   |none=>rw [h] at hsE;cases hsE
   |some i0=>rw [h] at hsE;simp [sizeOf,typeInfo,h];simpa using hsE
  have h3:(i+1)*3=i*3+vs.length:=by omega
  have hov: ∀lb cb,(callFunc 158 #[.slice (some ⟨vb,voff,none⟩) 1 vc,.slice (some ⟨b,off+(i+1)*3,none⟩) lb cb]).run Tryz.prog w= .ok (.value (.bool false)) w:=fun lb cb=>by
   rw [run_callFunc_extern Tryz.func158 (by kernel_rfl) (by kernel_rfl) (by kernel_rfl) (e:=Extern.SlicesOverlaps.overlaps #[22,22] #[4]) (by kernel_rfl),
    Lib.run_overlaps_apart w 22 4 64 Tryz.underlying22 3 hz ⟨vb,voff,none⟩ ⟨b,off+(i+1)*3,none⟩ 1 vc lb cb hvb ev el av.size arr.size (by simp [World.shape?,hgv]) (by simp [World.shape?,hg]) (by omega) (by simp [World.frozen?,hgv]) (by simp [World.frozen?,hgv])]
   rfl
  have hl1:(spl (off+(i+1)*3) (cs.drop (i*3)) arr.toList).length=arr.size:=by rw [dJ _ _ _ (by simp [hcl];omega)];simp
  refine ⟨spl (off+i*3) vs (spl (off+(i+1)*3) (cs.drop (i*3)) arr.toList),?_,?_,?_⟩
  · rw [dJ _ _ _ (by rw [hl1];omega),hl1]
  · rw [h3,<- Nat.add_assoc]
    exact aCV (by simp [hcl,hvl];omega) (by omega) fun j v _ hj=>by simpa using hcs j v hj
  · refine (aBI b off n c i vb voff vc cs vs arr el w hi hroom hn hvb hg hfit hcl hvl hcs (fun j v hj=>by simp only [World.cell?,hgv];exact hvs j v hj) h1c h1v hov).mono fun x w' ⟨hx,hw⟩=>?_
    subst hw;refine ⟨hx,?_,rfl,rfl,rfl⟩;have hgd:w.drew.heap[b]? =some (.cells arr el (0,0)):=hg;have hlt:=(Array.getElem?_eq_some_iff.1 hgd).1;have e1:=cI (w:=w.drew) (cs:=(spl (off+(i+1)*3) (cs.drop (i*3)) arr.toList).toArray) hgd
    rw [cI (cur:=(spl (off+(i+1)*3) (cs.drop (i*3)) arr.toList).toArray) (t:=el) (by rw [e1];exact Array.getElem?_setIfInBounds_self_of_lt hlt),e1,Array.setIfInBounds_setIfInBounds]
    rfl
 full b off n i vb voff vc cs vs w hi hn hcl hvl hcs hvs h1c h1v:=by
  obtain ⟨G,ROW,g1,g2,g3,g4⟩:=aBJ b off n i vb voff vc cs vs w hi hn hcl hvl hcs hvs h1c h1v;have h3:(i+1)*3=i*3+vs.length:=by omega
  have hl1:(spl (i*3) vs ROW.toList).length=G*3:=by rw [dJ _ _ _ (by simp [g2,hvl];omega)];simp [g2]
  refine ⟨G,_,64,g1,?_,?_,g4⟩
  · rw [dJ _ _ _ (by rw [hl1];simp [hcl];omega),hl1]
  · rw [h3]
    exact aAU (by simp [g2,hcl,hvl];omega) (by omega) g3
theorem aNz:ZN Tryz.prog 102 (O2 3):=by
 have hsE:(Tryz.prog.info? 64).map (·.size)=some 3:=by kernel_rfl
 have hzE:(Tryz.prog.info? 64).bind (·.zero)=some (.agg #[.int .i64 0,.int .i64 0,.int .i64 0]):=by kernel_rfl
 have hbE:(Tryz.prog.info? 64).map (·.bytes)=some 24:=by kernel_rfl
 cases h:Tryz.prog.info? 64 with
 |none=>rw [h] at hsE;cases hsE
 |some i0=>
  rw [h] at hsE hzE hbE;have hb:i0.bytes=24:=by simpa using hbE
  cases hc:Tryz.f102.body with
  |none=>exact absurd hc (by intro h;cases h)
  |some c=>exact ZN.ins Tryz.func102 (by kernel_rfl) hc Tryz.underlying22 h (by simpa using hsE) (by simpa using hzE) rfl (by omega) (by decide) aAd
end Go.Proofs.YthljmpcakagceaaGreat
