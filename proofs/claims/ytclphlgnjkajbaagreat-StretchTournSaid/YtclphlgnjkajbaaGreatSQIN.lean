/- slices.Insert of one point: what the call does to the cells. -/
import Derived.Test.YtclphlgnjkajbaaGreatChecked
import Derived.WalkKit
import Derived.Lib.Walk
import Derived.Lib.SliceRun
import Derived.Lib.Overlaps
import Derived.Lib.AppendZerosOnto
import Derived.Laws.Externs
import Derived.Laws.NewBlocks
import Derived.Shelf.RegionOpenPlain
import Derived.Test.YtclphlgnjkajbaaGreatSVm2
open Array renaming getElem?_setIfInBounds_self_of_lt->v6,getElem?_eq_some_iff->AC,getElem?_push->M2
open Go.Lib renaming wpList_append_run->ww
open Go.World renaming cell?->Do,frozen?->WF,shape?->aah
open List renaming getElem?_eq_getElem->EQ,mem_of_mem_drop->IR,getElem?_drop->PP,length_drop->UV
open Nat renaming min->If,add_assoc->NE
open Option renaming some->aal,none->aau
open Bool renaming true->aav
namespace Go.Proofs.YtclphlgnjkajbaaGreat
open Go.RowKit Go.Lib Go.Vm
theorem Ku {P:Program} (w:World) {o:Oper} {a:Act} {K:Act->World->Prop} {Q:Exit->Act->World->Prop} (d s:Operand) (t t':TypeId)
 (ho:o.op= .call {callee:= .builtin .copy,args:= #[d,s],argTypes:= #[t,t']}) (v u:Value) (hd:a.eval d=v) (hs:a.eval s=u) {v':Value} {w':World}
 (hr:(Builtin.copy_ #[t,t'] o.type #[v,u]).run P w= .ok v' w') (h:K (a.put o.dst v') w'):o.wp P a w K Q:=by
 unfold Oper.wp execOp;simp only [ho,resolve,invoke,builtin,Sem.run_bind,Sem.run_pure,Result.andThen_ok,List.map_toArray,List.map_cons,List.map_nil,hd,hs,hr];exact h
theorem B5 {P:Program} (w:World) {ops:Array Oper} {rest:List Oper} {o:Oper} {a:Act} {Q:Exit->Act->World->Prop} (LA:o.guard=aau) (d s:Operand) (t t':TypeId)
 (ho:o.op= .call {callee:= .builtin .copy,args:= #[d,s],argTypes:= #[t,t']}) (v u:Value) (hd:a.eval d=v) (hs:a.eval s=u) {v':Value} {w':World}
 (hr:(Builtin.copy_ #[t,t'] o.type #[v,u]).run P w= .ok v' w') (h:wpList P ops Q rest (a.put o.dst v') w'):wpList P ops Q (o::rest) a w:=
 wpList_plain LA fun _ hK=>Ku w d s t t' ho v u hd hs hr (hK _ _ h)
theorem E4 {P:Program} {ops:Array Oper} {o:Oper} {a:Act} {w:World} {K:Act->World->Prop} {Q:Exit->Act->World->Prop} {E:Prop}
 (hg:o.guard=aau) (d x:Operand) (dT sT:TypeId) (fo:o.op=Op.call {callee:=Callee.builtin Builtin.copy,args:= #[d,x],argTypes:= #[dT,sT]})
 (v u:Value) (hd:a.eval d=v) (hx:a.eval x=u) {v':Value} {w':World} (hr:(Builtin.copy_ #[dT,sT] o.type #[v,u]).run P w= .ok v' w') (hK:K (a.put o.dst v') w'):
 if Region.wanted o (yielded ops a.tmps)=aav then Oper.wp P o a w K Q else E:=by
 have hw:Region.wanted o (yielded ops a.tmps)=aav:=by simp [Region.wanted,hg]
 rw [rc hw];exact Ku w d x dT sT fo v u hd hx hr hK
set_option maxHeartbeats 4000000 in
set_option maxRecDepth 100000 in
theorem Sf (b off n c i vb nP vc:Nat) (cs vs:List Value) (arr:Array Value) (el:TypeId) (w:World) (hi:i<n) (rW:n+1<=c) (hn6:n<=1048576) (Sb:vb≠b)
 (hg:w.heap[b]? =aal (.cells arr el (0,0))) (pQ:off+(n+1)*3<=arr.size) (Aj:cs.length=n*3) (PL:vs.length=3)
 (lO: ∀j v,cs[j]? =aal v->arr[off+j]? =aal v) (HP: ∀j v,vs[j]? =aal v->w.cell? ⟨vb,nP+j,aau⟩=aal v) (h1c: ∀v∈cs,v.oneCell'=aav) (h1v: ∀v∈vs,v.oneCell'=aav)
 (hov: ∀lb cb,(callFunc 172 #[.slice (aal ⟨vb,nP,aau⟩) 1 vc,.slice (aal ⟨b,off+(i+1)*3,aau⟩) lb cb]).run Tryz.prog w= .ok (.value (.bool false)) w):
 Calls Tryz.prog 91 #[.slice (aal ⟨b,off,aau⟩) n c,.int .i64 i,.slice (aal ⟨vb,nP,aau⟩) 1 vc] w fun e w'=>
  e= .returned (.slice (aal ⟨b,off,aau⟩) (n+1) c)/\w'=(w.drew.setRow b (lZ (off+(i+1)*3) (cs.drop (i*3)) arr.toList).toArray).setRow b (lZ (off+i*3) vs (lZ (off+(i+1)*3) (cs.drop (i*3)) arr.toList)).toArray:=by
 have uS:=run_underlying Tryz.underlying30;have hz2: ¬((i:Int)=(n:Int)):=by omega
 have A6:(Tryz.prog.info? 53).map (·.size)=aal 3:=by kernel_rfl
 have hdl:(cs.drop (i*3)).length=(n-i)*3:=by rw [UV,Aj,Nat.sub_mul]
 obtain ⟨A1,hA1⟩: ∃A1:List Value,A1=lZ (off+(i+1)*3) (cs.drop (i*3)) arr.toList:=⟨_,rfl⟩;have agp:A1.length=arr.size:=by rw [hA1,cQ _ _ _ (by rw [hdl];simp;omega)];simp
 have LA:w.drew.heap[b]? =aal (.cells arr el (0,0)):=hg;have agq: ∀ty dc sc,(Builtin.copy_ #[30,30] ty #[.slice (aal ⟨b,off+(i+1)*3,aau⟩) (n-i) dc,.slice (aal ⟨b,off+i*3,aau⟩) (n+1-i) sc]).run Tryz.prog w.drew= .ok (goInt (If (n+1-i) (n-i))) (w.drew.setRow b A1.toArray):=fun ty dc sc=>by
  rw [hA1];refine oL w.drew 30 30 ty 53 3 b (off+(i+1)*3) _ dc ⟨b,off+i*3,aau⟩ _ sc arr el (cs.drop (i*3)) Tryz.underlying30 A6 LA ?_ (fun j v hj=>?_) (by rw [hdl];omega) (fun v hv=>h1c v (IR hv))
  · have:If (n+1-i) (n-i)=n-i:=by show min _ _=_;omega
    rw [hdl,this]
  rw [Addr.add_lit,NE]
  rw [PP] at hj;have:=lO _ _ hj;rw [show w.drew.cell? ⟨b,off+(i*3+j),aau⟩=w.cell? ⟨b,off+(i*3+j),aau⟩ from rfl];simp only [Do,hg];exact this
 obtain ⟨W1,T2⟩: ∃W1,W1=w.drew.setRow b A1.toArray:=⟨_,rfl⟩;have Qr:W1.heap[b]? =aal (.cells A1.toArray el (0,0)):=by rw [T2,bO LA];exact v6 (AC.1 LA).1
 have akt: ∀ty dc,(Builtin.copy_ #[30,30] ty #[.slice (aal ⟨b,off+i*3,aau⟩) (n+1-i) dc,.slice (aal ⟨vb,nP,aau⟩) 1 vc]).run Tryz.prog W1= .ok (goInt (If 1 (n+1-i))) (W1.setRow b (lZ (off+i*3) vs A1).toArray):=fun ty dc=>by
  refine (oL W1 30 30 ty 53 3 b (off+i*3) _ dc ⟨vb,nP,aau⟩ 1 vc A1.toArray el vs Tryz.underlying30 A6 Qr ?_ (fun j v hj=>?_) (by simp [agp,PL];omega) h1v)
  · have:If 1 (n+1-i)=1:=by show min _ _=_;omega
    rw [PL,this]
  rw [Addr.add_lit]
  have h1:=HP j v hj;rw [<- h1];have hh:W1.heap[vb]? =w.heap[vb]?:=by rw [T2,bO LA,Array.getElem?_setIfInBounds,ut (fun e=>Sb e.symm)];rfl
  simp only [Do,hh]
 rw [<- T2] at agq;rw [<- hA1,<- T2];have hw1:IntKind.i64.wrap ((i:Int)+1)=(i:Int)+1:=by rw [IntKind.wrap_i64];omega
 have JA:(0:Int)<=(i:Int)+1:=by omega
 have qI:i<=n:=by omega
 have htn:((i:Int)+1).toNat=i+1:=by omega
 have Q3: ¬(c=i+1):=by omega
 have hb3:(i:Int)<=(n:Int)+1:=by omega
 have hb4: ¬(c=i):=by omega
 have mixed:Tryz.prog.follows .mixedOrders=aav:=Tryz.checked.mixed;clear Qr T2 agp hA1 LA hg
 go_enter Tryz.func91,Tryz.ntmps91
 go_wp2_with (simp only [hov])
 go_region_law_o (refine E4 rfl _ _ 30 30 rfl _ _ (by simp [Act.eval,Act.put]) (by simp [Act.eval,Act.put]) (agq _ _ _) ?_)
 go_wp2_with (at_builtin;refine B5 _ rfl _ _ 30 30 rfl _ _ rfl rfl (akt _ _) ?_)
 go_ret
 exact ⟨rfl,rfl⟩
set_option maxHeartbeats 4000000 in
set_option maxRecDepth 100000 in
theorem WW (nZ:Option Addr) (n c vb nP vc:Nat) (w w':World) (v':Value) (_:n<=c)
 (bT:(Builtin.append_ #[30,30] 30 #[.slice nZ n c,.slice (aal ⟨vb,nP,aau⟩) 1 vc]).run Tryz.prog w= .ok v' w'):
 Calls Tryz.prog 91 #[.slice nZ n c,.int .i64 n,.slice (aal ⟨vb,nP,aau⟩) 1 vc] w fun e W=>e= .returned v'/\W=w':=by
 have uS:=run_underlying Tryz.underlying30;have mixed:Tryz.prog.follows .mixedOrders=aav:=Tryz.checked.mixed
 go_enter Tryz.func91,Tryz.ntmps91
 cases nZ with
 |none=>
  go_wp2_with (at_builtin;refine ww _ rfl _ _ _ _ rfl _ _ rfl rfl _ _ bT ?_)
  go_ret
  exact ⟨rfl,rfl⟩
 |some a=>
  obtain ⟨ab,ao,asp⟩:=a
  go_wp2_with (at_builtin;refine ww _ rfl _ _ _ _ rfl _ _ rfl rfl _ _ bT ?_)
  all_goals (go_ret;exact ⟨rfl,rfl⟩)
set_option maxHeartbeats 4000000 in
set_option maxRecDepth 100000 in
theorem Sg (b off n i vb nP vc:Nat) (cs vs:List Value) (w:World) (hi:i<n) (hn:n<=1048576) (Aj:cs.length=n*3) (PL:vs.length=3)
 (lO: ∀j v,cs[j]? =aal v->w.cell? ⟨b,off+j,aau⟩=aal v) (HP: ∀j v,vs[j]? =aal v->w.cell? ⟨vb,nP+j,aau⟩=aal v) (h1c: ∀v∈cs,v.oneCell'=aav) (h1v: ∀v∈vs,v.oneCell'=aav):
 ∃(G:Nat) (wF:Array Value),n+1<=G/\wF.size=G*3/\(∀j v,j<i*3->cs[j]? =aal v->wF.toList[j]? =aal v)/\
 Calls Tryz.prog 91 #[.slice (aal ⟨b,off,aau⟩) n n,.int .i64 i,.slice (aal ⟨vb,nP,aau⟩) 1 vc] w fun e w'=>
  e= .returned (.slice (aal ⟨w.heap.size,0,aau⟩) (n+1) G)/\
  w'.heap=w.heap.push (.cells (lZ ((i+1)*3) (cs.drop (i*3)) (lZ (i*3) vs wF.toList)).toArray 53 (0,0))/\w'.os=w.os/\Go.Vm.Tape w w'/\w'.output=w.output:=by
 have uS:=run_underlying Tryz.underlying30;have u3:=run_underlying Tryz.underlying3;have mixed:Tryz.prog.follows .mixedOrders=aav:=Tryz.checked.mixed;have A6:(Tryz.prog.info? 53).map (·.size)=aal 3:=by kernel_rfl
 have ZM:(Tryz.prog.info? 53).bind (·.zero)=aal (.agg #[.int .i64 0,.int .i64 0,.int .i64 0]):=by kernel_rfl
 have ZN:(Tryz.prog.info? 53).map (·.bytes)=aal 24:=by kernel_rfl
 obtain ⟨i0,NM⟩: ∃i0,Tryz.prog.info? 53=aal i0:=by
  cases h:Tryz.prog.info? 53 with
  |none=>rw [h] at A6;cases A6
  |some i0=>exact ⟨i0,rfl⟩
 have Ju:i0.size=3:=by rw [NM] at A6;simpa using A6
 have hz0:i0.zero=aal (.agg #[.int .i64 0,.int .i64 0,.int .i64 0]):=by rw [NM] at ZM;simpa using ZM
 have hzb:i0.bytes=24:=by rw [NM] at ZN;simpa using ZN
 have hz2: ¬((i:Int)=(n:Int)):=by omega
 have hz3:(n:Int)<(n:Int)+1:=by omega
 have hbw:b<w.heap.size:=block_lt_of_cell (lO 0 _ (EQ (by omega)));have hvw:vb<w.heap.size:=block_lt_of_cell (HP 0 _ (EQ (by omega)));have tQ:(n:Int)+1- (i:Int)=((n+1-i:Nat):Int):=by omega
 have Jb:i+(n+1-i)=n+1:=by omega
 have sR:(Builtin.firstCells i0.size i (.slice (aal ⟨b,off,aau⟩) i n)).run Tryz.prog w.drew= .ok (cs.take (i*3)).toArray w.drew:=by
  rw [Ju];exact run_firstCells_some w.drew 3 i ⟨b,off,aau⟩ i n (cs.take (i*3)) (by rw [List.length_take];omega) (fun j v hj=>by
   rw [Addr.add_lit];rw [List.getElem?_take] at hj;split at hj
   · exact lO j v hj
   cases hj)
 have hrz: ∀ty,(Builtin.append_ #[30,3] ty #[.slice (aal ⟨b,off,aau⟩) i n,.int .i64 ((n:Int)+1- (i:Int))]).run Tryz.prog w= .ok (.slice (aal ⟨w.heap.size,0,aau⟩) (n+1) (grownCap w (n+1) n 53)) (w.drew.alloc (.cells ((cs.take (i*3)).toArray++Builtin.zeroCells (Value.agg #[.int .i64 0,.int .i64 0,.int .i64 0]).cells (n+1-i)++Builtin.zeroCells (Value.agg #[.int .i64 0,.int .i64 0,.int .i64 0]).cells (grownCap w (n+1) n 53- (n+1))) 53)):=fun ty=>by
  have h:=Lib.run_append_grow_zeros w 30 3 ty 53 i0 _ .i64 .i64 Tryz.underlying30 Tryz.underlying3 NM hz0 (aal ⟨b,off,aau⟩) i n (cs.take (i*3)) sR (n+1-i) (by omega) (by omega) (by omega) (by omega) (by rw [hzb];omega) (by rw [hzb,Jb];exact growslice_fits (by omega) (by omega));rw [Jb] at h;rw [tQ];exact h
 obtain ⟨G,hG⟩: ∃G,G=grownCap w (n+1) n 53:=⟨_,rfl⟩;obtain ⟨wF,Kv⟩: ∃wF:Array Value,wF=(cs.take (i*3)).toArray++Builtin.zeroCells (Value.agg #[.int .i64 0,.int .i64 0,.int .i64 0]).cells (n+1-i)++Builtin.zeroCells (Value.agg #[.int .i64 0,.int .i64 0,.int .i64 0]).cells (G- (n+1)):=⟨_,rfl⟩;rw [<- hG] at hrz;rw [<- Kv] at hrz;have hGn:n+1<=G:=by rw [hG];exact grownCap_ge w _ _ _
 have hRl:wF.size=G*3:=by rw [Kv];simp [Builtin.zeroCells,Value.cells];omega
 refine ⟨G,wF,hGn,hRl,fun j v hj hc=>?_,?_⟩
 · rw [Kv]
   simp only [Array.toList_append];rw [List.append_assoc,List.getElem?_append_left (by simp;omega)];simp only [List.getElem?_take_of_lt hj];exact hc
 obtain ⟨W1,T2⟩: ∃W1,W1=w.drew.alloc (.cells wF 53):=⟨_,rfl⟩;rw [<- T2] at hrz;have hh1:W1.heap=w.heap.push (.cells wF 53 (0,0)):=by rw [T2];rfl
 have FZ:W1.os=w.os/\Go.Vm.Tape w W1/\W1.output=w.output:=by rw [T2];exact ⟨rfl,⟨rfl,Nat.le_succ _⟩,rfl⟩
 have Kw: ∀(x y:Obj),(w.heap.push x).setIfInBounds w.heap.size y=w.heap.push y:=fun x y=>by apply Array.ext';simp
 obtain ⟨A,hA⟩: ∃A:List Value,A=lZ (i*3) vs wF.toList:=⟨_,rfl⟩;have hAl:A.length=G*3:=by rw [hA,cQ _ _ _ (by rw [PL];simp [hRl];omega)];simpa using hRl
 rw [<- hA];have hdl:(cs.drop (i*3)).length=(n-i)*3:=by rw [UV,Aj,Nat.sub_mul]
 have akv: ∀(W:World),W.heap=W1.heap-> ∀ty dc,(Builtin.copy_ #[30,30] ty #[.slice (aal ⟨w.heap.size,i*3,aau⟩) (n+1-i) dc,.slice (aal ⟨vb,nP,aau⟩) 1 vc]).run Tryz.prog W= .ok (goInt (If 1 (n+1-i))) (W.setRow w.heap.size A.toArray):=fun W hW ty dc=>by
  rw [hA];refine oL W 30 30 ty 53 3 w.heap.size (i*3) _ dc ⟨vb,nP,aau⟩ 1 vc wF 53 vs Tryz.underlying30 A6 (by rw [hW,hh1];simp) ?_ (fun j v hj=>?_) (by rw [PL,hRl];omega) h1v
  · have:If 1 (n+1-i)=1:=by show min _ _=_;omega
    rw [PL,this]
  rw [Addr.add_lit]
  have h1:=HP j v hj;rw [<- h1];have hh:W.heap[vb]? =w.heap[vb]?:=by rw [hW,hh1,M2,ut (by omega)]
  simp only [Do,hh]
 have ags: ∀(W:World),W.heap=(W1.setRow w.heap.size A.toArray).heap-> ∀ty dc sc,(Builtin.copy_ #[30,30] ty #[.slice (aal ⟨w.heap.size,(i+1)*3,aau⟩) (n-i) dc,.slice (aal ⟨b,off+i*3,aau⟩) (n-i) sc]).run Tryz.prog W= .ok (goInt (If (n-i) (n-i))) (W.setRow w.heap.size (lZ ((i+1)*3) (cs.drop (i*3)) A).toArray):=fun W hW ty dc sc=>by
  have Qr:W1.heap[w.heap.size]? =aal (.cells wF 53 (0,0)):=by rw [hh1];simp
  have HY:W.heap=w.heap.push (.cells A.toArray 53 (0,0)):=by rw [hW,bO Qr,hh1,Kw]
  have e:=oL (P:=Tryz.prog) W 30 30 ty 53 3 w.heap.size ((i+1)*3) (n-i) dc ⟨b,off+i*3,aau⟩ (n-i) sc A.toArray 53 (cs.drop (i*3)) Tryz.underlying30 A6 (by rw [HY];simp) (by
   have:If (n-i) (n-i)=n-i:=by show min _ _=_;omega
   rw [hdl,this]) (fun j v hj=>by
   rw [Addr.add_lit,NE];rw [PP] at hj;have h1:=lO _ _ hj;rw [<- h1];have hh:W.heap[b]? =w.heap[b]?:=by rw [HY,M2,ut (by omega)]
   simp only [Do,hh]) (by rw [hdl];simp [hAl];omega) (fun v hv=>h1c v (IR hv))
  exact e
 have agt:G<=9223372036854775807:=by have:=grownCap_le_maxLen w (n+1) n 53 (by unfold maxLen;omega);rw [<- hG] at this;unfold maxLen at this;omega
 have hGi: ¬(G=i):=by omega
 have aou: ¬(G=i+1):=by omega
 have hci: ¬(n=i):=by omega
 have hw1:IntKind.i64.wrap ((i:Int)+1)=(i:Int)+1:=by rw [IntKind.wrap_i64];omega
 have JA:(0:Int)<=(i:Int)+1:=by omega
 have qI:i<=n:=by omega
 have htn:((i:Int)+1).toNat=i+1:=by omega
 have hb3:(i:Int)<=(n:Int):=by omega
 have fin: ∀W:World,W.heap=(W1.setRow w.heap.size A.toArray).heap->(W.setRow w.heap.size (lZ ((i+1)*3) (cs.drop (i*3)) A).toArray).heap=w.heap.push (.cells (lZ ((i+1)*3) (cs.drop (i*3)) A).toArray 53 (0,0)):=fun W hW=>by
  have Qr:W1.heap[w.heap.size]? =aal (.cells wF 53 (0,0)):=by rw [hh1];simp
  have HY:W.heap=w.heap.push (.cells A.toArray 53 (0,0)):=by rw [hW,bO Qr,hh1,Kw]
  have hg2:W.heap[w.heap.size]? =aal (.cells A.toArray 53 (0,0)):=by rw [HY];simp
  rw [bO hg2,HY,Kw]
 clear tQ Jb sR Kv hG hRl hA hAl T2 hh1 Kw
 go_enter Tryz.func91,Tryz.ntmps91
 go_wp2_with (first
  |(at_builtin;refine ww _ rfl _ _ _ _ rfl _ _ rfl rfl _ _ (hrz _) ?_)
  |(at_builtin;refine B5 _ rfl _ _ 30 30 rfl _ _ rfl rfl (akv _ rfl _ _) ?_)
  |(at_builtin;refine B5 _ rfl _ _ 30 30 rfl _ _ rfl rfl (ags _ rfl _ _ _) ?_))
 have hF:((W1.setRow w.heap.size A.toArray).drew).heap=(W1.setRow w.heap.size A.toArray).heap:=rfl
 go_region_law_o (refine E4 rfl _ _ 30 30 rfl (.slice (aal ⟨w.heap.size,(i+1)*3,aau⟩) (n-i) (G- (i+1))) (.slice (aal ⟨b,off+i*3,aau⟩) (n-i) (n-i)) (by simp [Act.eval,Act.put]) (by simp [Act.eval,Act.put]) (ags _ hF 3 (G- (i+1)) (n-i)) ?_)
 go_wp2
 go_ret
 exact ⟨rfl,fin _ rfl,FZ.1,⟨FZ.2.1.eq,Nat.le_succ_of_le FZ.2.1.dr⟩,FZ.2.2⟩
theorem PM:JX Tryz.prog 91 3 30 where
 ends:=WW
 room b off n c i vb nP vc cs vs arr av el ev w hi rW hn Sb hg Zi pQ Aj PL lO HP h1c h1v:=by
  have A6:(Tryz.prog.info? 53).map (·.size)=aal 3:=by kernel_rfl
  have hz: ∀w,(sizeOf 53).run Tryz.prog w= .ok 3 w:=fun w=>by
   cases h:Tryz.prog.info? 53 with
   |none=>rw [h] at A6;cases A6
   |some i0=>rw [h] at A6;simp [sizeOf,typeInfo,h];simpa using A6
  have h3:(i+1)*3=i*3+vs.length:=by omega
  have hov: ∀lb cb,(callFunc 172 #[.slice (aal ⟨vb,nP,aau⟩) 1 vc,.slice (aal ⟨b,off+(i+1)*3,aau⟩) lb cb]).run Tryz.prog w= .ok (.value (.bool false)) w:=fun lb cb=>by
   rw [run_callFunc_extern Tryz.func172 (by kernel_rfl) (by kernel_rfl) (by kernel_rfl) (e:=Extern.SlicesOverlaps.overlaps #[30,30] #[4]) (by kernel_rfl),
    Lib.run_overlaps_apart w 30 4 53 Tryz.underlying30 3 hz ⟨vb,nP,aau⟩ ⟨b,off+(i+1)*3,aau⟩ 1 vc lb cb Sb ev el av.size arr.size (by simp [aah,Zi]) (by simp [aah,hg]) (by omega) (by simp [WF,Zi]) (by simp [WF,Zi])]
   rfl
  have Gw:(lZ (off+(i+1)*3) (cs.drop (i*3)) arr.toList).length=arr.size:=by rw [cQ _ _ _ (by simp [Aj];omega)];simp
  refine ⟨lZ (off+i*3) vs (lZ (off+(i+1)*3) (cs.drop (i*3)) arr.toList),?_,?_,?_⟩
  · rw [cQ _ _ _ (by rw [Gw];omega),Gw]
  · rw [h3,<- NE]
    exact Uy (by simp [Aj,PL];omega) (by omega) fun j v _ hj=>by simpa using lO j v hj
  refine (Sf b off n c i vb nP vc cs vs arr el w hi rW hn Sb hg pQ Aj PL lO (fun j v hj=>by simp only [Do,Zi];exact HP j v hj) h1c h1v hov).mono fun x w' ⟨hx,hw⟩=>?_
  subst hw;refine ⟨hx,?_,rfl,⟨rfl,Nat.le_succ _⟩,rfl⟩;have LA:w.drew.heap[b]? =aal (.cells arr el (0,0)):=hg;have dz:=(AC.1 LA).1;have e1:=bO (w:=w.drew) (cs:=(lZ (off+(i+1)*3) (cs.drop (i*3)) arr.toList).toArray) LA;rw [bO (cur:=(lZ (off+(i+1)*3) (cs.drop (i*3)) arr.toList).toArray) (t:=el) (by rw [e1];exact v6 dz),e1,Array.setIfInBounds_setIfInBounds];rfl
 full b off n i vb nP vc cs vs w hi hn Aj PL lO HP h1c h1v:=by
  obtain ⟨G,wF,g1,g2,g3,g4⟩:=Sg b off n i vb nP vc cs vs w hi hn Aj PL lO HP h1c h1v;have h3:(i+1)*3=i*3+vs.length:=by omega
  have Gw:(lZ (i*3) vs wF.toList).length=G*3:=by rw [cQ _ _ _ (by simp [g2,PL];omega)];simp [g2]
  refine ⟨G,_,53,g1,?_,?_,g4⟩
  · rw [cQ _ _ _ (by rw [Gw];simp [Aj];omega),Gw]
  rw [h3]
  exact Rb (by simp [g2,Aj,PL];omega) (by omega) g3
theorem ac3:AA Tryz.prog 91 (HF 3):=by
 have A6:(Tryz.prog.info? 53).map (·.size)=aal 3:=by kernel_rfl
 have ZM:(Tryz.prog.info? 53).bind (·.zero)=aal (.agg #[.int .i64 0,.int .i64 0,.int .i64 0]):=by kernel_rfl
 have ZN:(Tryz.prog.info? 53).map (·.bytes)=aal 24:=by kernel_rfl
 cases h:Tryz.prog.info? 53 with
 |none=>rw [h] at A6;cases A6
 |some i0=>
  rw [h] at A6 ZM ZN;have hb:i0.bytes=24:=by simpa using ZN
  cases hc:Tryz.f91.body with
  |none=>exact absurd hc (by intro h;cases h)
  |some c=>exact AA.ins Tryz.func91 (by kernel_rfl) hc Tryz.underlying30 h (by simpa using A6) (by simpa using ZM) rfl (by omega) (by decide) PM
end Go.Proofs.YtclphlgnjkajbaaGreat
