/- slices.Insert of one point: what the call does to the cells. -/
import Derived.Test.YtbelikaakgedaaaGreatChecked
import Derived.WalkKit
import Derived.Lib.Walk
import Derived.Lib.SliceRun
import Derived.Lib.Overlaps
import Derived.Lib.AppendZerosOnto
import Derived.Laws.Externs
import Derived.Laws.NewBlocks
import Derived.Shelf.RegionOpenPlain
import Derived.Test.YtbelikaakgedaaaGreatPVm2
open Array renaming getElem?_setIfInBounds_self_of_lt->If,getElem?_eq_some_iff->NE,getElem?_push->Sw
open Go.Lib renaming wpList_append_run->IR
open Go.World renaming cell?->PP,frozen?->Xc,shape?->Ii
open List renaming getElem?_eq_getElem->Y,mem_of_mem_drop->Pc,getElem?_drop->KJ,length_drop->YG
open Nat renaming min->WF,add_assoc->Md
open Option renaming some->Mi,none->SG
open Bool renaming true->YH
namespace Go.Proofs.YtbelikaakgedaaaGreat
open Go.RowKit Go.Lib Go.Vm
theorem hts{P:Program}(w:World){o:Oper}{a:Act}{K:Act->World->Prop}{Q:Exit->Act->World->Prop}(d s:Operand)(t t':TypeId)
 (ho:o.op= .call {callee:= .builtin .copy,args:= #[d,s],argTypes:= #[t,t']}) (v u:Value) (hd:a.eval d=v) (hs:a.eval s=u) {v':Value} {w':World}
 (hr:(Builtin.copy_ #[t,t'] o.type #[v,u]).run P w= .ok v' w') (h:K (a.put o.dst v') w'):o.wp P a w K Q:=by
 unfold Oper.wp execOp;simp only[ho,resolve,invoke,builtin,Sem.run_bind,Sem.run_pure,Result.andThen_ok,List.map_toArray,List.map_cons,List.map_nil,hd,hs,hr];exact h
theorem Ka{P:Program}(w:World){ops:Array Oper}{rest:J Oper}{o:Oper}{a:Act}{Q:Exit->Act->World->Prop}(U4:o.guard=SG)(d s:Operand)(t t':TypeId)
 (ho:o.op= .call {callee:= .builtin .copy,args:= #[d,s],argTypes:= #[t,t']}) (v u:Value) (hd:a.eval d=v) (hs:a.eval s=u) {v':Value} {w':World}
 (hr:(Builtin.copy_ #[t,t'] o.type #[v,u]).run P w= .ok v' w') (h:wpList P ops Q rest (a.put o.dst v') w'):wpList P ops Q (o::rest) a w:=
 wpList_plain U4 λ_ hK=>hts w d s t t' ho v u hd hs hr (hK _ _ h)
theorem hj'{P:Program}{ops:Array Oper}{o:Oper}{a:Act}{w:World}{K:Act->World->Prop}{Q:Exit->Act->World->Prop}{E:Prop}
 (hg:o.guard=SG) (d x:Operand) (dT sT:TypeId) (je:o.op=Op.call {callee:=Callee.builtin Builtin.copy,args:= #[d,x],argTypes:= #[dT,sT]})
 (v u:Value) (hd:a.eval d=v) (X:a.eval x=u) {v':Value} {w':World} (hr:(Builtin.copy_ #[dT,sT] o.type #[v,u]).run P w= .ok v' w') (hK:K (a.put o.dst v') w'):
 if Region.wanted o (yielded ops a.tmps)=YH then Oper.wp P o a w K Q else E:=by
 have hw:Region.wanted o (yielded ops a.tmps)=YH:=by simp[Region.wanted,hg]
 rw[Do hw];exact hts w d x dT sT je v u hd X hr hK
set_option maxHeartbeats 4000000 in
set_option maxRecDepth 100000 in
theorem acj(b off n c i vb vZ vc:Nat)(cs vs:J Value)(arr:Array Value)(el:TypeId)(w:World)(N:i<n)(Ay:n+1<=c)(hn6:n<=1048576)(Mz:vb≠b)
 (hg:w.heap[b]? =Mi (.cells arr el (0,0))) (yM:off+(n+1)*3<=arr.size) (Ls:cs.length=n*3) (Zv:vs.length=3)
 (yL: ∀j v,cs[j]? =Mi v->arr[off+j]? =Mi v) (QM: ∀j v,vs[j]? =Mi v->w.cell? ⟨vb,vZ+j,SG⟩=Mi v) (Tv: ∀v∈cs,v.oneCell'=YH) (Rl: ∀v∈vs,v.oneCell'=YH)
 (WY: ∀lb cb,(callFunc 322 #[.slice (Mi ⟨vb,vZ,SG⟩) 1 vc,.slice (Mi ⟨b,off+(i+1)*3,SG⟩) lb cb]).run Tryz.prog w= .ok (.value (.bool false)) w):
 Calls Tryz.prog 253 #[.slice (Mi ⟨b,off,SG⟩) n c,.int .i64 i,.slice (Mi ⟨vb,vZ,SG⟩) 1 vc] w λe w'=>
  e= .returned (.slice (Mi ⟨b,off,SG⟩) (n+1) c)/\w'=(w.drew.setRow b (uA (off+(i+1)*3) (cs.drop (i*3)) arr.toList).toArray).setRow b (uA (off+i*3) vs (uA (off+(i+1)*3) (cs.drop (i*3)) arr.toList)).toArray:=by
 have uS:=run_underlying Tryz.underlying24;have hz2: ¬((i:Int)=(n:Int)):=by omega
 have IQ:(Tryz.prog.info? 84).map (·.size)=Mi 3:=by kernel_rfl
 have Zx:(cs.drop (i*3)).length=(n-i)*3:=by rw[YG,Ls,Nat.sub_mul]
 obtain⟨A1,Z2⟩: ∃A1:J Value,A1=uA (off+(i+1)*3) (cs.drop (i*3)) arr.toList:=⟨_,rfl⟩;have aod:A1.length=arr.size:=by rw[Z2,dV _ _ _ (by rw[Zx];simp;omega)];simp
 have U4:w.drew.heap[b]? =Mi (.cells arr el (0,0)):=hg;have aoe: ∀ty dc sc,(Builtin.copy_ #[24,24] ty #[.slice (Mi ⟨b,off+(i+1)*3,SG⟩) (n-i) dc,.slice (Mi ⟨b,off+i*3,SG⟩) (n+1-i) sc]).run Tryz.prog w.drew= .ok (goInt (WF (n+1-i) (n-i))) (w.drew.setRow b A1.toArray):=λty dc sc=>by
  rw[Z2];refine xf w.drew 24 24 ty 84 3 b (off+(i+1)*3) _ dc ⟨b,off+i*3,SG⟩ _ sc arr el (cs.drop (i*3)) Tryz.underlying24 IQ U4 ?_ (λj v hj=>?_) (by rw[Zx];omega) (λv hv=>Tv v (Pc hv))
  ·have:WF (n+1-i) (n-i)=n-i:=by show min _ _=_;omega
   rw[Zx,this]
  rw[Addr.add_lit,Md]
  rw[KJ]at hj;have:=yL _ _ hj;rw[show w.drew.cell? ⟨b,off+(i*3+j),SG⟩=w.cell? ⟨b,off+(i*3+j),SG⟩from rfl];simp only[PP,hg];exact this
 obtain⟨W1,YY⟩: ∃W1,W1=w.drew.setRow b A1.toArray:=⟨_,rfl⟩;have QU:W1.heap[b]? =Mi (.cells A1.toArray el (0,0)):=by rw[YY,cI U4];exact If (NE.1 U4).1
 have axi: ∀ty dc,(Builtin.copy_ #[24,24] ty #[.slice (Mi ⟨b,off+i*3,SG⟩) (n+1-i) dc,.slice (Mi ⟨vb,vZ,SG⟩) 1 vc]).run Tryz.prog W1= .ok (goInt (WF 1 (n+1-i))) (W1.setRow b (uA (off+i*3) vs A1).toArray):=λty dc=>by
  refine(xf W1 24 24 ty 84 3 b (off+i*3) _ dc ⟨vb,vZ,SG⟩ 1 vc A1.toArray el vs Tryz.underlying24 IQ QU ?_ (λj v hj=>?_) (by simp[aod,Zv];omega) Rl)
  ·have:WF 1 (n+1-i)=1:=by show min _ _=_;omega
   rw[Zv,this]
  rw[Addr.add_lit]
  have D:=QM j v hj;rw[<-D];have hh:W1.heap[vb]? =w.heap[vb]?:=by rw[YY,cI U4,Array.getElem?_setIfInBounds,EQ (λe=>Mz e.symm)];rfl
  simp only[PP,hh]
 rw[<-YY]at aoe;rw[<-Z2,<-YY];have Nn:IntKind.i64.wrap ((i:Int)+1)=(i:Int)+1:=by rw[IntKind.wrap_i64];omega
 have Sc:(0:Int)<=(i:Int)+1:=by omega
 have FU:i<=n:=by omega
 have htn:((i:Int)+1).toNat=i+1:=by omega
 have Vl: ¬(c=i+1):=by omega
 have hb3:(i:Int)<=(n:Int)+1:=by omega
 have hb4: ¬(c=i):=by omega
 have mixed:Tryz.prog.follows .mixedOrders=YH:=Tryz.checked.mixed;clear QU YY aod Z2 U4 hg
 go_enter Tryz.func253,Tryz.ntmps253
 go_wp2_with (simp only[WY])
 go_region_law_o (refine hj' rfl _ _ 24 24 rfl _ _ (by simp[Act.eval,Act.put]) (by simp[Act.eval,Act.put]) (aoe _ _ _) ?_)
 go_wp2_with (at_builtin;refine Ka _ rfl _ _ 24 24 rfl _ _ rfl rfl (axi _ _) ?_)
 go_ret
 exact⟨rfl,rfl⟩
set_option maxHeartbeats 4000000 in
set_option maxRecDepth 100000 in
theorem afX(uM:O Addr)(n c vb vZ vc:Nat)(w w':World)(v':Value)(_:n<=c)
 (dG:(Builtin.append_ #[24,24] 24 #[.slice uM n c,.slice (Mi ⟨vb,vZ,SG⟩) 1 vc]).run Tryz.prog w= .ok v' w'):
 Calls Tryz.prog 253 #[.slice uM n c,.int .i64 n,.slice (Mi ⟨vb,vZ,SG⟩) 1 vc] w λe W=>e= .returned v'/\W=w':=by
 have uS:=run_underlying Tryz.underlying24;have mixed:Tryz.prog.follows .mixedOrders=YH:=Tryz.checked.mixed
 go_enter Tryz.func253,Tryz.ntmps253
 cases uM with
 |none=>
  go_wp2_with (at_builtin;refine IR _ rfl _ _ _ _ rfl _ _ rfl rfl _ _ dG ?_)
  go_ret
  exact⟨rfl,rfl⟩
 |some a=>
  obtain⟨ab,ada,asp⟩:=a
  go_wp2_with (at_builtin;refine IR _ rfl _ _ _ _ rfl _ _ rfl rfl _ _ dG ?_)
  all_goals (go_ret;exact⟨rfl,rfl⟩)
set_option maxHeartbeats 4000000 in
set_option maxRecDepth 100000 in
theorem ack(b off n i vb vZ vc:Nat)(cs vs:J Value)(w:World)(N:i<n)(hn:n<=1048576)(Ls:cs.length=n*3)(Zv:vs.length=3)
 (yL: ∀j v,cs[j]? =Mi v->w.cell? ⟨b,off+j,SG⟩=Mi v) (QM: ∀j v,vs[j]? =Mi v->w.cell? ⟨vb,vZ+j,SG⟩=Mi v) (Tv: ∀v∈cs,v.oneCell'=YH) (Rl: ∀v∈vs,v.oneCell'=YH):
 ∃(G:Nat) (El:Array Value),n+1<=G/\El.size=G*3/\(∀j v,j<i*3->cs[j]? =Mi v->El.toList[j]? =Mi v)/\
 Calls Tryz.prog 253 #[.slice (Mi ⟨b,off,SG⟩) n n,.int .i64 i,.slice (Mi ⟨vb,vZ,SG⟩) 1 vc] w λe w'=>
  e= .returned (.slice (Mi ⟨w.heap.size,0,SG⟩) (n+1) G)/\
  w'.heap=w.heap.push (.cells (uA ((i+1)*3) (cs.drop (i*3)) (uA (i*3) vs El.toList)).toArray 84 (0,0))/\w'.os=w.os/\Go.Vm.Tape w w'/\w'.output=w.output:=by
 have uS:=run_underlying Tryz.underlying24;have u3:=run_underlying Tryz.underlying3;have mixed:Tryz.prog.follows .mixedOrders=YH:=Tryz.checked.mixed;have IQ:(Tryz.prog.info? 84).map (·.size)=Mi 3:=by kernel_rfl
 have Zk:(Tryz.prog.info? 84).bind (·.zero)=Mi (.agg #[.int .i64 0,.int .i64 0,.int .i64 0]):=by kernel_rfl
 have M7:(Tryz.prog.info? 84).map (·.bytes)=Mi 24:=by kernel_rfl
 obtain⟨i0,Sf⟩: ∃i0,Tryz.prog.info? 84=Mi i0:=by
  cases h:Tryz.prog.info? 84 with
  |none=>rw[h]at IQ;cases IQ
  |some i0=>exact⟨i0,rfl⟩
 have SC:i0.size=3:=by rw[Sf]at IQ;simpa using IQ
 have WA:i0.zero=Mi (.agg #[.int .i64 0,.int .i64 0,.int .i64 0]):=by rw[Sf]at Zk;simpa using Zk
 have P6:i0.bytes=24:=by rw[Sf]at M7;simpa using M7
 have hz2: ¬((i:Int)=(n:Int)):=by omega
 have hz3:(n:Int)<(n:Int)+1:=by omega
 have hbw:b<w.heap.size:=block_lt_of_cell (yL 0 _ (Y (by omega)));have hvw:vb<w.heap.size:=block_lt_of_cell (QM 0 _ (Y (by omega)));have CK:(n:Int)+1- (i:Int)=((n+1-i:Nat):Int):=by omega
 have Wb:i+(n+1-i)=n+1:=by omega
 have Bn:(Builtin.firstCells i0.size i (.slice (Mi ⟨b,off,SG⟩) i n)).run Tryz.prog w.drew= .ok (cs.take (i*3)).toArray w.drew:=by
  rw[SC];exact run_firstCells_some w.drew 3 i ⟨b,off,SG⟩ i n (cs.take (i*3)) (by rw[List.length_take];omega) (λj v hj=>by
   rw[Addr.add_lit];rw[List.getElem?_take]at hj;split at hj
   ·exact yL j v hj
   cases hj)
 have Zn: ∀ty,(Builtin.append_ #[24,3] ty #[.slice (Mi ⟨b,off,SG⟩) i n,.int .i64 ((n:Int)+1- (i:Int))]).run Tryz.prog w= .ok (.slice (Mi ⟨w.heap.size,0,SG⟩) (n+1) (grownCap w (n+1) n 84)) (w.drew.alloc (.cells ((cs.take (i*3)).toArray++Builtin.zeroCells (Value.agg #[.int .i64 0,.int .i64 0,.int .i64 0]).cells (n+1-i)++Builtin.zeroCells (Value.agg #[.int .i64 0,.int .i64 0,.int .i64 0]).cells (grownCap w (n+1) n 84- (n+1))) 84)):=λty=>by
  have h:=Lib.run_append_grow_zeros w 24 3 ty 84 i0 _ .i64 .i64 Tryz.underlying24 Tryz.underlying3 Sf WA (Mi ⟨b,off,SG⟩) i n (cs.take (i*3)) Bn (n+1-i) (by omega) (by omega) (by omega) (by omega) (by rw[P6];omega) (by rw[P6,Wb];exact growslice_fits (by omega) (by omega));rw[Wb]at h;rw[CK];exact h
 obtain⟨G,hG⟩: ∃G,G=grownCap w (n+1) n 84:=⟨_,rfl⟩;obtain⟨El,TC⟩: ∃El:Array Value,El=(cs.take (i*3)).toArray++Builtin.zeroCells (Value.agg #[.int .i64 0,.int .i64 0,.int .i64 0]).cells (n+1-i)++Builtin.zeroCells (Value.agg #[.int .i64 0,.int .i64 0,.int .i64 0]).cells (G- (n+1)):=⟨_,rfl⟩;rw[<-hG]at Zn;rw[<-TC]at Zn;have Qv:n+1<=G:=by rw[hG];exact grownCap_ge w _ _ _
 have Tu:El.size=G*3:=by rw[TC];simp[Builtin.zeroCells,Value.cells];omega
 refine⟨G,El,Qv,Tu,λj v hj hc=>?_,?_⟩
 ·rw[TC]
  simp only[Array.toList_append];rw[List.append_assoc,List.getElem?_append_left (by simp;omega)];simp only[List.getElem?_take_of_lt hj];exact hc
 obtain⟨W1,YY⟩: ∃W1,W1=w.drew.alloc (.cells El 84):=⟨_,rfl⟩;rw[<-YY]at Zn;have Zo:W1.heap=w.heap.push (.cells El 84 (0,0)):=by rw[YY];rfl
 have Pq:W1.os=w.os/\Go.Vm.Tape w W1/\W1.output=w.output:=by rw[YY];exact⟨rfl,⟨rfl,Nat.le_succ _⟩,rfl⟩
 have TD: ∀(x y:Obj),(w.heap.push x).setIfInBounds w.heap.size y=w.heap.push y:=λx y=>by apply Array.ext';simp
 obtain⟨A,hA⟩: ∃A:J Value,A=uA (i*3) vs El.toList:=⟨_,rfl⟩;have PO:A.length=G*3:=by rw[hA,dV _ _ _ (by rw[Zv];simp[Tu];omega)];simpa using Tu
 rw[<-hA];have Zx:(cs.drop (i*3)).length=(n-i)*3:=by rw[YG,Ls,Nat.sub_mul]
 have axk: ∀(W:World),W.heap=W1.heap-> ∀ty dc,(Builtin.copy_ #[24,24] ty #[.slice (Mi ⟨w.heap.size,i*3,SG⟩) (n+1-i) dc,.slice (Mi ⟨vb,vZ,SG⟩) 1 vc]).run Tryz.prog W= .ok (goInt (WF 1 (n+1-i))) (W.setRow w.heap.size A.toArray):=λW hW ty dc=>by
  rw[hA];refine xf W 24 24 ty 84 3 w.heap.size (i*3) _ dc ⟨vb,vZ,SG⟩ 1 vc El 84 vs Tryz.underlying24 IQ (by rw[hW,Zo];simp) ?_ (λj v hj=>?_) (by rw[Zv,Tu];omega) Rl
  ·have:WF 1 (n+1-i)=1:=by show min _ _=_;omega
   rw[Zv,this]
  rw[Addr.add_lit]
  have D:=QM j v hj;rw[<-D];have hh:W.heap[vb]? =w.heap[vb]?:=by rw[hW,Zo,Sw,EQ (by omega)]
  simp only[PP,hh]
 have aog: ∀(W:World),W.heap=(W1.setRow w.heap.size A.toArray).heap-> ∀ty dc sc,(Builtin.copy_ #[24,24] ty #[.slice (Mi ⟨w.heap.size,(i+1)*3,SG⟩) (n-i) dc,.slice (Mi ⟨b,off+i*3,SG⟩) (n-i) sc]).run Tryz.prog W= .ok (goInt (WF (n-i) (n-i))) (W.setRow w.heap.size (uA ((i+1)*3) (cs.drop (i*3)) A).toArray):=λW hW ty dc sc=>by
  have QU:W1.heap[w.heap.size]? =Mi (.cells El 84 (0,0)):=by rw[Zo];simp
  have QW:W.heap=w.heap.push (.cells A.toArray 84 (0,0)):=by rw[hW,cI QU,Zo,TD]
  have e:=xf (P:=Tryz.prog) W 24 24 ty 84 3 w.heap.size ((i+1)*3) (n-i) dc ⟨b,off+i*3,SG⟩ (n-i) sc A.toArray 84 (cs.drop (i*3)) Tryz.underlying24 IQ (by rw[QW];simp) (by
   have:WF (n-i) (n-i)=n-i:=by show min _ _=_;omega
   rw[Zx,this]) (λj v hj=>by
   rw[Addr.add_lit,Md];rw[KJ]at hj;have D:=yL _ _ hj;rw[<-D];have hh:W.heap[b]? =w.heap[b]?:=by rw[QW,Sw,EQ (by omega)]
   simp only[PP,hh]) (by rw[Zx];simp[PO];omega) (λv hv=>Tv v (Pc hv))
  exact e
 have aoh:G<=9223372036854775807:=by have:=grownCap_le_maxLen w (n+1) n 84 (by unfold maxLen;omega);rw[<-hG]at this;unfold maxLen at this;omega
 have hGi: ¬(G=i):=by omega
 have aEi: ¬(G=i+1):=by omega
 have hci: ¬(n=i):=by omega
 have Nn:IntKind.i64.wrap ((i:Int)+1)=(i:Int)+1:=by rw[IntKind.wrap_i64];omega
 have Sc:(0:Int)<=(i:Int)+1:=by omega
 have FU:i<=n:=by omega
 have htn:((i:Int)+1).toNat=i+1:=by omega
 have hb3:(i:Int)<=(n:Int):=by omega
 have fin: ∀W:World,W.heap=(W1.setRow w.heap.size A.toArray).heap->(W.setRow w.heap.size (uA ((i+1)*3) (cs.drop (i*3)) A).toArray).heap=w.heap.push (.cells (uA ((i+1)*3) (cs.drop (i*3)) A).toArray 84 (0,0)):=λW hW=>by
  have QU:W1.heap[w.heap.size]? =Mi (.cells El 84 (0,0)):=by rw[Zo];simp
  have QW:W.heap=w.heap.push (.cells A.toArray 84 (0,0)):=by rw[hW,cI QU,Zo,TD]
  have V9:W.heap[w.heap.size]? =Mi (.cells A.toArray 84 (0,0)):=by rw[QW];simp
  rw[cI V9,QW,TD]
 clear CK Wb Bn TC hG Tu hA PO YY Zo TD
 go_enter Tryz.func253,Tryz.ntmps253
 go_wp2_with (first
  |(at_builtin;refine IR _ rfl _ _ _ _ rfl _ _ rfl rfl _ _ (Zn _) ?_)
  |(at_builtin;refine Ka _ rfl _ _ 24 24 rfl _ _ rfl rfl (axk _ rfl _ _) ?_)
  |(at_builtin;refine Ka _ rfl _ _ 24 24 rfl _ _ rfl rfl (aog _ rfl _ _ _) ?_))
 have hF:((W1.setRow w.heap.size A.toArray).drew).heap=(W1.setRow w.heap.size A.toArray).heap:=rfl
 go_region_law_o (refine hj' rfl _ _ 24 24 rfl (.slice (Mi ⟨w.heap.size,(i+1)*3,SG⟩) (n-i) (G- (i+1))) (.slice (Mi ⟨b,off+i*3,SG⟩) (n-i) (n-i)) (by simp[Act.eval,Act.put]) (by simp[Act.eval,Act.put]) (aog _ hF 3 (G- (i+1)) (n-i)) ?_)
 go_wp2
 go_ret
 exact⟨rfl,fin _ rfl,Pq.1,⟨Pq.2.1.eq,Nat.le_succ_of_le Pq.2.1.dr⟩,Pq.2.2⟩
theorem g2S:ihb Tryz.prog 253 3 24 where
 ends:=afX
 room b off n c i vb vZ vc cs vs arr av el ev w N Ay hn Mz hg Tl yM Ls Zv yL QM Tv Rl:=by
  have IQ:(Tryz.prog.info? 84).map (·.size)=Mi 3:=by kernel_rfl
  have hz: ∀w,(sizeOf 84).run Tryz.prog w= .ok 3 w:=λw=>by
   cases h:Tryz.prog.info? 84 with
   |none=>rw[h]at IQ;cases IQ
   |some i0=>rw[h]at IQ;simp[sizeOf,typeInfo,h];simpa using IQ
  have h3:(i+1)*3=i*3+vs.length:=by omega
  have WY: ∀lb cb,(callFunc 322 #[.slice (Mi ⟨vb,vZ,SG⟩) 1 vc,.slice (Mi ⟨b,off+(i+1)*3,SG⟩) lb cb]).run Tryz.prog w= .ok (.value (.bool false)) w:=λlb cb=>by
   rw[run_callFunc_extern Tryz.func322 (by kernel_rfl) (by kernel_rfl) (by kernel_rfl) (e:=Extern.SlicesOverlaps.overlaps #[24,24] #[4]) (by kernel_rfl),
    Lib.run_overlaps_apart w 24 4 84 Tryz.underlying24 3 hz ⟨vb,vZ,SG⟩ ⟨b,off+(i+1)*3,SG⟩ 1 vc lb cb Mz ev el av.size arr.size (by simp[Ii,Tl]) (by simp[Ii,hg]) (by omega) (by simp[Xc,Tl]) (by simp[Xc,Tl])]
   rfl
  have Pf:(uA (off+(i+1)*3) (cs.drop (i*3)) arr.toList).length=arr.size:=by rw[dV _ _ _ (by simp[Ls];omega)];simp
  refine⟨uA (off+i*3) vs (uA (off+(i+1)*3) (cs.drop (i*3)) arr.toList),?_,?_,?_⟩
  ·rw[dV _ _ _ (by rw[Pf];omega),Pf]
  ·rw[h3,<-Md]
   exact afe (by simp[Ls,Zv];omega) (by omega) λj v _ hj=>by simpa using yL j v hj
  refine(acj b off n c i vb vZ vc cs vs arr el w N Ay hn Mz hg yM Ls Zv yL (λj v hj=>by simp only[PP,Tl];exact QM j v hj) Tv Rl WY).mono λx w' ⟨X,hw⟩=>?_
  subst hw;refine⟨X,?_,rfl,⟨rfl,Nat.le_succ _⟩,rfl⟩;have U4:w.drew.heap[b]? =Mi (.cells arr el (0,0)):=hg;have iY:=(NE.1 U4).1;have e1:=cI (w:=w.drew) (cs:=(uA (off+(i+1)*3) (cs.drop (i*3)) arr.toList).toArray) U4;rw[cI (cur:=(uA (off+(i+1)*3) (cs.drop (i*3)) arr.toList).toArray) (t:=el) (by rw[e1];exact If iY),e1,Array.setIfInBounds_setIfInBounds];rfl
 full b off n i vb vZ vc cs vs w N hn Ls Zv yL QM Tv Rl:=by
  obtain⟨G,El,g1,g2,g3,g4⟩:=ack b off n i vb vZ vc cs vs w N hn Ls Zv yL QM Tv Rl;have h3:(i+1)*3=i*3+vs.length:=by omega
  have Pf:(uA (i*3) vs El.toList).length=G*3:=by rw[dV _ _ _ (by simp[g2,Zv];omega)];simp[g2]
  refine⟨G,_,84,g1,?_,?_,g4⟩
  ·rw[dV _ _ _ (by rw[Pf];simp[Ls];omega),Pf]
  rw[h3]
  exact abk (by simp[g2,Ls,Zv];omega) (by omega) g3
theorem akb:Ij Tryz.prog 253 (QC 3):=by
 have IQ:(Tryz.prog.info? 84).map (·.size)=Mi 3:=by kernel_rfl
 have Zk:(Tryz.prog.info? 84).bind (·.zero)=Mi (.agg #[.int .i64 0,.int .i64 0,.int .i64 0]):=by kernel_rfl
 have M7:(Tryz.prog.info? 84).map (·.bytes)=Mi 24:=by kernel_rfl
 cases h:Tryz.prog.info? 84 with
 |none=>rw[h]at IQ;cases IQ
 |some i0=>
  rw[h]at IQ Zk M7;have hb:i0.bytes=24:=by simpa using M7
  cases hc:Tryz.f253.body with
  |none=>exact absurd hc (by intro h;cases h)
  |some c=>exact Ij.ins Tryz.func253 (by kernel_rfl) hc Tryz.underlying24 h (by simpa using IQ) (by simpa using Zk) rfl (by omega) (by decide) g2S
end Go.Proofs.YtbelikaakgedaaaGreat
