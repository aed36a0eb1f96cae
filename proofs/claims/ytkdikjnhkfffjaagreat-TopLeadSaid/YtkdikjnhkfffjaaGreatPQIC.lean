/- slices.Concat of two slices: what the call does to the cells. Printed by a program. -/
import Derived.Test.YtkdikjnhkfffjaaGreatChecked
import Derived.WalkKit
import Derived.Lib.Walk
import Derived.Lib.SliceRun
import Derived.Lib.Overlaps
import Derived.Lib.AppendZerosOnto
import Derived.Laws.Externs
import Derived.Laws.NewBlocks
import Derived.LoopN
import Derived.Handy
import Derived.Shelf.RegionOpenPlain
import Derived.Test.YtkdikjnhkfffjaaGreatPVm2
open Go.Lib renaming wpList_append_run->EQ
open Nat renaming zero_add->If
open Go.World renaming cell?->IR
open List renaming length->NE
open Option renaming some->PP,none->UV
namespace Go.Proofs.YtkdikjnhkfffjaaGreat
open Go.RowKit Go.Lib Go.Vm
set_option maxHeartbeats 4000000 in
set_option maxRecDepth 100000 in
theorem ZI(n:Nat)(w:World)(h0:1<=n)(hn:n<=1048576):
 ∃(G:Nat) (B3:Array Value),n<=G/\B3.size=G/\G<=9223372036854775807/\
 Calls Tryz.prog 246 #[.slice UV 0 0,.int .i64 n] w λe w'=>e= .returned (.slice (PP ⟨w.heap.size,0,UV⟩) 0 G)/\w'=w.drew.alloc (.cells B3 3):=by
 have uS:=run_underlying Tryz.underlying36;have u3:=run_underlying Tryz.underlying3;have mixed:Tryz.prog.follows .mixedOrders=true:=Tryz.checked.mixed;have FX:(Tryz.prog.info? 3).map (·.size)=PP 1:=by kernel_rfl
 have hzE:(Tryz.prog.info? 3).bind (·.zero)=PP (.int .i64 0):=by kernel_rfl
 have hbE:(Tryz.prog.info? 3).map (·.bytes)=PP 8:=by kernel_rfl
 obtain⟨i0,HX⟩: ∃i0,Tryz.prog.info? 3=PP i0:=by
  cases h:Tryz.prog.info? 3 with
  |none=>rw[h]at FX;cases FX
  |some i0=>exact⟨i0,rfl⟩
 have PK:i0.size=1:=by rw[HX]at FX;simpa using FX
 have hz0:i0.zero=PP (.int .i64 0):=by rw[HX]at hzE;simpa using hzE
 have hzb:i0.bytes=8:=by rw[HX]at hbE;simpa using hbE
 have ze:(Builtin.firstCells i0.size 0 (.slice UV 0 0)).run Tryz.prog w.drew= .ok ([]:List Value).toArray w.drew:=by rw[PK];rfl
 have hrz: ∀ty,(Builtin.append_ #[36,3] ty #[.slice UV 0 0,.int .i64 (n:Int)]).run Tryz.prog w= .ok (.slice (PP ⟨w.heap.size,0,UV⟩) n (grownCap w n 0 3)) (w.drew.alloc (.cells (([]:List Value).toArray++Builtin.zeroCells (Value.int .i64 0).cells n++Builtin.zeroCells (Value.int .i64 0).cells (grownCap w n 0 3-n)) 3)):=λty=>by
  have h:=Lib.run_append_grow_zeros w 36 3 ty 3 i0 _ .i64 .i64 Tryz.underlying36 Tryz.underlying3 HX hz0 UV 0 0 [] ze n (by omega) (by omega) (by omega) (by omega) (by rw[hzb];omega) (by rw[hzb,If];exact growslice_fits (by omega) (by omega));rw[If]at h;exact h
 obtain⟨G,hG⟩: ∃G,G=grownCap w n 0 3:=⟨_,rfl⟩;obtain⟨B3,QJ⟩: ∃B3:Array Value,B3=([]:List Value).toArray++Builtin.zeroCells (Value.int .i64 0).cells n++Builtin.zeroCells (Value.int .i64 0).cells (G-n):=⟨_,rfl⟩;rw[<-hG,<-QJ]at hrz;have hGn:n<=G:=by rw[hG];exact grownCap_ge w _ _ _
 have hRl:B3.size=G:=by rw[QJ];simp[Builtin.zeroCells,Value.cells];omega
 have ajI:G<=9223372036854775807:=by have:=grownCap_le_maxLen w n 0 3 (by unfold maxLen;omega);rw[<-hG]at this;unfold maxLen at this;omega
 refine⟨G,B3,hGn,hRl,ajI,?_⟩;have hp:(0:Int)<(n:Int):=by omega
 have hw0:IntKind.i64.wrap (n:Int)=n:=by rw[IntKind.wrap_i64];omega
 have hng: ¬(n:Int)<0:=by omega
 clear QJ hG ze
 go_enter Tryz.func246,Tryz.ntmps246
 go_wp2_with (first
  |(at_builtin;refine EQ _ rfl _ _ _ _ rfl _ _ rfl rfl _ _ (hrz _) ?_))
 go_ret
 exact⟨rfl,rfl⟩
set_option maxHeartbeats 4000000 in
set_option maxRecDepth 100000 in
theorem ZJ(vb c:Nat)(a1 a2:Option Addr)(c1 c2:Nat)(LV LW:List Value)(av:Array Value)(ev:TypeId)(w:World)(ZC:w.heap[vb]? =PP (.cells av ev (0,0)))(hv0:av[0]? =PP (.slice a1 (NE LV) c1))(UD:av[1]? =PP (.slice a2 (NE LW) c2))
 (PL:1<=NE LV+NE LW) (lJ:(NE LV)+NE LW<=1048576)
 (h1: ∀(j:Nat) (v:Value),LV[j]? =PP v-> ∃b o,a1=PP ⟨b,o,UV⟩/\w.cell? ⟨b,o+j,UV⟩=PP v) (h2: ∀(j:Nat) (v:Value),LW[j]? =PP v-> ∃b o,a2=PP ⟨b,o,UV⟩/\w.cell? ⟨b,o+j,UV⟩=PP v)
 (k1: ∀v∈LV,v.oneCell'=true) (k2: ∀v∈LW,v.oneCell'=true):
 ∃(G:Nat) (fin:List Value) (el:TypeId),NE LV+NE LW<=G/\NE fin=G/\(∀(j:Nat) (v:Value),(LV++LW)[j]? =PP v->fin[j]? =PP v)/\
 Calls Tryz.prog 192 #[.slice (PP ⟨vb,0,UV⟩) 2 c] w λx w'=>x= .returned (.slice (PP ⟨w.heap.size,0,UV⟩) (NE LV+NE LW) G)/\w'.heap=w.heap.push (.cells fin.toArray el (0,0))/\w'.os=w.os/\Go.Vm.Tape w w'/\w'.output=w.output:=by
 have uS:=run_underlying Tryz.underlying36;have uV:=run_underlying Tryz.underlying331;have u3:=run_underlying Tryz.underlying3;have mixed:Tryz.prog.follows .mixedOrders=true:=Tryz.checked.mixed;have FX:(Tryz.prog.info? 3).map (·.size)=PP 1:=by kernel_rfl
 obtain⟨i0,HX⟩: ∃i0,Tryz.prog.info? 3=PP i0:=by
  cases h:Tryz.prog.info? 3 with
  |none=>rw[h]at FX;cases FX
  |some i0=>exact⟨i0,rfl⟩
 have PK:i0.size=1:=by rw[HX]at FX;simpa using FX
 have src: ∀(W:World) (a:Option Addr) (cs:List Value) (cc:Nat),(∀(j:Nat) (v:Value),cs[j]? =PP v-> ∃b o,a=PP ⟨b,o,UV⟩/\W.cell? ⟨b,o+j,UV⟩=PP v)->(∀v∈cs,v.oneCell'=true)->Src Tryz.prog i0.size 36 (.slice a (NE cs) cc) (NE cs) cs W:=λW a cs cc h k=>by
  rw[PK];refine⟨.inl ⟨3,Tryz.underlying36⟩,λ_=>rfl,?_,?_,by omega,k⟩
  all_goals
   cases cs with
   |nil=>cases a<;>rfl
   |cons v vs=>
    obtain⟨b,o,rfl,_⟩:=h 0 v rfl;refine run_firstCells_some _ 1 _ _ _ _ _ (by simp) λj u hj=>?_
    obtain⟨b',o',e,hc⟩:=h j u hj;injection e with e;injection e with e1 e2;subst e1;subst e2;rw[Addr.add_lit];exact hc
 obtain⟨n1,hn1⟩: ∃n1,n1=(NE LV):=⟨_,rfl⟩;obtain⟨n2,hn2⟩: ∃n2,n2=(NE LW):=⟨_,rfl⟩;rw[<-hn1,<-hn2]at PL lJ;obtain⟨G,B3,g1,g2,g3,g4⟩:=ZI (n1+n2) w PL lJ;have hvw:vb<w.heap.size:=(Array.getElem?_eq_some_iff.1 ZC).1;obtain⟨A,hA⟩: ∃A:List Value,A=qB 0 LV B3.toList:=⟨_,rfl⟩;have hAl:(NE A)=G:=by rw[hA,dQ _ _ _ (by simp[g2];omega)];simpa using g2
 obtain⟨B,hB⟩: ∃B:List Value,B=qB n1 LW A:=⟨_,rfl⟩;have hBl:(NE B)=G:=by rw[hB,dQ _ _ _ (by rw[hAl];omega),hAl]
 refine⟨G,B,3,by omega,hBl,λj v hj=>?_,?_⟩
 ·rw[hB,jW _ _ _ (by rw[hAl];omega)]
  rcases Nat.lt_or_ge j n1 with iL|hge
  ·rw[List.getElem?_append_left (by omega)]at hj
   rw[Do (by omega),hA,jW _ _ _ (by simp[g2];omega),AC ⟨by omega,by omega⟩];exact hj
  rw[List.getElem?_append_right (by omega)]at hj
  have:=(List.getElem?_eq_some_iff.1 hj).1;rw[AC ⟨hge,by omega⟩,hn1];exact hj
 have ig: ∀(W:World) (X:Obj),W.heap=w.heap.push X-> ∀(b o:Nat) (v:Value),w.cell? ⟨b,o,UV⟩=PP v->W.cell? ⟨b,o,UV⟩=PP v:=λW X hW b o v h=>by
  have hb:b<w.heap.size:=block_lt_of_cell h;have hh:W.heap[b]? =w.heap[b]?:=by rw[hW,Array.getElem?_push,Do (by omega)]
  simp only[IR,hh];exact h
 have ajK: ∀(W:World),W.heap=w.heap.push (.cells B3 3 (0,0))-> ∀ty,(Builtin.append_ #[36,36] ty #[.slice (PP ⟨w.heap.size,0,UV⟩) 0 G,.slice a1 n1 c1]).run Tryz.prog W= .ok (.slice (PP ⟨w.heap.size,0,UV⟩) n1 G) (W.setRow w.heap.size A.toArray):=λW hW ty=>by
  have h:=mH (P:=Tryz.prog) (w:=W) 36 36 ty 3 i0 Tryz.underlying36 HX w.heap.size 0 0 G _ _ LV (src W a1 LV c1 (λj v hj=>by obtain⟨b,o,h3,h4⟩:=h1 j v hj;exact⟨b,o,h3,ig W _ hW _ _ _ h4⟩) k1) (by omega) (cur:=B3) (el:=3) (by rw[hW];simp) (by simp;omega);rw[Nat.zero_mul,If,If,<-hA,<-hn1]at h;exact h
 have ajL: ∀(W:World),W.heap=w.heap.push (.cells A.toArray 3 (0,0))-> ∀ty,(Builtin.append_ #[36,36] ty #[.slice (PP ⟨w.heap.size,0,UV⟩) n1 G,.slice a2 n2 c2]).run Tryz.prog W= .ok (.slice (PP ⟨w.heap.size,0,UV⟩) (n1+n2) G) (W.setRow w.heap.size B.toArray):=λW hW ty=>by
  have h:=mH (P:=Tryz.prog) (w:=W) 36 36 ty 3 i0 Tryz.underlying36 HX w.heap.size 0 n1 G _ _ LW (src W a2 LW c2 (λj v hj=>by obtain⟨b,o,h3,h4⟩:=h2 j v hj;exact⟨b,o,h3,ig W _ hW _ _ _ h4⟩) k2) (by omega) (cur:=A.toArray) (el:=3) (by rw[hW];simp) (by simp[PK];omega);rw[PK,Nat.mul_one,If,<-hB,<-hn2]at h;exact h
 have LR:w.cell? ⟨vb,0,UV⟩=PP (.slice a1 n1 c1):=by simp only[IR,ZC];rw[hn1];exact hv0
 have GQ:w.cell? ⟨vb,1,UV⟩=PP (.slice a2 n2 c2):=by simp only[IR,ZC];rw[hn2];exact UD
 rw[<-hn1,<-hn2];clear hA hB hAl hBl src h1 h2 k1 k2 ZC hv0 UD hn1 hn2;have QK: ∀(x y:Obj),(w.heap.push x).setIfInBounds w.heap.size y=w.heap.push y:=λx y=>by apply Array.ext';simp
 have XU:(w.drew.alloc (.cells B3 3)).heap[w.heap.size]? =PP (.cells B3 3 (0,0)):=by show(w.heap.push _)[_]? =_;simp
 have NZ:((w.drew.alloc (.cells B3 3)).setRow w.heap.size A.toArray).heap=w.heap.push (.cells A.toArray 3 (0,0)):=by rw[cJ XU];exact QK _ _
 have hg2:((w.drew.alloc (.cells B3 3)).setRow w.heap.size A.toArray).heap[w.heap.size]? =PP (.cells A.toArray 3 (0,0)):=by rw[NZ];simp
 have hW3:(((w.drew.alloc (.cells B3 3)).setRow w.heap.size A.toArray).setRow w.heap.size B.toArray).heap=w.heap.push (.cells B.toArray 3 (0,0)):=by rw[cJ hg2,NZ];exact QK _ _
 have jI:((w.drew.alloc (.cells B3 3)).setRow w.heap.size A.toArray).cell? ⟨vb,1,UV⟩=PP (.slice a2 n2 c2):=ig _ _ NZ _ _ _ GQ;have N5:=ajK (w.drew.alloc (.cells B3 3)) rfl 36;have hr2:=ajL _ NZ 36;obtain⟨W2,e2⟩: ∃W2,W2=(w.drew.alloc (.cells B3 3)).setRow w.heap.size A.toArray:=⟨_,rfl⟩;have hx2:W2.os=w.os/\Go.Vm.Tape w W2/\W2.output=w.output:=by rw[e2];exact⟨rfl,⟨rfl,Nat.le_succ _⟩,rfl⟩
 rw[<-e2]at jI N5 hr2 hW3;clear XU hg2 QK NZ e2 ajK ajL ig;have hs1:IntKind.i64.wrap (n1:Int)=n1:=by rw[IntKind.wrap_i64];omega
 have hs2:IntKind.i64.wrap ((n1:Int)+(n2:Int))=((n1+n2:Nat):Int):=by rw[IntKind.wrap_i64];omega
 have axi: ¬(n1:Int)<0:=by omega
 have axj: ¬((n1+n2:Nat):Int)<0:=by omega
 have g5:Calls Tryz.prog 246 #[.slice UV 0 0,.int .i64 ((n1:Int)+(n2:Int))] w λe w'=>e= .returned (.slice (PP ⟨w.heap.size,0,UV⟩) 0 G)/\w'=w.drew.alloc (.cells B3 3):=g4
 clear g4
 go_enter Tryz.func192,Tryz.ntmps192
 go_wp2
 refine wp_loop_rounds 3 ?_;rw[rounds_succ]
 go_wp2
 rw[rounds_succ]
 go_wp2
 rw[rounds_succ]
 go_wp2_with (go_call g5 as e W ⟨he,hW⟩;subst he hW)
 refine wp_loop_rounds 3 ?_;rw[rounds_succ]
 go_wp2_with (at_builtin;refine EQ _ rfl _ _ _ _ rfl _ _ rfl rfl _ _ N5 ?_)
 rw[rounds_succ]
 go_wp2_with (at_builtin;refine EQ _ rfl _ _ _ _ rfl _ _ rfl rfl _ _ hr2 ?_)
 rw[rounds_succ]
 go_wp2
 go_ret
 exact⟨rfl,hW3,hx2.1,⟨hx2.2.1.eq,hx2.2.1.dr⟩,hx2.2.2⟩
theorem ags:Fp Tryz.prog 192 NA:=by
 cases hc:Tryz.f192.body with
 |none=>exact absurd hc (by intro h;cases h)
 |some c=>exact Fp.cat Tryz.func192 (by kernel_rfl) hc ZJ
end Go.Proofs.YtkdikjnhkfffjaaGreat
