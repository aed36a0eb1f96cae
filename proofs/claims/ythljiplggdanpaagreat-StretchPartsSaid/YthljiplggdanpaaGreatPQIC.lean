/- slices.Concat of two slices: what the call does to the cells. Printed by a program. -/
import Derived.Test.YthljiplggdanpaaGreatChecked
import Derived.WalkKit
import Derived.Lib.Walk
import Derived.Lib.SliceRun
import Derived.Lib.Overlaps
import Derived.Lib.AppendZerosOnto
import Derived.Laws.Externs
import Derived.Laws.NewBlocks
import Derived.LoopN
import Derived.Handy
import Derived.Shelf.RegionOpenPlain
import Derived.Test.YthljiplggdanpaaGreatPVm2
open Go.Lib renaming wpList_append_run->EQ
open Nat renaming zero_add->If
open Go.World renaming cell?->IR
open List renaming length->NE
open Option renaming some->PP,none->UV
namespace Go.Proofs.YthljiplggdanpaaGreat
open Go.RowKit Go.Lib Go.Vm
set_option maxHeartbeats 4000000 in
set_option maxRecDepth 100000 in
theorem Zo (n:Nat) (w:World) (h0:1<=n) (hn:n<=1048576):
 ∃(G:Nat) (BV:Array Value),n<=G/\BV.size=G/\G<=9223372036854775807/\
 Calls Tryz.prog 310 #[.slice UV 0 0,.int .i64 n] w fun e w'=>e= .returned (.slice (PP ⟨w.heap.size,0,UV⟩) 0 G)/\w'=w.drew.alloc (.cells BV 3):=by
 have uS:=run_underlying Tryz.underlying30;have u3:=run_underlying Tryz.underlying3;have mixed:Tryz.prog.follows .mixedOrders=true:=Tryz.checked.mixed;have FZ:(Tryz.prog.info? 3).map (·.size)=PP 1:=by kernel_rfl
 have hzE:(Tryz.prog.info? 3).bind (·.zero)=PP (.int .i64 0):=by kernel_rfl
 have hbE:(Tryz.prog.info? 3).map (·.bytes)=PP 8:=by kernel_rfl
 obtain ⟨i0,Ps⟩: ∃i0,Tryz.prog.info? 3=PP i0:=by
  cases h:Tryz.prog.info? 3 with
  |none=>rw [h] at FZ;cases FZ
  |some i0=>exact ⟨i0,rfl⟩
 have PL:i0.size=1:=by rw [Ps] at FZ;simpa using FZ
 have hz0:i0.zero=PP (.int .i64 0):=by rw [Ps] at hzE;simpa using hzE
 have hzb:i0.bytes=8:=by rw [Ps] at hbE;simpa using hbE
 have yY:(Builtin.firstCells i0.size 0 (.slice UV 0 0)).run Tryz.prog w.drew= .ok ([]:List Value).toArray w.drew:=by rw [PL];rfl
 have hrz: ∀ty,(Builtin.append_ #[30,3] ty #[.slice UV 0 0,.int .i64 (n:Int)]).run Tryz.prog w= .ok (.slice (PP ⟨w.heap.size,0,UV⟩) n (grownCap w n 0 3)) (w.drew.alloc (.cells (([]:List Value).toArray++Builtin.zeroCells (Value.int .i64 0).cells n++Builtin.zeroCells (Value.int .i64 0).cells (grownCap w n 0 3-n)) 3)):=fun ty=>by
  have h:=Lib.run_append_grow_zeros w 30 3 ty 3 i0 _ .i64 .i64 Tryz.underlying30 Tryz.underlying3 Ps hz0 UV 0 0 [] yY n (by omega) (by omega) (by omega) (by omega) (by rw [hzb];omega) (by rw [hzb,If];exact growslice_fits (by omega) (by omega));rw [If] at h;exact h
 obtain ⟨G,hG⟩: ∃G,G=grownCap w n 0 3:=⟨_,rfl⟩;obtain ⟨BV,QI⟩: ∃BV:Array Value,BV=([]:List Value).toArray++Builtin.zeroCells (Value.int .i64 0).cells n++Builtin.zeroCells (Value.int .i64 0).cells (G-n):=⟨_,rfl⟩;rw [<- hG,<- QI] at hrz;have hGn:n<=G:=by rw [hG];exact grownCap_ge w _ _ _
 have hRl:BV.size=G:=by rw [QI];simp [Builtin.zeroCells,Value.cells];omega
 have ajV:G<=9223372036854775807:=by have:=grownCap_le_maxLen w n 0 3 (by unfold maxLen;omega);rw [<- hG] at this;unfold maxLen at this;omega
 refine ⟨G,BV,hGn,hRl,ajV,?_⟩;have hp:(0:Int)<(n:Int):=by omega
 have hw0:IntKind.i64.wrap (n:Int)=n:=by rw [IntKind.wrap_i64];omega
 have hng: ¬(n:Int)<0:=by omega
 clear QI hG yY
 go_enter Tryz.func310,Tryz.ntmps310
 go_wp2_with (first
  |(at_builtin;refine EQ _ rfl _ _ _ _ rfl _ _ rfl rfl _ _ (hrz _) ?_))
 go_ret
 exact ⟨rfl,rfl⟩
set_option maxHeartbeats 4000000 in
set_option maxRecDepth 100000 in
theorem Zp (vb c:Nat) (a1 a2:Option Addr) (c1 c2:Nat) (LO LQ:List Value) (av:Array Value) (ev:TypeId) (w:World) (Zj:w.heap[vb]? =PP (.cells av ev (0,0))) (hv0:av[0]? =PP (.slice a1 (NE LO) c1)) (Uc:av[1]? =PP (.slice a2 (NE LQ) c2))
 (PM:1<=NE LO+NE LQ) (lz:(NE LO)+NE LQ<=1048576)
 (h1: ∀(j:Nat) (v:Value),LO[j]? =PP v-> ∃b o,a1=PP ⟨b,o,UV⟩/\w.cell? ⟨b,o+j,UV⟩=PP v) (h2: ∀(j:Nat) (v:Value),LQ[j]? =PP v-> ∃b o,a2=PP ⟨b,o,UV⟩/\w.cell? ⟨b,o+j,UV⟩=PP v)
 (k1: ∀v∈LO,v.oneCell'=true) (k2: ∀v∈LQ,v.oneCell'=true):
 ∃(G:Nat) (fin:List Value) (el:TypeId),NE LO+NE LQ<=G/\NE fin=G/\(∀(j:Nat) (v:Value),(LO++LQ)[j]? =PP v->fin[j]? =PP v)/\
 Calls Tryz.prog 282 #[.slice (PP ⟨vb,0,UV⟩) 2 c] w fun x w'=>x= .returned (.slice (PP ⟨w.heap.size,0,UV⟩) (NE LO+NE LQ) G)/\w'.heap=w.heap.push (.cells fin.toArray el (0,0))/\w'.os=w.os/\Go.Vm.Tape w w'/\w'.output=w.output:=by
 have uS:=run_underlying Tryz.underlying30;have uV:=run_underlying Tryz.underlying383;have u3:=run_underlying Tryz.underlying3;have mixed:Tryz.prog.follows .mixedOrders=true:=Tryz.checked.mixed;have FZ:(Tryz.prog.info? 3).map (·.size)=PP 1:=by kernel_rfl
 obtain ⟨i0,Ps⟩: ∃i0,Tryz.prog.info? 3=PP i0:=by
  cases h:Tryz.prog.info? 3 with
  |none=>rw [h] at FZ;cases FZ
  |some i0=>exact ⟨i0,rfl⟩
 have PL:i0.size=1:=by rw [Ps] at FZ;simpa using FZ
 have src: ∀(W:World) (a:Option Addr) (cs:List Value) (cc:Nat),(∀(j:Nat) (v:Value),cs[j]? =PP v-> ∃b o,a=PP ⟨b,o,UV⟩/\W.cell? ⟨b,o+j,UV⟩=PP v)->(∀v∈cs,v.oneCell'=true)->Src Tryz.prog i0.size 30 (.slice a (NE cs) cc) (NE cs) cs W:=fun W a cs cc h k=>by
  rw [PL];refine ⟨.inl ⟨3,Tryz.underlying30⟩,fun _=>rfl,?_,?_,by omega,k⟩
  all_goals
   cases cs with
   |nil=>cases a<;>rfl
   |cons v vs=>
    obtain ⟨b,o,rfl,_⟩:=h 0 v rfl;refine run_firstCells_some _ 1 _ _ _ _ _ (by simp) fun j u hj=>?_
    obtain ⟨b',o',e,hc⟩:=h j u hj;injection e with e;injection e with e1 e2;subst e1;subst e2;rw [Addr.add_lit];exact hc
 obtain ⟨n1,hn1⟩: ∃n1,n1=(NE LO):=⟨_,rfl⟩;obtain ⟨n2,hn2⟩: ∃n2,n2=(NE LQ):=⟨_,rfl⟩;rw [<- hn1,<- hn2] at PM lz;obtain ⟨G,BV,g1,g2,g3,g4⟩:=Zo (n1+n2) w PM lz;have hvw:vb<w.heap.size:=(Array.getElem?_eq_some_iff.1 Zj).1;obtain ⟨A,hA⟩: ∃A:List Value,A=rQ 0 LO BV.toList:=⟨_,rfl⟩;have hAl:(NE A)=G:=by rw [hA,dJ _ _ _ (by simp [g2];omega)];simpa using g2
 obtain ⟨B,hB⟩: ∃B:List Value,B=rQ n1 LQ A:=⟨_,rfl⟩;have hBl:(NE B)=G:=by rw [hB,dJ _ _ _ (by rw [hAl];omega),hAl]
 refine ⟨G,B,3,by omega,hBl,fun j v hj=>?_,?_⟩
 · rw [hB,jL _ _ _ (by rw [hAl];omega)]
   rcases Nat.lt_or_ge j n1 with iz|hge
   · rw [List.getElem?_append_left (by omega)] at hj
     rw [Do (by omega),hA,jL _ _ _ (by simp [g2];omega),AC ⟨by omega,by omega⟩];exact hj
   rw [List.getElem?_append_right (by omega)] at hj
   have:=(List.getElem?_eq_some_iff.1 hj).1;rw [AC ⟨hge,by omega⟩,hn1];exact hj
 have gS: ∀(W:World) (X:Obj),W.heap=w.heap.push X-> ∀(b o:Nat) (v:Value),w.cell? ⟨b,o,UV⟩=PP v->W.cell? ⟨b,o,UV⟩=PP v:=fun W X hW b o v h=>by
  have hb:b<w.heap.size:=block_lt_of_cell h;have hh:W.heap[b]? =w.heap[b]?:=by rw [hW,Array.getElem?_push,Do (by omega)]
  simp only [IR,hh];exact h
 have ajX: ∀(W:World),W.heap=w.heap.push (.cells BV 3 (0,0))-> ∀ty,(Builtin.append_ #[30,30] ty #[.slice (PP ⟨w.heap.size,0,UV⟩) 0 G,.slice a1 n1 c1]).run Tryz.prog W= .ok (.slice (PP ⟨w.heap.size,0,UV⟩) n1 G) (W.setRow w.heap.size A.toArray):=fun W hW ty=>by
  have h:=mn (P:=Tryz.prog) (w:=W) 30 30 ty 3 i0 Tryz.underlying30 Ps w.heap.size 0 0 G _ _ LO (src W a1 LO c1 (fun j v hj=>by obtain ⟨b,o,h3,h4⟩:=h1 j v hj;exact ⟨b,o,h3,gS W _ hW _ _ _ h4⟩) k1) (by omega) (cur:=BV) (el:=3) (by rw [hW];simp) (by simp;omega);rw [Nat.zero_mul,If,If,<- hA,<- hn1] at h;exact h
 have ajY: ∀(W:World),W.heap=w.heap.push (.cells A.toArray 3 (0,0))-> ∀ty,(Builtin.append_ #[30,30] ty #[.slice (PP ⟨w.heap.size,0,UV⟩) n1 G,.slice a2 n2 c2]).run Tryz.prog W= .ok (.slice (PP ⟨w.heap.size,0,UV⟩) (n1+n2) G) (W.setRow w.heap.size B.toArray):=fun W hW ty=>by
  have h:=mn (P:=Tryz.prog) (w:=W) 30 30 ty 3 i0 Tryz.underlying30 Ps w.heap.size 0 n1 G _ _ LQ (src W a2 LQ c2 (fun j v hj=>by obtain ⟨b,o,h3,h4⟩:=h2 j v hj;exact ⟨b,o,h3,gS W _ hW _ _ _ h4⟩) k2) (by omega) (cur:=A.toArray) (el:=3) (by rw [hW];simp) (by simp [PL];omega);rw [PL,Nat.mul_one,If,<- hB,<- hn2] at h;exact h
 have LL:w.cell? ⟨vb,0,UV⟩=PP (.slice a1 n1 c1):=by simp only [IR,Zj];rw [hn1];exact hv0
 have LD:w.cell? ⟨vb,1,UV⟩=PP (.slice a2 n2 c2):=by simp only [IR,Zj];rw [hn2];exact Uc
 rw [<- hn1,<- hn2];clear hA hB hAl hBl src h1 h2 k1 k2 Zj hv0 Uc hn1 hn2;have QJ: ∀(x y:Obj),(w.heap.push x).setIfInBounds w.heap.size y=w.heap.push y:=fun x y=>by apply Array.ext';simp
 have XG:(w.drew.alloc (.cells BV 3)).heap[w.heap.size]? =PP (.cells BV 3 (0,0)):=by show (w.heap.push _)[_]? =_;simp
 have NU:((w.drew.alloc (.cells BV 3)).setRow w.heap.size A.toArray).heap=w.heap.push (.cells A.toArray 3 (0,0)):=by rw [cm XG];exact QJ _ _
 have hg2:((w.drew.alloc (.cells BV 3)).setRow w.heap.size A.toArray).heap[w.heap.size]? =PP (.cells A.toArray 3 (0,0)):=by rw [NU];simp
 have hW3:(((w.drew.alloc (.cells BV 3)).setRow w.heap.size A.toArray).setRow w.heap.size B.toArray).heap=w.heap.push (.cells B.toArray 3 (0,0)):=by rw [cm hg2,NU];exact QJ _ _
 have j8:((w.drew.alloc (.cells BV 3)).setRow w.heap.size A.toArray).cell? ⟨vb,1,UV⟩=PP (.slice a2 n2 c2):=gS _ _ NU _ _ _ LD;have hr1:=ajX (w.drew.alloc (.cells BV 3)) rfl 30;have hr2:=ajY _ NU 30;obtain ⟨W2,e2⟩: ∃W2,W2=(w.drew.alloc (.cells BV 3)).setRow w.heap.size A.toArray:=⟨_,rfl⟩;have hx2:W2.os=w.os/\Go.Vm.Tape w W2/\W2.output=w.output:=by rw [e2];exact ⟨rfl,⟨rfl,Nat.le_succ _⟩,rfl⟩
 rw [<- e2] at j8 hr1 hr2 hW3;clear XG hg2 QJ NU e2 ajX ajY gS;have hs1:IntKind.i64.wrap (n1:Int)=n1:=by rw [IntKind.wrap_i64];omega
 have hs2:IntKind.i64.wrap ((n1:Int)+(n2:Int))=((n1+n2:Nat):Int):=by rw [IntKind.wrap_i64];omega
 have axR: ¬(n1:Int)<0:=by omega
 have axS: ¬((n1+n2:Nat):Int)<0:=by omega
 have g5:Calls Tryz.prog 310 #[.slice UV 0 0,.int .i64 ((n1:Int)+(n2:Int))] w fun e w'=>e= .returned (.slice (PP ⟨w.heap.size,0,UV⟩) 0 G)/\w'=w.drew.alloc (.cells BV 3):=g4
 clear g4
 go_enter Tryz.func282,Tryz.ntmps282
 go_wp2
 refine wp_loop_rounds 3 ?_;rw [rounds_succ]
 go_wp2
 rw [rounds_succ]
 go_wp2
 rw [rounds_succ]
 go_wp2_with (go_call g5 as e W ⟨he,hW⟩;subst he hW)
 refine wp_loop_rounds 3 ?_;rw [rounds_succ]
 go_wp2_with (at_builtin;refine EQ _ rfl _ _ _ _ rfl _ _ rfl rfl _ _ hr1 ?_)
 rw [rounds_succ]
 go_wp2_with (at_builtin;refine EQ _ rfl _ _ _ _ rfl _ _ rfl rfl _ _ hr2 ?_)
 rw [rounds_succ]
 go_wp2
 go_ret
 exact ⟨rfl,hW3,hx2.1,⟨hx2.2.1.eq,hx2.2.1.dr⟩,hx2.2.2⟩
theorem agk:Fs Tryz.prog 282 Nw:=by
 cases hc:Tryz.f282.body with
 |none=>exact absurd hc (by intro h;cases h)
 |some c=>exact Fs.cat Tryz.func282 (by kernel_rfl) hc Zp
end Go.Proofs.YthljiplggdanpaaGreat
