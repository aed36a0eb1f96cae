/- slices.Concat of two slices: what the call does to the cells. Printed by a program. -/
import Derived.Test.YtbgoiokedpjgbaaGreatChecked
import Derived.WalkKit
import Derived.Lib.Walk
import Derived.Lib.SliceRun
import Derived.Lib.Overlaps
import Derived.Lib.AppendZerosOnto
import Derived.Laws.Externs
import Derived.Laws.NewBlocks
import Derived.LoopN
import Derived.Handy
import Derived.Shelf.RegionOpenPlain
import Derived.Test.YtbgoiokedpjgbaaGreatAVm2
open Go.Lib renaming wpList_append_run->pp
open Nat renaming zero_add->rc
open Go.World renaming cell?->ut
open List renaming length->v6
open Option renaming some->ww,none->AC
namespace Go.Proofs.YtbgoiokedpjgbaaGreat
open Go.RowKit Go.Lib Go.Vm
set_option maxHeartbeats 4000000 in
set_option maxRecDepth 100000 in
theorem Um (n:Nat) (w:World) (h0:1<=n) (hn:n<=1048576):
 ∃(G:Nat) (x3:Array Value),n<=G/\x3.size=G/\G<=9223372036854775807/\
 Calls Tryz.prog 213 #[.slice AC 0 0,.int .i64 n] w fun e w'=>e= .returned (.slice (ww ⟨w.heap.size,0,AC⟩) 0 G)/\w'=w.drew.alloc (.cells x3 3):=by
 have uS:=run_underlying Tryz.underlying30;have u3:=run_underlying Tryz.underlying3;have mixed:Tryz.prog.follows .mixedOrders=true:=Tryz.checked.mixed;have B5:(Tryz.prog.info? 3).map (·.size)=ww 1:=by kernel_rfl
 have hzE:(Tryz.prog.info? 3).bind (·.zero)=ww (.int .i64 0):=by kernel_rfl
 have hbE:(Tryz.prog.info? 3).map (·.bytes)=ww 8:=by kernel_rfl
 obtain ⟨i0,Pv⟩: ∃i0,Tryz.prog.info? 3=ww i0:=by
  cases h:Tryz.prog.info? 3 with
  |none=>rw [h] at B5;cases B5
  |some i0=>exact ⟨i0,rfl⟩
 have KV:i0.size=1:=by rw [Pv] at B5;simpa using B5
 have hz0:i0.zero=ww (.int .i64 0):=by rw [Pv] at hzE;simpa using hzE
 have hzb:i0.bytes=8:=by rw [Pv] at hbE;simpa using hbE
 have uW:(Builtin.firstCells i0.size 0 (.slice AC 0 0)).run Tryz.prog w.drew= .ok ([]:List Value).toArray w.drew:=by rw [KV];rfl
 have hrz: ∀ty,(Builtin.append_ #[30,3] ty #[.slice AC 0 0,.int .i64 (n:Int)]).run Tryz.prog w= .ok (.slice (ww ⟨w.heap.size,0,AC⟩) n (grownCap w n 0 3)) (w.drew.alloc (.cells (([]:List Value).toArray++Builtin.zeroCells (Value.int .i64 0).cells n++Builtin.zeroCells (Value.int .i64 0).cells (grownCap w n 0 3-n)) 3)):=fun ty=>by
  have h:=Lib.run_append_grow_zeros w 30 3 ty 3 i0 _ .i64 .i64 Tryz.underlying30 Tryz.underlying3 Pv hz0 AC 0 0 [] uW n (by omega) (by omega) (by omega) (by omega) (by rw [hzb];omega) (by rw [hzb,rc];exact growslice_fits (by omega) (by omega));rw [rc] at h;exact h
 obtain ⟨G,hG⟩: ∃G,G=grownCap w n 0 3:=⟨_,rfl⟩;obtain ⟨x3,L0⟩: ∃x3:Array Value,x3=([]:List Value).toArray++Builtin.zeroCells (Value.int .i64 0).cells n++Builtin.zeroCells (Value.int .i64 0).cells (G-n):=⟨_,rfl⟩;rw [<- hG,<- L0] at hrz;have hGn:n<=G:=by rw [hG];exact grownCap_ge w _ _ _
 have hRl:x3.size=G:=by rw [L0];simp [Builtin.zeroCells,Value.cells];omega
 have anG:G<=9223372036854775807:=by have:=grownCap_le_maxLen w n 0 3 (by unfold maxLen;omega);rw [<- hG] at this;unfold maxLen at this;omega
 refine ⟨G,x3,hGn,hRl,anG,?_⟩;have hp:(0:Int)<(n:Int):=by omega
 have hw0:IntKind.i64.wrap (n:Int)=n:=by rw [IntKind.wrap_i64];omega
 have hng: ¬(n:Int)<0:=by omega
 clear L0 hG uW
 go_enter Tryz.func213,Tryz.ntmps213
 go_wp2_with (first
  |(at_builtin;refine pp _ rfl _ _ _ _ rfl _ _ rfl rfl _ _ (hrz _) ?_))
 go_ret
 exact ⟨rfl,rfl⟩
set_option maxHeartbeats 4000000 in
set_option maxRecDepth 100000 in
theorem Un (vb c:Nat) (a1 a2:Option Addr) (c1 c2:Nat) (Hx Hy:List Value) (av:Array Value) (ev:TypeId) (w:World) (Ue:w.heap[vb]? =ww (.cells av ev (0,0))) (hv0:av[0]? =ww (.slice a1 (v6 Hx) c1)) (M6:av[1]? =ww (.slice a2 (v6 Hy) c2))
 (Hr:1<=v6 Hx+v6 Hy) (iM:(v6 Hx)+v6 Hy<=1048576)
 (h1: ∀(j:Nat) (v:Value),Hx[j]? =ww v-> ∃b o,a1=ww ⟨b,o,AC⟩/\w.cell? ⟨b,o+j,AC⟩=ww v) (h2: ∀(j:Nat) (v:Value),Hy[j]? =ww v-> ∃b o,a2=ww ⟨b,o,AC⟩/\w.cell? ⟨b,o+j,AC⟩=ww v)
 (k1: ∀v∈Hx,v.oneCell'=true) (k2: ∀v∈Hy,v.oneCell'=true):
 ∃(G:Nat) (fin:List Value) (el:TypeId),v6 Hx+v6 Hy<=G/\v6 fin=G/\(∀(j:Nat) (v:Value),(Hx++Hy)[j]? =ww v->fin[j]? =ww v)/\
 Calls Tryz.prog 147 #[.slice (ww ⟨vb,0,AC⟩) 2 c] w fun x w'=>x= .returned (.slice (ww ⟨w.heap.size,0,AC⟩) (v6 Hx+v6 Hy) G)/\w'.heap=w.heap.push (.cells fin.toArray el (0,0))/\w'.os=w.os/\Go.Vm.Tape w w'/\w'.output=w.output:=by
 have uS:=run_underlying Tryz.underlying30;have uV:=run_underlying Tryz.underlying266;have u3:=run_underlying Tryz.underlying3;have mixed:Tryz.prog.follows .mixedOrders=true:=Tryz.checked.mixed;have B5:(Tryz.prog.info? 3).map (·.size)=ww 1:=by kernel_rfl
 obtain ⟨i0,Pv⟩: ∃i0,Tryz.prog.info? 3=ww i0:=by
  cases h:Tryz.prog.info? 3 with
  |none=>rw [h] at B5;cases B5
  |some i0=>exact ⟨i0,rfl⟩
 have KV:i0.size=1:=by rw [Pv] at B5;simpa using B5
 have src: ∀(W:World) (a:Option Addr) (cs:List Value) (cc:Nat),(∀(j:Nat) (v:Value),cs[j]? =ww v-> ∃b o,a=ww ⟨b,o,AC⟩/\W.cell? ⟨b,o+j,AC⟩=ww v)->(∀v∈cs,v.oneCell'=true)->Src Tryz.prog i0.size 30 (.slice a (v6 cs) cc) (v6 cs) cs W:=fun W a cs cc h k=>by
  rw [KV];refine ⟨.inl ⟨3,Tryz.underlying30⟩,fun _=>rfl,?_,?_,by omega,k⟩
  all_goals
   cases cs with
   |nil=>cases a<;>rfl
   |cons v vs=>
    obtain ⟨b,o,rfl,_⟩:=h 0 v rfl;refine run_firstCells_some _ 1 _ _ _ _ _ (by simp) fun j u hj=>?_
    obtain ⟨b',o',e,hc⟩:=h j u hj;injection e with e;injection e with e1 e2;subst e1;subst e2;rw [Addr.add_lit];exact hc
 obtain ⟨n1,hn1⟩: ∃n1,n1=(v6 Hx):=⟨_,rfl⟩;obtain ⟨n2,hn2⟩: ∃n2,n2=(v6 Hy):=⟨_,rfl⟩;rw [<- hn1,<- hn2] at Hr iM;obtain ⟨G,x3,g1,g2,g3,g4⟩:=Um (n1+n2) w Hr iM;have hvw:vb<w.heap.size:=(Array.getElem?_eq_some_iff.1 Ue).1;obtain ⟨A,hA⟩: ∃A:List Value,A=ni 0 Hx x3.toList:=⟨_,rfl⟩;have hAl:(v6 A)=G:=by rw [hA,de _ _ _ (by simp [g2];omega)];simpa using g2
 obtain ⟨B,hB⟩: ∃B:List Value,B=ni n1 Hy A:=⟨_,rfl⟩;have hBl:(v6 B)=G:=by rw [hB,de _ _ _ (by rw [hAl];omega),hAl]
 refine ⟨G,B,3,by omega,hBl,fun j v hj=>?_,?_⟩
 · rw [hB,iu _ _ _ (by rw [hAl];omega)]
   rcases Nat.lt_or_ge j n1 with dV|V8
   · rw [List.getElem?_append_left (by omega)] at hj
     rw [lw (by omega),hA,iu _ _ _ (by simp [g2];omega),ls ⟨by omega,by omega⟩];exact hj
   rw [List.getElem?_append_right (by omega)] at hj
   have:=(List.getElem?_eq_some_iff.1 hj).1;rw [ls ⟨V8,by omega⟩,hn1];exact hj
 have gj: ∀(W:World) (X:Obj),W.heap=w.heap.push X-> ∀(b o:Nat) (v:Value),w.cell? ⟨b,o,AC⟩=ww v->W.cell? ⟨b,o,AC⟩=ww v:=fun W X hW b o v h=>by
  have hb:b<w.heap.size:=block_lt_of_cell h;have hh:W.heap[b]? =w.heap[b]?:=by rw [hW,Array.getElem?_push,lw (by omega)]
  simp only [ut,hh];exact h
 have anI: ∀(W:World),W.heap=w.heap.push (.cells x3 3 (0,0))-> ∀ty,(Builtin.append_ #[30,30] ty #[.slice (ww ⟨w.heap.size,0,AC⟩) 0 G,.slice a1 n1 c1]).run Tryz.prog W= .ok (.slice (ww ⟨w.heap.size,0,AC⟩) n1 G) (W.setRow w.heap.size A.toArray):=fun W hW ty=>by
  have h:=jK (P:=Tryz.prog) (w:=W) 30 30 ty 3 i0 Tryz.underlying30 Pv w.heap.size 0 0 G _ _ Hx (src W a1 Hx c1 (fun j v hj=>by obtain ⟨b,o,h3,h4⟩:=h1 j v hj;exact ⟨b,o,h3,gj W _ hW _ _ _ h4⟩) k1) (by omega) (cur:=x3) (el:=3) (by rw [hW];simp) (by simp;omega);rw [Nat.zero_mul,rc,rc,<- hA,<- hn1] at h;exact h
 have anJ: ∀(W:World),W.heap=w.heap.push (.cells A.toArray 3 (0,0))-> ∀ty,(Builtin.append_ #[30,30] ty #[.slice (ww ⟨w.heap.size,0,AC⟩) n1 G,.slice a2 n2 c2]).run Tryz.prog W= .ok (.slice (ww ⟨w.heap.size,0,AC⟩) (n1+n2) G) (W.setRow w.heap.size B.toArray):=fun W hW ty=>by
  have h:=jK (P:=Tryz.prog) (w:=W) 30 30 ty 3 i0 Tryz.underlying30 Pv w.heap.size 0 n1 G _ _ Hy (src W a2 Hy c2 (fun j v hj=>by obtain ⟨b,o,h3,h4⟩:=h2 j v hj;exact ⟨b,o,h3,gj W _ hW _ _ _ h4⟩) k2) (by omega) (cur:=A.toArray) (el:=3) (by rw [hW];simp) (by simp [KV];omega);rw [KV,Nat.mul_one,rc,<- hB,<- hn2] at h;exact h
 have Fb:w.cell? ⟨vb,0,AC⟩=ww (.slice a1 n1 c1):=by simp only [ut,Ue];rw [hn1];exact hv0
 have DK:w.cell? ⟨vb,1,AC⟩=ww (.slice a2 n2 c2):=by simp only [ut,Ue];rw [hn2];exact M6
 rw [<- hn1,<- hn2];clear hA hB hAl hBl src h1 h2 k1 k2 Ue hv0 M6 hn1 hn2;have L1: ∀(x y:Obj),(w.heap.push x).setIfInBounds w.heap.size y=w.heap.push y:=fun x y=>by apply Array.ext';simp
 have Ss:(w.drew.alloc (.cells x3 3)).heap[w.heap.size]? =ww (.cells x3 3 (0,0)):=by show (w.heap.push _)[_]? =_;simp
 have Jr:((w.drew.alloc (.cells x3 3)).setRow w.heap.size A.toArray).heap=w.heap.push (.cells A.toArray 3 (0,0)):=by rw [bZ Ss];exact L1 _ _
 have hg2:((w.drew.alloc (.cells x3 3)).setRow w.heap.size A.toArray).heap[w.heap.size]? =ww (.cells A.toArray 3 (0,0)):=by rw [Jr];simp
 have hW3:(((w.drew.alloc (.cells x3 3)).setRow w.heap.size A.toArray).setRow w.heap.size B.toArray).heap=w.heap.push (.cells B.toArray 3 (0,0)):=by rw [bZ hg2,Jr];exact L1 _ _
 have ij:((w.drew.alloc (.cells x3 3)).setRow w.heap.size A.toArray).cell? ⟨vb,1,AC⟩=ww (.slice a2 n2 c2):=gj _ _ Jr _ _ _ DK;have Po:=anI (w.drew.alloc (.cells x3 3)) rfl 30;have Pp:=anJ _ Jr 30;obtain ⟨W2,e2⟩: ∃W2,W2=(w.drew.alloc (.cells x3 3)).setRow w.heap.size A.toArray:=⟨_,rfl⟩;have Wc:W2.os=w.os/\Go.Vm.Tape w W2/\W2.output=w.output:=by rw [e2];exact ⟨rfl,⟨rfl,Nat.le_succ _⟩,rfl⟩
 rw [<- e2] at ij Po Pp hW3;clear Ss hg2 L1 Jr e2 anI anJ gj;have hs1:IntKind.i64.wrap (n1:Int)=n1:=by rw [IntKind.wrap_i64];omega
 have Xm:IntKind.i64.wrap ((n1:Int)+(n2:Int))=((n1+n2:Nat):Int):=by rw [IntKind.wrap_i64];omega
 have axA: ¬(n1:Int)<0:=by omega
 have axB: ¬((n1+n2:Nat):Int)<0:=by omega
 have g5:Calls Tryz.prog 213 #[.slice AC 0 0,.int .i64 ((n1:Int)+(n2:Int))] w fun e w'=>e= .returned (.slice (ww ⟨w.heap.size,0,AC⟩) 0 G)/\w'=w.drew.alloc (.cells x3 3):=g4
 clear g4
 go_enter Tryz.func147,Tryz.ntmps147
 go_wp2
 refine wp_loop_rounds 3 ?_;rw [rounds_succ]
 go_wp2
 rw [rounds_succ]
 go_wp2
 rw [rounds_succ]
 go_wp2_with (go_call g5 as e W ⟨he,hW⟩;subst he hW)
 refine wp_loop_rounds 3 ?_;rw [rounds_succ]
 go_wp2_with (at_builtin;refine pp _ rfl _ _ _ _ rfl _ _ rfl rfl _ _ Po ?_)
 rw [rounds_succ]
 go_wp2_with (at_builtin;refine pp _ rfl _ _ _ _ rfl _ _ rfl rfl _ _ Pp ?_)
 rw [rounds_succ]
 go_wp2
 go_ret
 exact ⟨rfl,hW3,Wc.1,⟨Wc.2.1.eq,Wc.2.1.dr⟩,Wc.2.2⟩
theorem ajn:By Tryz.prog 147 I7:=by
 cases hc:Tryz.f147.body with
 |none=>exact absurd hc (by intro h;cases h)
 |some c=>exact By.cat Tryz.func147 (by kernel_rfl) hc Un
end Go.Proofs.YtbgoiokedpjgbaaGreat
