/- slices.Concat of two slices: what the call does to the cells. Printed by a program. -/
import Derived.Test.YtbgoiokedpjgbaaGreatChecked
import Derived.WalkKit
import Derived.Lib.Walk
import Derived.Lib.SliceRun
import Derived.Lib.Overlaps
import Derived.Lib.AppendZerosOnto
import Derived.Laws.Externs
import Derived.Laws.NewBlocks
import Derived.LoopN
import Derived.Handy
import Derived.Shelf.RegionOpenPlain
import Derived.Test.YtbgoiokedpjgbaaGreatTVm2
open Go.Lib renaming wpList_append_run->bm
open Nat renaming zero_add->bn
open Go.World renaming cell?->bo
namespace Go.Proofs.YtbgoiokedpjgbaaGreat
open Go.RowKit Go.Lib Go.Vm
set_option maxHeartbeats 4000000 in
set_option maxRecDepth 100000 in
theorem aEQ (n:Nat) (w:World) (h0:1<=n) (hn:n<=1048576):
 ∃(G:Nat) (ROW:Array Value),n<=G/\ROW.size=G/\G<=9223372036854775807/\
 Calls Tryz.prog 213 #[.slice none 0 0,.int .i64 n] w fun e w'=>e= .returned (.slice (some ⟨w.heap.size,0,none⟩) 0 G)/\w'=w.drew.alloc (.cells ROW 3):=by
 have uS:=run_underlying Tryz.underlying30;have u3:=run_underlying Tryz.underlying3;have mixed:Tryz.prog.follows .mixedOrders=true:=Tryz.checked.mixed;have hsE:(Tryz.prog.info? 3).map (·.size)=some 1:=by kernel_rfl
 have hzE:(Tryz.prog.info? 3).bind (·.zero)=some (.int .i64 0):=by kernel_rfl
 have hbE:(Tryz.prog.info? 3).map (·.bytes)=some 8:=by kernel_rfl
 obtain ⟨i0,hi0⟩: ∃i0,Tryz.prog.info? 3=some i0:=by
  cases h:Tryz.prog.info? 3 with
  |none=>rw [h] at hsE;cases hsE
  |some i0=>exact ⟨i0,rfl⟩
 have hzs:i0.size=1:=by rw [hi0] at hsE;simpa using hsE
 have hz0:i0.zero=some (.int .i64 0):=by rw [hi0] at hzE;simpa using hzE
 have hzb:i0.bytes=8:=by rw [hi0] at hbE;simpa using hbE
 have hold:(Builtin.firstCells i0.size 0 (.slice none 0 0)).run Tryz.prog w.drew= .ok ([]:List Value).toArray w.drew:=by
  rw [hzs];rfl
 have hrz: ∀ty,(Builtin.append_ #[30,3] ty #[.slice none 0 0,.int .i64 (n:Int)]).run Tryz.prog w= .ok (.slice (some ⟨w.heap.size,0,none⟩) n (grownCap w n 0 3)) (w.drew.alloc (.cells (([]:List Value).toArray++Builtin.zeroCells (Value.int .i64 0).cells n++Builtin.zeroCells (Value.int .i64 0).cells (grownCap w n 0 3-n)) 3)):=fun ty=>by
  have h:=Lib.run_append_grow_zeros w 30 3 ty 3 i0 _ .i64 .i64 Tryz.underlying30 Tryz.underlying3 hi0 hz0 none 0 0 [] hold n (by omega) (by omega) (by omega) (by omega) (by rw [hzb];omega) (by rw [hzb,bn];exact growslice_fits (by omega) (by omega))
  rw [bn] at h;exact h
 obtain ⟨G,hG⟩: ∃G,G=grownCap w n 0 3:=⟨_,rfl⟩;obtain ⟨ROW,hROW⟩: ∃ROW:Array Value,ROW=([]:List Value).toArray++Builtin.zeroCells (Value.int .i64 0).cells n++Builtin.zeroCells (Value.int .i64 0).cells (G-n):=⟨_,rfl⟩;rw [<- hG,<- hROW] at hrz;have hGn:n<=G:=by rw [hG];exact LQ w _ _ _
 have hRl:ROW.size=G:=by
  rw [hROW];simp [Builtin.zeroCells,Value.cells];omega
 have hG63:G<=9223372036854775807:=by
  have:=grownCap_le_maxLen w n 0 3 (by unfold maxLen;omega)
  rw [<- hG] at this;unfold maxLen at this;omega
 refine ⟨G,ROW,hGn,hRl,hG63,?_⟩;have hp:(0:Int)<(n:Int):=by omega
 have hw0:IntKind.i64.wrap (n:Int)=n:=by rw [IntKind.wrap_i64];omega
 have hng: ¬(n:Int)<0:=by omega
 clear hROW hG hold
 go_enter Tryz.func213,Tryz.ntmps213
 go_wp2_with (first
  |(at_builtin;refine bm _ rfl _ _ _ _ rfl _ _ rfl rfl _ _ (hrz _) ?_))
 go_ret
 exact ⟨rfl,rfl⟩
set_option maxHeartbeats 4000000 in
set_option maxRecDepth 100000 in
theorem aER (vb c:Nat) (a1 a2:Option Addr) (c1 c2:Nat) (cs1 cs2:List Value) (av:Array Value) (ev:TypeId) (w:World) (hvb:w.heap[vb]? =some (.cells av ev (0,0))) (hv0:av[0]? =some (.slice a1 cs1.length c1)) (hv1:av[1]? =some (.slice a2 cs2.length c2))
 (hpos:1<=cs1.length+cs2.length) (hmost:cs1.length+cs2.length<=1048576)
 (h1: ∀(j:Nat) (v:Value),cs1[j]? =some v-> ∃b o,a1=some ⟨b,o,none⟩/\w.cell? ⟨b,o+j,none⟩=some v) (h2: ∀(j:Nat) (v:Value),cs2[j]? =some v-> ∃b o,a2=some ⟨b,o,none⟩/\w.cell? ⟨b,o+j,none⟩=some v)
 (k1: ∀v∈cs1,v.oneCell'=true) (k2: ∀v∈cs2,v.oneCell'=true):
 ∃(G:Nat) (fin:List Value) (el:TypeId),cs1.length+cs2.length<=G/\fin.length=G/\(∀(j:Nat) (v:Value),(cs1++cs2)[j]? =some v->fin[j]? =some v)/\
 Calls Tryz.prog 147 #[.slice (some ⟨vb,0,none⟩) 2 c] w fun x w'=>x= .returned (.slice (some ⟨w.heap.size,0,none⟩) (cs1.length+cs2.length) G)/\w'.heap=w.heap.push (.cells fin.toArray el (0,0))/\w'.os=w.os/\w'.tape=w.tape/\w'.output=w.output:=by
 have uS:=run_underlying Tryz.underlying30;have uV:=run_underlying Tryz.underlying266;have u3:=run_underlying Tryz.underlying3;have mixed:Tryz.prog.follows .mixedOrders=true:=Tryz.checked.mixed;have hsE:(Tryz.prog.info? 3).map (·.size)=some 1:=by kernel_rfl
 obtain ⟨i0,hi0⟩: ∃i0,Tryz.prog.info? 3=some i0:=by
  cases h:Tryz.prog.info? 3 with
  |none=>rw [h] at hsE;cases hsE
  |some i0=>exact ⟨i0,rfl⟩
 have hzs:i0.size=1:=by rw [hi0] at hsE;simpa using hsE
 have src: ∀(W:World) (a:Option Addr) (cs:List Value) (cc:Nat),(∀(j:Nat) (v:Value),cs[j]? =some v-> ∃b o,a=some ⟨b,o,none⟩/\W.cell? ⟨b,o+j,none⟩=some v)->(∀v∈cs,v.oneCell'=true)->Src Tryz.prog i0.size 30 (.slice a cs.length cc) cs.length cs W:=fun W a cs cc h k=>by
  rw [hzs];refine ⟨.inl ⟨3,Tryz.underlying30⟩,fun _=>rfl,?_,?_,by omega,k⟩
  all_goals
   cases cs with
   |nil=>cases a<;>rfl
   |cons v vs=>
    obtain ⟨b,o,rfl,_⟩:=h 0 v rfl;refine run_firstCells_some _ 1 _ _ _ _ _ (by simp) fun j u hj=>?_
    obtain ⟨b',o',e,hc⟩:=h j u hj;injection e with e;injection e with e1 e2;subst e1;subst e2;rw [Addr.add_lit];exact hc
 obtain ⟨n1,hn1⟩: ∃n1,n1=cs1.length:=⟨_,rfl⟩;obtain ⟨n2,hn2⟩: ∃n2,n2=cs2.length:=⟨_,rfl⟩;rw [<- hn1,<- hn2] at hpos hmost;obtain ⟨G,ROW,g1,g2,g3,g4⟩:=aEQ (n1+n2) w hpos hmost;have hvw:vb<w.heap.size:=(Array.getElem?_eq_some_iff.1 hvb).1;obtain ⟨A,hA⟩: ∃A:List Value,A=spl 0 cs1 ROW.toList:=⟨_,rfl⟩;have hAl:A.length=G:=by rw [hA,gI _ _ _ (by simp [g2];omega)];simpa using g2
 obtain ⟨B,hB⟩: ∃B:List Value,B=spl n1 cs2 A:=⟨_,rfl⟩;have hBl:B.length=G:=by rw [hB,gI _ _ _ (by rw [hAl];omega),hAl]
 refine ⟨G,B,3,by omega,hBl,fun j v hj=>?_,?_⟩
 · rw [hB,oS _ _ _ (by rw [hAl];omega)]
   rcases Nat.lt_or_ge j n1 with hlt|hge
   · rw [List.getElem?_append_left (by omega)] at hj
     rw [if_neg (by omega),hA,oS _ _ _ (by simp [g2];omega),if_pos ⟨by omega,by omega⟩]
     exact hj
   rw [List.getElem?_append_right (by omega)] at hj
   have:=(List.getElem?_eq_some_iff.1 hj).1
   rw [if_pos ⟨hge,by omega⟩,hn1]
   exact hj
 have keep: ∀(W:World) (X:Obj),W.heap=w.heap.push X-> ∀(b o:Nat) (v:Value),w.cell? ⟨b,o,none⟩=some v->W.cell? ⟨b,o,none⟩=some v:=fun W X hW b o v h=>by
  have hb:b<w.heap.size:=block_lt_of_cell h;have hh:W.heap[b]? =w.heap[b]?:=by rw [hW,Array.getElem?_push,if_neg (by omega)]
  simp only [bo,hh];exact h
 have hap1: ∀(W:World),W.heap=w.heap.push (.cells ROW 3 (0,0))-> ∀ty,(Builtin.append_ #[30,30] ty #[.slice (some ⟨w.heap.size,0,none⟩) 0 G,.slice a1 n1 c1]).run Tryz.prog W= .ok (.slice (some ⟨w.heap.size,0,none⟩) n1 G) (W.setRow w.heap.size A.toArray):=fun W hW ty=>by
  have h:=lI (P:=Tryz.prog) (w:=W) 30 30 ty 3 i0 Tryz.underlying30 hi0 w.heap.size 0 0 G _ _ cs1 (src W a1 cs1 c1 (fun j v hj=>by
   obtain ⟨b,o,h3,h4⟩:=h1 j v hj;exact ⟨b,o,h3,keep W _ hW _ _ _ h4⟩) k1) (by omega) (cur:=ROW) (el:=3) (by rw [hW];simp) (by simp;omega)
  rw [Nat.zero_mul,bn,bn,<- hA,<- hn1] at h;exact h
 have hap2: ∀(W:World),W.heap=w.heap.push (.cells A.toArray 3 (0,0))-> ∀ty,(Builtin.append_ #[30,30] ty #[.slice (some ⟨w.heap.size,0,none⟩) n1 G,.slice a2 n2 c2]).run Tryz.prog W= .ok (.slice (some ⟨w.heap.size,0,none⟩) (n1+n2) G) (W.setRow w.heap.size B.toArray):=fun W hW ty=>by
  have h:=lI (P:=Tryz.prog) (w:=W) 30 30 ty 3 i0 Tryz.underlying30 hi0 w.heap.size 0 n1 G _ _ cs2 (src W a2 cs2 c2 (fun j v hj=>by
   obtain ⟨b,o,h3,h4⟩:=h2 j v hj;exact ⟨b,o,h3,keep W _ hW _ _ _ h4⟩) k2) (by omega) (cur:=A.toArray) (el:=3) (by rw [hW];simp) (by simp [hzs];omega)
  rw [hzs,Nat.mul_one,bn,<- hB,<- hn2] at h;exact h
 have hc0:w.cell? ⟨vb,0,none⟩=some (.slice a1 n1 c1):=by simp only [bo,hvb];rw [hn1];exact hv0
 have hc1:w.cell? ⟨vb,1,none⟩=some (.slice a2 n2 c2):=by simp only [bo,hvb];rw [hn2];exact hv1
 rw [<- hn1,<- hn2];clear hA hB hAl hBl src h1 h2 k1 k2 hvb hv0 hv1 hn1 hn2;have pset: ∀(x y:Obj),(w.heap.push x).setIfInBounds w.heap.size y=w.heap.push y:=fun x y=>by
  apply Array.ext';simp
 have hg1:(w.drew.alloc (.cells ROW 3)).heap[w.heap.size]? =some (.cells ROW 3 (0,0)):=by
  show (w.heap.push _)[_]? =_;simp
 have hW2:((w.drew.alloc (.cells ROW 3)).setRow w.heap.size A.toArray).heap=w.heap.push (.cells A.toArray 3 (0,0)):=by
  rw [eM hg1];exact pset _ _
 have hg2:((w.drew.alloc (.cells ROW 3)).setRow w.heap.size A.toArray).heap[w.heap.size]? =some (.cells A.toArray 3 (0,0)):=by
  rw [hW2];simp
 have hW3:(((w.drew.alloc (.cells ROW 3)).setRow w.heap.size A.toArray).setRow w.heap.size B.toArray).heap=w.heap.push (.cells B.toArray 3 (0,0)):=by
  rw [eM hg2,hW2];exact pset _ _
 have hk1:((w.drew.alloc (.cells ROW 3)).setRow w.heap.size A.toArray).cell? ⟨vb,1,none⟩=some (.slice a2 n2 c2):=keep _ _ hW2 _ _ _ hc1;have hr1:=hap1 (w.drew.alloc (.cells ROW 3)) rfl 30;have hr2:=hap2 _ hW2 30;obtain ⟨W2,e2⟩: ∃W2,W2=(w.drew.alloc (.cells ROW 3)).setRow w.heap.size A.toArray:=⟨_,rfl⟩;have hx2:W2.os=w.os/\W2.tape=w.tape/\W2.output=w.output:=by rw [e2];exact ⟨rfl,rfl,rfl⟩
 rw [<- e2] at hk1 hr1 hr2 hW3;clear hg1 hg2 pset hW2 e2 hap1 hap2 keep;have hs1:IntKind.i64.wrap (n1:Int)=n1:=by rw [IntKind.wrap_i64];omega
 have hs2:IntKind.i64.wrap ((n1:Int)+(n2:Int))=((n1+n2:Nat):Int):=by rw [IntKind.wrap_i64];omega
 have hng1: ¬(n1:Int)<0:=by omega
 have hng2: ¬((n1+n2:Nat):Int)<0:=by omega
 have g5:Calls Tryz.prog 213 #[.slice none 0 0,.int .i64 ((n1:Int)+(n2:Int))] w fun e w'=>e= .returned (.slice (some ⟨w.heap.size,0,none⟩) 0 G)/\w'=w.drew.alloc (.cells ROW 3):=g4
 clear g4
 go_enter Tryz.func147,Tryz.ntmps147
 go_wp2
 refine wp_loop_rounds 3 ?_;rw [rounds_succ]
 go_wp2
 rw [rounds_succ]
 go_wp2
 rw [rounds_succ]
 go_wp2_with (go_call g5 as e W ⟨he,hW⟩;subst he hW)
 refine wp_loop_rounds 3 ?_;rw [rounds_succ]
 go_wp2_with (at_builtin;refine bm _ rfl _ _ _ _ rfl _ _ rfl rfl _ _ hr1 ?_)
 rw [rounds_succ]
 go_wp2_with (at_builtin;refine bm _ rfl _ _ _ _ rfl _ _ rfl rfl _ _ hr2 ?_)
 rw [rounds_succ]
 go_wp2
 go_ret
 exact ⟨rfl,hW3,hx2.1,hx2.2.1,hx2.2.2⟩
theorem aRx:MG Tryz.prog 147 S4:=by
 cases hc:Tryz.f147.body with
 |none=>exact absurd hc (by intro h;cases h)
 |some c=>exact MG.cat Tryz.func147 (by kernel_rfl) hc aER
end Go.Proofs.YtbgoiokedpjgbaaGreat
