/- slices.Concat of two slices: what the call does to the cells. Printed by a program. -/
import Derived.Test.YtclphlgnjkajbaaGreatChecked
import Derived.WalkKit
import Derived.Lib.Walk
import Derived.Lib.SliceRun
import Derived.Lib.Overlaps
import Derived.Lib.AppendZerosOnto
import Derived.Laws.Externs
import Derived.Laws.NewBlocks
import Derived.LoopN
import Derived.Handy
import Derived.Shelf.RegionOpenPlain
import Derived.Test.YtclphlgnjkajbaaGreatSVm2
open Go.Lib renaming wpList_append_run->v6
open Nat renaming zero_add->ww
open Go.World renaming cell?->AC
open List renaming length->Do
open Option renaming some->EQ,none->If
namespace Go.Proofs.YtclphlgnjkajbaaGreat
open Go.RowKit Go.Lib Go.Vm
set_option maxHeartbeats 4000000 in
set_option maxRecDepth 100000 in
theorem Si (n:Nat) (w:World) (h0:1<=n) (hn:n<=1048576):
 ∃(G:Nat) (wF:Array Value),n<=G/\wF.size=G/\G<=9223372036854775807/\
 Calls Tryz.prog 282 #[.slice If 0 0,.int .i64 n] w fun e w'=>e= .returned (.slice (EQ ⟨w.heap.size,0,If⟩) 0 G)/\w'=w.drew.alloc (.cells wF 3):=by
 have uS:=run_underlying Tryz.underlying24;have u3:=run_underlying Tryz.underlying3;have mixed:Tryz.prog.follows .mixedOrders=true:=Tryz.checked.mixed;have A6:(Tryz.prog.info? 3).map (·.size)=EQ 1:=by kernel_rfl
 have ZM:(Tryz.prog.info? 3).bind (·.zero)=EQ (.int .i64 0):=by kernel_rfl
 have ZN:(Tryz.prog.info? 3).map (·.bytes)=EQ 8:=by kernel_rfl
 obtain ⟨i0,NM⟩: ∃i0,Tryz.prog.info? 3=EQ i0:=by
  cases h:Tryz.prog.info? 3 with
  |none=>rw [h] at A6;cases A6
  |some i0=>exact ⟨i0,rfl⟩
 have Ju:i0.size=1:=by rw [NM] at A6;simpa using A6
 have hz0:i0.zero=EQ (.int .i64 0):=by rw [NM] at ZM;simpa using ZM
 have hzb:i0.bytes=8:=by rw [NM] at ZN;simpa using ZN
 have sR:(Builtin.firstCells i0.size 0 (.slice If 0 0)).run Tryz.prog w.drew= .ok ([]:List Value).toArray w.drew:=by rw [Ju];rfl
 have hrz: ∀ty,(Builtin.append_ #[24,3] ty #[.slice If 0 0,.int .i64 (n:Int)]).run Tryz.prog w= .ok (.slice (EQ ⟨w.heap.size,0,If⟩) n (grownCap w n 0 3)) (w.drew.alloc (.cells (([]:List Value).toArray++Builtin.zeroCells (Value.int .i64 0).cells n++Builtin.zeroCells (Value.int .i64 0).cells (grownCap w n 0 3-n)) 3)):=fun ty=>by
  have h:=Lib.run_append_grow_zeros w 24 3 ty 3 i0 _ .i64 .i64 Tryz.underlying24 Tryz.underlying3 NM hz0 If 0 0 [] sR n (by omega) (by omega) (by omega) (by omega) (by rw [hzb];omega) (by rw [hzb,ww];exact growslice_fits (by omega) (by omega));rw [ww] at h;exact h
 obtain ⟨G,hG⟩: ∃G,G=grownCap w n 0 3:=⟨_,rfl⟩;obtain ⟨wF,Kv⟩: ∃wF:Array Value,wF=([]:List Value).toArray++Builtin.zeroCells (Value.int .i64 0).cells n++Builtin.zeroCells (Value.int .i64 0).cells (G-n):=⟨_,rfl⟩;rw [<- hG,<- Kv] at hrz;have hGn:n<=G:=by rw [hG];exact grownCap_ge w _ _ _
 have hRl:wF.size=G:=by rw [Kv];simp [Builtin.zeroCells,Value.cells];omega
 have agt:G<=9223372036854775807:=by have:=grownCap_le_maxLen w n 0 3 (by unfold maxLen;omega);rw [<- hG] at this;unfold maxLen at this;omega
 refine ⟨G,wF,hGn,hRl,agt,?_⟩;have hp:(0:Int)<(n:Int):=by omega
 have hw0:IntKind.i64.wrap (n:Int)=n:=by rw [IntKind.wrap_i64];omega
 have hng: ¬(n:Int)<0:=by omega
 clear Kv hG sR
 go_enter Tryz.func282,Tryz.ntmps282
 go_wp2_with (first
  |(at_builtin;refine v6 _ rfl _ _ _ _ rfl _ _ rfl rfl _ _ (hrz _) ?_))
 go_ret
 exact ⟨rfl,rfl⟩
set_option maxHeartbeats 4000000 in
set_option maxRecDepth 100000 in
theorem Sj (vb c:Nat) (a1 a2:Option Addr) (c1 c2:Nat) (F' Ga:List Value) (av:Array Value) (ev:TypeId) (w:World) (Sb:w.heap[vb]? =EQ (.cells av ev (0,0))) (hv0:av[0]? =EQ (.slice a1 (Do F') c1)) (Lv:av[1]? =EQ (.slice a2 (Do Ga) c2))
 (F4:1<=Do F'+Do Ga) (gX:(Do F')+Do Ga<=1048576)
 (h1: ∀(j:Nat) (v:Value),F'[j]? =EQ v-> ∃b o,a1=EQ ⟨b,o,If⟩/\w.cell? ⟨b,o+j,If⟩=EQ v) (h2: ∀(j:Nat) (v:Value),Ga[j]? =EQ v-> ∃b o,a2=EQ ⟨b,o,If⟩/\w.cell? ⟨b,o+j,If⟩=EQ v)
 (k1: ∀v∈F',v.oneCell'=true) (k2: ∀v∈Ga,v.oneCell'=true):
 ∃(G:Nat) (fin:List Value) (el:TypeId),Do F'+Do Ga<=G/\Do fin=G/\(∀(j:Nat) (v:Value),(F'++Ga)[j]? =EQ v->fin[j]? =EQ v)/\
 Calls Tryz.prog 179 #[.slice (EQ ⟨vb,0,If⟩) 2 c] w fun x w'=>x= .returned (.slice (EQ ⟨w.heap.size,0,If⟩) (Do F'+Do Ga) G)/\w'.heap=w.heap.push (.cells fin.toArray el (0,0))/\w'.os=w.os/\Go.Vm.Tape w w'/\w'.output=w.output:=by
 have uS:=run_underlying Tryz.underlying24;have uV:=run_underlying Tryz.underlying360;have u3:=run_underlying Tryz.underlying3;have mixed:Tryz.prog.follows .mixedOrders=true:=Tryz.checked.mixed;have A6:(Tryz.prog.info? 3).map (·.size)=EQ 1:=by kernel_rfl
 obtain ⟨i0,NM⟩: ∃i0,Tryz.prog.info? 3=EQ i0:=by
  cases h:Tryz.prog.info? 3 with
  |none=>rw [h] at A6;cases A6
  |some i0=>exact ⟨i0,rfl⟩
 have Ju:i0.size=1:=by rw [NM] at A6;simpa using A6
 have src: ∀(W:World) (a:Option Addr) (cs:List Value) (cc:Nat),(∀(j:Nat) (v:Value),cs[j]? =EQ v-> ∃b o,a=EQ ⟨b,o,If⟩/\W.cell? ⟨b,o+j,If⟩=EQ v)->(∀v∈cs,v.oneCell'=true)->Src Tryz.prog i0.size 24 (.slice a (Do cs) cc) (Do cs) cs W:=fun W a cs cc h k=>by
  rw [Ju];refine ⟨.inl ⟨3,Tryz.underlying24⟩,fun _=>rfl,?_,?_,by omega,k⟩
  all_goals
   cases cs with
   |nil=>cases a<;>rfl
   |cons v vs=>
    obtain ⟨b,o,rfl,_⟩:=h 0 v rfl;refine run_firstCells_some _ 1 _ _ _ _ _ (by simp) fun j u hj=>?_
    obtain ⟨b',o',e,hc⟩:=h j u hj;injection e with e;injection e with e1 e2;subst e1;subst e2;rw [Addr.add_lit];exact hc
 obtain ⟨n1,hn1⟩: ∃n1,n1=(Do F'):=⟨_,rfl⟩;obtain ⟨n2,hn2⟩: ∃n2,n2=(Do Ga):=⟨_,rfl⟩;rw [<- hn1,<- hn2] at F4 gX;obtain ⟨G,wF,g1,g2,g3,g4⟩:=Si (n1+n2) w F4 gX;have hvw:vb<w.heap.size:=(Array.getElem?_eq_some_iff.1 Sb).1;obtain ⟨A,hA⟩: ∃A:List Value,A=lZ 0 F' wF.toList:=⟨_,rfl⟩;have hAl:(Do A)=G:=by rw [hA,cQ _ _ _ (by simp [g2];omega)];simpa using g2
 obtain ⟨B,hB⟩: ∃B:List Value,B=lZ n1 Ga A:=⟨_,rfl⟩;have hBl:(Do B)=G:=by rw [hB,cQ _ _ _ (by rw [hAl];omega),hAl]
 refine ⟨G,B,3,by omega,hBl,fun j v hj=>?_,?_⟩
 · rw [hB,gG _ _ _ (by rw [hAl];omega)]
   rcases Nat.lt_or_ge j n1 with dz|TR
   · rw [List.getElem?_append_left (by omega)] at hj
     rw [ut (by omega),hA,gG _ _ _ (by simp [g2];omega),rc ⟨by omega,by omega⟩];exact hj
   rw [List.getElem?_append_right (by omega)] at hj
   have:=(List.getElem?_eq_some_iff.1 hj).1;rw [rc ⟨TR,by omega⟩,hn1];exact hj
 have ft: ∀(W:World) (X:Obj),W.heap=w.heap.push X-> ∀(b o:Nat) (v:Value),w.cell? ⟨b,o,If⟩=EQ v->W.cell? ⟨b,o,If⟩=EQ v:=fun W X hW b o v h=>by
  have hb:b<w.heap.size:=block_lt_of_cell h;have hh:W.heap[b]? =w.heap[b]?:=by rw [hW,Array.getElem?_push,ut (by omega)]
  simp only [AC,hh];exact h
 have agv: ∀(W:World),W.heap=w.heap.push (.cells wF 3 (0,0))-> ∀ty,(Builtin.append_ #[24,24] ty #[.slice (EQ ⟨w.heap.size,0,If⟩) 0 G,.slice a1 n1 c1]).run Tryz.prog W= .ok (.slice (EQ ⟨w.heap.size,0,If⟩) n1 G) (W.setRow w.heap.size A.toArray):=fun W hW ty=>by
  have h:=iW (P:=Tryz.prog) (w:=W) 24 24 ty 3 i0 Tryz.underlying24 NM w.heap.size 0 0 G _ _ F' (src W a1 F' c1 (fun j v hj=>by obtain ⟨b,o,h3,h4⟩:=h1 j v hj;exact ⟨b,o,h3,ft W _ hW _ _ _ h4⟩) k1) (by omega) (cur:=wF) (el:=3) (by rw [hW];simp) (by simp;omega);rw [Nat.zero_mul,ww,ww,<- hA,<- hn1] at h;exact h
 have agw: ∀(W:World),W.heap=w.heap.push (.cells A.toArray 3 (0,0))-> ∀ty,(Builtin.append_ #[24,24] ty #[.slice (EQ ⟨w.heap.size,0,If⟩) n1 G,.slice a2 n2 c2]).run Tryz.prog W= .ok (.slice (EQ ⟨w.heap.size,0,If⟩) (n1+n2) G) (W.setRow w.heap.size B.toArray):=fun W hW ty=>by
  have h:=iW (P:=Tryz.prog) (w:=W) 24 24 ty 3 i0 Tryz.underlying24 NM w.heap.size 0 n1 G _ _ Ga (src W a2 Ga c2 (fun j v hj=>by obtain ⟨b,o,h3,h4⟩:=h2 j v hj;exact ⟨b,o,h3,ft W _ hW _ _ _ h4⟩) k2) (by omega) (cur:=A.toArray) (el:=3) (by rw [hW];simp) (by simp [Ju];omega);rw [Ju,Nat.mul_one,ww,<- hB,<- hn2] at h;exact h
 have D':w.cell? ⟨vb,0,If⟩=EQ (.slice a1 n1 c1):=by simp only [AC,Sb];rw [hn1];exact hv0
 have CF:w.cell? ⟨vb,1,If⟩=EQ (.slice a2 n2 c2):=by simp only [AC,Sb];rw [hn2];exact Lv
 rw [<- hn1,<- hn2];clear hA hB hAl hBl src h1 h2 k1 k2 Sb hv0 Lv hn1 hn2;have Kw: ∀(x y:Obj),(w.heap.push x).setIfInBounds w.heap.size y=w.heap.push y:=fun x y=>by apply Array.ext';simp
 have Qr:(w.drew.alloc (.cells wF 3)).heap[w.heap.size]? =EQ (.cells wF 3 (0,0)):=by show (w.heap.push _)[_]? =_;simp
 have HY:((w.drew.alloc (.cells wF 3)).setRow w.heap.size A.toArray).heap=w.heap.push (.cells A.toArray 3 (0,0)):=by rw [bO Qr];exact Kw _ _
 have hg2:((w.drew.alloc (.cells wF 3)).setRow w.heap.size A.toArray).heap[w.heap.size]? =EQ (.cells A.toArray 3 (0,0)):=by rw [HY];simp
 have hW3:(((w.drew.alloc (.cells wF 3)).setRow w.heap.size A.toArray).setRow w.heap.size B.toArray).heap=w.heap.push (.cells B.toArray 3 (0,0)):=by rw [bO hg2,HY];exact Kw _ _
 have gC:((w.drew.alloc (.cells wF 3)).setRow w.heap.size A.toArray).cell? ⟨vb,1,If⟩=EQ (.slice a2 n2 c2):=ft _ _ HY _ _ _ CF;have NH:=agv (w.drew.alloc (.cells wF 3)) rfl 24;have Lx:=agw _ HY 24;obtain ⟨W2,e2⟩: ∃W2,W2=(w.drew.alloc (.cells wF 3)).setRow w.heap.size A.toArray:=⟨_,rfl⟩;have TX:W2.os=w.os/\Go.Vm.Tape w W2/\W2.output=w.output:=by rw [e2];exact ⟨rfl,⟨rfl,Nat.le_succ _⟩,rfl⟩
 rw [<- e2] at gC NH Lx hW3;clear Qr hg2 Kw HY e2 agv agw ft;have hs1:IntKind.i64.wrap (n1:Int)=n1:=by rw [IntKind.wrap_i64];omega
 have U6:IntKind.i64.wrap ((n1:Int)+(n2:Int))=((n1+n2:Nat):Int):=by rw [IntKind.wrap_i64];omega
 have aov: ¬(n1:Int)<0:=by omega
 have aow: ¬((n1+n2:Nat):Int)<0:=by omega
 have g5:Calls Tryz.prog 282 #[.slice If 0 0,.int .i64 ((n1:Int)+(n2:Int))] w fun e w'=>e= .returned (.slice (EQ ⟨w.heap.size,0,If⟩) 0 G)/\w'=w.drew.alloc (.cells wF 3):=g4
 clear g4
 go_enter Tryz.func179,Tryz.ntmps179
 go_wp2
 refine wp_loop_rounds 3 ?_;rw [rounds_succ]
 go_wp2
 rw [rounds_succ]
 go_wp2
 rw [rounds_succ]
 go_wp2_with (go_call g5 as e W ⟨he,hW⟩;subst he hW)
 refine wp_loop_rounds 3 ?_;rw [rounds_succ]
 go_wp2_with (at_builtin;refine v6 _ rfl _ _ _ _ rfl _ _ rfl rfl _ _ NH ?_)
 rw [rounds_succ]
 go_wp2_with (at_builtin;refine v6 _ rfl _ _ _ _ rfl _ _ rfl rfl _ _ Lx ?_)
 rw [rounds_succ]
 go_wp2
 go_ret
 exact ⟨rfl,hW3,TX.1,⟨TX.2.1.eq,TX.2.1.dr⟩,TX.2.2⟩
theorem ac6:AA Tryz.prog 179 HD:=by
 cases hc:Tryz.f179.body with
 |none=>exact absurd hc (by intro h;cases h)
 |some c=>exact AA.cat Tryz.func179 (by kernel_rfl) hc Sj
end Go.Proofs.YtclphlgnjkajbaaGreat
