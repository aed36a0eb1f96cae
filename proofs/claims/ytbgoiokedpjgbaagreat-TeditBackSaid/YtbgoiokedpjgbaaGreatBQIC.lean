/- slices.Concat of two slices: what the call does to the cells. Printed by a program. -/
import Derived.Test.YtbgoiokedpjgbaaGreatChecked
import Derived.WalkKit
import Derived.Lib.Walk
import Derived.Lib.SliceRun
import Derived.Lib.Overlaps
import Derived.Lib.AppendZerosOnto
import Derived.Laws.Externs
import Derived.Laws.NewBlocks
import Derived.LoopN
import Derived.Handy
import Derived.Shelf.RegionOpenPlain
import Derived.Test.YtbgoiokedpjgbaaGreatBVm2
open Go.Lib renaming wpList_append_run->ut
open Nat renaming zero_add->v6
open Go.World renaming cell?->ww
open List renaming length->AC
open Option renaming some->Do,none->EQ
namespace Go.Proofs.YtbgoiokedpjgbaaGreat
open Go.RowKit Go.Lib Go.Vm
set_option maxHeartbeats 4000000 in
set_option maxRecDepth 100000 in
theorem Vd (n:Nat) (w:World) (h0:1<=n) (hn:n<=1048576):
 ∃(G:Nat) (xy:Array Value),n<=G/\xy.size=G/\G<=9223372036854775807/\
 Calls Tryz.prog 213 #[.slice EQ 0 0,.int .i64 n] w fun e w'=>e= .returned (.slice (Do ⟨w.heap.size,0,EQ⟩) 0 G)/\w'=w.drew.alloc (.cells xy 3):=by
 have uS:=run_underlying Tryz.underlying30;have u3:=run_underlying Tryz.underlying3;have mixed:Tryz.prog.follows .mixedOrders=true:=Tryz.checked.mixed;have BP:(Tryz.prog.info? 3).map (·.size)=Do 1:=by kernel_rfl
 have hzE:(Tryz.prog.info? 3).bind (·.zero)=Do (.int .i64 0):=by kernel_rfl
 have hbE:(Tryz.prog.info? 3).map (·.bytes)=Do 8:=by kernel_rfl
 obtain ⟨i0,P7⟩: ∃i0,Tryz.prog.info? 3=Do i0:=by
  cases h:Tryz.prog.info? 3 with
  |none=>rw [h] at BP;cases BP
  |some i0=>exact ⟨i0,rfl⟩
 have KT:i0.size=1:=by rw [P7] at BP;simpa using BP
 have hz0:i0.zero=Do (.int .i64 0):=by rw [P7] at hzE;simpa using hzE
 have hzb:i0.bytes=8:=by rw [P7] at hbE;simpa using hbE
 have uj:(Builtin.firstCells i0.size 0 (.slice EQ 0 0)).run Tryz.prog w.drew= .ok ([]:List Value).toArray w.drew:=by
  rw [KT];rfl
 have hrz: ∀ty,(Builtin.append_ #[30,3] ty #[.slice EQ 0 0,.int .i64 (n:Int)]).run Tryz.prog w= .ok (.slice (Do ⟨w.heap.size,0,EQ⟩) n (grownCap w n 0 3)) (w.drew.alloc (.cells (([]:List Value).toArray++Builtin.zeroCells (Value.int .i64 0).cells n++Builtin.zeroCells (Value.int .i64 0).cells (grownCap w n 0 3-n)) 3)):=fun ty=>by
  have h:=Lib.run_append_grow_zeros w 30 3 ty 3 i0 _ .i64 .i64 Tryz.underlying30 Tryz.underlying3 P7 hz0 EQ 0 0 [] uj n (by omega) (by omega) (by omega) (by omega) (by rw [hzb];omega) (by rw [hzb,v6];exact growslice_fits (by omega) (by omega))
  rw [v6] at h;exact h
 obtain ⟨G,hG⟩: ∃G,G=grownCap w n 0 3:=⟨_,rfl⟩;obtain ⟨xy,L0⟩: ∃xy:Array Value,xy=([]:List Value).toArray++Builtin.zeroCells (Value.int .i64 0).cells n++Builtin.zeroCells (Value.int .i64 0).cells (G-n):=⟨_,rfl⟩;rw [<- hG,<- L0] at hrz;have hGn:n<=G:=by rw [hG];exact grownCap_ge w _ _ _
 have hRl:xy.size=G:=by
  rw [L0];simp [Builtin.zeroCells,Value.cells];omega
 have apy:G<=9223372036854775807:=by
  have:=grownCap_le_maxLen w n 0 3 (by unfold maxLen;omega)
  rw [<- hG] at this;unfold maxLen at this;omega
 refine ⟨G,xy,hGn,hRl,apy,?_⟩;have hp:(0:Int)<(n:Int):=by omega
 have hw0:IntKind.i64.wrap (n:Int)=n:=by rw [IntKind.wrap_i64];omega
 have hng: ¬(n:Int)<0:=by omega
 clear L0 hG uj
 go_enter Tryz.func213,Tryz.ntmps213
 go_wp2_with (first
  |(at_builtin;refine ut _ rfl _ _ _ _ rfl _ _ rfl rfl _ _ (hrz _) ?_))
 go_ret
 exact ⟨rfl,rfl⟩
set_option maxHeartbeats 4000000 in
set_option maxRecDepth 100000 in
theorem Ve (vb c:Nat) (a1 a2:Option Addr) (c1 c2:Nat) (Hk Hl:List Value) (av:Array Value) (ev:TypeId) (w:World) (U7:w.heap[vb]? =Do (.cells av ev (0,0))) (hv0:av[0]? =Do (.slice a1 (AC Hk) c1)) (NA:av[1]? =Do (.slice a2 (AC Hl) c2))
 (Hd:1<=AC Hk+AC Hl) (ij:(AC Hk)+AC Hl<=1048576)
 (h1: ∀(j:Nat) (v:Value),Hk[j]? =Do v-> ∃b o,a1=Do ⟨b,o,EQ⟩/\w.cell? ⟨b,o+j,EQ⟩=Do v) (h2: ∀(j:Nat) (v:Value),Hl[j]? =Do v-> ∃b o,a2=Do ⟨b,o,EQ⟩/\w.cell? ⟨b,o+j,EQ⟩=Do v)
 (k1: ∀v∈Hk,v.oneCell'=true) (k2: ∀v∈Hl,v.oneCell'=true):
 ∃(G:Nat) (fin:List Value) (el:TypeId),AC Hk+AC Hl<=G/\AC fin=G/\(∀(j:Nat) (v:Value),(Hk++Hl)[j]? =Do v->fin[j]? =Do v)/\
 Calls Tryz.prog 147 #[.slice (Do ⟨vb,0,EQ⟩) 2 c] w fun x w'=>x= .returned (.slice (Do ⟨w.heap.size,0,EQ⟩) (AC Hk+AC Hl) G)/\w'.heap=w.heap.push (.cells fin.toArray el (0,0))/\w'.os=w.os/\w'.tape=w.tape/\w'.output=w.output:=by
 have uS:=run_underlying Tryz.underlying30;have uV:=run_underlying Tryz.underlying266;have u3:=run_underlying Tryz.underlying3;have mixed:Tryz.prog.follows .mixedOrders=true:=Tryz.checked.mixed;have BP:(Tryz.prog.info? 3).map (·.size)=Do 1:=by kernel_rfl
 obtain ⟨i0,P7⟩: ∃i0,Tryz.prog.info? 3=Do i0:=by
  cases h:Tryz.prog.info? 3 with
  |none=>rw [h] at BP;cases BP
  |some i0=>exact ⟨i0,rfl⟩
 have KT:i0.size=1:=by rw [P7] at BP;simpa using BP
 have src: ∀(W:World) (a:Option Addr) (cs:List Value) (cc:Nat),(∀(j:Nat) (v:Value),cs[j]? =Do v-> ∃b o,a=Do ⟨b,o,EQ⟩/\W.cell? ⟨b,o+j,EQ⟩=Do v)->(∀v∈cs,v.oneCell'=true)->Src Tryz.prog i0.size 30 (.slice a (AC cs) cc) (AC cs) cs W:=fun W a cs cc h k=>by
  rw [KT];refine ⟨.inl ⟨3,Tryz.underlying30⟩,fun _=>rfl,?_,?_,by omega,k⟩
  all_goals
   cases cs with
   |nil=>cases a<;>rfl
   |cons v vs=>
    obtain ⟨b,o,rfl,_⟩:=h 0 v rfl;refine run_firstCells_some _ 1 _ _ _ _ _ (by simp) fun j u hj=>?_
    obtain ⟨b',o',e,hc⟩:=h j u hj;injection e with e;injection e with e1 e2;subst e1;subst e2;rw [Addr.add_lit];exact hc
 obtain ⟨n1,hn1⟩: ∃n1,n1=(AC Hk):=⟨_,rfl⟩;obtain ⟨n2,hn2⟩: ∃n2,n2=(AC Hl):=⟨_,rfl⟩;rw [<- hn1,<- hn2] at Hd ij;obtain ⟨G,xy,g1,g2,g3,g4⟩:=Vd (n1+n2) w Hd ij;have hvw:vb<w.heap.size:=(Array.getElem?_eq_some_iff.1 U7).1;obtain ⟨A,hA⟩: ∃A:List Value,A=mM 0 Hk xy.toList:=⟨_,rfl⟩;have hAl:(AC A)=G:=by rw [hA,cW _ _ _ (by simp [g2];omega)];simpa using g2
 obtain ⟨B,hB⟩: ∃B:List Value,B=mM n1 Hl A:=⟨_,rfl⟩;have hBl:(AC B)=G:=by rw [hB,cW _ _ _ (by rw [hAl];omega),hAl]
 refine ⟨G,B,3,by omega,hBl,fun j v hj=>?_,?_⟩
 · rw [hB,gW _ _ _ (by rw [hAl];omega)]
   rcases Nat.lt_or_ge j n1 with dI|WR
   · rw [List.getElem?_append_left (by omega)] at hj
     rw [rc (by omega),hA,gW _ _ _ (by simp [g2];omega),pp ⟨by omega,by omega⟩]
     exact hj
   rw [List.getElem?_append_right (by omega)] at hj
   have:=(List.getElem?_eq_some_iff.1 hj).1
   rw [pp ⟨WR,by omega⟩,hn1]
   exact hj
 have fU: ∀(W:World) (X:Obj),W.heap=w.heap.push X-> ∀(b o:Nat) (v:Value),w.cell? ⟨b,o,EQ⟩=Do v->W.cell? ⟨b,o,EQ⟩=Do v:=fun W X hW b o v h=>by
  have hb:b<w.heap.size:=block_lt_of_cell h;have hh:W.heap[b]? =w.heap[b]?:=by rw [hW,Array.getElem?_push,rc (by omega)]
  simp only [ww,hh];exact h
 have apA: ∀(W:World),W.heap=w.heap.push (.cells xy 3 (0,0))-> ∀ty,(Builtin.append_ #[30,30] ty #[.slice (Do ⟨w.heap.size,0,EQ⟩) 0 G,.slice a1 n1 c1]).run Tryz.prog W= .ok (.slice (Do ⟨w.heap.size,0,EQ⟩) n1 G) (W.setRow w.heap.size A.toArray):=fun W hW ty=>by
  have h:=ju (P:=Tryz.prog) (w:=W) 30 30 ty 3 i0 Tryz.underlying30 P7 w.heap.size 0 0 G _ _ Hk (src W a1 Hk c1 (fun j v hj=>by
   obtain ⟨b,o,h3,h4⟩:=h1 j v hj;exact ⟨b,o,h3,fU W _ hW _ _ _ h4⟩) k1) (by omega) (cur:=xy) (el:=3) (by rw [hW];simp) (by simp;omega)
  rw [Nat.zero_mul,v6,v6,<- hA,<- hn1] at h;exact h
 have apB: ∀(W:World),W.heap=w.heap.push (.cells A.toArray 3 (0,0))-> ∀ty,(Builtin.append_ #[30,30] ty #[.slice (Do ⟨w.heap.size,0,EQ⟩) n1 G,.slice a2 n2 c2]).run Tryz.prog W= .ok (.slice (Do ⟨w.heap.size,0,EQ⟩) (n1+n2) G) (W.setRow w.heap.size B.toArray):=fun W hW ty=>by
  have h:=ju (P:=Tryz.prog) (w:=W) 30 30 ty 3 i0 Tryz.underlying30 P7 w.heap.size 0 n1 G _ _ Hl (src W a2 Hl c2 (fun j v hj=>by
   obtain ⟨b,o,h3,h4⟩:=h2 j v hj;exact ⟨b,o,h3,fU W _ hW _ _ _ h4⟩) k2) (by omega) (cur:=A.toArray) (el:=3) (by rw [hW];simp) (by simp [KT];omega)
  rw [KT,Nat.mul_one,v6,<- hB,<- hn2] at h;exact h
 have E9:w.cell? ⟨vb,0,EQ⟩=Do (.slice a1 n1 c1):=by simp only [ww,U7];rw [hn1];exact hv0
 have Dq:w.cell? ⟨vb,1,EQ⟩=Do (.slice a2 n2 c2):=by simp only [ww,U7];rw [hn2];exact NA
 rw [<- hn1,<- hn2];clear hA hB hAl hBl src h1 h2 k1 k2 U7 hv0 NA hn1 hn2;have L1: ∀(x y:Obj),(w.heap.push x).setIfInBounds w.heap.size y=w.heap.push y:=fun x y=>by
  apply Array.ext';simp
 have Tp:(w.drew.alloc (.cells xy 3)).heap[w.heap.size]? =Do (.cells xy 3 (0,0)):=by
  show (w.heap.push _)[_]? =_;simp
 have Jb:((w.drew.alloc (.cells xy 3)).setRow w.heap.size A.toArray).heap=w.heap.push (.cells A.toArray 3 (0,0)):=by
  rw [bV Tp];exact L1 _ _
 have hg2:((w.drew.alloc (.cells xy 3)).setRow w.heap.size A.toArray).heap[w.heap.size]? =Do (.cells A.toArray 3 (0,0)):=by
  rw [Jb];simp
 have hW3:(((w.drew.alloc (.cells xy 3)).setRow w.heap.size A.toArray).setRow w.heap.size B.toArray).heap=w.heap.push (.cells B.toArray 3 (0,0)):=by
  rw [bV hg2,Jb];exact L1 _ _
 have gS:((w.drew.alloc (.cells xy 3)).setRow w.heap.size A.toArray).cell? ⟨vb,1,EQ⟩=Do (.slice a2 n2 c2):=fU _ _ Jb _ _ _ Dq;have P1:=apA (w.drew.alloc (.cells xy 3)) rfl 30;have P2:=apB _ Jb 30;obtain ⟨W2,e2⟩: ∃W2,W2=(w.drew.alloc (.cells xy 3)).setRow w.heap.size A.toArray:=⟨_,rfl⟩;have Xw:W2.os=w.os/\W2.tape=w.tape/\W2.output=w.output:=by rw [e2];exact ⟨rfl,rfl,rfl⟩
 rw [<- e2] at gS P1 P2 hW3;clear Tp hg2 L1 Jb e2 apA apB fU;have hs1:IntKind.i64.wrap (n1:Int)=n1:=by rw [IntKind.wrap_i64];omega
 have X4:IntKind.i64.wrap ((n1:Int)+(n2:Int))=((n1+n2:Nat):Int):=by rw [IntKind.wrap_i64];omega
 have ay7: ¬(n1:Int)<0:=by omega
 have ay8: ¬((n1+n2:Nat):Int)<0:=by omega
 have g5:Calls Tryz.prog 213 #[.slice EQ 0 0,.int .i64 ((n1:Int)+(n2:Int))] w fun e w'=>e= .returned (.slice (Do ⟨w.heap.size,0,EQ⟩) 0 G)/\w'=w.drew.alloc (.cells xy 3):=g4
 clear g4
 go_enter Tryz.func147,Tryz.ntmps147
 go_wp2
 refine wp_loop_rounds 3 ?_;rw [rounds_succ]
 go_wp2
 rw [rounds_succ]
 go_wp2
 rw [rounds_succ]
 go_wp2_with (go_call g5 as e W ⟨he,hW⟩;subst he hW)
 refine wp_loop_rounds 3 ?_;rw [rounds_succ]
 go_wp2_with (at_builtin;refine ut _ rfl _ _ _ _ rfl _ _ rfl rfl _ _ P1 ?_)
 rw [rounds_succ]
 go_wp2_with (at_builtin;refine ut _ rfl _ _ _ _ rfl _ _ rfl rfl _ _ P2 ?_)
 rw [rounds_succ]
 go_wp2
 go_ret
 exact ⟨rfl,hW3,Xw.1,Xw.2.1,Xw.2.2⟩
theorem aky:Bk Tryz.prog 147 IQ:=by
 cases hc:Tryz.f147.body with
 |none=>exact absurd hc (by intro h;cases h)
 |some c=>exact Bk.cat Tryz.func147 (by kernel_rfl) hc Ve
end Go.Proofs.YtbgoiokedpjgbaaGreat
