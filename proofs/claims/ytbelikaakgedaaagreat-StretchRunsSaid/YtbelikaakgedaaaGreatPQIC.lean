/- slices.Concat of two slices: what the call does to the cells. Printed by a program. -/
import Derived.Test.YtbelikaakgedaaaGreatChecked
import Derived.WalkKit
import Derived.Lib.Walk
import Derived.Lib.SliceRun
import Derived.Lib.Overlaps
import Derived.Lib.AppendZerosOnto
import Derived.Laws.Externs
import Derived.Laws.NewBlocks
import Derived.LoopN
import Derived.Handy
import Derived.Shelf.RegionOpenPlain
import Derived.Test.YtbelikaakgedaaaGreatPVm2
open Go.Lib renaming wpList_append_run->If
open Nat renaming zero_add->IR
open Go.World renaming cell?->NE
open List renaming length->PP
open Option renaming some->Y,none->WF
namespace Go.Proofs.YtbelikaakgedaaaGreat
open Go.RowKit Go.Lib Go.Vm
set_option maxHeartbeats 4000000 in
set_option maxRecDepth 100000 in
theorem acn(n:Nat)(w:World)(h0:1<=n)(hn:n<=1048576):
 ∃(G:Nat) (El:Array Value),n<=G/\El.size=G/\G<=9223372036854775807/\
 Calls Tryz.prog 362 #[.slice WF 0 0,.int .i64 n] w λe w'=>e= .returned (.slice (Y ⟨w.heap.size,0,WF⟩) 0 G)/\w'=w.drew.alloc (.cells El 3):=by
 have uS:=run_underlying Tryz.underlying30;have u3:=run_underlying Tryz.underlying3;have mixed:Tryz.prog.follows .mixedOrders=true:=Tryz.checked.mixed;have IQ:(Tryz.prog.info? 3).map (·.size)=Y 1:=by kernel_rfl
 have Zk:(Tryz.prog.info? 3).bind (·.zero)=Y (.int .i64 0):=by kernel_rfl
 have M7:(Tryz.prog.info? 3).map (·.bytes)=Y 8:=by kernel_rfl
 obtain⟨i0,Sf⟩: ∃i0,Tryz.prog.info? 3=Y i0:=by
  cases h:Tryz.prog.info? 3 with
  |none=>rw[h]at IQ;cases IQ
  |some i0=>exact⟨i0,rfl⟩
 have SC:i0.size=1:=by rw[Sf]at IQ;simpa using IQ
 have WA:i0.zero=Y (.int .i64 0):=by rw[Sf]at Zk;simpa using Zk
 have P6:i0.bytes=8:=by rw[Sf]at M7;simpa using M7
 have Bn:(Builtin.firstCells i0.size 0 (.slice WF 0 0)).run Tryz.prog w.drew= .ok ([]:J Value).toArray w.drew:=by rw[SC];rfl
 have Zn: ∀ty,(Builtin.append_ #[30,3] ty #[.slice WF 0 0,.int .i64 (n:Int)]).run Tryz.prog w= .ok (.slice (Y ⟨w.heap.size,0,WF⟩) n (grownCap w n 0 3)) (w.drew.alloc (.cells (([]:J Value).toArray++Builtin.zeroCells (Value.int .i64 0).cells n++Builtin.zeroCells (Value.int .i64 0).cells (grownCap w n 0 3-n)) 3)):=λty=>by
  have h:=Lib.run_append_grow_zeros w 30 3 ty 3 i0 _ .i64 .i64 Tryz.underlying30 Tryz.underlying3 Sf WA WF 0 0 [] Bn n (by omega) (by omega) (by omega) (by omega) (by rw[P6];omega) (by rw[P6,IR];exact growslice_fits (by omega) (by omega));rw[IR]at h;exact h
 obtain⟨G,hG⟩: ∃G,G=grownCap w n 0 3:=⟨_,rfl⟩;obtain⟨El,TC⟩: ∃El:Array Value,El=([]:J Value).toArray++Builtin.zeroCells (Value.int .i64 0).cells n++Builtin.zeroCells (Value.int .i64 0).cells (G-n):=⟨_,rfl⟩;rw[<-hG,<-TC]at Zn;have Qv:n<=G:=by rw[hG];exact grownCap_ge w _ _ _
 have Tu:El.size=G:=by rw[TC];simp[Builtin.zeroCells,Value.cells];omega
 have aoh:G<=9223372036854775807:=by have:=grownCap_le_maxLen w n 0 3 (by unfold maxLen;omega);rw[<-hG]at this;unfold maxLen at this;omega
 refine⟨G,El,Qv,Tu,aoh,?_⟩;have hp:(0:Int)<(n:Int):=by omega
 have Pl:IntKind.i64.wrap (n:Int)=n:=by rw[IntKind.wrap_i64];omega
 have hng: ¬(n:Int)<0:=by omega
 clear TC hG Bn
 go_enter Tryz.func362,Tryz.ntmps362
 go_wp2_with (first
  |(at_builtin;refine If _ rfl _ _ _ _ rfl _ _ rfl rfl _ _ (Zn _) ?_))
 go_ret
 exact⟨rfl,rfl⟩
set_option maxHeartbeats 4000000 in
set_option maxRecDepth 100000 in
theorem aco(vb c:Nat)(a1 a2:O Addr)(c1 c2:Nat)(OU OV:J Value)(av:Array Value)(ev:TypeId)(w:World)(Mz:w.heap[vb]? =Y (.cells av ev (0,0)))(hv0:av[0]? =Y (.slice a1 (PP OU) c1))(Xf:av[1]? =Y (.slice a2 (PP OV) c2))
 (SD:1<=PP OU+PP OV) (mP:(PP OU)+PP OV<=1048576)
 (D: ∀(j:Nat) (v:Value),OU[j]? =Y v-> ∃b o,a1=Y ⟨b,o,WF⟩/\w.cell? ⟨b,o+j,WF⟩=Y v) (S: ∀(j:Nat) (v:Value),OV[j]? =Y v-> ∃b o,a2=Y ⟨b,o,WF⟩/\w.cell? ⟨b,o+j,WF⟩=Y v)
 (k1: ∀v∈OU,v.oneCell'=true) (k2: ∀v∈OV,v.oneCell'=true):
 ∃(G:Nat) (fin:J Value) (el:TypeId),PP OU+PP OV<=G/\PP fin=G/\(∀(j:Nat) (v:Value),(OU++OV)[j]? =Y v->fin[j]? =Y v)/\
 Calls Tryz.prog 325 #[.slice (Y ⟨vb,0,WF⟩) 2 c] w λx w'=>x= .returned (.slice (Y ⟨w.heap.size,0,WF⟩) (PP OU+PP OV) G)/\w'.heap=w.heap.push (.cells fin.toArray el (0,0))/\w'.os=w.os/\Go.Vm.Tape w w'/\w'.output=w.output:=by
 have uS:=run_underlying Tryz.underlying30;have a38:=run_underlying Tryz.underlying433;have u3:=run_underlying Tryz.underlying3;have mixed:Tryz.prog.follows .mixedOrders=true:=Tryz.checked.mixed;have IQ:(Tryz.prog.info? 3).map (·.size)=Y 1:=by kernel_rfl
 obtain⟨i0,Sf⟩: ∃i0,Tryz.prog.info? 3=Y i0:=by
  cases h:Tryz.prog.info? 3 with
  |none=>rw[h]at IQ;cases IQ
  |some i0=>exact⟨i0,rfl⟩
 have SC:i0.size=1:=by rw[Sf]at IQ;simpa using IQ
 have src: ∀(W:World) (a:O Addr) (cs:J Value) (cc:Nat),(∀(j:Nat) (v:Value),cs[j]? =Y v-> ∃b o,a=Y ⟨b,o,WF⟩/\W.cell? ⟨b,o+j,WF⟩=Y v)->(∀v∈cs,v.oneCell'=true)->Src Tryz.prog i0.size 30 (.slice a (PP cs) cc) (PP cs) cs W:=λW a cs cc h k=>by
  rw[SC];refine⟨.inl ⟨3,Tryz.underlying30⟩,λ_=>rfl,?_,?_,by omega,k⟩
  all_goals
   cases cs with
   |nil=>cases a<;>rfl
   |cons v vs=>
    obtain⟨b,o,rfl,_⟩:=h 0 v rfl;refine run_firstCells_some _ 1 _ _ _ _ _ (by simp) λj u hj=>?_
    obtain⟨b',o',e,hc⟩:=h j u hj;injection e with e;injection e with e1 e2;subst e1;subst e2;rw[Addr.add_lit];exact hc
 obtain⟨n1,Pp⟩: ∃n1,n1=(PP OU):=⟨_,rfl⟩;obtain⟨n2,Rw⟩: ∃n2,n2=(PP OV):=⟨_,rfl⟩;rw[<-Pp,<-Rw]at SD mP;obtain⟨G,El,g1,g2,g3,g4⟩:=acn (n1+n2) w SD mP;have hvw:vb<w.heap.size:=(Array.getElem?_eq_some_iff.1 Mz).1;obtain⟨A,hA⟩: ∃A:J Value,A=uA 0 OU El.toList:=⟨_,rfl⟩;have PO:(PP A)=G:=by rw[hA,dV _ _ _ (by simp[g2];omega)];simpa using g2
 obtain⟨B,hB⟩: ∃B:J Value,B=uA n1 OV A:=⟨_,rfl⟩;have hBl:(PP B)=G:=by rw[hB,dV _ _ _ (by rw[PO];omega),PO]
 refine⟨G,B,3,by omega,hBl,λj v hj=>?_,?_⟩
 ·rw[hB,kX _ _ _ (by rw[PO];omega)]
  rcases Nat.lt_or_ge j n1 with iY|Q0
  ·rw[List.getElem?_append_left (by omega)]at hj
   rw[EQ (by omega),hA,kX _ _ _ (by simp[g2];omega),Do ⟨by omega,by omega⟩];exact hj
  rw[List.getElem?_append_right (by omega)]at hj
  have:=(List.getElem?_eq_some_iff.1 hj).1;rw[Do ⟨Q0,by omega⟩,Pp];exact hj
 have iH: ∀(W:World) (Sx:Obj),W.heap=w.heap.push Sx-> ∀(b o:Nat) (v:Value),w.cell? ⟨b,o,WF⟩=Y v->W.cell? ⟨b,o,WF⟩=Y v:=λW Sx hW b o v h=>by
  have hb:b<w.heap.size:=block_lt_of_cell h;have hh:W.heap[b]? =w.heap[b]?:=by rw[hW,Array.getElem?_push,EQ (by omega)]
  simp only[NE,hh];exact h
 have aoj: ∀(W:World),W.heap=w.heap.push (.cells El 3 (0,0))-> ∀ty,(Builtin.append_ #[30,30] ty #[.slice (Y ⟨w.heap.size,0,WF⟩) 0 G,.slice a1 n1 c1]).run Tryz.prog W= .ok (.slice (Y ⟨w.heap.size,0,WF⟩) n1 G) (W.setRow w.heap.size A.toArray):=λW hW ty=>by
  have h:=nT (P:=Tryz.prog) (w:=W) 30 30 ty 3 i0 Tryz.underlying30 Sf w.heap.size 0 0 G _ _ OU (src W a1 OU c1 (λj v hj=>by obtain⟨b,o,h3,h4⟩:=D j v hj;exact⟨b,o,h3,iH W _ hW _ _ _ h4⟩) k1) (by omega) (cur:=El) (el:=3) (by rw[hW];simp) (by simp;omega);rw[Nat.zero_mul,IR,IR,<-hA,<-Pp]at h;exact h
 have aok: ∀(W:World),W.heap=w.heap.push (.cells A.toArray 3 (0,0))-> ∀ty,(Builtin.append_ #[30,30] ty #[.slice (Y ⟨w.heap.size,0,WF⟩) n1 G,.slice a2 n2 c2]).run Tryz.prog W= .ok (.slice (Y ⟨w.heap.size,0,WF⟩) (n1+n2) G) (W.setRow w.heap.size B.toArray):=λW hW ty=>by
  have h:=nT (P:=Tryz.prog) (w:=W) 30 30 ty 3 i0 Tryz.underlying30 Sf w.heap.size 0 n1 G _ _ OV (src W a2 OV c2 (λj v hj=>by obtain⟨b,o,h3,h4⟩:=S j v hj;exact⟨b,o,h3,iH W _ hW _ _ _ h4⟩) k2) (by omega) (cur:=A.toArray) (el:=3) (by rw[hW];simp) (by simp[SC];omega);rw[SC,Nat.mul_one,IR,<-hB,<-Rw]at h;exact h
 have OR:w.cell? ⟨vb,0,WF⟩=Y (.slice a1 n1 c1):=by simp only[NE,Mz];rw[Pp];exact hv0
 have OL:w.cell? ⟨vb,1,WF⟩=Y (.slice a2 n2 c2):=by simp only[NE,Mz];rw[Rw];exact Xf
 rw[<-Pp,<-Rw];clear hA hB PO hBl src D S k1 k2 Mz hv0 Xf Pp Rw;have TD: ∀(x y:Obj),(w.heap.push x).setIfInBounds w.heap.size y=w.heap.push y:=λx y=>by apply Array.ext';simp
 have QU:(w.drew.alloc (.cells El 3)).heap[w.heap.size]? =Y (.cells El 3 (0,0)):=by show(w.heap.push _)[_]? =_;simp
 have QW:((w.drew.alloc (.cells El 3)).setRow w.heap.size A.toArray).heap=w.heap.push (.cells A.toArray 3 (0,0)):=by rw[cI QU];exact TD _ _
 have V9:((w.drew.alloc (.cells El 3)).setRow w.heap.size A.toArray).heap[w.heap.size]? =Y (.cells A.toArray 3 (0,0)):=by rw[QW];simp
 have hW3:(((w.drew.alloc (.cells El 3)).setRow w.heap.size A.toArray).setRow w.heap.size B.toArray).heap=w.heap.push (.cells B.toArray 3 (0,0)):=by rw[cI V9,QW];exact TD _ _
 have lL:((w.drew.alloc (.cells El 3)).setRow w.heap.size A.toArray).cell? ⟨vb,1,WF⟩=Y (.slice a2 n2 c2):=iH _ _ QW _ _ _ OL;have ME:=aoj (w.drew.alloc (.cells El 3)) rfl 30;have VS:=aok _ QW 30;obtain⟨W2,e2⟩: ∃W2,W2=(w.drew.alloc (.cells El 3)).setRow w.heap.size A.toArray:=⟨_,rfl⟩;have Vp:W2.os=w.os/\Go.Vm.Tape w W2/\W2.output=w.output:=by rw[e2];exact⟨rfl,⟨rfl,Nat.le_succ _⟩,rfl⟩
 rw[<-e2]at lL ME VS hW3;clear QU V9 TD QW e2 aoj aok iH;have TQ:IntKind.i64.wrap (n1:Int)=n1:=by rw[IntKind.wrap_i64];omega
 have K3:IntKind.i64.wrap ((n1:Int)+(n2:Int))=((n1+n2:Nat):Int):=by rw[IntKind.wrap_i64];omega
 have aEj: ¬(n1:Int)<0:=by omega
 have aEk: ¬((n1+n2:Nat):Int)<0:=by omega
 have g5:Calls Tryz.prog 362 #[.slice WF 0 0,.int .i64 ((n1:Int)+(n2:Int))] w λe w'=>e= .returned (.slice (Y ⟨w.heap.size,0,WF⟩) 0 G)/\w'=w.drew.alloc (.cells El 3):=g4
 clear g4
 go_enter Tryz.func325,Tryz.ntmps325
 go_wp2
 refine wp_loop_rounds 3 ?_;rw[rounds_succ]
 go_wp2
 rw[rounds_succ]
 go_wp2
 rw[rounds_succ]
 go_wp2_with (go_call g5 as e W ⟨he,hW⟩;subst he hW)
 refine wp_loop_rounds 3 ?_;rw[rounds_succ]
 go_wp2_with (at_builtin;refine If _ rfl _ _ _ _ rfl _ _ rfl rfl _ _ ME ?_)
 rw[rounds_succ]
 go_wp2_with (at_builtin;refine If _ rfl _ _ _ _ rfl _ _ rfl rfl _ _ VS ?_)
 rw[rounds_succ]
 go_wp2
 go_ret
 exact⟨rfl,hW3,Vp.1,⟨Vp.2.1.eq,Vp.2.1.dr⟩,Vp.2.2⟩
theorem ake:Ij Tryz.prog 325 QA:=by
 cases hc:Tryz.f325.body with
 |none=>exact absurd hc (by intro h;cases h)
 |some c=>exact Ij.cat Tryz.func325 (by kernel_rfl) hc aco
end Go.Proofs.YtbelikaakgedaaaGreat
