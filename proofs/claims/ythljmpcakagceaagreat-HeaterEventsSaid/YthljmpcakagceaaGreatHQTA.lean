/- meet.all: the walk of a range over all pairs of points, of slices.SortFunc behind it; the table with it. Printed by a program. -/
import Derived.Test.YthljmpcakagceaaGreatHQTF
import Derived.Test.YthljmpcakagceaaGreatHQXT
import Derived.Test.YthljmpcakagceaaGreatHQS2
import Derived.Test.YthljmpcakagceaaGreatHVm4
import Derived.OwnWalkIn
import Derived.TacticsInMore
import Derived.LoopNIn
import Derived.LoopIn
import Derived.Shelf.Abstract
import Derived.Maps.AppendAt
import Derived.Test.YthljmpcakagceaaGreatChecked
open Array renaming getElem?_eq_some_iff->v6,replicate_succ->EQ,replicate_zero->If
open Go.World renaming putObj_heap_other->ww,cell?->Do,size_alloc->aa6,alloc_heap_new->aa9
open Nat renaming le_refl->AC,le_trans->PP,reduceAdd->aak,reduceSub->aal,eq_of_beq_eq_true->aam,lt_of_lt_of_le->aap
open List renaming append_toArray->IR,size_toArray->M2,push_toArray->NE,length_cons->UV,cons_append->aa2,length_nil->aai,nil_append->aaj,length->aaq
open Option renaming some->aar,none->aas
set_option maxRecDepth 100000
namespace Go.Proofs.YthljmpcakagceaaGreat
open Go.RowKit Go.Vm Go.Shelf
attribute [local go_sem] Oper.semAt_some
set_option maxRecDepth 100000 in
set_option maxHeartbeats 4000000 in
theorem ZC (n:Nat) (hn:1<=n) (l:Nat) (Bf b o c:Nat) (xs:List oo) (bY:(aaq xs)<=1000000) (J:List (oo×oo)->World->Prop)
 (hm: ∀pre W,J pre W->W.cell? ⟨Bf,0,aas⟩=aar (.slice (aar ⟨b,o,aas⟩) (aaq xs) c)/\Sk W b o xs)
 (hg: ∀pre W W',J pre W->Below W.heap.size W W'->W'.drawn=W.drawn->J pre W')
 (hY: ∀pre x W,J pre W->pre++[x]<+:gB xs->YieldAt Fence.wide (n-1) Tryz.prog l #[Mn x.1,Mn x.2] W fun e W'=>e= .returned (.bool true)/\J (pre++[x]) W'/\acs 64 W W')
 (W:World) (h0:J [] W) (hc:(aaq xs)<=c):
 CallsIn Fence.wide n Tryz.prog 196 #[.func (.yield l) #[] #[],.pointer (aar ⟨Bf,0,aas⟩)] W fun e W'=>(∃v,e= .returned v)/\J (gB xs) W':=by
 refine callsIn_of_wp Tryz.func196 rfl trivial ?_ rfl;simp only [Tryz.ntmps196,M2,UV,aai,aak,aal,EQ,If,NE,IR,aaj,aa2];obtain ⟨hb0,hp0⟩:=hm _ _ h0
 gi_wp2
 gi_loopw [10] (fun i wr=> ∃k:Nat,k<=aaq xs/\i= .int .i64 k/\J (sJ xs k 0) wr)
  (fun i _=>aaq xs- (intOf i).toNat)
 case atStart=>exact ⟨0,Nat.zero_le _,rfl,by rw [PL];exact h0⟩
 case round=>
  obtain ⟨k,hk,rfl,hJs⟩:=hrel;obtain ⟨hbk,hpk⟩:=hm _ _ hJs
  by_cases df:k<aaq xs
  · obtain ⟨c0,c1,c2⟩:=hpk k df
    obtain ⟨p,hp⟩: ∃p:oo,xs[k]! =p:=⟨_,rfl⟩;rw [hp] at c0 c1 c2;have hp:Hid (xs[k]! =p):=hp;have hba: ∀u,(wr.alloc u).cell? ⟨Bf,0,aas⟩=aar (.slice (aar ⟨b,o,aas⟩) (aaq xs) c):=fun u=>vI _ hbk
    obtain ⟨pv,hpv⟩: ∃pv:Obj,pv= .cells #[.int .i64 p.1,.int .i64 p.2.1,.int .i64 p.2.2] 64:=⟨_,rfl⟩;have hJ1:J (sJ xs k 0) (wr.alloc pv):=hg _ _ _ hJs ((Below.refl _ wr).alloc (AC _) _) rfl;have hn1:(wr.alloc pv).heap[wr.heap.size]? =aar pv:=aa9 wr pv;rw [hpv] at hJ1 hn1;obtain ⟨B1,hB1⟩: ∃B1,wr.heap.size=B1:=⟨_,rfl⟩;rw [hB1] at hn1;clear hpv pv
    gi_wp2
    · obtain rfl:c=k+1:=by assumption
      gi_loopw [21] (fun jv w=>jv= .int .i64 0/\J (sJ xs k 0) w) (fun _ _=>0)
      case atStart=>exact ⟨rfl,hJ1⟩
      case round=>
       obtain ⟨rfl,hJ2⟩:=hrel;have Qn:(aaq xs)- (k+1)=0:=by omega
       gi_wp2
       go_roundw
       case rel=>exact ⟨k+1,by omega,by simp,by rw [<- Fp,Qn];exact hJ2⟩
       case measure=>simp [intOf];omega
    gi_loopw [21] (fun jv w=> ∃j:Nat,k+1+j<=aaq xs/\jv= .int .i64 j/\J (sJ xs k j) w/\w.heap[B1]? =aar (.cells #[.int .i64 p.1,.int .i64 p.2.1,.int .i64 p.2.2] 64 (0,0))) (fun jv _=>aaq xs- (k+1) - (intOf jv).toNat)
    case atStart=>exact ⟨0,by omega,rfl,hJ1,hn1⟩
    case round=>
     obtain ⟨j,hj,rfl,hJ2,hn2⟩:=hrel;obtain ⟨hbj,hpj⟩:=hm _ _ hJ2
     by_cases hlj:k+1+j<aaq xs
     · obtain ⟨d0,d1,d2⟩:=hpj (k+1+j) hlj
       obtain ⟨q,hq⟩: ∃q:oo,xs[k+1+j]! =q:=⟨_,rfl⟩;rw [hq,show o+(k+1+j)*3=o+(k+1)*3+j*3 by omega] at d0 d1 d2;have hnx:=PM xs hlj;rw [hp.out,hq] at hnx;have Gp:sJ xs k j++[(p,q)]<+:gB xs:=by rw [hnx];exact Sj xs df _
       obtain ⟨qv,hqv⟩: ∃qv:Obj,qv= .cells #[.int .i64 q.1,.int .i64 q.2.1,.int .i64 q.2.2] 64:=⟨_,rfl⟩;have hlb:B1<wr.heap.size:=(v6.1 hn2).1;have U3:(wr.alloc qv).heap[B1]? =_:=(Below.heap_alloc wr qv B1 hlb).trans hn2;have e0:(wr.alloc qv).cell? ⟨B1,0,aas⟩=aar (.int .i64 p.1):=by simp [Do,U3]
       have e1:(wr.alloc qv).cell? ⟨B1,1,aas⟩=aar (.int .i64 p.2.1):=by simp [Do,U3]
       have e2:(wr.alloc qv).cell? ⟨B1,2,aas⟩=aar (.int .i64 p.2.2):=by simp [Do,U3]
       obtain ⟨fn,tmps,assign,body,hy,hR⟩:=hY _ (p,q) (wr.alloc qv) (hg _ _ _ hJ2 ((Below.refl _ wr).alloc (AC _) _) rfl) Gp;dsimp only [Mn] at hy;rw [hqv] at U3 e0 e1 e2 hy hR;have hq:Hid (xs[k+1+j]! =q):=hq;have hnx:Hid (sJ xs k j++[(p,q)]=sJ xs k (j+1)):=hnx;clear hqv qv Gp hn2 hp
       gi_wp2
       refine hR.mono ?_;rintro e W3 ⟨rfl,hJ3,hk3⟩
       gi_wp2
       go_roundw
       case rel=>exact ⟨j+1,by omega,by simp,by rw [<- hnx.out];exact hJ3,hk3 _ _ _ U3⟩
       case measure=>simp [intOf];omega
     obtain rfl:j=aaq xs- (k+1):=by omega
     gi_wp2
     go_roundw
     case rel=>exact ⟨k+1,by omega,by simp,by rw [<- Fp];exact hJ2⟩
     case measure=>simp [intOf];omega
  obtain rfl:k=(aaq xs):=by omega
  gi_wp2
  go_end0
  exact ⟨⟨_,rfl⟩,by rw [Si] at hJs;exact hJs⟩
set_option maxRecDepth 100000 in
set_option maxHeartbeats 4000000 in
theorem SU (n:Nat) (l:Nat) (Bf c:Nat) (a:Option Addr) (J:List (oo×oo)->World->Prop) (W:World) (hm:W.cell? ⟨Bf,0,aas⟩=aar (.slice a 0 c)) (h0:J [] W):
 CallsIn Fence.wide n Tryz.prog 196 #[.func (.yield l) #[] #[],.pointer (aar ⟨Bf,0,aas⟩)] W fun e W'=>(∃v,e= .returned v)/\J [] W':=by
 refine callsIn_of_wp Tryz.func196 rfl trivial ?_ rfl;simp only [Tryz.ntmps196,M2,UV,aai,aak,aal,EQ,If,NE,IR,aaj,aa2]
 gi_wp2
 gi_loopw [10] (fun i wr=>i= .int .i64 0/\J [] wr) (fun _ _=>0)
 case atStart=>exact ⟨rfl,h0⟩
 case round=>
  obtain ⟨rfl,hJs⟩:=hrel
  gi_wp2
  go_end0
  exact ⟨⟨_,rfl⟩,hJs⟩
theorem SX (n:Nat) (a:Option Addr) (len c:Nat) (w:World):CallsIn Fence.wide n Tryz.prog 138 #[.agg #[.slice a len c]] w fun e w'=>
 e= .returned (.func (.func 196) #[] #[.pointer (aar ⟨w.heap.size,0,aas⟩)])/\w'=w.alloc (.cells #[.slice a len c] 24):=by
 refine callsIn_of_wp Tryz.func138 rfl trivial ?_ rfl;simp only [Tryz.ntmps138,M2,UV,aai,aak,aal,EQ,If,NE,IR,aaj,aa2]
 gi_wp2
 go_ret
 exact ⟨rfl,rfl⟩
theorem agr:(Tryz.prog.info? 89).map (fun i=>(i.zero,i.size,i.bytes))=aar (aar (.agg #[.int .i64 0,.int .i64 0,.int .i64 0,.int .i64 0]),4,32):=by kernel_rfl
def MI (mt:oo->oo->(Int×Int)×Int) (xs:List oo) (a:Option Addr) (c:Nat) (w:World) (pre:List (oo×oo)) (W:World):Prop:=
 w.drawn<=W.drawn/\Below w.heap.size w W/\(∃v,Boxed W (w.heap.size+1) 83 v/\W.ownsRow w.heap.size 89 4 v (vJ mt pre).length ((vJ mt pre).flatMap mtV)/\(v= .slice aas 0 0↔vJ mt pre=[]))/\
  Boxed W (w.heap.size+2) 24 (.slice a (aaq xs) c)
theorem MI.put {mt:oo->oo->(Int×Int)×Int} {xs:List oo} {a:Option Addr} {c:Nat} {w W:World} {pre:List (oo×oo)} {l:Nat} {r:Loop} (o:Obj) (hl:W.heap[l]? =aar (.loop r)) (hw:w.heap.size+2<l) (h:MI mt xs a c w pre W):MI mt xs a c w pre (W.putObj l o):=by obtain ⟨h1,h2,⟨v,h3,h4,h5⟩,h6⟩:=h;exact ⟨h1,h2.trans (belowK_b (w:=w) (AC _) W l _ _ (by omega) hl rfl rfl),⟨v,h3.kept (grownBy_putObj' W l o) (by simp;omega),ownsRow_putObj h4 _ hl rfl,h5⟩,h6.kept (grownBy_putObj' W l o) (by simp;omega)⟩
theorem MI.gro {mt:oo->oo->(Int×Int)×Int} {xs:List oo} {a:Option Addr} {c:Nat} {w W W':World} {pre:List (oo×oo)} (h:MI mt xs a c w pre W) (hb:Below W.heap.size W W') (hd:W.drawn<=W'.drawn):MI mt xs a c w pre W':=by obtain ⟨h1,h2,⟨v,h3,h4,h5⟩,h6⟩:=h;exact ⟨PP h1 hd,h2.trans (hb.mono h2.size),⟨v,sZ h3 hb,h4.kept (oK hb) (by cases v.ownBlock<;>simp),h5⟩,sZ h6 hb⟩
set_option maxRecDepth 100000 in
set_option maxHeartbeats 4000000 in
theorem ags (xs : List oo) (mt : oo -> oo -> (Int × Int) × Int) (m : List wZ) (fn : List (RT [.i .i64, .i .i64, .i .i64, .i .i64]) -> Option (List (RT [.i .i64, .i .i64, .i .i64, .i .i64])))
    (H : uJ Tryz.prog 140 ⟨[.i .i64, .i .i64, .i .i64, .i .i64], aar 141, fn⟩) (DN : fn (vJ mt (gB xs)) = aar m) (y6 : (aaq m) = (vJ mt (gB xs)).length)
    (hmt : ∀ x ∈ gB xs, ∀ w, Calls Tryz.prog 139 #[Mn x.1, Mn x.2] w fun e w' => e = .returned (.tuple #[.agg #[.int .i64 (mt x.1 x.2).1.1, .int .i64 (mt x.1 x.2).1.2], .int .i64 (mt x.1 x.2).2]) /\ Below w.heap.size w w' /\ w.drawn <= w'.drawn)
    (bY : (gB xs).length <= 1000000) (hx : (aaq xs) <= 1000) (a : Option Addr) (c : Nat) (w : World) (hc : (aaq xs) <= c) (ha : xs ≠ [] -> ∃ b o, a = aar ⟨b, o, aas⟩ /\ Sk w b o xs) :
    Calls Tryz.prog 84 #[.agg #[.slice a (aaq xs) c]] w fun x w' =>
      (m = [] /\ x = .returned (.slice aas 0 0) \/ m ≠ [] /\ ∃ g c' fin el, x = .returned (.slice (aar ⟨g, 0, aas⟩) (aaq m) c') /\ w.heap.size <= g /\ w'.heap[g]? = aar (.cells fin el (0, 0)) /\
        (aaq m) <= c' /\ c' * 4 <= fin.size /\ bw (fun k => fin[k]?) 0 4 (m.map (RT.pv [.i .i64, .i .i64, .i .i64, .i .i64]))) /\ Below w.heap.size w w' /\ w.drawn <= w'.drawn := by
  refine (callsIn_wide (n := 9)).1 ?_
  refine callsIn_of_wp_marks Tryz.func84 rfl trivial ?_ rfl
  simp only [Tryz.ntmps84, M2, UV, aai, aak, aal, EQ, If, NE, IR, aaj, aa2]
  gi_wp2_with (refine ⟨trivial, ?_⟩; gi_at_call 138; refine (SX _ _ _ _ _).mono ?_; rintro e w' ⟨rfl, rfl⟩)
  obtain ⟨W0, hW0⟩ : ∃ W0, ((w.alloc (.cells #[.slice a (aaq xs) c] 24)).alloc (.cells #[.slice aas 0 0] 83)).alloc (.cells #[.slice a (aaq xs) c] 24) = W0 := ⟨_, rfl⟩
  have Gn : W0.heap.size = w.heap.size + 3 := by rw [<- hW0]; simp
  have hI0 : MI mt xs a c w [] W0 := by
    rw [<- hW0]
    have b1 := Boxed.new (w.alloc (.cells #[.slice a (aaq xs) c] 24)) 83 (.slice aas 0 0)
    have b2 := Boxed.new ((w.alloc (.cells #[.slice a (aaq xs) c] 24)).alloc (.cells #[.slice aas 0 0] 83)) 24 (.slice a (aaq xs) c)
    rw [aa6] at b1
    rw [aa6, aa6] at b2
    exact ⟨AC _, (((Below.refl _ w).alloc (AC _) _).alloc (by simp) _).alloc (by simp; omega) _, ⟨_, b1.alloc _, World.ownsRow_nil _ _ _ _, by simp [vJ]⟩, b2⟩
  rw [hW0]
  refine PI rfl (by omega) (gf := 196) (lb := #[.pointer (aar ⟨w.heap.size + 1 + 1, 0, aas⟩)]) rfl trivial (enters_of Tryz.func196 (by kernel_rfl) rfl) (encs := fun x => #[Mn x.1, Mn x.2]) (fun _ => rfl) (gB xs) (MI mt xs a c w)
    (fun pre W r o hl h => h.put o hl (by omega)) (fun pre W W' h hb hd => h.gro hb (Nat.le_of_eq hd.symm)) hI0 (acs 64) (fun h k i cs z e => k i cs z (h i cs z e)) (fun {W W'} hb i cs z e => (hb.block i (v6.1 e).1).trans e)
    (fun {W r} o hl i cs z e => (ww (fun h => by subst h; rw [hl] at e; cases e)).trans e) ?seq
    (fun x a' W => ∃ b4 b5, W.heap[b4]? = aar (.cells #[.int .i64 x.1.1, .int .i64 x.1.2.1, .int .i64 x.1.2.2] 64 (0, 0)) /\ W.heap[b5]? = aar (.cells #[.int .i64 x.2.1, .int .i64 x.2.2.1, .int .i64 x.2.2.2] 64 (0, 0)) /\
      a' = { tmps := #[.agg #[.slice a (aaq xs) c], .pointer (aar ⟨w.heap.size, 0, aas⟩), .slice aas 0 0, .pointer (aar ⟨w.heap.size + 1, 0, aas⟩), .pointer (aar ⟨b4, 0, aas⟩), .pointer (aar ⟨b5, 0, aas⟩), undef, undef, .agg #[.slice a (aaq xs) c],
        .func (.func 196) #[] #[.pointer (aar ⟨w.heap.size + 1 + 1, 0, aas⟩)], Mn x.1, Mn x.2, undef, undef, undef, undef, undef, undef, undef, undef, undef, undef, undef, undef, undef, undef, undef, undef, undef, undef, undef, undef], defers := [] }) ?ax ?assign ?body ?done
  case ax =>
    rintro x a' W r o hl ⟨b4, b5, h4, h5, rfl⟩
    exact ⟨b4, b5, (ww (fun h => by subst h; rw [hl] at h4; cases h4)).trans h4, (ww (fun h => by subst h; rw [hl] at h5; cases h5)).trans h5, rfl⟩
  case seq =>
    intro l J W hm hg hY hJ0
    rcases Nat.eq_zero_or_pos (aaq xs) with hz | zI
    · have : gB xs = [] := by unfold gB; rw [hz]; rfl
      rw [this]
      obtain ⟨_, _, _, hb⟩ := hm _ _ hJ0
      rw [hz] at hb
      exact SU _ l _ c a J W hb.cell hJ0
    obtain ⟨b, o, rfl, hp⟩ := ha (fun h => by rw [h] at zI; exact Nat.lt_irrefl _ zI)
    refine ZC _ (by omega) l (w.heap.size + 1 + 1) b o c xs (by omega) J (fun pre W h => ?_) hg hY W hJ0 hc
    obtain ⟨_, h2, _, h4⟩ := hm _ _ h
    refine ⟨h4.cell, fun i hi => ?_⟩
    obtain ⟨p0, p1, p2⟩ := hp i hi
    have Li : b < w.heap.size := World.block_lt_of_cell? w _ p0
    exact ⟨(h2.cell (p := ⟨b, _, aas⟩) Li).trans p0, (h2.cell (p := ⟨b, _, aas⟩) Li).trans p1, (h2.cell (p := ⟨b, _, aas⟩) Li).trans p2⟩
  case assign =>
    intro l x W K df hK
    simp only [Mn] at hK ⊢
    gi_wp2
    have n1 := aa9 (W.alloc (.cells #[.int .i64 x.1.1, .int .i64 x.1.2.1, .int .i64 x.1.2.2] 64)) (.cells #[.int .i64 x.2.1, .int .i64 x.2.2.1, .int .i64 x.2.2.2] 64)
    rw [aa6] at n1
    exact hK _ _ (((Below.refl _ W).alloc (AC _) _).alloc (by simp) _) rfl ⟨W.heap.size, W.heap.size + 1, (Below.heap_alloc _ _ _ (by simp)).trans (aa9 W _), n1, rfl⟩
  case body =>
    rintro l pre x a' W hi ⟨b4, b5, h4, h5, rfl⟩ Gp agt ⟨rl, hlp⟩
    obtain ⟨i0, QO, hz0, hz1, hz2⟩ := info_parts agr
    obtain ⟨hd, hB, ⟨v, hv, mg, xx⟩, hf⟩ := hi
    have hm := hmt x (Gp.subset (by simp))
    simp only [Mn] at hm ⊢
    have e0 : W.cell? ⟨b4, 0, aas⟩ = aar (.int .i64 x.1.1) := by simp [Do, h4]
    have e1 : W.cell? ⟨b4, 1, aas⟩ = aar (.int .i64 x.1.2.1) := by simp [Do, h4]
    have e2 : W.cell? ⟨b4, 2, aas⟩ = aar (.int .i64 x.1.2.2) := by simp [Do, h4]
    have f0 : W.cell? ⟨b5, 0, aas⟩ = aar (.int .i64 x.2.1) := by simp [Do, h5]
    have f1 : W.cell? ⟨b5, 1, aas⟩ = aar (.int .i64 x.2.2.1) := by simp [Do, h5]
    have f2 : W.cell? ⟨b5, 2, aas⟩ = aar (.int .i64 x.2.2.2) := by simp [Do, h5]
    have hb4 : b4 < W.heap.size := (v6.1 h4).1
    have hb5 : b5 < W.heap.size := (v6.1 h5).1
    have Ld := Be mt pre
    have hpp : (aaq pre) + 1 <= (gB xs).length := by have := Gp.length_le; simpa using this
    gi_wp2_with (first
      | (refine ⟨trivial, ?_⟩; gi_at_call 139; refine (CallsIn.inRound l (callsIn_wide.2 (hm W))).mono ?_; rintro e W1 ⟨rfl, zM, Uu⟩
         obtain ⟨tv, htv⟩ : ∃ tv : Obj, tv = .cells #[.int .i64 (mt x.1 x.2).1.1, .int .i64 (mt x.1 x.2).1.2] 26 := ⟨_, rfl⟩
         have QJ : Boxed (W1.alloc tv) (w.heap.size + 1) 83 v := (sZ hv zM).alloc tv
         have Jz := (mg.kept (oK zM) (by cases v.ownBlock <;> simp)).alloc tv
         have g0 := QJ.cell
         have g1 : (W1.alloc tv).cell? ⟨b4, 0, aas⟩ = aar (.int .i64 x.1.1) := vI tv ((zM.cell (p := ⟨b4, 0, aas⟩) hb4).trans e0)
         have g2 : (W1.alloc tv).cell? ⟨b5, 0, aas⟩ = aar (.int .i64 x.2.1) := vI tv ((zM.cell (p := ⟨b5, 0, aas⟩) hb5).trans f0)
         rw [htv] at QJ Jz g0 g1 g2)
      | (gi_at_builtin
         go_loud (
         refine Ai _ rfl _ _ 83 rfl w.heap.size 89 i0 _ 4 32 Tryz.underlying83 QO hz0 hz1 hz2 rfl (by decide) _ _ _ rfl (Jz.alloc _) ⟨W1.heap.size + 1, 0, aas⟩ 1 1 [.int .i64 (mt x.1 x.2).1.1, .int .i64 (mt x.1 x.2).1.2, .int .i64 x.1.1, .int .i64 x.2.1] ?_ ?_ ?_ ?_ ?_ ?_ ?_ ?_
         · rfl
         · rfl
         · exact PN (by simp) _ _
         · simp [Value.oneCell']
         · simp only [maxLen]; omega
         · omega
         · have := hB.size; have := zM.size; simp; omega
         intro v' w1 aa7 Kf hdr
         obtain ⟨g', cD, rfl⟩ := ownsRow_succ aa7
         obtain ⟨hv3, hv4, hr4, hk4, aoM⟩ := QJ.appended (by decide) Jz (by have := hB.size; have := zM.size; simp; omega) (by omega) aa7 Kf
         have hkp := PO (u := 64) (v' := .slice (aar ⟨g', 0, aas⟩) ((vJ mt pre).length + 1) cD) QJ Jz Kf (by decide) (by decide)
         have Aw := hv3.cell
         have hf1 := hv3.frozen)))
    · have hz : ((mt x.1 x.2).2 == 0) = true := by assumption
      have kW : KeepsOthers W W1 := .of_grownBy (oK zM) (fun j o e => by cases e)
      have k5 := (kW.trans (KeepsOthers.alloc W1 _)).trans hk4
      have hf2 := (sZ hf zM).alloc (.cells #[.int .i64 (mt x.1 x.2).1.1, .int .i64 (mt x.1 x.2).1.2] 26)
      refine ⟨(k5.same _ _ agt rfl).trans agt.symm, (k5.same _ _ hlp rfl).trans hlp.symm, ⟨PP hd (PP Uu hdr), (hB.trans ((zM.mono hB.size).trans ((Below.refl _ W1).alloc (PP hB.size zM.size) _))).trans aoM, ⟨_, hv4, ?_, ?_⟩, ?_⟩, fun i cs z hi => hkp i cs z ((Below.heap_alloc _ _ _ ?_).trans ((zM.block i (v6.1 hi).1).trans hi))⟩
      · rw [Cr, hz, lw, List.length_append, List.flatMap_append]
        exact hr4
      · rw [Cr, hz]; simp
      · exact ((hf2.alloc _).kept Kf (hf2.not_row (by decide) Jz)).other (by omega) _
      exact aap (v6.1 hi).1 zM.size
    have hz : ((mt x.1 x.2).2 == 0) = false := by assumption
    have Jr := ((zM.trans ((Below.refl _ W1).alloc zM.size (.cells #[.int .i64 (mt x.1 x.2).1.1, .int .i64 (mt x.1 x.2).1.2] 26))))
    have ee : vJ mt (pre ++ [x]) = vJ mt pre := by rw [Cr, hz, pp, List.append_nil]
    refine ⟨Jr.block _ (v6.1 agt).1, Jr.block _ (v6.1 hlp).1, ?_, fun i cs z hi => (Jr.block i (v6.1 hi).1).trans hi⟩
    have : MI mt xs a c w pre W := ⟨hd, hB, ⟨v, hv, mg, xx⟩, hf⟩
    have := this.gro Jr Uu
    unfold MI at this ⊢
    rw [ee]
    exact this
  case done =>
    intro W hi hD
    rw [Gn] at hD
    obtain ⟨hd, hB, ⟨v, hv, mg, xx⟩, hf⟩ := hi
    have Aw := hv.cell
    obtain ⟨ms, hms⟩ : ∃ ms, ms = vJ mt (gB xs) := ⟨_, rfl⟩
    have asY : (aaq ms) <= 1000000 := by rw [hms]; exact PP (Be mt _) bY
    rw [<- hms] at mg xx DN y6
    have aa8 := mg
    rcases mg.2 with ⟨rfl, Qp⟩ | ⟨g, cap, cur, rfl, hg, aj3, aj4, y4, qC, Ay⟩
    · have hm0 : m = [] := List.length_eq_zero_iff.1 (y6.trans Qp)
      have hs := H.none_ aas 0 W
      subst hm0
      clear hms xx Qp mg aa8 y6 DN
      gi_wp2_with (refine ⟨trivial, ?_⟩; gi_at_call 140; refine (callsIn_wide.2 hs).mono ?_; rintro e W1 ⟨rfl, rfl⟩)
      refine ⟨by simp, .inl ⟨_, _, rfl, run_takeDeferred hD, ?_⟩⟩
      exact ⟨_, results_tmp rfl _ _ _, rfl, hB.trans (belowK_b (w := w) (AC _) W1 _ _ _ (by omega) hD rfl rfl), hd⟩
    have dE : ms ≠ [] := fun h => by have := xx.2 h; cases this
    have zI : 0 < (aaq ms) := by cases ms; exact absurd rfl dE; simp
    have HI : m ≠ [] := fun h => by rw [h] at y6; simp at y6; omega
    have hg1 : w.heap.size + 1 ≠ g := fun h => (hv.not_row (by decide) mg) (by rw [h]; rfl)
    have hg3 : w.heap.size + 3 ≠ g := fun h => by rw [h, aj3] at hD; cases hD
    have hs := H.some_ g 0 cap ms m cur 89 W zI aj4 (by omega) DN y6 aj3 (PQ Ay) (by show 0 + (aaq ms) * 4 <= _; omega)
    have aoO : w.heap.size + 3 < W.heap.size := (v6.1 hD).1
    clear hms xx mg aa8 DN Ay hmt bY
    gi_wp2_with (refine ⟨trivial, ?_⟩; gi_at_call 140; refine (callsIn_wide.2 hs).mono ?_; rintro e W1 ⟨rfl, ⟨fin, q1, q2, q3, _⟩, q4, q5, q6, q7, q8⟩; have Gd : W1.cell? ⟨w.heap.size + 1, 0, aas⟩ = _ := (World.cell?_of_block (a := ⟨w.heap.size + 1, 0, aas⟩) (q4 _ hv.lt hg1)).trans Aw)
    have hD1 : W1.heap[w.heap.size + 3]? = _ := (q4 _ aoO hg3).trans hD
    refine ⟨by simp, .inl ⟨_, _, rfl, run_takeDeferred hD1, ?_⟩⟩
    refine ⟨_, results_tmp rfl _ _ _, .inr ⟨HI, g, cap, fin, 89, by rw [y6]; rfl, hg, (ww hg3.symm).trans q2, by omega, by rw [q1, qC]; exact AC _, q3⟩, ?_, PP hd q7.dr⟩
    exact (hB.trans ⟨q6, q7.eq, q8, q5, fun k hk => q4 k (aap hk hB.size) (by omega)⟩).trans (belowK_b (w := w) (AC _) W1 _ _ _ (by omega) hD1 rfl rfl)
theorem agu [LP]: ∀x y v,fL x y=aar v->Sg bD 141 [.i .i64,.i .i64,.i .i64,.i .i64] x y v:=fun x y _ h=>
 cQ.ai0 anE.ok NX rfl rfl (a:=(x,y)) (ps:=[.agg (RT.pv [.i .i64,.i .i64,.i .i64,.i .i64] x),.agg (RT.pv [.i .i64,.i .i64,.i .i64,.i .i64] y)]) h rfl rfl rfl rfl
theorem ZD [LP] {p q:oo} {v:(Int×Int)×Int} (h:dZ p q=aar v) (w:World):Calls Tryz.prog 139 #[Mn p,Mn q] w fun e w'=>
 e= .returned (.tuple #[.agg #[.int .i64 v.1.1,.int .i64 v.1.2],.int .i64 v.2])/\Below w.heap.size w w'/\w.drawn<=w'.drawn:=by
 obtain ⟨n,s,z,bI⟩:=cQ.ai0 ajA.ok NW rfl rfl (a:=(p,q)) (ps:=[.agg (RT.pv [.i .i64,.i .i64,.i .i64] p),.agg (RT.pv [.i .i64,.i .i64,.i .i64] q)]) (v:= .bS [.agg [.int .i64 v.1.1,.int .i64 v.1.2],.int .i64 v.2]) h rfl rfl rfl rfl;refine (B8 (TT.Rg vK) (TT.DM vK) jc bI (im:=fun _=>aas) (us:=[Mn p,Mn q]) (fun _ _ h=>by cases h) (.cons _ _ _ _ (.agg _ _ (RT.Sf [.i .i64,.i .i64,.i .i64] p)) (.cons _ _ _ _ (.agg _ _ (RT.Sf [.i .i64,.i .i64,.i .i64] q)) .nil))).mono fun e w' ⟨u,he,⟨dP,bg,hv,_⟩,ho,ht,hp,oz,qt⟩=>⟨?_,⟨ho,ht.eq,hp,oz,qt⟩,ht.dr⟩
 rw [he];cases hv with
 |bS _ _ h1=>
  cases h1 with
  |cons _ _ _ _ a1 h2=>
   cases h2 with
   |cons _ _ _ _ a2 h3=>
    cases h3;cases a1 with
    |agg _ _ b1=>
     cases b1 with
     |cons _ _ _ _ d1 b2=>
      cases b2 with
      |cons _ _ _ _ d2 b3=>cases b3;rw [d1.eY,d2.eY,a2.eY]
noncomputable def C6:List (Int×Int×Int)->Option (List (Int×Int×Int×Int)):=letI:LP:=⟨aas⟩;Kh dZ fL
theorem SY:NU Tryz.prog 84 [.i .i64,.i .i64,.i .i64] [.i .i64,.i .i64,.i .i64,.i .i64] C6:=by
 letI:LP:=⟨aas⟩
 intro a c l m w DN hc ha;have DN:Kh dZ fL l=aar m:=DN;unfold Kh at DN;split at DN
 case isFalse=>cases DN
 rename_i hq;obtain ⟨h1,h2⟩:=hq;have H:uJ Tryz.prog 140 ⟨[.i .i64,.i .i64,.i .i64,.i .i64],aar 141,Bg fL⟩:=uJ.cls (r:=[.i .i64,.i .i64,.i .i64,.i .i64]) (TT.Rg vK) (TT.DM vK) jc agp rfl (by decide) Tryz.isAgg89 Tryz.sizeOf89
  (fun args w=>by
   cases hb:Tryz.f141.body with
   |none=>exact absurd hb (by intro h;cases h)
   |some c=>exact fU Tryz.func141 (by kernel_rfl) hb) (fun l m h=>Sm agu h)
 exact ags l (fun p q=>(dZ p q).getD ((0,0),1)) m (Bg fL) H DN (PR DN) (fun x hx w=>by
  obtain ⟨v,hv⟩:=h2 x hx;have:=ZD hv w;rw [hv];exact this)
  (by have:=Fq l;have:=Nat.mul_le_mul h1 h1;omega) h1 a c w hc (fun dE=>by obtain ⟨b,o,hb,hr⟩:=ha dE;exact ⟨b,o,hb,Mo hr⟩)
noncomputable def Dw:kH:=fun k=>bif Nat.beq k 84 then aar (.iZ false (pMk [.i .i64,.i .i64,.i .i64] [.i .i64,.i .i64,.i .i64,.i .i64] C6)) else bD k
theorem ZE:Dw 84=aar (.iZ false (pMk [.i .i64,.i .i64,.i .i64] [.i .i64,.i .i64,.i .i64,.i .i64] C6)):=rfl
theorem Ap {k:Nat} {e:TO} (h:Dw k=aar e):k=84/\e= .iZ false (pMk [.i .i64,.i .i64,.i .i64] [.i .i64,.i .i64,.i .i64,.i .i64] C6)\/bD k=aar e:=by
 unfold Dw at h;cases hb:Nat.beq k 84 with
 |true=>rw [hb] at h;injection h with h;exact .inl ⟨aam hb,h.symm⟩
 |false=>rw [hb] at h;exact .inr h
theorem agv:bD 84=aas:=rfl
theorem ky (k:Nat) (e:TO) (h:bD k=aar e):Dw k=aar e:=by
 unfold Dw;cases hb:Nat.beq k 84 with
 |true=>rw [aam hb,agv] at h;cases h
 |false=>exact h
theorem ZF:ED Tryz.prog (fun _=>true) Dw:=fun f x h=>by
 rcases Ap h with ⟨_,h⟩|h
 · cases h
 exact TT.Rg vK f x h
theorem Mt:sS Tryz.prog Dw:=⟨fun f k p h=>by
 rcases Ap h with ⟨rfl,h⟩|h
 · cases h
   cases hb:Tryz.f84.body with
   |none=>exact absurd hb (by intro h;cases h)
   |some c=>exact ⟨rfl,zP.mk Tryz.func84 (by kernel_rfl) hb SY⟩
 · exact (TT.DM vK).1 f k p h,fun f p h=>by
 rcases Ap h with ⟨_,h⟩|h
 · cases h
 exact (TT.DM vK).2 f p h⟩
theorem SZ:Dw 5=aar (.code x5):=ky _ _ ai3
theorem ZG:Dw 32=aar (.code x32):=ky _ _ afr
end Go.Proofs.YthljmpcakagceaaGreat
