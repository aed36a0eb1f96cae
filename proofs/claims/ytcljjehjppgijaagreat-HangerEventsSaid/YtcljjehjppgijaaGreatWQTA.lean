/- meet.all: the walk of a range over all pairs of points, of slices.SortFunc behind it; the table with it. Printed by a program. -/
import Derived.Test.YtcljjehjppgijaaGreatWQTF
import Derived.Test.YtcljjehjppgijaaGreatWQXT
import Derived.Test.YtcljjehjppgijaaGreatWQS2
import Derived.Test.YtcljjehjppgijaaGreatWVm4
import Derived.OwnWalkIn
import Derived.TacticsInMore
import Derived.LoopNIn
import Derived.LoopIn
import Derived.Shelf.Abstract
import Derived.Maps.AppendAt
import Derived.Test.YtcljjehjppgijaaGreatChecked
open Array renaming getElem?_eq_some_iff->lw,replicate_succ->ww,replicate_zero->AC
open Go.World renaming putObj_heap_other->pp,cell?->v6,size_alloc->UV,alloc_heap_new->aa1
open Nat renaming le_refl->ut,le_trans->IR,reduceAdd->aa4,reduceSub->aa5,eq_of_beq_eq_true->aa8,lt_of_lt_of_le->aa9
open List renaming append_toArray->Do,size_toArray->EQ,push_toArray->If,length_cons->NE,cons_append->PP,length_nil->aa2,nil_append->aa3,length->aak
open Option renaming some->aaH,none->aaI
set_option maxRecDepth 100000
namespace Go.Proofs.YtcljjehjppgijaaGreat
open Go.RowKit Go.Vm Go.Shelf
attribute [local go_sem] Oper.semAt_some
set_option maxRecDepth 100000 in
set_option maxHeartbeats 4000000 in
theorem aal (n:Nat) (hn:1<=n) (l:Nat) (Bf b o c:Nat) (xs:List oB) (bU:(aak xs)<=1000000) (J:List (oB×oB)->World->Prop)
 (hm: ∀pre W,J pre W->W.cell? ⟨Bf,0,aaI⟩=aaH (.slice (aaH ⟨b,o,aaI⟩) (aak xs) c)/\S4 W b o xs)
 (hg: ∀pre W W',J pre W->Below W.heap.size W W'->W'.drawn=W.drawn->J pre W')
 (hY: ∀pre x W,J pre W->pre++[x]<+:gB xs->YieldAt Fence.wide (n-1) Tryz.prog l #[MR x.1,MR x.2] W fun e W'=>e= .returned (.bool true)/\J (pre++[x]) W'/\ac8 59 W W')
 (W:World) (h0:J [] W) (hc:(aak xs)<=c):
 CallsIn Fence.wide n Tryz.prog 203 #[.func (.yield l) #[] #[],.pointer (aaH ⟨Bf,0,aaI⟩)] W fun e W'=>(∃v,e= .returned v)/\J (gB xs) W':=by
 refine callsIn_of_wp Tryz.func203 rfl trivial ?_ rfl;simp only [Tryz.ntmps203,EQ,NE,aa2,aa4,aa5,ww,AC,If,Do,aa3,PP];obtain ⟨hb0,hp0⟩:=hm _ _ h0
 gi_wp2
 gi_loopw [10] (fun i wr=> ∃k:Nat,k<=aak xs/\i= .int .i64 k/\J (sZ xs k 0) wr)
  (fun i _=>aak xs- (intOf i).toNat)
 case atStart=>exact ⟨0,Nat.zero_le _,rfl,by rw [Qe];exact h0⟩
 case round=>
  obtain ⟨k,hk,rfl,hJs⟩:=hrel;obtain ⟨hbk,hpk⟩:=hm _ _ hJs
  by_cases c7:k<aak xs
  · obtain ⟨c0,c1,c2⟩:=hpk k c7
    obtain ⟨p,hp⟩: ∃p:oB,xs[k]! =p:=⟨_,rfl⟩;rw [hp] at c0 c1 c2;have hp:Hid (xs[k]! =p):=hp;have hba: ∀u,(wr.alloc u).cell? ⟨Bf,0,aaI⟩=aaH (.slice (aaH ⟨b,o,aaI⟩) (aak xs) c):=fun u=>we _ hbk
    obtain ⟨pv,hpv⟩: ∃pv:Obj,pv= .cells #[.int .i64 p.1,.int .i64 p.2.1,.int .i64 p.2.2] 59:=⟨_,rfl⟩;have hJ1:J (sZ xs k 0) (wr.alloc pv):=hg _ _ _ hJs ((Below.refl _ wr).alloc (ut _) _) rfl;have hn1:(wr.alloc pv).heap[wr.heap.size]? =aaH pv:=aa1 wr pv;rw [hpv] at hJ1 hn1;obtain ⟨B1,hB1⟩: ∃B1,wr.heap.size=B1:=⟨_,rfl⟩;rw [hB1] at hn1;clear hpv pv
    gi_wp2
    · obtain rfl:c=k+1:=by assumption
      gi_loopw [21] (fun jv w=>jv= .int .i64 0/\J (sZ xs k 0) w) (fun _ _=>0)
      case atStart=>exact ⟨rfl,hJ1⟩
      case round=>
       obtain ⟨rfl,hJ2⟩:=hrel;have QU:(aak xs)- (k+1)=0:=by omega
       gi_wp2
       go_roundw
       case rel=>exact ⟨k+1,by omega,by simp,by rw [<- FK,QU];exact hJ2⟩
       case measure=>simp [intOf];omega
    gi_loopw [21] (fun jv w=> ∃j:Nat,k+1+j<=aak xs/\jv= .int .i64 j/\J (sZ xs k j) w/\w.heap[B1]? =aaH (.cells #[.int .i64 p.1,.int .i64 p.2.1,.int .i64 p.2.2] 59 (0,0))) (fun jv _=>aak xs- (k+1) - (intOf jv).toNat)
    case atStart=>exact ⟨0,by omega,rfl,hJ1,hn1⟩
    case round=>
     obtain ⟨j,hj,rfl,hJ2,hn2⟩:=hrel;obtain ⟨hbj,hpj⟩:=hm _ _ hJ2
     by_cases hlj:k+1+j<aak xs
     · obtain ⟨d0,d1,d2⟩:=hpj (k+1+j) hlj
       obtain ⟨q,hq⟩: ∃q:oB,xs[k+1+j]! =q:=⟨_,rfl⟩;rw [hq,show o+(k+1+j)*3=o+(k+1)*3+j*3 by omega] at d0 d1 d2;have hnx:=Qf xs hlj;rw [hp.out,hq] at hnx;have GO:sZ xs k j++[(p,q)]<+:gB xs:=by rw [hnx];exact S3 xs c7 _
       obtain ⟨qv,hqv⟩: ∃qv:Obj,qv= .cells #[.int .i64 q.1,.int .i64 q.2.1,.int .i64 q.2.2] 59:=⟨_,rfl⟩;have hlb:B1<wr.heap.size:=(lw.1 hn2).1;have VF:(wr.alloc qv).heap[B1]? =_:=(Below.heap_alloc wr qv B1 hlb).trans hn2;have e0:(wr.alloc qv).cell? ⟨B1,0,aaI⟩=aaH (.int .i64 p.1):=by simp [v6,VF]
       have e1:(wr.alloc qv).cell? ⟨B1,1,aaI⟩=aaH (.int .i64 p.2.1):=by simp [v6,VF]
       have e2:(wr.alloc qv).cell? ⟨B1,2,aaI⟩=aaH (.int .i64 p.2.2):=by simp [v6,VF]
       obtain ⟨fn,tmps,assign,body,hy,hR⟩:=hY _ (p,q) (wr.alloc qv) (hg _ _ _ hJ2 ((Below.refl _ wr).alloc (ut _) _) rfl) GO;dsimp only [MR] at hy;rw [hqv] at VF e0 e1 e2 hy hR;have hq:Hid (xs[k+1+j]! =q):=hq;have hnx:Hid (sZ xs k j++[(p,q)]=sZ xs k (j+1)):=hnx;clear hqv qv GO hn2 hp
       gi_wp2
       refine hR.mono ?_;rintro e W3 ⟨rfl,hJ3,hk3⟩
       gi_wp2
       go_roundw
       case rel=>exact ⟨j+1,by omega,by simp,by rw [<- hnx.out];exact hJ3,hk3 _ _ _ VF⟩
       case measure=>simp [intOf];omega
     obtain rfl:j=aak xs- (k+1):=by omega
     gi_wp2
     go_roundw
     case rel=>exact ⟨k+1,by omega,by simp,by rw [<- FK];exact hJ2⟩
     case measure=>simp [intOf];omega
  obtain rfl:k=(aak xs):=by omega
  gi_wp2
  go_end0
  exact ⟨⟨_,rfl⟩,by rw [S2] at hJs;exact hJs⟩
set_option maxRecDepth 100000 in
set_option maxHeartbeats 4000000 in
theorem Tv (n:Nat) (l:Nat) (Bf c:Nat) (a:Option Addr) (J:List (oB×oB)->World->Prop) (W:World) (hm:W.cell? ⟨Bf,0,aaI⟩=aaH (.slice a 0 c)) (h0:J [] W):
 CallsIn Fence.wide n Tryz.prog 203 #[.func (.yield l) #[] #[],.pointer (aaH ⟨Bf,0,aaI⟩)] W fun e W'=>(∃v,e= .returned v)/\J [] W':=by
 refine callsIn_of_wp Tryz.func203 rfl trivial ?_ rfl;simp only [Tryz.ntmps203,EQ,NE,aa2,aa4,aa5,ww,AC,If,Do,aa3,PP]
 gi_wp2
 gi_loopw [10] (fun i wr=>i= .int .i64 0/\J [] wr) (fun _ _=>0)
 case atStart=>exact ⟨rfl,h0⟩
 case round=>
  obtain ⟨rfl,hJs⟩:=hrel
  gi_wp2
  go_end0
  exact ⟨⟨_,rfl⟩,hJs⟩
theorem Tw (n:Nat) (a:Option Addr) (len c:Nat) (w:World):CallsIn Fence.wide n Tryz.prog 139 #[.agg #[.slice a len c]] w fun e w'=>
 e= .returned (.func (.func 203) #[] #[.pointer (aaH ⟨w.heap.size,0,aaI⟩)])/\w'=w.alloc (.cells #[.slice a len c] 26):=by
 refine callsIn_of_wp Tryz.func139 rfl trivial ?_ rfl;simp only [Tryz.ntmps139,EQ,NE,aa2,aa4,aa5,ww,AC,If,Do,aa3,PP]
 gi_wp2
 go_ret
 exact ⟨rfl,rfl⟩
theorem agO:(Tryz.prog.info? 73).map (fun i=>(i.zero,i.size,i.bytes))=aaH (aaH (.agg #[.int .i64 0,.int .i64 0,.int .i64 0,.int .i64 0]),4,32):=by kernel_rfl
def MI (mt:oB->oB->(Int×Int)×Int) (xs:List oB) (a:Option Addr) (c:Nat) (w:World) (pre:List (oB×oB)) (W:World):Prop:=
 w.drawn<=W.drawn/\Below w.heap.size w W/\(∃v,Boxed W (w.heap.size+1) 67 v/\W.ownsRow w.heap.size 73 4 v (wg mt pre).length ((wg mt pre).flatMap mtV)/\(v= .slice aaI 0 0↔wg mt pre=[]))/\
  Boxed W (w.heap.size+2) 26 (.slice a (aak xs) c)
theorem MI.put {mt:oB->oB->(Int×Int)×Int} {xs:List oB} {a:Option Addr} {c:Nat} {w W:World} {pre:List (oB×oB)} {l:Nat} {r:Loop} (o:Obj) (hl:W.heap[l]? =aaH (.loop r)) (hw:w.heap.size+2<l) (h:MI mt xs a c w pre W):MI mt xs a c w pre (W.putObj l o):=by obtain ⟨h1,h2,⟨v,h3,h4,h5⟩,h6⟩:=h;exact ⟨h1,h2.trans (belowK_b (w:=w) (ut _) W l _ _ (by omega) hl rfl rfl),⟨v,h3.kept (grownBy_putObj' W l o) (by simp;omega),ownsRow_putObj h4 _ hl rfl,h5⟩,h6.kept (grownBy_putObj' W l o) (by simp;omega)⟩
theorem MI.gro {mt:oB->oB->(Int×Int)×Int} {xs:List oB} {a:Option Addr} {c:Nat} {w W W':World} {pre:List (oB×oB)} (h:MI mt xs a c w pre W) (hb:Below W.heap.size W W') (hd:W.drawn<=W'.drawn):MI mt xs a c w pre W':=by obtain ⟨h1,h2,⟨v,h3,h4,h5⟩,h6⟩:=h;exact ⟨IR h1 hd,h2.trans (hb.mono h2.size),⟨v,tC h3 hb,h4.kept (oW hb) (by cases v.ownBlock<;>simp),h5⟩,tC h6 hb⟩
set_option maxRecDepth 100000 in
set_option maxHeartbeats 4000000 in
theorem agP (xs : List oB) (mt : oB -> oB -> (Int × Int) × Int) (m : List xE) (fn : List (RT [.i .i64, .i .i64, .i .i64, .i .i64]) -> Option (List (RT [.i .i64, .i .i64, .i .i64, .i .i64])))
    (H : uY Tryz.prog 141 ⟨[.i .i64, .i .i64, .i .i64, .i .i64], aaH 142, fn⟩) (D5 : fn (wg mt (gB xs)) = aaH m) (zp : (aak m) = (wg mt (gB xs)).length)
    (hmt : ∀ x ∈ gB xs, ∀ w, Calls Tryz.prog 140 #[MR x.1, MR x.2] w fun e w' => e = .returned (.tuple #[.agg #[.int .i64 (mt x.1 x.2).1.1, .int .i64 (mt x.1 x.2).1.2], .int .i64 (mt x.1 x.2).2]) /\ Below w.heap.size w w' /\ w.drawn <= w'.drawn)
    (bU : (gB xs).length <= 1000000) (hx : (aak xs) <= 1000) (a : Option Addr) (c : Nat) (w : World) (hc : (aak xs) <= c) (ha : xs ≠ [] -> ∃ b o, a = aaH ⟨b, o, aaI⟩ /\ S4 w b o xs) :
    Calls Tryz.prog 75 #[.agg #[.slice a (aak xs) c]] w fun x w' =>
      (m = [] /\ x = .returned (.slice aaI 0 0) \/ m ≠ [] /\ ∃ g c' fin el, x = .returned (.slice (aaH ⟨g, 0, aaI⟩) (aak m) c') /\ w.heap.size <= g /\ w'.heap[g]? = aaH (.cells fin el (0, 0)) /\
        (aak m) <= c' /\ c' * 4 <= fin.size /\ bz (fun k => fin[k]?) 0 4 (m.map (RT.pv [.i .i64, .i .i64, .i .i64, .i .i64]))) /\ Below w.heap.size w w' /\ w.drawn <= w'.drawn := by
  refine (callsIn_wide (n := 9)).1 ?_
  refine callsIn_of_wp_marks Tryz.func75 rfl trivial ?_ rfl
  simp only [Tryz.ntmps75, EQ, NE, aa2, aa4, aa5, ww, AC, If, Do, aa3, PP]
  gi_wp2_with (refine ⟨trivial, ?_⟩; gi_at_call 139; refine (Tw _ _ _ _ _).mono ?_; rintro e w' ⟨rfl, rfl⟩)
  obtain ⟨W0, hW0⟩ : ∃ W0, ((w.alloc (.cells #[.slice a (aak xs) c] 26)).alloc (.cells #[.slice aaI 0 0] 67)).alloc (.cells #[.slice a (aak xs) c] 26) = W0 := ⟨_, rfl⟩
  have GN : W0.heap.size = w.heap.size + 3 := by rw [<- hW0]; simp
  have hI0 : MI mt xs a c w [] W0 := by
    rw [<- hW0]
    have b1 := Boxed.new (w.alloc (.cells #[.slice a (aak xs) c] 26)) 67 (.slice aaI 0 0)
    have b2 := Boxed.new ((w.alloc (.cells #[.slice a (aak xs) c] 26)).alloc (.cells #[.slice aaI 0 0] 67)) 26 (.slice a (aak xs) c)
    rw [UV] at b1
    rw [UV, UV] at b2
    exact ⟨ut _, (((Below.refl _ w).alloc (ut _) _).alloc (by simp) _).alloc (by simp; omega) _, ⟨_, b1.alloc _, World.ownsRow_nil _ _ _ _, by simp [wg]⟩, b2⟩
  rw [hW0]
  refine Qb rfl (by omega) (gf := 203) (lb := #[.pointer (aaH ⟨w.heap.size + 1 + 1, 0, aaI⟩)]) rfl trivial (enters_of Tryz.func203 (by kernel_rfl) rfl) (encs := fun x => #[MR x.1, MR x.2]) (fun _ => rfl) (gB xs) (MI mt xs a c w)
    (fun pre W r o hl h => h.put o hl (by omega)) (fun pre W W' h hb hd => h.gro hb (Nat.le_of_eq hd.symm)) hI0 (ac8 59) (fun h k i cs z e => k i cs z (h i cs z e)) (fun {W W'} hb i cs z e => (hb.block i (lw.1 e).1).trans e)
    (fun {W r} o hl i cs z e => (pp (fun h => by subst h; rw [hl] at e; cases e)).trans e) ?seq
    (fun x a' W => ∃ b4 b5, W.heap[b4]? = aaH (.cells #[.int .i64 x.1.1, .int .i64 x.1.2.1, .int .i64 x.1.2.2] 59 (0, 0)) /\ W.heap[b5]? = aaH (.cells #[.int .i64 x.2.1, .int .i64 x.2.2.1, .int .i64 x.2.2.2] 59 (0, 0)) /\
      a' = { tmps := #[.agg #[.slice a (aak xs) c], .pointer (aaH ⟨w.heap.size, 0, aaI⟩), .slice aaI 0 0, .pointer (aaH ⟨w.heap.size + 1, 0, aaI⟩), .pointer (aaH ⟨b4, 0, aaI⟩), .pointer (aaH ⟨b5, 0, aaI⟩), undef, undef, .agg #[.slice a (aak xs) c],
        .func (.func 203) #[] #[.pointer (aaH ⟨w.heap.size + 1 + 1, 0, aaI⟩)], MR x.1, MR x.2, undef, undef, undef, undef, undef, undef, undef, undef, undef, undef, undef, undef, undef, undef, undef, undef, undef, undef, undef, undef], defers := [] }) ?ax ?assign ?body ?done
  case ax =>
    rintro x a' W r o hl ⟨b4, b5, h4, h5, rfl⟩
    exact ⟨b4, b5, (pp (fun h => by subst h; rw [hl] at h4; cases h4)).trans h4, (pp (fun h => by subst h; rw [hl] at h5; cases h5)).trans h5, rfl⟩
  case seq =>
    intro l J W hm hg hY hJ0
    rcases Nat.eq_zero_or_pos (aak xs) with hz | Ad
    · have : gB xs = [] := by unfold gB; rw [hz]; rfl
      rw [this]
      obtain ⟨_, _, _, hb⟩ := hm _ _ hJ0
      rw [hz] at hb
      exact Tv _ l _ c a J W hb.cell hJ0
    obtain ⟨b, o, rfl, hp⟩ := ha (fun h => by rw [h] at Ad; exact Nat.lt_irrefl _ Ad)
    refine aal _ (by omega) l (w.heap.size + 1 + 1) b o c xs (by omega) J (fun pre W h => ?_) hg hY W hJ0 hc
    obtain ⟨_, h2, _, h4⟩ := hm _ _ h
    refine ⟨h4.cell, fun i hi => ?_⟩
    obtain ⟨p0, p1, p2⟩ := hp i hi
    have Py : b < w.heap.size := World.block_lt_of_cell? w _ p0
    exact ⟨(h2.cell (p := ⟨b, _, aaI⟩) Py).trans p0, (h2.cell (p := ⟨b, _, aaI⟩) Py).trans p1, (h2.cell (p := ⟨b, _, aaI⟩) Py).trans p2⟩
  case assign =>
    intro l x W K c7 hK
    simp only [MR] at hK ⊢
    gi_wp2
    have n1 := aa1 (W.alloc (.cells #[.int .i64 x.1.1, .int .i64 x.1.2.1, .int .i64 x.1.2.2] 59)) (.cells #[.int .i64 x.2.1, .int .i64 x.2.2.1, .int .i64 x.2.2.2] 59)
    rw [UV] at n1
    exact hK _ _ (((Below.refl _ W).alloc (ut _) _).alloc (by simp) _) rfl ⟨W.heap.size, W.heap.size + 1, (Below.heap_alloc _ _ _ (by simp)).trans (aa1 W _), n1, rfl⟩
  case body =>
    rintro l pre x a' W hi ⟨b4, b5, h4, h5, rfl⟩ GO agQ ⟨rl, hlp⟩
    obtain ⟨i0, Rn, hz0, hz1, hz2⟩ := info_parts agO
    obtain ⟨hd, hB, ⟨v, hv, mC, xU⟩, hf⟩ := hi
    have hm := hmt x (GO.subset (by simp))
    simp only [MR] at hm ⊢
    have e0 : W.cell? ⟨b4, 0, aaI⟩ = aaH (.int .i64 x.1.1) := by simp [v6, h4]
    have e1 : W.cell? ⟨b4, 1, aaI⟩ = aaH (.int .i64 x.1.2.1) := by simp [v6, h4]
    have e2 : W.cell? ⟨b4, 2, aaI⟩ = aaH (.int .i64 x.1.2.2) := by simp [v6, h4]
    have f0 : W.cell? ⟨b5, 0, aaI⟩ = aaH (.int .i64 x.2.1) := by simp [v6, h5]
    have f1 : W.cell? ⟨b5, 1, aaI⟩ = aaH (.int .i64 x.2.2.1) := by simp [v6, h5]
    have f2 : W.cell? ⟨b5, 2, aaI⟩ = aaH (.int .i64 x.2.2.2) := by simp [v6, h5]
    have hb4 : b4 < W.heap.size := (lw.1 h4).1
    have hb5 : b5 < W.heap.size := (lw.1 h5).1
    have LH := BB mt pre
    have hpp : (aak pre) + 1 <= (gB xs).length := by have := GO.length_le; simpa using this
    gi_wp2_with (first
      | (refine ⟨trivial, ?_⟩; gi_at_call 140; refine (CallsIn.inRound l (callsIn_wide.2 (hm W))).mono ?_; rintro e W1 ⟨rfl, Ah, U7⟩
         obtain ⟨tv, htv⟩ : ∃ tv : Obj, tv = .cells #[.int .i64 (mt x.1 x.2).1.1, .int .i64 (mt x.1 x.2).1.2] 23 := ⟨_, rfl⟩
         have Ri : Boxed (W1.alloc tv) (w.heap.size + 1) 67 v := (tC hv Ah).alloc tv
         have J1 := (mC.kept (oW Ah) (by cases v.ownBlock <;> simp)).alloc tv
         have g0 := Ri.cell
         have g1 : (W1.alloc tv).cell? ⟨b4, 0, aaI⟩ = aaH (.int .i64 x.1.1) := we tv ((Ah.cell (p := ⟨b4, 0, aaI⟩) hb4).trans e0)
         have g2 : (W1.alloc tv).cell? ⟨b5, 0, aaI⟩ = aaH (.int .i64 x.2.1) := we tv ((Ah.cell (p := ⟨b5, 0, aaI⟩) hb5).trans f0)
         rw [htv] at Ri J1 g0 g1 g2)
      | (gi_at_builtin
         go_loud (
         refine AG _ rfl _ _ 67 rfl w.heap.size 73 i0 _ 4 32 Tryz.underlying67 Rn hz0 hz1 hz2 rfl (by decide) _ _ _ rfl (J1.alloc _) ⟨W1.heap.size + 1, 0, aaI⟩ 1 1 [.int .i64 (mt x.1 x.2).1.1, .int .i64 (mt x.1 x.2).1.2, .int .i64 x.1.1, .int .i64 x.2.1] ?_ ?_ ?_ ?_ ?_ ?_ ?_ ?_
         · rfl
         · rfl
         · exact Qg (by simp) _ _
         · simp [Value.oneCell']
         · simp only [maxLen]; omega
         · omega
         · have := hB.size; have := Ah.size; simp; omega
         intro v' w1 abP KI hdr
         obtain ⟨g', cB, rfl⟩ := ownsRow_succ abP
         obtain ⟨hv3, hv4, hr4, hk4, ao7⟩ := Ri.appended (by decide) J1 (by have := hB.size; have := Ah.size; simp; omega) (by omega) abP KI
         have hkp := Qh (u := 59) (v' := .slice (aaH ⟨g', 0, aaI⟩) ((wg mt pre).length + 1) cB) Ri J1 KI (by decide) (by decide)
         have AU := hv3.cell
         have hf1 := hv3.frozen)))
    · have hz : ((mt x.1 x.2).2 == 0) = true := by assumption
      have kW : KeepsOthers W W1 := .of_grownBy (oW Ah) (fun j o e => by cases e)
      have k5 := (kW.trans (KeepsOthers.alloc W1 _)).trans hk4
      have hf2 := (tC hf Ah).alloc (.cells #[.int .i64 (mt x.1 x.2).1.1, .int .i64 (mt x.1 x.2).1.2] 23)
      refine ⟨(k5.same _ _ agQ rfl).trans agQ.symm, (k5.same _ _ hlp rfl).trans hlp.symm, ⟨IR hd (IR U7 hdr), (hB.trans ((Ah.mono hB.size).trans ((Below.refl _ W1).alloc (IR hB.size Ah.size) _))).trans ao7, ⟨_, hv4, ?_, ?_⟩, ?_⟩, fun i cs z hi => hkp i cs z ((Below.heap_alloc _ _ _ ?_).trans ((Ah.block i (lw.1 hi).1).trans hi))⟩
      · rw [CP, hz, kw, List.length_append, List.flatMap_append]
        exact hr4
      · rw [CP, hz]; simp
      · exact ((hf2.alloc _).kept KI (hf2.not_row (by decide) J1)).other (by omega) _
      exact aa9 (lw.1 hi).1 Ah.size
    have hz : ((mt x.1 x.2).2 == 0) = false := by assumption
    have JT := ((Ah.trans ((Below.refl _ W1).alloc Ah.size (.cells #[.int .i64 (mt x.1 x.2).1.1, .int .i64 (mt x.1 x.2).1.2] 23))))
    have ee : wg mt (pre ++ [x]) = wg mt pre := by rw [CP, hz, lc, List.append_nil]
    refine ⟨JT.block _ (lw.1 agQ).1, JT.block _ (lw.1 hlp).1, ?_, fun i cs z hi => (JT.block i (lw.1 hi).1).trans hi⟩
    have : MI mt xs a c w pre W := ⟨hd, hB, ⟨v, hv, mC, xU⟩, hf⟩
    have := this.gro JT U7
    unfold MI at this ⊢
    rw [ee]
    exact this
  case done =>
    intro W hi hD
    rw [GN] at hD
    obtain ⟨hd, hB, ⟨v, hv, mC, xU⟩, hf⟩ := hi
    have AU := hv.cell
    obtain ⟨ms, hms⟩ : ∃ ms, ms = wg mt (gB xs) := ⟨_, rfl⟩
    have as8 : (aak ms) <= 1000000 := by rw [hms]; exact IR (BB mt _) bU
    rw [<- hms] at mC xU D5 zp
    have abQ := mC
    rcases mC.2 with ⟨rfl, QW⟩ | ⟨g, cap, cur, rfl, hg, akl, akm, zn, qP, AV⟩
    · have hm0 : m = [] := List.length_eq_zero_iff.1 (zp.trans QW)
      have hs := H.none_ aaI 0 W
      subst hm0
      clear hms xU QW mC abQ zp D5
      gi_wp2_with (refine ⟨trivial, ?_⟩; gi_at_call 141; refine (callsIn_wide.2 hs).mono ?_; rintro e W1 ⟨rfl, rfl⟩)
      refine ⟨by simp, .inl ⟨_, _, rfl, run_takeDeferred hD, ?_⟩⟩
      exact ⟨_, results_tmp rfl _ _ _, rfl, hB.trans (belowK_b (w := w) (ut _) W1 _ _ _ (by omega) hD rfl rfl), hd⟩
    have dM : ms ≠ [] := fun h => by have := xU.2 h; cases this
    have Ad : 0 < (aak ms) := by cases ms; exact absurd rfl dM; simp
    have H9 : m ≠ [] := fun h => by rw [h] at zp; simp at zp; omega
    have hg1 : w.heap.size + 1 ≠ g := fun h => (hv.not_row (by decide) mC) (by rw [h]; rfl)
    have hg3 : w.heap.size + 3 ≠ g := fun h => by rw [h, akl] at hD; cases hD
    have hs := H.some_ g 0 cap ms m cur 73 W Ad akm (by omega) D5 zp akl (Qi AV) (by show 0 + (aak ms) * 4 <= _; omega)
    have ao9 : w.heap.size + 3 < W.heap.size := (lw.1 hD).1
    clear hms xU mC abQ D5 AV hmt bU
    gi_wp2_with (refine ⟨trivial, ?_⟩; gi_at_call 141; refine (callsIn_wide.2 hs).mono ?_; rintro e W1 ⟨rfl, ⟨fin, q1, q2, q3, _⟩, q4, q5, q6, q7, q8⟩; have GC : W1.cell? ⟨w.heap.size + 1, 0, aaI⟩ = _ := (World.cell?_of_block (a := ⟨w.heap.size + 1, 0, aaI⟩) (q4 _ hv.lt hg1)).trans AU)
    have hD1 : W1.heap[w.heap.size + 3]? = _ := (q4 _ ao9 hg3).trans hD
    refine ⟨by simp, .inl ⟨_, _, rfl, run_takeDeferred hD1, ?_⟩⟩
    refine ⟨_, results_tmp rfl _ _ _, .inr ⟨H9, g, cap, fin, 73, by rw [zp]; rfl, hg, (pp hg3.symm).trans q2, by omega, by rw [q1, qP]; exact ut _, q3⟩, ?_, IR hd q7.dr⟩
    exact (hB.trans ⟨q6, q7.eq, q8, q5, fun k hk => q4 k (aa9 hk hB.size) (by omega)⟩).trans (belowK_b (w := w) (ut _) W1 _ _ _ (by omega) hD1 rfl rfl)
theorem agR [LP]: ∀x y v,fK x y=aaH v->S0 bA 142 [.i .i64,.i .i64,.i .i64,.i .i64] x y v:=fun x y _ h=>
 cE.ajk anR.ok Oy rfl rfl (a:=(x,y)) (ps:=[.agg (RT.pv [.i .i64,.i .i64,.i .i64,.i .i64] x),.agg (RT.pv [.i .i64,.i .i64,.i .i64,.i .i64] y)]) h rfl rfl rfl rfl
theorem aam [LP] {p q:oB} {v:(Int×Int)×Int} (h:eh p q=aaH v) (w:World):Calls Tryz.prog 140 #[MR p,MR q] w fun e w'=>
 e= .returned (.tuple #[.agg #[.int .i64 v.1.1,.int .i64 v.1.2],.int .i64 v.2])/\Below w.heap.size w w'/\w.drawn<=w'.drawn:=by
 obtain ⟨n,s,z,bI⟩:=cE.ajk ajV.ok Ox rfl rfl (a:=(p,q)) (ps:=[.agg (RT.pv [.i .i64,.i .i64,.i .i64] p),.agg (RT.pv [.i .i64,.i .i64,.i .i64] q)]) (v:= .bN [.agg [.int .i64 v.1.1,.int .i64 v.1.2],.int .i64 v.2]) h rfl rfl rfl rfl;refine (Cw (TT.RR wj) (TT.D4 wj) jd bI (im:=fun _=>aaI) (us:=[MR p,MR q]) (fun _ _ h=>by cases h) (.cons _ _ _ _ (.agg _ _ (RT.SZ [.i .i64,.i .i64,.i .i64] p)) (.cons _ _ _ _ (.agg _ _ (RT.SZ [.i .i64,.i .i64,.i .i64] q)) .nil))).mono fun e w' ⟨u,he,⟨dT,ba,hv,_⟩,ho,ht,hp,oJ,qI⟩=>⟨?_,⟨ho,ht.eq,hp,oJ,qI⟩,ht.dr⟩
 rw [he];cases hv with
 |bN _ _ h1=>
  cases h1 with
  |cons _ _ _ _ a1 h2=>
   cases h2 with
   |cons _ _ _ _ a2 h3=>
    cases h3;cases a1 with
    |agg _ _ b1=>
     cases b1 with
     |cons _ _ _ _ d1 b2=>
      cases b2 with
      |cons _ _ _ _ d2 b3=>cases b3;rw [d1.eW,d2.eW,a2.eW]
noncomputable def Ds:List (Int×Int×Int)->Option (List (Int×Int×Int×Int)):=letI:LP:=⟨aaI⟩;KK eh fK
theorem Tx:Ou Tryz.prog 75 [.i .i64,.i .i64,.i .i64] [.i .i64,.i .i64,.i .i64,.i .i64] Ds:=by
 letI:LP:=⟨aaI⟩
 intro a c l m w D5 hc ha;have D5:KK eh fK l=aaH m:=D5;unfold KK at D5;split at D5
 case isFalse=>cases D5
 rename_i hq;obtain ⟨h1,h2⟩:=hq;have H:uY Tryz.prog 141 ⟨[.i .i64,.i .i64,.i .i64,.i .i64],aaH 142,BC fK⟩:=uY.cls (r:=[.i .i64,.i .i64,.i .i64,.i .i64]) (TT.RR wj) (TT.D4 wj) jd agM rfl (by decide) Tryz.isAgg73 Tryz.sizeOf73
  (fun args w=>by
   cases hb:Tryz.f142.body with
   |none=>exact absurd hb (by intro h;cases h)
   |some c=>exact fT Tryz.func142 (by kernel_rfl) hb) (fun l m h=>S6 agR h)
 exact agP l (fun p q=>(eh p q).getD ((0,0),1)) m (BC fK) H D5 (Qj D5) (fun x hx w=>by
  obtain ⟨v,hv⟩:=h2 x hx;have:=aam hv w;rw [hv];exact this)
  (by have:=FL l;have:=Nat.mul_le_mul h1 h1;omega) h1 a c w hc (fun dM=>by obtain ⟨b,o,hb,hr⟩:=ha dM;exact ⟨b,o,hb,MS hr⟩)
noncomputable def DR:kQ:=fun k=>bif Nat.beq k 75 then aaH (.ja false (pMk [.i .i64,.i .i64,.i .i64] [.i .i64,.i .i64,.i .i64,.i .i64] Ds)) else bA k
theorem aan:DR 75=aaH (.ja false (pMk [.i .i64,.i .i64,.i .i64] [.i .i64,.i .i64,.i .i64,.i .i64] Ds)):=rfl
theorem AO {k:Nat} {e:Us} (h:DR k=aaH e):k=75/\e= .ja false (pMk [.i .i64,.i .i64,.i .i64] [.i .i64,.i .i64,.i .i64,.i .i64] Ds)\/bA k=aaH e:=by
 unfold DR at h;cases hb:Nat.beq k 75 with
 |true=>rw [hb] at h;injection h with h;exact .inl ⟨aa8 hb,h.symm⟩
 |false=>rw [hb] at h;exact .inr h
theorem agS:bA 75=aaI:=rfl
theorem kD (k:Nat) (e:Us) (h:bA k=aaH e):DR k=aaH e:=by
 unfold DR;cases hb:Nat.beq k 75 with
 |true=>rw [aa8 hb,agS] at h;cases h
 |false=>exact h
theorem aao:EY Tryz.prog (fun _=>true) DR:=fun f x h=>by
 rcases AO h with ⟨_,h⟩|h
 · cases h
 exact TT.RR wj f x h
theorem MZ:tg Tryz.prog DR:=⟨fun f k p h=>by
 rcases AO h with ⟨rfl,h⟩|h
 · cases h
   cases hb:Tryz.f75.body with
   |none=>exact absurd hb (by intro h;cases h)
   |some c=>exact ⟨rfl,Ak.mk Tryz.func75 (by kernel_rfl) hb Tx⟩
 · exact (TT.D4 wj).1 f k p h,fun f p h=>by
 rcases AO h with ⟨_,h⟩|h
 · cases h
 exact (TT.D4 wj).2 f p h⟩
theorem Ty:DR 4=aaH (.code x4):=kD _ _ ajp
theorem aap:DR 25=aaH (.code x25):=kD _ _ afX
end Go.Proofs.YtcljjehjppgijaaGreat
