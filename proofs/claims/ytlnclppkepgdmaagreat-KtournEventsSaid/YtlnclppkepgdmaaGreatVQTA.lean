/- meet.all: the walk of a range over all pairs of points, of slices.SortFunc behind it; the table with it. Printed by a program. -/
import Derived.Test.YtlnclppkepgdmaaGreatVQTF
import Derived.Test.YtlnclppkepgdmaaGreatVQXT
import Derived.Test.YtlnclppkepgdmaaGreatVQS2
import Derived.Test.YtlnclppkepgdmaaGreatVVm4
import Derived.OwnWalkIn
import Derived.TacticsInMore
import Derived.LoopNIn
import Derived.LoopIn
import Derived.Shelf.Abstract
import Derived.Maps.AppendAt
import Derived.Test.YtlnclppkepgdmaaGreatChecked
open Array renaming getElem?_eq_some_iff->pp,replicate_succ->v6,replicate_zero->ww
open Go.World renaming putObj_heap_other->rc,cell?->ut,size_alloc->NE,alloc_heap_new->PP
open Nat renaming le_refl->sp,le_trans->If,reduceAdd->abA,reduceSub->abZ,eq_of_beq_eq_true->ac2,lt_of_lt_of_le->ac6
open List renaming append_toArray->AC,size_toArray->Do,push_toArray->EQ,length_cons->IR,cons_append->M2,length_nil->UV,nil_append->ab0,length->acf
open Option renaming some->acg,none->ach
set_option maxRecDepth 100000
namespace Go.Proofs.YtlnclppkepgdmaaGreat
open Go.RowKit Go.Vm Go.Shelf
attribute [local go_sem] Oper.semAt_some
set_option maxRecDepth 100000 in
set_option maxHeartbeats 4000000 in
theorem abB (n:Nat) (hn:1<=n) (l:Nat) (Bf b o c:Nat) (xs:List oP) (cm:(acf xs)<=1000000) (J:List (oP×oP)->World->Prop)
 (hm: ∀pre W,J pre W->W.cell? ⟨Bf,0,ach⟩=acg (.slice (acg ⟨b,o,ach⟩) (acf xs) c)/\T9 W b o xs)
 (hg: ∀pre W W',J pre W->Below W.heap.size W W'->W'.drawn=W.drawn->J pre W')
 (hY: ∀pre x W,J pre W->pre++[x]<+:gC xs->YieldAt Fence.wide (n-1) Tryz.prog l #[N6 x.1,N6 x.2] W fun e W'=>e= .returned (.bool true)/\J (pre++[x]) W'/\aet 78 W W')
 (W:World) (h0:J [] W) (hc:(acf xs)<=c):
 CallsIn Fence.wide n Tryz.prog 228 #[.func (.yield l) #[] #[],.pointer (acg ⟨Bf,0,ach⟩)] W fun e W'=>(∃v,e= .returned v)/\J (gC xs) W':=by
 refine callsIn_of_wp Tryz.func228 rfl trivial ?_ rfl;simp only [Tryz.ntmps228,Do,IR,UV,abA,abZ,v6,ww,EQ,AC,ab0,M2];obtain ⟨hb0,hp0⟩:=hm _ _ h0
 gi_wp2
 gi_loopw [10] (fun i wr=> ∃k:Nat,k<=acf xs/\i= .int .i64 k/\J (tB xs k 0) wr)
  (fun i _=>acf xs- (intOf i).toNat)
 case atStart=>exact ⟨0,Nat.zero_le _,rfl,by rw [Rm];exact h0⟩
 case round=>
  obtain ⟨k,hk,rfl,hJs⟩:=hrel;obtain ⟨hbk,hpk⟩:=hm _ _ hJs
  by_cases dC:k<acf xs
  · obtain ⟨c0,c1,c2⟩:=hpk k dC
    obtain ⟨p,hp⟩: ∃p:oP,xs[k]! =p:=⟨_,rfl⟩;rw [hp] at c0 c1 c2;have hp:Hid (xs[k]! =p):=hp;have hba: ∀u,(wr.alloc u).cell? ⟨Bf,0,ach⟩=acg (.slice (acg ⟨b,o,ach⟩) (acf xs) c):=fun u=>wJ _ hbk
    obtain ⟨pv,hpv⟩: ∃pv:Obj,pv= .cells #[.int .i64 p.1,.int .i64 p.2.1,.int .i64 p.2.2] 78:=⟨_,rfl⟩;have hJ1:J (tB xs k 0) (wr.alloc pv):=hg _ _ _ hJs ((Below.refl _ wr).alloc (sp _) _) rfl;have hn1:(wr.alloc pv).heap[wr.heap.size]? =acg pv:=PP wr pv;rw [hpv] at hJ1 hn1;obtain ⟨B1,hB1⟩: ∃B1,wr.heap.size=B1:=⟨_,rfl⟩;rw [hB1] at hn1;clear hpv pv
    gi_wp2
    · obtain rfl:c=k+1:=by assumption
      gi_loopw [21] (fun jv w=>jv= .int .i64 0/\J (tB xs k 0) w) (fun _ _=>0)
      case atStart=>exact ⟨rfl,hJ1⟩
      case round=>
       obtain ⟨rfl,hJ2⟩:=hrel;have R7:(acf xs)- (k+1)=0:=by omega
       gi_wp2
       go_roundw
       case rel=>exact ⟨k+1,by omega,by simp,by rw [<- Gs,R7];exact hJ2⟩
       case measure=>simp [intOf];omega
    gi_loopw [21] (fun jv w=> ∃j:Nat,k+1+j<=acf xs/\jv= .int .i64 j/\J (tB xs k j) w/\w.heap[B1]? =acg (.cells #[.int .i64 p.1,.int .i64 p.2.1,.int .i64 p.2.2] 78 (0,0))) (fun jv _=>acf xs- (k+1) - (intOf jv).toNat)
    case atStart=>exact ⟨0,by omega,rfl,hJ1,hn1⟩
    case round=>
     obtain ⟨j,hj,rfl,hJ2,hn2⟩:=hrel;obtain ⟨hbj,hpj⟩:=hm _ _ hJ2
     by_cases hlj:k+1+j<acf xs
     · obtain ⟨d0,d1,d2⟩:=hpj (k+1+j) hlj
       obtain ⟨q,hq⟩: ∃q:oP,xs[k+1+j]! =q:=⟨_,rfl⟩;rw [hq,show o+(k+1+j)*3=o+(k+1)*3+j*3 by omega] at d0 d1 d2;have hnx:=Rn xs hlj;rw [hp.out,hq] at hnx;have HE:tB xs k j++[(p,q)]<+:gC xs:=by rw [hnx];exact T8 xs dC _
       obtain ⟨qv,hqv⟩: ∃qv:Obj,qv= .cells #[.int .i64 q.1,.int .i64 q.2.1,.int .i64 q.2.2] 78:=⟨_,rfl⟩;have hlb:B1<wr.heap.size:=(pp.1 hn2).1;have WN:(wr.alloc qv).heap[B1]? =_:=(Below.heap_alloc wr qv B1 hlb).trans hn2;have e0:(wr.alloc qv).cell? ⟨B1,0,ach⟩=acg (.int .i64 p.1):=by simp [ut,WN]
       have e1:(wr.alloc qv).cell? ⟨B1,1,ach⟩=acg (.int .i64 p.2.1):=by simp [ut,WN]
       have e2:(wr.alloc qv).cell? ⟨B1,2,ach⟩=acg (.int .i64 p.2.2):=by simp [ut,WN]
       obtain ⟨fn,tmps,assign,body,hy,hR⟩:=hY _ (p,q) (wr.alloc qv) (hg _ _ _ hJ2 ((Below.refl _ wr).alloc (sp _) _) rfl) HE;dsimp only [N6] at hy;rw [hqv] at WN e0 e1 e2 hy hR;have hq:Hid (xs[k+1+j]! =q):=hq;have hnx:Hid (tB xs k j++[(p,q)]=tB xs k (j+1)):=hnx;clear hqv qv HE hn2 hp
       gi_wp2
       refine hR.mono ?_;rintro e W3 ⟨rfl,hJ3,hk3⟩
       gi_wp2
       go_roundw
       case rel=>exact ⟨j+1,by omega,by simp,by rw [<- hnx.out];exact hJ3,hk3 _ _ _ WN⟩
       case measure=>simp [intOf];omega
     obtain rfl:j=acf xs- (k+1):=by omega
     gi_wp2
     go_roundw
     case rel=>exact ⟨k+1,by omega,by simp,by rw [<- Gs];exact hJ2⟩
     case measure=>simp [intOf];omega
  obtain rfl:k=(acf xs):=by omega
  gi_wp2
  go_end0
  exact ⟨⟨_,rfl⟩,by rw [T7] at hJs;exact hJs⟩
set_option maxRecDepth 100000 in
set_option maxHeartbeats 4000000 in
theorem UK (n:Nat) (l:Nat) (Bf c:Nat) (a:Option Addr) (J:List (oP×oP)->World->Prop) (W:World) (hm:W.cell? ⟨Bf,0,ach⟩=acg (.slice a 0 c)) (h0:J [] W):
 CallsIn Fence.wide n Tryz.prog 228 #[.func (.yield l) #[] #[],.pointer (acg ⟨Bf,0,ach⟩)] W fun e W'=>(∃v,e= .returned v)/\J [] W':=by
 refine callsIn_of_wp Tryz.func228 rfl trivial ?_ rfl;simp only [Tryz.ntmps228,Do,IR,UV,abA,abZ,v6,ww,EQ,AC,ab0,M2]
 gi_wp2
 gi_loopw [10] (fun i wr=>i= .int .i64 0/\J [] wr) (fun _ _=>0)
 case atStart=>exact ⟨rfl,h0⟩
 case round=>
  obtain ⟨rfl,hJs⟩:=hrel
  gi_wp2
  go_end0
  exact ⟨⟨_,rfl⟩,hJs⟩
theorem UL (n:Nat) (a:Option Addr) (len c:Nat) (w:World):CallsIn Fence.wide n Tryz.prog 162 #[.agg #[.slice a len c]] w fun e w'=>
 e= .returned (.func (.func 228) #[] #[.pointer (acg ⟨w.heap.size,0,ach⟩)])/\w'=w.alloc (.cells #[.slice a len c] 26):=by
 refine callsIn_of_wp Tryz.func162 rfl trivial ?_ rfl;simp only [Tryz.ntmps162,Do,IR,UV,abA,abZ,v6,ww,EQ,AC,ab0,M2]
 gi_wp2
 go_ret
 exact ⟨rfl,rfl⟩
theorem aiS:(Tryz.prog.info? 96).map (fun i=>(i.zero,i.size,i.bytes))=acg (acg (.agg #[.int .i64 0,.int .i64 0,.int .i64 0,.int .i64 0]),4,32):=by kernel_rfl
def MI (mt:oP->oP->(Int×Int)×Int) (xs:List oP) (a:Option Addr) (c:Nat) (w:World) (pre:List (oP×oP)) (W:World):Prop:=
 w.drawn<=W.drawn/\Below w.heap.size w W/\(∃v,Boxed W (w.heap.size+1) 92 v/\W.ownsRow w.heap.size 96 4 v (wK mt pre).length ((wK mt pre).flatMap mtV)/\(v= .slice ach 0 0↔wK mt pre=[]))/\
  Boxed W (w.heap.size+2) 26 (.slice a (acf xs) c)
theorem MI.put {mt:oP->oP->(Int×Int)×Int} {xs:List oP} {a:Option Addr} {c:Nat} {w W:World} {pre:List (oP×oP)} {l:Nat} {r:Loop} (o:Obj) (hl:W.heap[l]? =acg (.loop r)) (hw:w.heap.size+2<l) (h:MI mt xs a c w pre W):MI mt xs a c w pre (W.putObj l o):=by obtain ⟨h1,h2,⟨v,h3,h4,h5⟩,h6⟩:=h;exact ⟨h1,h2.trans (belowK_b (w:=w) (sp _) W l _ _ (by omega) hl rfl rfl),⟨v,h3.kept (grownBy_putObj' W l o) (by simp;omega),ownsRow_putObj h4 _ hl rfl,h5⟩,h6.kept (grownBy_putObj' W l o) (by simp;omega)⟩
theorem MI.gro {mt:oP->oP->(Int×Int)×Int} {xs:List oP} {a:Option Addr} {c:Nat} {w W W':World} {pre:List (oP×oP)} (h:MI mt xs a c w pre W) (hb:Below W.heap.size W W') (hd:W.drawn<=W'.drawn):MI mt xs a c w pre W':=by obtain ⟨h1,h2,⟨v,h3,h4,h5⟩,h6⟩:=h;exact ⟨If h1 hd,h2.trans (hb.mono h2.size),⟨v,tU h3 hb,h4.kept (pg hb) (by cases v.ownBlock<;>simp),h5⟩,tU h6 hb⟩
set_option maxRecDepth 100000 in
set_option maxHeartbeats 4000000 in
theorem aiT (xs : List oP) (mt : oP -> oP -> (Int × Int) × Int) (m : List xY) (fn : List (RT [.i .i64, .i .i64, .i .i64, .i .i64]) -> Option (List (RT [.i .i64, .i .i64, .i .i64, .i .i64])))
    (H : mE Tryz.prog 164 ⟨[.i .i64, .i .i64, .i .i64, .i .i64], acg 165, fn⟩) (DX : fn (wK mt (gC xs)) = acg m) (yg : (acf m) = (wK mt (gC xs)).length)
    (hmt : ∀ x ∈ gC xs, ∀ w, Calls Tryz.prog 163 #[N6 x.1, N6 x.2] w fun e w' => e = .returned (.tuple #[.agg #[.int .i64 (mt x.1 x.2).1.1, .int .i64 (mt x.1 x.2).1.2], .int .i64 (mt x.1 x.2).2]) /\ Below w.heap.size w w' /\ w.drawn <= w'.drawn)
    (cm : (gC xs).length <= 1000000) (hx : (acf xs) <= 1000) (a : Option Addr) (c : Nat) (w : World) (hc : (acf xs) <= c) (ha : xs ≠ [] -> ∃ b o, a = acg ⟨b, o, ach⟩ /\ T9 w b o xs) :
    Calls Tryz.prog 100 #[.agg #[.slice a (acf xs) c]] w fun x w' =>
      (m = [] /\ x = .returned (.slice ach 0 0) \/ m ≠ [] /\ ∃ g c' fin el, x = .returned (.slice (acg ⟨g, 0, ach⟩) (acf m) c') /\ w.heap.size <= g /\ w'.heap[g]? = acg (.cells fin el (0, 0)) /\
        (acf m) <= c' /\ c' * 4 <= fin.size /\ bz (fun k => fin[k]?) 0 4 (m.map (RT.pv [.i .i64, .i .i64, .i .i64, .i .i64]))) /\ Below w.heap.size w w' /\ w.drawn <= w'.drawn := by
  refine (callsIn_wide (n := 9)).1 ?_
  refine callsIn_of_wp_marks Tryz.func100 rfl trivial ?_ rfl
  simp only [Tryz.ntmps100, Do, IR, UV, abA, abZ, v6, ww, EQ, AC, ab0, M2]
  gi_wp2_with (refine ⟨trivial, ?_⟩; gi_at_call 162; refine (UL _ _ _ _ _).mono ?_; rintro e w' ⟨rfl, rfl⟩)
  obtain ⟨W0, hW0⟩ : ∃ W0, ((w.alloc (.cells #[.slice a (acf xs) c] 26)).alloc (.cells #[.slice ach 0 0] 92)).alloc (.cells #[.slice a (acf xs) c] 26) = W0 := ⟨_, rfl⟩
  have HD : W0.heap.size = w.heap.size + 3 := by rw [<- hW0]; simp
  have hI0 : MI mt xs a c w [] W0 := by
    rw [<- hW0]
    have b1 := Boxed.new (w.alloc (.cells #[.slice a (acf xs) c] 26)) 92 (.slice ach 0 0)
    have b2 := Boxed.new ((w.alloc (.cells #[.slice a (acf xs) c] 26)).alloc (.cells #[.slice ach 0 0] 92)) 26 (.slice a (acf xs) c)
    rw [NE] at b1
    rw [NE, NE] at b2
    exact ⟨sp _, (((Below.refl _ w).alloc (sp _) _).alloc (by simp) _).alloc (by simp; omega) _, ⟨_, b1.alloc _, World.ownsRow_nil _ _ _ _, by simp [wK]⟩, b2⟩
  rw [hW0]
  refine Rj rfl (by omega) (gf := 228) (lb := #[.pointer (acg ⟨w.heap.size + 1 + 1, 0, ach⟩)]) rfl trivial (enters_of Tryz.func228 (by kernel_rfl) rfl) (encs := fun x => #[N6 x.1, N6 x.2]) (fun _ => rfl) (gC xs) (MI mt xs a c w)
    (fun pre W r o hl h => h.put o hl (by omega)) (fun pre W W' h hb hd => h.gro hb (Nat.le_of_eq hd.symm)) hI0 (aet 78) (fun h k i cs z e => k i cs z (h i cs z e)) (fun {W W'} hb i cs z e => (hb.block i (pp.1 e).1).trans e)
    (fun {W r} o hl i cs z e => (rc (fun h => by subst h; rw [hl] at e; cases e)).trans e) ?seq
    (fun x a' W => ∃ b4 b5, W.heap[b4]? = acg (.cells #[.int .i64 x.1.1, .int .i64 x.1.2.1, .int .i64 x.1.2.2] 78 (0, 0)) /\ W.heap[b5]? = acg (.cells #[.int .i64 x.2.1, .int .i64 x.2.2.1, .int .i64 x.2.2.2] 78 (0, 0)) /\
      a' = { tmps := #[.agg #[.slice a (acf xs) c], .pointer (acg ⟨w.heap.size, 0, ach⟩), .slice ach 0 0, .pointer (acg ⟨w.heap.size + 1, 0, ach⟩), .pointer (acg ⟨b4, 0, ach⟩), .pointer (acg ⟨b5, 0, ach⟩), undef, undef, .agg #[.slice a (acf xs) c],
        .func (.func 228) #[] #[.pointer (acg ⟨w.heap.size + 1 + 1, 0, ach⟩)], N6 x.1, N6 x.2, undef, undef, undef, undef, undef, undef, undef, undef, undef, undef, undef, undef, undef, undef, undef, undef, undef, undef, undef, undef], defers := [] }) ?ax ?assign ?body ?done
  case ax =>
    rintro x a' W r o hl ⟨b4, b5, h4, h5, rfl⟩
    exact ⟨b4, b5, (rc (fun h => by subst h; rw [hl] at h4; cases h4)).trans h4, (rc (fun h => by subst h; rw [hl] at h5; cases h5)).trans h5, rfl⟩
  case seq =>
    intro l J W hm hg hY hJ0
    rcases Nat.eq_zero_or_pos (acf xs) with hz | AD
    · have : gC xs = [] := by unfold gC; rw [hz]; rfl
      rw [this]
      obtain ⟨_, _, _, hb⟩ := hm _ _ hJ0
      rw [hz] at hb
      exact UK _ l _ c a J W hb.cell hJ0
    obtain ⟨b, o, rfl, hp⟩ := ha (fun h => by rw [h] at AD; exact Nat.lt_irrefl _ AD)
    refine abB _ (by omega) l (w.heap.size + 1 + 1) b o c xs (by omega) J (fun pre W h => ?_) hg hY W hJ0 hc
    obtain ⟨_, h2, _, h4⟩ := hm _ _ h
    refine ⟨h4.cell, fun i hi => ?_⟩
    obtain ⟨p0, p1, p2⟩ := hp i hi
    have QI : b < w.heap.size := World.block_lt_of_cell? w _ p0
    exact ⟨(h2.cell (p := ⟨b, _, ach⟩) QI).trans p0, (h2.cell (p := ⟨b, _, ach⟩) QI).trans p1, (h2.cell (p := ⟨b, _, ach⟩) QI).trans p2⟩
  case assign =>
    intro l x W K dC hK
    simp only [N6] at hK ⊢
    gi_wp2
    have n1 := PP (W.alloc (.cells #[.int .i64 x.1.1, .int .i64 x.1.2.1, .int .i64 x.1.2.2] 78)) (.cells #[.int .i64 x.2.1, .int .i64 x.2.2.1, .int .i64 x.2.2.2] 78)
    rw [NE] at n1
    exact hK _ _ (((Below.refl _ W).alloc (sp _) _).alloc (by simp) _) rfl ⟨W.heap.size, W.heap.size + 1, (Below.heap_alloc _ _ _ (by simp)).trans (PP W _), n1, rfl⟩
  case body =>
    rintro l pre x a' W hi ⟨b4, b5, h4, h5, rfl⟩ HE aiU ⟨rl, hlp⟩
    obtain ⟨i0, SC, hz0, hz1, hz2⟩ := info_parts aiS
    obtain ⟨hd, hB, ⟨v, hv, mC, yj⟩, hf⟩ := hi
    have hm := hmt x (HE.subset (by simp))
    simp only [N6] at hm ⊢
    have e0 : W.cell? ⟨b4, 0, ach⟩ = acg (.int .i64 x.1.1) := by simp [ut, h4]
    have e1 : W.cell? ⟨b4, 1, ach⟩ = acg (.int .i64 x.1.2.1) := by simp [ut, h4]
    have e2 : W.cell? ⟨b4, 2, ach⟩ = acg (.int .i64 x.1.2.2) := by simp [ut, h4]
    have f0 : W.cell? ⟨b5, 0, ach⟩ = acg (.int .i64 x.2.1) := by simp [ut, h5]
    have f1 : W.cell? ⟨b5, 1, ach⟩ = acg (.int .i64 x.2.2.1) := by simp [ut, h5]
    have f2 : W.cell? ⟨b5, 2, ach⟩ = acg (.int .i64 x.2.2.2) := by simp [ut, h5]
    have hb4 : b4 < W.heap.size := (pp.1 h4).1
    have hb5 : b5 < W.heap.size := (pp.1 h5).1
    have MU := B9 mt pre
    have hpp : (acf pre) + 1 <= (gC xs).length := by have := HE.length_le; simpa using this
    gi_wp2_with (first
      | (refine ⟨trivial, ?_⟩; gi_at_call 163; refine (CallsIn.inRound l (callsIn_wide.2 (hm W))).mono ?_; rintro e W1 ⟨rfl, AH, We⟩
         obtain ⟨tv, htv⟩ : ∃ tv : Obj, tv = .cells #[.int .i64 (mt x.1 x.2).1.1, .int .i64 (mt x.1 x.2).1.2] 23 := ⟨_, rfl⟩
         have Sw : Boxed (W1.alloc tv) (w.heap.size + 1) 92 v := (tU hv AH).alloc tv
         have K6 := (mC.kept (pg AH) (by cases v.ownBlock <;> simp)).alloc tv
         have g0 := Sw.cell
         have g1 : (W1.alloc tv).cell? ⟨b4, 0, ach⟩ = acg (.int .i64 x.1.1) := wJ tv ((AH.cell (p := ⟨b4, 0, ach⟩) hb4).trans e0)
         have g2 : (W1.alloc tv).cell? ⟨b5, 0, ach⟩ = acg (.int .i64 x.2.1) := wJ tv ((AH.cell (p := ⟨b5, 0, ach⟩) hb5).trans f0)
         rw [htv] at Sw K6 g0 g1 g2)
      | (gi_at_builtin
         go_loud (
         refine A9 _ rfl _ _ 92 rfl w.heap.size 96 i0 _ 4 32 Tryz.underlying92 SC hz0 hz1 hz2 rfl (by decide) _ _ _ rfl (K6.alloc _) ⟨W1.heap.size + 1, 0, ach⟩ 1 1 [.int .i64 (mt x.1 x.2).1.1, .int .i64 (mt x.1 x.2).1.2, .int .i64 x.1.1, .int .i64 x.2.1] ?_ ?_ ?_ ?_ ?_ ?_ ?_ ?_
         · rfl
         · rfl
         · exact Ro (by simp) _ _
         · simp [Value.oneCell']
         · simp only [maxLen]; omega
         · omega
         · have := hB.size; have := AH.size; simp; omega
         intro v' w1 ac9 LR hdr
         obtain ⟨g', cP, rfl⟩ := ownsRow_succ ac9
         obtain ⟨hv3, hv4, hr4, hk4, arh⟩ := Sw.appended (by decide) K6 (by have := hB.size; have := AH.size; simp; omega) (by omega) ac9 LR
         have hkp := Rp (u := 78) (v' := .slice (acg ⟨g', 0, ach⟩) ((wK mt pre).length + 1) cP) Sw K6 LR (by decide) (by decide)
         have Bq := hv3.cell
         have hf1 := hv3.frozen)))
    · have hz : ((mt x.1 x.2).2 == 0) = true := by assumption
      have kW : KeepsOthers W W1 := .of_grownBy (pg AH) (fun j o e => by cases e)
      have k5 := (kW.trans (KeepsOthers.alloc W1 _)).trans hk4
      have hf2 := (tU hf AH).alloc (.cells #[.int .i64 (mt x.1 x.2).1.1, .int .i64 (mt x.1 x.2).1.2] 23)
      refine ⟨(k5.same _ _ aiU rfl).trans aiU.symm, (k5.same _ _ hlp rfl).trans hlp.symm, ⟨If hd (If We hdr), (hB.trans ((AH.mono hB.size).trans ((Below.refl _ W1).alloc (If hB.size AH.size) _))).trans arh, ⟨_, hv4, ?_, ?_⟩, ?_⟩, fun i cs z hi => hkp i cs z ((Below.heap_alloc _ _ _ ?_).trans ((AH.block i (pp.1 hi).1).trans hi))⟩
      · rw [Dm, hz, lc, List.length_append, List.flatMap_append]
        exact hr4
      · rw [Dm, hz]; simp
      · exact ((hf2.alloc _).kept LR (hf2.not_row (by decide) K6)).other (by omega) _
      exact ac6 (pp.1 hi).1 AH.size
    have hz : ((mt x.1 x.2).2 == 0) = false := by assumption
    have KX := ((AH.trans ((Below.refl _ W1).alloc AH.size (.cells #[.int .i64 (mt x.1 x.2).1.1, .int .i64 (mt x.1 x.2).1.2] 23))))
    have ee : wK mt (pre ++ [x]) = wK mt pre := by rw [Dm, hz, lm, List.append_nil]
    refine ⟨KX.block _ (pp.1 aiU).1, KX.block _ (pp.1 hlp).1, ?_, fun i cs z hi => (KX.block i (pp.1 hi).1).trans hi⟩
    have : MI mt xs a c w pre W := ⟨hd, hB, ⟨v, hv, mC, yj⟩, hf⟩
    have := this.gro KX We
    unfold MI at this ⊢
    rw [ee]
    exact this
  case done =>
    intro W hi hD
    rw [HD] at hD
    obtain ⟨hd, hB, ⟨v, hv, mC, yj⟩, hf⟩ := hi
    have Bq := hv.cell
    obtain ⟨ms, hms⟩ : ∃ ms, ms = wK mt (gC xs) := ⟨_, rfl⟩
    have avy : (acf ms) <= 1000000 := by rw [hms]; exact If (B9 mt _) cm
    rw [<- hms] at mC yj DX yg
    have ac' := mC
    rcases mC.2 with ⟨rfl, R9⟩ | ⟨g, cap, cur, rfl, hg, amo, amp, zR, rj, Br⟩
    · have hm0 : m = [] := List.length_eq_zero_iff.1 (yg.trans R9)
      have hs := H.none_ ach 0 W
      subst hm0
      clear hms yj R9 mC ac' yg DX
      gi_wp2_with (refine ⟨trivial, ?_⟩; gi_at_call 164; refine (callsIn_wide.2 hs).mono ?_; rintro e W1 ⟨rfl, rfl⟩)
      refine ⟨by simp, .inl ⟨_, _, rfl, run_takeDeferred hD, ?_⟩⟩
      exact ⟨_, results_tmp rfl _ _ _, rfl, hB.trans (belowK_b (w := w) (sp _) W1 _ _ _ (by omega) hD rfl rfl), hd⟩
    have ec : ms ≠ [] := fun h => by have := yj.2 h; cases this
    have AD : 0 < (acf ms) := by cases ms; exact absurd rfl ec; simp
    have Jd : m ≠ [] := fun h => by rw [h] at yg; simp at yg; omega
    have hg1 : w.heap.size + 1 ≠ g := fun h => (hv.not_row (by decide) mC) (by rw [h]; rfl)
    have hg3 : w.heap.size + 3 ≠ g := fun h => by rw [h, amo] at hD; cases hD
    have hs := H.some_ g 0 cap ms m cur 96 W AD amp (by omega) DX yg amo (Rq Br) (by show 0 + (acf ms) * 4 <= _; omega)
    have ari : w.heap.size + 3 < W.heap.size := (pp.1 hD).1
    clear hms yj mC ac' DX Br hmt cm
    gi_wp2_with (refine ⟨trivial, ?_⟩; gi_at_call 164; refine (callsIn_wide.2 hs).mono ?_; rintro e W1 ⟨rfl, ⟨fin, q1, q2, q3, _⟩, q4, q5, q6, q7, q8⟩; have Ht : W1.cell? ⟨w.heap.size + 1, 0, ach⟩ = _ := (World.cell?_of_block (a := ⟨w.heap.size + 1, 0, ach⟩) (q4 _ hv.lt hg1)).trans Bq)
    have hD1 : W1.heap[w.heap.size + 3]? = _ := (q4 _ ari hg3).trans hD
    refine ⟨by simp, .inl ⟨_, _, rfl, run_takeDeferred hD1, ?_⟩⟩
    refine ⟨_, results_tmp rfl _ _ _, .inr ⟨Jd, g, cap, fin, 96, by rw [yg]; rfl, hg, (rc hg3.symm).trans q2, by omega, by rw [q1, rj]; exact sp _, q3⟩, ?_, If hd q7.dr⟩
    exact (hB.trans ⟨q6, q7.eq, q8, q5, fun k hk => q4 k (ac6 hk hB.size) (by omega)⟩).trans (belowK_b (w := w) (sp _) W1 _ _ _ (by omega) hD1 rfl rfl)
theorem aiV [LP]: ∀x y v,fJ x y=acg v->T5 bB 165 [.i .i64,.i .i64,.i .i64,.i .i64] x y v:=fun x y _ h=>
 cN.alh ap8.ok PN rfl rfl (a:=(x,y)) (ps:=[.agg (RT.pv [.i .i64,.i .i64,.i .i64,.i .i64] x),.agg (RT.pv [.i .i64,.i .i64,.i .i64,.i .i64] y)]) h rfl rfl rfl rfl
theorem abC [LP] {p q:oP} {v:(Int×Int)×Int} (h:eC p q=acg v) (w:World):Calls Tryz.prog 163 #[N6 p,N6 q] w fun e w'=>
 e= .returned (.tuple #[.agg #[.int .i64 v.1.1,.int .i64 v.1.2],.int .i64 v.2])/\Below w.heap.size w w'/\w.drawn<=w'.drawn:=by
 obtain ⟨n,s,z,bP⟩:=cN.alh alO.ok PM rfl rfl (a:=(p,q)) (ps:=[.agg (RT.pv [.i .i64,.i .i64,.i .i64] p),.agg (RT.pv [.i .i64,.i .i64,.i .i64] q)]) (v:= .bY [.agg [.int .i64 v.1.1,.int .i64 v.1.2],.int .i64 v.2]) h rfl rfl rfl rfl;refine (C4 (TT.S9 wL) (TT.EN wL) jj bP (im:=fun _=>ach) (us:=[N6 p,N6 q]) (fun _ _ h=>by cases h) (.cons _ _ _ _ (.agg _ _ (RT.T4 [.i .i64,.i .i64,.i .i64] p)) (.cons _ _ _ _ (.agg _ _ (RT.T4 [.i .i64,.i .i64,.i .i64] q)) .nil))).mono fun e w' ⟨u,he,⟨eb,bn,hv,_⟩,ho,ht,hp,nW,qV⟩=>⟨?_,⟨ho,ht.eq,hp,nW,qV⟩,ht.dr⟩
 rw [he];cases hv with
 |bY _ _ h1=>
  cases h1 with
  |cons _ _ _ _ a1 h2=>
   cases h2 with
   |cons _ _ _ _ a2 h3=>
    cases h3;cases a1 with
    |agg _ _ b1=>
     cases b1 with
     |cons _ _ _ _ d1 b2=>
      cases b2 with
      |cons _ _ _ _ d2 b3=>cases b3;rw [d1.eZ,d2.eZ,a2.eZ]
noncomputable def D9:List (Int×Int×Int)->Option (List (Int×Int×Int×Int)):=letI:LP:=⟨ach⟩;LU eC fJ
theorem UM:PG Tryz.prog 100 [.i .i64,.i .i64,.i .i64] [.i .i64,.i .i64,.i .i64,.i .i64] D9:=by
 letI:LP:=⟨ach⟩
 intro a c l m w DX hc ha;have DX:LU eC fJ l=acg m:=DX;unfold LU at DX;split at DX
 case isFalse=>cases DX
 rename_i hq;obtain ⟨h1,h2⟩:=hq;have H:mE Tryz.prog 164 ⟨[.i .i64,.i .i64,.i .i64,.i .i64],acg 165,B' fJ⟩:=mE.cls (r:=[.i .i64,.i .i64,.i .i64,.i .i64]) (TT.S9 wL) (TT.EN wL) jj aiQ rfl (by decide) Tryz.isAgg96 Tryz.sizeOf96
  (fun args w=>by
   cases hb:Tryz.f165.body with
   |none=>exact absurd hb (by intro h;cases h)
   |some c=>exact fW Tryz.func165 (by kernel_rfl) hb) (fun l m h=>Ua aiV h)
 exact aiT l (fun p q=>(eC p q).getD ((0,0),1)) m (B' fJ) H DX (Rr DX) (fun x hx w=>by
  obtain ⟨v,hv⟩:=h2 x hx;have:=abC hv w;rw [hv];exact this)
  (by have:=Gt l;have:=Nat.mul_le_mul h1 h1;omega) h1 a c w hc (fun ec=>by obtain ⟨b,o,hb,hr⟩:=ha ec;exact ⟨b,o,hb,N7 hr⟩)
noncomputable def EA:kS:=fun k=>bif Nat.beq k 100 then acg (.jg false (pMk [.i .i64,.i .i64,.i .i64] [.i .i64,.i .i64,.i .i64,.i .i64] D9)) else bB k
theorem UN:EA 100=acg (.jg false (pMk [.i .i64,.i .i64,.i .i64] [.i .i64,.i .i64,.i .i64,.i .i64] D9)):=rfl
theorem Be {k:Nat} {e:VB} (h:EA k=acg e):k=100/\e= .jg false (pMk [.i .i64,.i .i64,.i .i64] [.i .i64,.i .i64,.i .i64,.i .i64] D9)\/bB k=acg e:=by
 unfold EA at h;cases hb:Nat.beq k 100 with
 |true=>rw [hb] at h;injection h with h;exact .inl ⟨ac2 hb,h.symm⟩
 |false=>rw [hb] at h;exact .inr h
theorem aiW:bB 100=ach:=rfl
theorem kG (k:Nat) (e:VB) (h:bB k=acg e):EA k=acg e:=by
 unfold EA;cases hb:Nat.beq k 100 with
 |true=>rw [ac2 hb,aiW] at h;cases h
 |false=>exact h
theorem abD:FJ Tryz.prog (fun _=>true) EA:=fun f x h=>by
 rcases Be h with ⟨_,h⟩|h
 · cases h
 exact TT.S9 wL f x h
theorem Oc:tL Tryz.prog EA:=⟨fun f k p h=>by
 rcases Be h with ⟨rfl,h⟩|h
 · cases h
   cases hb:Tryz.f100.body with
   |none=>exact absurd hb (by intro h;cases h)
   |some c=>exact ⟨rfl,AM.mk Tryz.func100 (by kernel_rfl) hb UM⟩
 · exact (TT.EN wL).1 f k p h,fun f p h=>by
 rcases Be h with ⟨_,h⟩|h
 · cases h
 exact (TT.EN wL).2 f p h⟩
theorem UO:EA 8=acg (.code x8):=kG _ _ alm
theorem abE:EA 43=acg (.code x43):=kG _ _ ahR
end Go.Proofs.YtlnclppkepgdmaaGreat
