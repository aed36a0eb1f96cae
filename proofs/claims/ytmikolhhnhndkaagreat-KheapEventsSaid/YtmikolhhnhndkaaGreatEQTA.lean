/- meet.all: the walk of a range over all pairs of points, of slices.SortFunc behind it; the table with it. Printed by a program. -/
import Derived.Test.YtmikolhhnhndkaaGreatEQTF
import Derived.Test.YtmikolhhnhndkaaGreatEQXT
import Derived.Test.YtmikolhhnhndkaaGreatEQS1
import Derived.Test.YtmikolhhnhndkaaGreatEVm4
import Derived.OwnWalkIn
import Derived.TacticsInMore
import Derived.LoopNIn
import Derived.LoopIn
import Derived.Shelf.Abstract
import Derived.Maps.AppendAt
import Derived.Test.YtmikolhhnhndkaaGreatChecked
open Array renaming getElem?_eq_some_iff->ut,replicate_succ->Do,replicate_zero->EQ
open Go.World renaming putObj_heap_other->v6,cell?->AC,size_alloc->ac6,alloc_heap_new->acl
open Nat renaming le_refl->ww,le_trans->NE,reduceAdd->ad2,reduceSub->ad3,eq_of_beq_eq_true->ad4,lt_of_lt_of_le->ad5
open List renaming append_toArray->If,size_toArray->IR,push_toArray->M2,length_cons->PP,cons_append->UV,length_nil->ad0,nil_append->ad1,length->ad6
open Option renaming some->ad7,none->ad8
set_option maxRecDepth 100000
namespace Go.Proofs.YtmikolhhnhndkaaGreat
open Go.RowKit Go.Vm Go.Shelf
attribute [local go_sem] Oper.semAt_some
set_option maxRecDepth 100000 in
set_option maxHeartbeats 4000000 in
theorem Ww (n:Nat) (hn:1<=n) (l:Nat) (Bf b o c:Nat) (xs:List nC) (bU:(ad6 xs)<=1000000) (J:List (nC×nC)->World->Prop)
 (hm: ∀pre W,J pre W->W.cell? ⟨Bf,0,ad8⟩=ad7 (.slice (ad7 ⟨b,o,ad8⟩) (ad6 xs) c)/\QY W b o xs)
 (hg: ∀pre W W',J pre W->Below W.heap.size W W'->W'.drawn=W.drawn->J pre W')
 (hY: ∀pre x W,J pre W->pre++[x]<+:fN xs->YieldAt Fence.wide (n-1) Tryz.prog l #[Lp x.1,Lp x.2] W fun e W'=>e= .returned (.bool true)/\J (pre++[x]) W'/\Zf 85 W W')
 (W:World) (h0:J [] W) (hc:(ad6 xs)<=c):
 CallsIn Fence.wide n Tryz.prog 111 #[.func (.yield l) #[] #[],.pointer (ad7 ⟨Bf,0,ad8⟩)] W fun e W'=>(∃v,e= .returned v)/\J (fN xs) W':=by
 refine callsIn_of_wp Tryz.func111 rfl trivial ?_ rfl;simp only [Tryz.ntmps111,IR,PP,ad0,ad2,ad3,Do,EQ,M2,If,ad1,UV];obtain ⟨hb0,hp0⟩:=hm _ _ h0
 gi_wp2
 gi_loopw [10] (fun i wr=> ∃k:Nat,k<=ad6 xs/\i= .int .i64 k/\J (rA xs k 0) wr)
  (fun i _=>ad6 xs- (intOf i).toNat)
 case atStart=>exact ⟨0,Nat.zero_le _,rfl,by rw [Ot];exact h0⟩
 case round=>
  obtain ⟨k,hk,rfl,hJs⟩:=hrel;obtain ⟨hbk,hpk⟩:=hm _ _ hJs
  by_cases cY:k<ad6 xs
  · obtain ⟨c0,c1,c2⟩:=hpk k cY
    obtain ⟨p,hp⟩: ∃p:nC,xs[k]! =p:=⟨_,rfl⟩;rw [hp] at c0 c1 c2;have hp:Hid (xs[k]! =p):=hp;have hba: ∀u,(wr.alloc u).cell? ⟨Bf,0,ad8⟩=ad7 (.slice (ad7 ⟨b,o,ad8⟩) (ad6 xs) c):=fun u=>uC _ hbk
    obtain ⟨pv,hpv⟩: ∃pv:Obj,pv= .cells #[.int .i64 p.1,.int .i64 p.2.1,.int .i64 p.2.2] 85:=⟨_,rfl⟩;have hJ1:J (rA xs k 0) (wr.alloc pv):=hg _ _ _ hJs ((Below.refl _ wr).alloc (ww _) _) rfl;have hn1:(wr.alloc pv).heap[wr.heap.size]? =ad7 pv:=acl wr pv;rw [hpv] at hJ1 hn1;obtain ⟨B1,hB1⟩: ∃B1,wr.heap.size=B1:=⟨_,rfl⟩;rw [hB1] at hn1;clear hpv pv
    gi_wp2
    · obtain rfl:c=k+1:=by assumption
      gi_loopw [21] (fun jv w=>jv= .int .i64 0/\J (rA xs k 0) w) (fun _ _=>0)
      case atStart=>exact ⟨rfl,hJ1⟩
      case round=>
       obtain ⟨rfl,hJ2⟩:=hrel;have OX:(ad6 xs)- (k+1)=0:=by omega
       gi_wp2
       go_roundw
       case rel=>exact ⟨k+1,by omega,by simp,by rw [<- Ek,OX];exact hJ2⟩
       case measure=>simp [intOf];omega
    gi_loopw [21] (fun jv w=> ∃j:Nat,k+1+j<=ad6 xs/\jv= .int .i64 j/\J (rA xs k j) w/\w.heap[B1]? =ad7 (.cells #[.int .i64 p.1,.int .i64 p.2.1,.int .i64 p.2.2] 85 (0,0))) (fun jv _=>ad6 xs- (k+1) - (intOf jv).toNat)
    case atStart=>exact ⟨0,by omega,rfl,hJ1,hn1⟩
    case round=>
     obtain ⟨j,hj,rfl,hJ2,hn2⟩:=hrel;obtain ⟨hbj,hpj⟩:=hm _ _ hJ2
     by_cases hlj:k+1+j<ad6 xs
     · obtain ⟨d0,d1,d2⟩:=hpj (k+1+j) hlj
       obtain ⟨q,hq⟩: ∃q:nC,xs[k+1+j]! =q:=⟨_,rfl⟩;rw [hq,show o+(k+1+j)*3=o+(k+1)*3+j*3 by omega] at d0 d1 d2;have YA:=Ou xs hlj;rw [hp.out,hq] at YA;have Fh:rA xs k j++[(p,q)]<+:fN xs:=by rw [YA];exact QX xs cY _
       obtain ⟨qv,hqv⟩: ∃qv:Obj,qv= .cells #[.int .i64 q.1,.int .i64 q.2.1,.int .i64 q.2.2] 85:=⟨_,rfl⟩;have Yh:B1<wr.heap.size:=(ut.1 hn2).1;have TK:(wr.alloc qv).heap[B1]? =_:=(Below.heap_alloc wr qv B1 Yh).trans hn2;have e0:(wr.alloc qv).cell? ⟨B1,0,ad8⟩=ad7 (.int .i64 p.1):=by simp [AC,TK]
       have e1:(wr.alloc qv).cell? ⟨B1,1,ad8⟩=ad7 (.int .i64 p.2.1):=by simp [AC,TK]
       have e2:(wr.alloc qv).cell? ⟨B1,2,ad8⟩=ad7 (.int .i64 p.2.2):=by simp [AC,TK]
       obtain ⟨fn,tmps,assign,body,hy,hR⟩:=hY _ (p,q) (wr.alloc qv) (hg _ _ _ hJ2 ((Below.refl _ wr).alloc (ww _) _) rfl) Fh;dsimp only [Lp] at hy;rw [hqv] at TK e0 e1 e2 hy hR;have hq:Hid (xs[k+1+j]! =q):=hq;have YA:Hid (rA xs k j++[(p,q)]=rA xs k (j+1)):=YA;clear hqv qv Fh hn2 hp
       gi_wp2
       refine hR.mono ?_;rintro e W3 ⟨rfl,hJ3,hk3⟩
       gi_wp2
       go_roundw
       case rel=>exact ⟨j+1,by omega,by simp,by rw [<- YA.out];exact hJ3,hk3 _ _ _ TK⟩
       case measure=>simp [intOf];omega
     obtain rfl:j=ad6 xs- (k+1):=by omega
     gi_wp2
     go_roundw
     case rel=>exact ⟨k+1,by omega,by simp,by rw [<- Ek];exact hJ2⟩
     case measure=>simp [intOf];omega
  obtain rfl:k=(ad6 xs):=by omega
  gi_wp2
  go_end0
  exact ⟨⟨_,rfl⟩,by rw [QW] at hJs;exact hJs⟩
set_option maxRecDepth 100000 in
set_option maxHeartbeats 4000000 in
theorem Rp (n:Nat) (l:Nat) (Bf c:Nat) (a:Option Addr) (J:List (nC×nC)->World->Prop) (W:World) (hm:W.cell? ⟨Bf,0,ad8⟩=ad7 (.slice a 0 c)) (h0:J [] W):
 CallsIn Fence.wide n Tryz.prog 111 #[.func (.yield l) #[] #[],.pointer (ad7 ⟨Bf,0,ad8⟩)] W fun e W'=>(∃v,e= .returned v)/\J [] W':=by
 refine callsIn_of_wp Tryz.func111 rfl trivial ?_ rfl;simp only [Tryz.ntmps111,IR,PP,ad0,ad2,ad3,Do,EQ,M2,If,ad1,UV]
 gi_wp2
 gi_loopw [10] (fun i wr=>i= .int .i64 0/\J [] wr) (fun _ _=>0)
 case atStart=>exact ⟨rfl,h0⟩
 case round=>
  obtain ⟨rfl,hJs⟩:=hrel
  gi_wp2
  go_end0
  exact ⟨⟨_,rfl⟩,hJs⟩
theorem Rq (n:Nat) (a:Option Addr) (len c:Nat) (w:World):CallsIn Fence.wide n Tryz.prog 72 #[.agg #[.slice a len c]] w fun e w'=>
 e= .returned (.func (.func 111) #[] #[.pointer (ad7 ⟨w.heap.size,0,ad8⟩)])/\w'=w.alloc (.cells #[.slice a len c] 26):=by
 refine callsIn_of_wp Tryz.func72 rfl trivial ?_ rfl;simp only [Tryz.ntmps72,IR,PP,ad0,ad2,ad3,Do,EQ,M2,If,ad1,UV]
 gi_wp2
 go_ret
 exact ⟨rfl,rfl⟩
theorem adh:(Tryz.prog.info? 57).map (fun i=>(i.zero,i.size,i.bytes))=ad7 (ad7 (.agg #[.int .i64 0,.int .i64 0,.int .i64 0,.int .i64 0]),4,32):=by kernel_rfl
def MI (mt:nC->nC->(Int×Int)×Int) (xs:List nC) (a:Option Addr) (c:Nat) (w:World) (pre:List (nC×nC)) (W:World):Prop:=
 w.drawn<=W.drawn/\Below w.heap.size w W/\(∃v,Boxed W (w.heap.size+1) 52 v/\W.ownsRow w.heap.size 57 4 v (uE mt pre).length ((uE mt pre).flatMap X1)/\(v= .slice ad8 0 0↔uE mt pre=[]))/\
  Boxed W (w.heap.size+2) 26 (.slice a (ad6 xs) c)
theorem MI.put {mt:nC->nC->(Int×Int)×Int} {xs:List nC} {a:Option Addr} {c:Nat} {w W:World} {pre:List (nC×nC)} {l:Nat} {r:Loop} (o:Obj) (hl:W.heap[l]? =ad7 (.loop r)) (hw:w.heap.size+2<l) (h:MI mt xs a c w pre W):MI mt xs a c w pre (W.putObj l o):=by obtain ⟨h1,h2,⟨v,h3,h4,h5⟩,h6⟩:=h;exact ⟨h1,h2.trans (belowK_b (w:=w) (ww _) W l _ _ (by omega) hl rfl rfl),⟨v,h3.kept (grownBy_putObj' W l o) (by simp;omega),ownsRow_putObj h4 _ hl rfl,h5⟩,h6.kept (grownBy_putObj' W l o) (by simp;omega)⟩
theorem MI.gro {mt:nC->nC->(Int×Int)×Int} {xs:List nC} {a:Option Addr} {c:Nat} {w W W':World} {pre:List (nC×nC)} (h:MI mt xs a c w pre W) (hb:Below W.heap.size W W') (hd:W.drawn<=W'.drawn):MI mt xs a c w pre W':=by obtain ⟨h1,h2,⟨v,h3,h4,h5⟩,h6⟩:=h;exact ⟨NE h1 hd,h2.trans (hb.mono h2.size),⟨v,rS h3 hb,h4.kept (nT hb) (by cases v.ownBlock<;>simp),h5⟩,rS h6 hb⟩
set_option maxRecDepth 100000 in
set_option maxHeartbeats 4000000 in
theorem adi (xs : List nC) (mt : nC -> nC -> (Int × Int) × Int) (m : List uD) (fn : List (RT [.i .i64, .i .i64, .i .i64, .i .i64]) -> Option (List (RT [.i .i64, .i .i64, .i .i64, .i .i64])))
    (H : tp Tryz.prog 74 ⟨[.i .i64, .i .i64, .i .i64, .i .i64], ad7 75, fn⟩) (CN : fn (uE mt (fN xs)) = ad7 m) (xS : (ad6 m) = (uE mt (fN xs)).length)
    (hmt : ∀ x ∈ fN xs, ∀ w, Calls Tryz.prog 73 #[Lp x.1, Lp x.2] w fun e w' => e = .returned (.tuple #[.agg #[.int .i64 (mt x.1 x.2).1.1, .int .i64 (mt x.1 x.2).1.2], .int .i64 (mt x.1 x.2).2]) /\ Below w.heap.size w w' /\ w.drawn <= w'.drawn)
    (bU : (fN xs).length <= 1000000) (hx : (ad6 xs) <= 1000) (a : Option Addr) (c : Nat) (w : World) (hc : (ad6 xs) <= c) (ha : xs ≠ [] -> ∃ b o, a = ad7 ⟨b, o, ad8⟩ /\ QY w b o xs) :
    Calls Tryz.prog 39 #[.agg #[.slice a (ad6 xs) c]] w fun x w' =>
      (m = [] /\ x = .returned (.slice ad8 0 0) \/ m ≠ [] /\ ∃ g c' fin el, x = .returned (.slice (ad7 ⟨g, 0, ad8⟩) (ad6 m) c') /\ w.heap.size <= g /\ w'.heap[g]? = ad7 (.cells fin el (0, 0)) /\
        (ad6 m) <= c' /\ c' * 4 <= fin.size /\ bz (fun k => fin[k]?) 0 4 (m.map (RT.pv [.i .i64, .i .i64, .i .i64, .i .i64]))) /\ Below w.heap.size w w' /\ w.drawn <= w'.drawn := by
  refine (callsIn_wide (n := 9)).1 ?_
  refine callsIn_of_wp_marks Tryz.func39 rfl trivial ?_ rfl
  simp only [Tryz.ntmps39, IR, PP, ad0, ad2, ad3, Do, EQ, M2, If, ad1, UV]
  gi_wp2_with (refine ⟨trivial, ?_⟩; gi_at_call 72; refine (Rq _ _ _ _ _).mono ?_; rintro e w' ⟨rfl, rfl⟩)
  obtain ⟨W0, hW0⟩ : ∃ W0, ((w.alloc (.cells #[.slice a (ad6 xs) c] 26)).alloc (.cells #[.slice ad8 0 0] 52)).alloc (.cells #[.slice a (ad6 xs) c] 26) = W0 := ⟨_, rfl⟩
  have Fg : W0.heap.size = w.heap.size + 3 := by rw [<- hW0]; simp
  have hI0 : MI mt xs a c w [] W0 := by
    rw [<- hW0]
    have b1 := Boxed.new (w.alloc (.cells #[.slice a (ad6 xs) c] 26)) 52 (.slice ad8 0 0)
    have b2 := Boxed.new ((w.alloc (.cells #[.slice a (ad6 xs) c] 26)).alloc (.cells #[.slice ad8 0 0] 52)) 26 (.slice a (ad6 xs) c)
    rw [ac6] at b1
    rw [ac6, ac6] at b2
    exact ⟨ww _, (((Below.refl _ w).alloc (ww _) _).alloc (by simp) _).alloc (by simp; omega) _, ⟨_, b1.alloc _, World.ownsRow_nil _ _ _ _, by simp [uE]⟩, b2⟩
  rw [hW0]
  refine On rfl (by omega) (gf := 111) (lb := #[.pointer (ad7 ⟨w.heap.size + 1 + 1, 0, ad8⟩)]) rfl trivial (enters_of Tryz.func111 (by kernel_rfl) rfl) (encs := fun x => #[Lp x.1, Lp x.2]) (fun _ => rfl) (fN xs) (MI mt xs a c w)
    (fun pre W r o hl h => h.put o hl (by omega)) (fun pre W W' h hb hd => h.gro hb (Nat.le_of_eq hd.symm)) hI0 (Zf 85) (fun h k i cs z e => k i cs z (h i cs z e)) (fun {W W'} hb i cs z e => (hb.block i (ut.1 e).1).trans e)
    (fun {W r} o hl i cs z e => (v6 (fun h => by subst h; rw [hl] at e; cases e)).trans e) ?seq
    (fun x a' W => ∃ b4 b5, W.heap[b4]? = ad7 (.cells #[.int .i64 x.1.1, .int .i64 x.1.2.1, .int .i64 x.1.2.2] 85 (0, 0)) /\ W.heap[b5]? = ad7 (.cells #[.int .i64 x.2.1, .int .i64 x.2.2.1, .int .i64 x.2.2.2] 85 (0, 0)) /\
      a' = { tmps := #[.agg #[.slice a (ad6 xs) c], .pointer (ad7 ⟨w.heap.size, 0, ad8⟩), .slice ad8 0 0, .pointer (ad7 ⟨w.heap.size + 1, 0, ad8⟩), .pointer (ad7 ⟨b4, 0, ad8⟩), .pointer (ad7 ⟨b5, 0, ad8⟩), undef, undef, .agg #[.slice a (ad6 xs) c],
        .func (.func 111) #[] #[.pointer (ad7 ⟨w.heap.size + 1 + 1, 0, ad8⟩)], Lp x.1, Lp x.2, undef, undef, undef, undef, undef, undef, undef, undef, undef, undef, undef, undef, undef, undef, undef, undef, undef, undef, undef, undef], defers := [] }) ?ax ?assign ?body ?done
  case ax =>
    rintro x a' W r o hl ⟨b4, b5, h4, h5, rfl⟩
    exact ⟨b4, b5, (v6 (fun h => by subst h; rw [hl] at h4; cases h4)).trans h4, (v6 (fun h => by subst h; rw [hl] at h5; cases h5)).trans h5, rfl⟩
  case seq =>
    intro l J W hm hg hY hJ0
    rcases Nat.eq_zero_or_pos (ad6 xs) with hz | yC
    · have : fN xs = [] := by unfold fN; rw [hz]; rfl
      rw [this]
      obtain ⟨_, _, _, hb⟩ := hm _ _ hJ0
      rw [hz] at hb
      exact Rp _ l _ c a J W hb.cell hJ0
    obtain ⟨b, o, rfl, hp⟩ := ha (fun h => by rw [h] at yC; exact Nat.lt_irrefl _ yC)
    refine Ww _ (by omega) l (w.heap.size + 1 + 1) b o c xs (by omega) J (fun pre W h => ?_) hg hY W hJ0 hc
    obtain ⟨_, h2, _, h4⟩ := hm _ _ h
    refine ⟨h4.cell, fun i hi => ?_⟩
    obtain ⟨p0, p1, p2⟩ := hp i hi
    have NM : b < w.heap.size := World.block_lt_of_cell? w _ p0
    exact ⟨(h2.cell (p := ⟨b, _, ad8⟩) NM).trans p0, (h2.cell (p := ⟨b, _, ad8⟩) NM).trans p1, (h2.cell (p := ⟨b, _, ad8⟩) NM).trans p2⟩
  case assign =>
    intro l x W K cY hK
    simp only [Lp] at hK ⊢
    gi_wp2
    have n1 := acl (W.alloc (.cells #[.int .i64 x.1.1, .int .i64 x.1.2.1, .int .i64 x.1.2.2] 85)) (.cells #[.int .i64 x.2.1, .int .i64 x.2.2.1, .int .i64 x.2.2.2] 85)
    rw [ac6] at n1
    exact hK _ _ (((Below.refl _ W).alloc (ww _) _).alloc (by simp) _) rfl ⟨W.heap.size, W.heap.size + 1, (Below.heap_alloc _ _ _ (by simp)).trans (acl W _), n1, rfl⟩
  case body =>
    rintro l pre x a' W hi ⟨b4, b5, h4, h5, rfl⟩ Fh adj ⟨rl, hlp⟩
    obtain ⟨i0, Pr, hz0, hz1, hz2⟩ := info_parts adh
    obtain ⟨hd, hB, ⟨v, hv, k8, vV⟩, hf⟩ := hi
    have hm := hmt x (Fh.subset (by simp))
    simp only [Lp] at hm ⊢
    have e0 : W.cell? ⟨b4, 0, ad8⟩ = ad7 (.int .i64 x.1.1) := by simp [AC, h4]
    have e1 : W.cell? ⟨b4, 1, ad8⟩ = ad7 (.int .i64 x.1.2.1) := by simp [AC, h4]
    have e2 : W.cell? ⟨b4, 2, ad8⟩ = ad7 (.int .i64 x.1.2.2) := by simp [AC, h4]
    have f0 : W.cell? ⟨b5, 0, ad8⟩ = ad7 (.int .i64 x.2.1) := by simp [AC, h5]
    have f1 : W.cell? ⟨b5, 1, ad8⟩ = ad7 (.int .i64 x.2.2.1) := by simp [AC, h5]
    have f2 : W.cell? ⟨b5, 2, ad8⟩ = ad7 (.int .i64 x.2.2.2) := by simp [AC, h5]
    have hb4 : b4 < W.heap.size := (ut.1 h4).1
    have hb5 : b5 < W.heap.size := (ut.1 h5).1
    have Kg := Ai mt pre
    have hpp : (ad6 pre) + 1 <= (fN xs).length := by have := Fh.length_le; simpa using this
    gi_wp2_with (first
      | (refine ⟨trivial, ?_⟩; gi_at_call 73; refine (CallsIn.inRound l (callsIn_wide.2 (hm W))).mono ?_; rintro e W1 ⟨rfl, zo, Tb⟩
         obtain ⟨tv, htv⟩ : ∃ tv : Obj, tv = .cells #[.int .i64 (mt x.1 x.2).1.1, .int .i64 (mt x.1 x.2).1.2] 23 := ⟨_, rfl⟩
         have Pm : Boxed (W1.alloc tv) (w.heap.size + 1) 52 v := (rS hv zo).alloc tv
         have It := (k8.kept (nT zo) (by cases v.ownBlock <;> simp)).alloc tv
         have g0 := Pm.cell
         have g1 : (W1.alloc tv).cell? ⟨b4, 0, ad8⟩ = ad7 (.int .i64 x.1.1) := uC tv ((zo.cell (p := ⟨b4, 0, ad8⟩) hb4).trans e0)
         have g2 : (W1.alloc tv).cell? ⟨b5, 0, ad8⟩ = ad7 (.int .i64 x.2.1) := uC tv ((zo.cell (p := ⟨b5, 0, ad8⟩) hb5).trans f0)
         rw [htv] at Pm It g0 g1 g2)
      | (gi_at_builtin
         go_loud (
         refine y7 _ rfl _ _ 52 rfl w.heap.size 57 i0 _ 4 32 Tryz.underlying52 Pr hz0 hz1 hz2 rfl (by decide) _ _ _ rfl (It.alloc _) ⟨W1.heap.size + 1, 0, ad8⟩ 1 1 [.int .i64 (mt x.1 x.2).1.1, .int .i64 (mt x.1 x.2).1.2, .int .i64 x.1.1, .int .i64 x.2.1] ?_ ?_ ?_ ?_ ?_ ?_ ?_ ?_
         · rfl
         · rfl
         · exact Ov (by simp) _ _
         · simp [Value.oneCell']
         · simp only [maxLen]; omega
         · omega
         · have := hB.size; have := zo.size; simp; omega
         intro v' w1 X3 Ja hdr
         obtain ⟨g', cw, rfl⟩ := ownsRow_succ X3
         obtain ⟨hv3, hv4, hr4, hk4, alD⟩ := Pm.appended (by decide) It (by have := hB.size; have := zo.size; simp; omega) (by omega) X3 Ja
         have Xp := Ow (u := 85) (v' := .slice (ad7 ⟨g', 0, ad8⟩) ((uE mt pre).length + 1) cw) Pm It Ja (by decide) (by decide)
         have zn := hv3.cell
         have hf1 := hv3.frozen)))
    · have hz : ((mt x.1 x.2).2 == 0) = true := by assumption
      have kW : KeepsOthers W W1 := .of_grownBy (nT zo) (fun j o e => by cases e)
      have k5 := (kW.trans (KeepsOthers.alloc W1 _)).trans hk4
      have hf2 := (rS hf zo).alloc (.cells #[.int .i64 (mt x.1 x.2).1.1, .int .i64 (mt x.1 x.2).1.2] 23)
      refine ⟨(k5.same _ _ adj rfl).trans adj.symm, (k5.same _ _ hlp rfl).trans hlp.symm, ⟨NE hd (NE Tb hdr), (hB.trans ((zo.mono hB.size).trans ((Below.refl _ W1).alloc (NE hB.size zo.size) _))).trans alD, ⟨_, hv4, ?_, ?_⟩, ?_⟩, fun i cs z hi => Xp i cs z ((Below.heap_alloc _ _ _ ?_).trans ((zo.block i (ut.1 hi).1).trans hi))⟩
      · rw [Bs, hz, lw, List.length_append, List.flatMap_append]
        exact hr4
      · rw [Bs, hz]; simp
      · exact ((hf2.alloc _).kept Ja (hf2.not_row (by decide) It)).other (by omega) _
      exact ad5 (ut.1 hi).1 zo.size
    have hz : ((mt x.1 x.2).2 == 0) = false := by assumption
    have Ij := ((zo.trans ((Below.refl _ W1).alloc zo.size (.cells #[.int .i64 (mt x.1 x.2).1.1, .int .i64 (mt x.1 x.2).1.2] 23))))
    have ee : uE mt (pre ++ [x]) = uE mt pre := by rw [Bs, hz, pp, List.append_nil]
    refine ⟨Ij.block _ (ut.1 adj).1, Ij.block _ (ut.1 hlp).1, ?_, fun i cs z hi => (Ij.block i (ut.1 hi).1).trans hi⟩
    have : MI mt xs a c w pre W := ⟨hd, hB, ⟨v, hv, k8, vV⟩, hf⟩
    have := this.gro Ij Tb
    unfold MI at this ⊢
    rw [ee]
    exact this
  case done =>
    intro W hi hD
    rw [Fg] at hD
    obtain ⟨hd, hB, ⟨v, hv, k8, vV⟩, hf⟩ := hi
    have zn := hv.cell
    obtain ⟨ms, hms⟩ : ∃ ms, ms = uE mt (fN xs) := ⟨_, rfl⟩
    have aqe : (ad6 ms) <= 1000000 := by rw [hms]; exact NE (Ai mt _) bU
    rw [<- hms] at k8 vV CN xS
    have X4 := k8
    rcases k8.2 with ⟨rfl, OZ⟩ | ⟨g, cap, cur, rfl, hg, agL, agM, xQ, pO, zp⟩
    · have hm0 : m = [] := List.length_eq_zero_iff.1 (xS.trans OZ)
      have hs := H.none_ ad8 0 W
      subst hm0
      clear hms vV OZ k8 X4 xS CN
      gi_wp2_with (refine ⟨trivial, ?_⟩; gi_at_call 74; refine (callsIn_wide.2 hs).mono ?_; rintro e W1 ⟨rfl, rfl⟩)
      refine ⟨by simp, .inl ⟨_, _, rfl, run_takeDeferred hD, ?_⟩⟩
      exact ⟨_, results_tmp rfl _ _ _, rfl, hB.trans (belowK_b (w := w) (ww _) W1 _ _ _ (by omega) hD rfl rfl), hd⟩
    have dC : ms ≠ [] := fun h => by have := vV.2 h; cases this
    have yC : 0 < (ad6 ms) := by cases ms; exact absurd rfl dC; simp
    have GB : m ≠ [] := fun h => by rw [h] at xS; simp at xS; omega
    have hg1 : w.heap.size + 1 ≠ g := fun h => (hv.not_row (by decide) k8) (by rw [h]; rfl)
    have hg3 : w.heap.size + 3 ≠ g := fun h => by rw [h, agL] at hD; cases hD
    have hs := H.some_ g 0 cap ms m cur 57 W yC agM (by omega) CN xS agL (Ox zp) (by show 0 + (ad6 ms) * 4 <= _; omega)
    have alE : w.heap.size + 3 < W.heap.size := (ut.1 hD).1
    clear hms vV k8 X4 CN zp hmt bU
    gi_wp2_with (refine ⟨trivial, ?_⟩; gi_at_call 74; refine (callsIn_wide.2 hs).mono ?_; rintro e W1 ⟨rfl, ⟨fin, q1, q2, q3, _⟩, q4, q5, q6, q7, q8⟩; have E5 : W1.cell? ⟨w.heap.size + 1, 0, ad8⟩ = _ := (World.cell?_of_block (a := ⟨w.heap.size + 1, 0, ad8⟩) (q4 _ hv.lt hg1)).trans zn)
    have hD1 : W1.heap[w.heap.size + 3]? = _ := (q4 _ alE hg3).trans hD
    refine ⟨by simp, .inl ⟨_, _, rfl, run_takeDeferred hD1, ?_⟩⟩
    refine ⟨_, results_tmp rfl _ _ _, .inr ⟨GB, g, cap, fin, 57, by rw [xS]; rfl, hg, (v6 hg3.symm).trans q2, by omega, by rw [q1, pO]; exact ww _, q3⟩, ?_, NE hd q7.dr⟩
    exact (hB.trans ⟨q6, q7.eq, q8, q5, fun k hk => q4 k (ad5 hk hB.size) (by omega)⟩).trans (belowK_b (w := w) (ww _) W1 _ _ _ (by omega) hD1 rfl rfl)
theorem adk [LP]: ∀x y v,fj x y=ad7 v->QU bF 75 [.i .i64,.i .i64,.i .i64,.i .i64] x y v:=fun x y v h=>
 cM.afL c75.ok Q5 rfl rfl (a:=(x,y)) (ps:=[.agg (RT.pv [.i .i64,.i .i64,.i .i64,.i .i64] x),.agg (RT.pv [.i .i64,.i .i64,.i .i64,.i .i64] y)]) h rfl rfl rfl rfl
theorem Wx [LP] {p q:nC} {v:(Int×Int)×Int} (h:dW p q=ad7 v) (w:World):Calls Tryz.prog 73 #[Lp p,Lp q] w fun e w'=>
 e= .returned (.tuple #[.agg #[.int .i64 v.1.1,.int .i64 v.1.2],.int .i64 v.2])/\Below w.heap.size w w'/\w.drawn<=w'.drawn:=by
 obtain ⟨n,s,z,bG⟩:=cM.afL c73.ok Q4 rfl rfl (a:=(p,q)) (ps:=[.agg (RT.pv [.i .i64,.i .i64,.i .i64] p),.agg (RT.pv [.i .i64,.i .i64,.i .i64] q)]) (v:= .bT [.agg [.int .i64 v.1.1,.int .i64 v.1.2],.int .i64 v.2]) h rfl rfl rfl rfl;refine (A' (TT.PY uF) (TT.CL uF) iw bG (im:=fun _=>ad8) (us:=[Lp p,Lp q]) (fun _ _ h=>by cases h) (.cons _ _ _ _ (.agg _ _ (RT.QT [.i .i64,.i .i64,.i .i64] p)) (.cons _ _ _ _ (.agg _ _ (RT.QT [.i .i64,.i .i64,.i .i64] q)) .nil))).mono fun e w' ⟨u,he,⟨dK,ba,hv,_⟩,ho,ht,hp,nJ,pG⟩=>⟨?_,⟨ho,ht.eq,hp,nJ,pG⟩,ht.dr⟩
 rw [he];cases hv with
 |bT _ _ h1=>
  cases h1 with
  |cons _ _ _ _ a1 h2=>
   cases h2 with
   |cons _ _ _ _ a2 h3=>
    cases h3;cases a1 with
    |agg _ _ b1=>
     cases b1 with
     |cons _ _ _ _ d1 b2=>
      cases b2 with
      |cons _ _ _ _ d2 b3=>cases b3;rw [d1.eF,d2.eF,a2.eF]
noncomputable def B9:List (Int×Int×Int)->Option (List (Int×Int×Int×Int)):=letI:LP:=⟨ad8⟩;Jc dW fj
theorem Rr:MO Tryz.prog 39 [.i .i64,.i .i64,.i .i64] [.i .i64,.i .i64,.i .i64,.i .i64] B9:=by
 letI:LP:=⟨ad8⟩
 intro a c l m w CN hc ha;have CN:Jc dW fj l=ad7 m:=CN;unfold Jc at CN;split at CN
 case isFalse=>cases CN
 rename_i hq;obtain ⟨h1,h2⟩:=hq;have H:tp Tryz.prog 74 ⟨[.i .i64,.i .i64,.i .i64,.i .i64],ad7 75,Aj fj⟩:=tp.cls (r:=[.i .i64,.i .i64,.i .i64,.i .i64]) (TT.PY uF) (TT.CL uF) iw adg rfl (by decide) Tryz.isAgg57 Tryz.sizeOf57
  (fun args w=>by
   cases hb:Tryz.f75.body with
   |none=>exact absurd hb (by intro h;cases h)
   |some c=>exact fy Tryz.func75 (by kernel_rfl) hb) (fun l m h=>Q0 adk h)
 exact adi l (fun p q=>(dW p q).getD ((0,0),1)) m (Aj fj) H CN (Oy CN) (fun x hx w=>by
  obtain ⟨v,hv⟩:=h2 x hx;have:=Wx hv w;rw [hv];exact this)
  (by have:=El l;have:=Nat.mul_le_mul h1 h1;omega) h1 a c w hc (fun dC=>by obtain ⟨b,o,hb,hr⟩:=ha dC;exact ⟨b,o,hb,Lq hr⟩)
noncomputable def Cy:jM:=fun k=>bif Nat.beq k 39 then ad7 (.ir false (Ze [.i .i64,.i .i64,.i .i64] [.i .i64,.i .i64,.i .i64,.i .i64] B9)) else bF k
theorem Wy:Cy 39=ad7 (.ir false (Ze [.i .i64,.i .i64,.i .i64] [.i .i64,.i .i64,.i .i64,.i .i64] B9)):=rfl
theorem zd {k:Nat} {e:Sr} (h:Cy k=ad7 e):k=39/\e= .ir false (Ze [.i .i64,.i .i64,.i .i64] [.i .i64,.i .i64,.i .i64,.i .i64] B9)\/bF k=ad7 e:=by
 unfold Cy at h;cases hb:Nat.beq k 39 with
 |true=>rw [hb] at h;injection h with h;exact .inl ⟨ad4 hb,h.symm⟩
 |false=>rw [hb] at h;exact .inr h
theorem adl:bF 39=ad8:=rfl
theorem gL (k:Nat) (e:Sr) (h:bF k=ad7 e):Cy k=ad7 e:=by
 unfold Cy;cases hb:Nat.beq k 39 with
 |true=>rw [ad4 hb,adl] at h;cases h
 |false=>exact h
theorem Wz:DD Tryz.prog (fun _=>true) Cy:=fun f x h=>by
 rcases zd h with ⟨_,h⟩|h
 · cases h
 exact TT.PY uF f x h
theorem Lv:rL Tryz.prog Cy:=⟨fun f k p h=>by
 rcases zd h with ⟨rfl,h⟩|h
 · cases h
   cases hb:Tryz.f39.body with
   |none=>exact absurd hb (by intro h;cases h)
   |some c=>exact ⟨rfl,yI.mk Tryz.func39 (by kernel_rfl) hb Rr⟩
 · exact (TT.CL uF).1 f k p h,fun f p h=>by
 rcases zd h with ⟨_,h⟩|h
 · cases h
 exact (TT.CL uF).2 f p h⟩
theorem Rs:Cy 3=ad7 (.code x3):=gL _ _ afU
theorem WA:Cy 12=ad7 (.code x12):=gL _ _ abI
end Go.Proofs.YtmikolhhnhndkaaGreat
