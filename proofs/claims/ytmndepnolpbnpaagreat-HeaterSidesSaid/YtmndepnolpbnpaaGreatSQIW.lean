/- pelotonref11.walk, Walk, reached: what they answer. Printed by a program. -/
import Derived.Test.YtmndepnolpbnpaaGreatSVm2
import Derived.Test.YtmndepnolpbnpaaGreatSVm4
import Derived.OwnWalk
import Derived.StillTailTactics
import Derived.Maps.AppendAt
import Derived.Shelf.Abstract
import Derived.Test.YtmndepnolpbnpaaGreatChecked
import Derived.Deep.RegionWith
import Derived.Deep.RegionLaw
open Array renaming getElem?_eq_some_iff->pm
open Nat renaming le_refl->pp,le_trans->wn,le_succ_of_le->IR
open Go.World renaming cell?->rc,alloc_heap_new->ut
open List renaming getElem?_eq_some_iff->v4,getElem?_map->v6,length_singleton->AC,take_succ_cons->Do,drop_succ_cons->EQ,length_append->If,take_zero->M2,drop_zero->NE,length->PP
open Option renaming map_eq_some_iff->ww,some->UV,none->aa7
set_option maxRecDepth 100000
namespace Go
theorem yY {P:Program} (w:World) {ops:Array Oper} {rest:List Oper} {o:Oper} {a:Act} {Q:Exit->Act->World->Prop}
 (hg:o.guard=aa7) (s x:Operand) (t:TypeId) (dG:o.op=Op.call {callee:=Callee.builtin Builtin.append,args:= #[s,x],argTypes:= #[t,t]})
 (fM:Nat) (e:TypeId) (i:TypeInfo) (z:Value) (size bytes:Nat) (h1:P.underlying t=UV (.slice e)) (h2:P.info? e=UV i) (h3:i.zero=UV z) (h4:i.size=size) (h5:i.bytes=bytes) (h6:z.cells.size=size) (h7:0<size)
 (v:Value) (k:Nat) (xs:List Value) (hs:a.eval s=v) (TY:w.ownsRow fM e size v k xs) (ad:Addr) (m c:Nat) (news:List Value) (hx:a.eval x= .slice (UV ad) m c) (hn:(PP news)=m*size)
 (hc: ∀j u,news[j]? =UV u->w.cell? (ad.add j)=UV u) (h1c: ∀u∈news,u.oneCell'=true) (b1:k+m<=maxLen) (b2:(k+m)*bytes<=140737488355328) (b3:fM<=w.heap.size)
 (hK: ∀v' w',w'.ownsRow fM e size v' (k+m) (xs++news)->w.grownBy w' v.ownBlock->w.drawn<=w'.drawn->wpList P ops Q rest (a.put o.dst v') w'):
 wpList P ops Q (o::rest) a w:=by
 refine wpList_plain hg fun K hK'=>?_
 obtain ⟨v',w',bu,r1,r2,r3⟩:=run_append_own (P:=P) w fM t o.type e i z size bytes h1 h2 h3 h4 h5 h6 h7 v k xs TY ad m c news hn hc h1c b1 b2 b3;unfold Oper.wp;simp [execOp,dG,resolve,invoke,builtin,hs,hx,bu,Result.andThen];exact hK' _ _ (hK v' w' r1 r2 (KO _ bu))
end Go
namespace Go.Proofs.YtmndepnolpbnpaaGreat
open Go.RowKit Go.Vm Go.Shelf
attribute [local go_sem] Oper.semAt_some
def uE (w:World) (b o:Nat) (N:List (Int×Int×Int)):Prop:= ∀k,k<PP N->
 w.cell? ⟨b,o+k*3,aa7⟩=UV (.int .i64 (N[k]!).1)/\w.cell? ⟨b,o+k*3+1,aa7⟩=UV (.int .i64 (N[k]!).2.1)/\w.cell? ⟨b,o+k*3+2,aa7⟩=UV (.int .i64 (N[k]!).2.2)
theorem uE.below {w w':World} {b o B:Nat} {N:List (Int×Int×Int)} (h:uE w b o N) (hb:Below B w w') (hl:b<B):uE w' b o N:=fun k hk=>by obtain ⟨a,c,d⟩:=h k hk;exact ⟨(hb.cell (p:=⟨b,_,aa7⟩) hl).trans a,(hb.cell (p:=⟨b,_,aa7⟩) hl).trans c,(hb.cell (p:=⟨b,_,aa7⟩) hl).trans d⟩
theorem rz {W:World} {a:Addr} {v:Value} (o:Obj) (h:W.cell? a=UV v):(W.alloc o).cell? a=UV v:=cell_kept h (World.grownBy_alloc W o aa7) (fun r e=>by cases e)
def EY (e:TypeId) (w w':World):Prop:= ∀(k:Nat) (cs:Array Value) (t:TypeId) (z:Nat×Nat),t≠e->w.heap[k]? =UV (.cells cs t z)->w'.heap[k]? =UV (.cells cs t z)
theorem EY.alloc {e:TypeId} (w:World) (o:Obj):EY e w (w.alloc o):=fun k cs t z _ h=>(Below.heap_alloc w o k (pm.1 h).1).trans h
theorem EY.trans {e:TypeId} {a b c:World} (h:EY e a b) (k:EY e b c):EY e a c:=fun i cs t z ht hi=>k i cs t z ht (h i cs t z ht hi)
theorem EY.grown {e:TypeId} {w w':World} {fM n:Nat} {v:Value} {xs:List Value} (hr:w.ownsRow fM e 1 v n xs) (g:w.grownBy w' v.ownBlock):EY e w w':=fun k cs t z ht h=>by
 refine (g.block k (pm.1 h).1 fun hk=>?_).trans h;rcases hr.2 with ⟨rfl,_⟩|⟨g,cp,cur,rfl,hg,hw,_⟩
 · cases hk
 injection hk with hk
 subst hk;rw [h] at hw;injection hw with hw;injection hw with h1 h2;exact ht h2
theorem KQ {w:World} {B:Nat} (hB:w.heap.size=B) (l:List Value) (t:TypeId) (j:Nat) (u:Value) (h:l[j]? =UV u):(w.alloc (.cells ⟨l⟩ t)).cell? ((⟨B,0,aa7⟩:Addr).add j)=UV u:=by
 subst hB;have Td:(⟨w.heap.size,0,aa7⟩:Addr).add j=⟨w.heap.size,j,aa7⟩:=by unfold Addr.add;split<;>simp_all
 rw [Td,cell_of_row _ w.heap.size j ⟨l⟩ t (0,0) (ut w _)];simpa using h
theorem M':(Tryz.prog.info? 3).map (fun i=>(i.zero,i.size,i.bytes))=UV (UV (.int .i64 0),1,8):=by kernel_rfl
set_option maxHeartbeats 4000000 in
theorem wk (N:List (Int×Int×Int)) (hN:(PP N)<=1000) (root:Int) (a:Option Addr) (cap fM:Nat) (hc:(PP N)<=cap): ∀(n:Nat) (i:Int) (out m:List Int),sA N n i out=UV m->PP out<=1001->
 ∀(w:World) (v:Value),w.ownsRow fM 3 1 v (PP out) (out.map (.int .i64))->(v= .slice aa7 0 0↔out=[])->fM<=w.heap.size->(N≠[]-> ∃b o,a=UV ⟨b,o,aa7⟩/\b<fM/\uE w b o N)->
 Calls Tryz.prog 55 #[.agg #[.int .i64 root,.slice a (PP N) cap],.int .i64 i,v] w fun e w'=> ∃v',e= .returned v'/\w'.ownsRow fM 3 1 v' (PP m) (m.map (.int .i64))/\(v'= .slice aa7 0 0↔m=[])/\Below fM w w'/\EY 3 w w'/\w.drawn<=w'.drawn/\PP m<=1001:=by
 intro n
 induction n with
 |zero=>intro i out m h;cases h
 |succ n ih=>
  intro i out m h ho w v mM vS hb hn;unfold sA at h;obtain ⟨va,vc,rfl⟩: ∃va vc,v= .slice va (PP out) vc:=by
   rcases mM.2 with ⟨rfl,h0⟩|⟨g,cp,cur,rfl,_⟩
   · exact ⟨aa7,0,by rw [h0]⟩
   exact ⟨UV ⟨g,0,aa7⟩,cp,rfl⟩
  by_cases h1:i<0
  · rw [ol h1] at h
    injection h with h;subst h;clear ih
    go_enter Tryz.func55,Tryz.ntmps55
    go_wp2
    go_ret
    exact ⟨_,rfl,mM.alloc _,vS,(Below.refl _ w).alloc hb _,EY.alloc _ _,(show w.drawn<=w.drawn from pp _),ho⟩
  rw [pi h1] at h
  by_cases h2:(PP N)<PP out
  · rw [ol h2] at h
    injection h with h;subst h;clear ih
    go_enter Tryz.func55,Tryz.ntmps55
    go_wp2
    go_ret
    refine ⟨_,rfl,mM.alloc _,vS,(Below.refl _ w).alloc hb _,EY.alloc _ _,?_⟩
    first|exact ⟨pp _,ho⟩|exact pp _
  rw [pi h2] at h
  by_cases h3:i.toNat<PP N
  case neg=>rw [pi h3] at h;cases h
  rw [ol h3] at h;obtain ⟨k,rfl⟩: ∃k:Nat,i=(k:Int):=⟨i.toNat,by omega⟩;rw [Int.toNat_natCast] at h h3;obtain ⟨b,o,rfl,Fu,yC⟩:=hn (fun h0=>by rw [h0] at h3;exact Nat.not_lt_zero _ h3);cases hl:sA N n (N[k]!).2.1 out with
  |none=>rw [hl] at h;cases h
  |some o1=>
  rw [hl] at h;have h:(if (PP o1)<1000 then sA N n (N[k]!).2.2 (o1++[(k:Int)]) else aa7)=UV m:=h
  by_cases h4:(PP o1)<1000
  case neg=>rw [pi h4] at h;cases h
  rw [ol h4] at h;obtain ⟨tv,htv⟩: ∃tv:Obj,tv= .cells #[.int .i64 root,.slice (UV ⟨b,o,aa7⟩) (PP N) cap] 46:=⟨_,rfl⟩;obtain ⟨B1,hB1⟩: ∃B1,w.heap.size=B1:=⟨_,rfl⟩;obtain ⟨n0,n1,n2⟩:=yC k h3;obtain ⟨L0,hL0⟩: ∃L0,(N[k]!).1=L0:=⟨_,rfl⟩;obtain ⟨L1,hL1⟩: ∃L1,(N[k]!).2.1=L1:=⟨_,rfl⟩;obtain ⟨L2,hL2⟩: ∃L2,(N[k]!).2.2=L2:=⟨_,rfl⟩;rw [hL0] at n0;rw [hL1] at n1 hl;rw [hL2] at n2 h;have c0:(w.alloc tv).cell? ⟨b,o+k*3,aa7⟩=_:=rz _ n0;have c1:(w.alloc tv).cell? ⟨b,o+k*3+1,aa7⟩=_:=rz _ n1;have c2:(w.alloc tv).cell? ⟨b,o+k*3+2,aa7⟩=_:=rz _ n2;have c3:(w.alloc tv).heap[B1]? =UV tv:=by rw [<- hB1];exact ut w tv
  have left:=ih _ _ _ hl ho;have right:=ih _ _ _ h (by rw [If,AC];omega);rw [htv] at c0 c1 c2 c3;clear ih n0 n1 n2
  go_enter Tryz.func55,Tryz.ntmps55
  go_wp2_with fail
  refine wp_region_still_tail 8 Tryz.checked.mixed (by kernel_rfl) ?_;obtain ⟨w1,Yp⟩: ∃w1,w1=(w.alloc (.cells #[.int .i64 root,.slice (UV ⟨b,o,aa7⟩) (PP N) cap] 46)).drew:=⟨_,rfl⟩;change wpStill _ _ (w.alloc (.cells #[.int .i64 root,.slice (UV ⟨b,o,aa7⟩) (PP N) cap] 46)).drew (fun a'=>wpList _ _ _ _ a' (w.alloc (.cells #[.int .i64 root,.slice (UV ⟨b,o,aa7⟩) (PP N) cap] 46)).drew) _ _;change (w.alloc (.cells #[.int .i64 root,.slice (UV ⟨b,o,aa7⟩) (PP N) cap] 46)).drew.cell? _=_ at c0;change (w.alloc (.cells #[.int .i64 root,.slice (UV ⟨b,o,aa7⟩) (PP N) cap] 46)).drew.cell? _=_ at c1;change (w.alloc (.cells #[.int .i64 root,.slice (UV ⟨b,o,aa7⟩) (PP N) cap] 46)).drew.cell? _=_ at c2;change (w.alloc (.cells #[.int .i64 root,.slice (UV ⟨b,o,aa7⟩) (PP N) cap] 46)).drew.heap[B1]? =_ at c3
  have b1:Below fM w (w.alloc (.cells #[.int .i64 root,.slice (UV ⟨b,o,aa7⟩) (PP N) cap] 46)).drew:=((Below.refl _ w).alloc hb _).drew;have q1:EY 3 w (w.alloc (.cells #[.int .i64 root,.slice (UV ⟨b,o,aa7⟩) (PP N) cap] 46)).drew:=EY.alloc _ _;have r1:(w.alloc (.cells #[.int .i64 root,.slice (UV ⟨b,o,aa7⟩) (PP N) cap] 46)).drew.ownsRow fM 3 1 (Value.slice va (PP out) vc) (PP out) (List.map (Value.int IntKind.i64) out):=(mM.alloc _).drew;have d1:w.drawn<=(w.alloc (.cells #[.int .i64 root,.slice (UV ⟨b,o,aa7⟩) (PP N) cap] 46)).drew.drawn:=Nat.le_succ _;rw [<- Yp] at c0 c1 c2 c3 b1 q1 r1 d1 ⊢;clear Yp;have e0:w1.cell? ⟨B1,0,aa7⟩=UV (.int .i64 root):=by simp [rc,c3]
  have e1:w1.cell? ⟨B1,1,aa7⟩=UV (.slice (UV ⟨b,o,aa7⟩) (PP N) cap):=by simp [rc,c3]
  have ai5:fM<=B1:=by rw [<- hB1];exact hb
  have s1:B1<w1.heap.size:=(pm.1 c3).1;have left:=left w1 (.slice va (PP out) vc) r1 vS (by omega) (fun _=>⟨b,o,rfl,Fu,yC.below b1 Fu⟩);obtain ⟨i0,LG,hz0,hz1,hz2⟩:=info_parts M';clear hn vS mM hb hl h c0 c2;simp only [Do,M2,EQ,NE]
  repeat still_step
  refine wpStill_nil ?_
  go_wp2_with (first
   |(go_at_call 55;refine left.mono ?_;rintro e W2 ⟨v2,rfl,r2,hn2,b2,q2,d2,Yx⟩)
   |(at_builtin;go_loud (refine yY _ rfl _ _ 34 rfl fM 3 i0 _ 1 8 Tryz.underlying34 LG hz0 hz1 hz2 rfl (by decide) _ _ _ rfl (r2.alloc _) ⟨W2.heap.size,0,aa7⟩ 1 1 [.int .i64 k] ?_ ?_ ?_ ?_ ?_ ?_ ?_ ?_)))
  · rfl
  · rfl
  · exact KQ (by simp) _ _
  · simp [Value.oneCell']
  · simp only [maxLen];omega
  · omega
  · have:=b1.size;have:=b2.size;simp;omega
  intro v3 w3 r3 g3 d3;have b3:Below fM W2 w3:=by
   refine ((Below.refl fM W2).alloc (by have:=b2.size;omega) _).grown g3 (by have:=b2.size;simp;omega) fun k hk=>?_
   rcases r2.2 with ⟨rfl,_⟩|⟨g,cp,cur,rfl,hg,_⟩
   · cases hk
   injection hk with hk;rw [<- hk];exact hg
  have q3:EY 3 W2 w3:=(EY.alloc _ _).trans (EY.grown (r2.alloc _) g3);have c4:=q3 _ _ _ _ (by decide) (q2 _ _ _ _ (by decide) c3);have b4:=(b1.trans b2).trans b3;have q4:=(q1.trans q2).trans q3;have d4:w.drawn<=w3.drawn:=wn d1 (wn d2 d3);clear left
  go_wp2_with fail
  refine wp_region_still_tail 8 Tryz.checked.mixed (by kernel_rfl) ?_;change wpStill _ _ w3.drew (fun a'=>wpList _ _ _ _ a' w3.drew) _ _;have b4:Below fM w w3.drew:=b4.drew;have q4:EY 3 w w3.drew:=q4;have d4:w.drawn<=w3.drew.drawn:=IR d4;have r4:w3.drew.ownsRow fM 3 1 v3 (PP o1+1) (o1.map (.int .i64)++[.int .i64 k]):=r3.drew;change w3.drew.heap[B1]? =_ at c4;have QB:uE w3.drew b o N:=yC.below b4 Fu;generalize w3.drew=w4 at b4 q4 d4 r4 c4 QB ⊢;obtain ⟨m0,m1,m2⟩:=QB k h3;have f0:w4.cell? ⟨B1,0,aa7⟩=UV (.int .i64 root):=by simp [rc,c4]
  have f1:w4.cell? ⟨B1,1,aa7⟩=UV (.slice (UV ⟨b,o,aa7⟩) (PP N) cap):=by simp [rc,c4]
  rw [hL2] at m2;have right:=right w4 v3 (by rw [If,AC,List.map_append];exact r4) (by
   constructor
   · rintro rfl;rcases r4.2 with ⟨_,h⟩|⟨_,_,_,h,_⟩<;>cases h
   intro h;cases o1<;>cases h) (by have:=b4.size;omega) (fun _=>⟨b,o,rfl,Fu,QB⟩)
  clear yC QB m0 m1 e0 e1;simp only [Do,M2,EQ,NE]
  repeat still_step
  refine wpStill_nil ?_
  go_wp2_with (go_at_call 55;refine right.mono ?_;rintro e W5 ⟨v5,rfl,r5,hn5,b5,q5,d5,ho5⟩)
  go_ret
  exact ⟨v5,rfl,r5,hn5,b4.trans b5,q4.trans q5,wn d4 d5,ho5⟩
theorem KR {w:World} {fM n:Nat} {v:Value} {xs:List Value} (h:w.ownsRow fM 3 1 v n xs): ∃va vc,v= .slice va n vc:=by
 rcases h.2 with ⟨h1,h0⟩|⟨g,cp,cur,h1,_⟩
 · exact ⟨aa7,0,by rw [h1,h0]⟩
 exact ⟨UV ⟨g,0,aa7⟩,cp,h1⟩
theorem Et {w:World} {b o:Nat} {l:List (Int×Int×Int)} (h:aR (fun k=>w.cell? ⟨b,k,aa7⟩) o 3 (l.map (RT.pv [.i .i64,.i .i64,.i .i64]))):uE w b o l:=by
 intro i hi;have h1:(l.map (RT.pv [.i .i64,.i .i64,.i .i64]))[i]? =UV (RT.pv [.i .i64,.i .i64,.i .i64] l[i]!):=by rw [v6,List.getElem?_eq_getElem hi,getElem!_pos l i hi];rfl
 obtain ⟨_,h2⟩:=h i _ h1;obtain ⟨v0,a0,b0⟩:=h2 0 _ rfl;obtain ⟨v1,a1,b1⟩:=h2 1 _ rfl;obtain ⟨v2,a2,b2⟩:=h2 2 _ rfl;injection a0 with a0;injection a1 with a1;injection a2 with a2;subst a0 a1 a2;exact ⟨b0,b1,b2⟩
theorem KS {l:List Int} {cur:Array Value} (h:cur.toList.take (PP l*1)=l.map (Value.int .i64)):aR (fun k=>cur[k]?) 0 1 (l.map (RT.pv [.i .i64])):=by
 intro i r hr;rw [v6,ww] at hr;obtain ⟨m,hm,rfl⟩:=hr;have hi:=(v4.1 hm).1;refine ⟨rfl,fun j c hc=>?_⟩;have hj:j<1:=(v4.1 hc).1;obtain rfl:j=0:=by omega
 injection hc with hc;subst hc;have e:(cur.toList.take (PP l*1))[i]? =UV (.int .i64 m):=by rw [h,v6,hm];rfl
 rw [List.getElem?_take_of_lt (by omega)] at e;exact ⟨_,rfl,by rw [show 0+i*1+0=i by omega];simpa using e⟩
theorem wk0 {i:Int} {l:List (Int×Int×Int)} {m:List Int} (h:ov i l=UV m) (a:Option Addr) (c:Nat) (w:World) (hc:(PP l)<=c)
 (ha:l≠[]-> ∃b o,a=UV ⟨b,o,aa7⟩/\aR (fun k=>w.cell? ⟨b,k,aa7⟩) o 3 (l.map (RT.pv [.i .i64,.i .i64,.i .i64]))) (W:World) (hb:Below w.heap.size w W):
 Calls Tryz.prog 55 #[.agg #[.int .i64 i,.slice a (PP l) c],.int .i64 i,.slice aa7 0 0] W fun e w'=> ∃v',e= .returned v'/\w'.ownsRow W.heap.size 3 1 v' (PP m) (m.map (.int .i64))/\(v'= .slice aa7 0 0↔m=[])/\Below W.heap.size W w'/\EY 3 W w'/\W.drawn<=w'.drawn/\PP m<=1001:=by
 unfold ov at h;split at h
 case isFalse=>cases h
 rename_i hl;refine wk l hl i a c W.heap.size hc 2000 i [] m h (by simp) W _ (World.ownsRow_nil _ _ _ _) (by simp) (pp _) fun dK=>?_
 obtain ⟨b,o,rfl,hr⟩:=ha dK;have hn:=Et hr;have FF:b<w.heap.size:=by
  cases l with
  |nil=>exact absurd rfl dK
  |cons x xs=>exact World.block_lt_of_cell? w _ (hn 0 (by simp)).1
 exact ⟨b,o,rfl,Nat.lt_of_lt_of_le FF hb.size,hn.below hb FF⟩
set_option maxHeartbeats 4000000 in
theorem H3:Gl Tryz.prog 36 [.i .i64,.i .i64,.i .i64] [.i .i64] ov:=by
 intro i a c l m w h hc ha;have W0:=wk0 h a c w hc ha (w.alloc (.cells #[.int .i64 i,.slice a (PP l) c] 46)) ((Below.refl _ w).alloc (pp _) _);clear ha
 go_enter Tryz.func36,Tryz.ntmps36
 go_wp2_with (go_at_call 55;refine W0.mono ?_;rintro e W2 ⟨v2,rfl,r2,hn2,b2,q2,d2,Yx⟩)
 go_ret
 refine ⟨?_,((Below.refl _ w).alloc (pp _) _).trans (b2.mono (by simp)),d2⟩;rcases r2.2 with ⟨rfl,h0⟩|⟨g,cp,cur,rfl,hg,hw,hn,_,hs,ht⟩
 · exact .inl ⟨List.length_eq_zero_iff.1 h0,rfl⟩
 refine .inr ⟨fun h0=>?_,g,cp,cur,3,rfl,?_,hw,hn,?_,KS ht⟩
 · have:=hn2.2 h0;cases this
 · rw [World.size_alloc] at hg;omega
 rw [hs];exact pp _
set_option maxHeartbeats 4000000 in
theorem CC:Gm Tryz.prog 35 [.i .i64,.i .i64,.i .i64] iP:=by
 intro i a c l v w h hc ha;obtain ⟨m,hm,rfl⟩:=ww.1 h;have W0:=wk0 hm a c w hc ha (w.alloc (.cells #[.int .i64 i,.slice a (PP l) c] 46)).drew ((Below.refl _ w).alloc (pp _) _).drew;clear ha;have hbw:Below w.heap.size w (w.alloc (.cells #[.int .i64 i,.slice a (PP l) c] 46)):=(Below.refl _ w).alloc (pp _) _;have hdw:w.drawn<=(w.alloc (.cells #[.int .i64 i,.slice a (PP l) c] 46)).drawn:=pp _;have c3:(w.alloc (.cells #[.int .i64 i,.slice a (PP l) c] 46)).heap[w.heap.size]? =UV (.cells #[.int .i64 i,.slice a (PP l) c] 46):=ut w _;obtain ⟨B1,hB1⟩: ∃B1,w.heap.size=B1:=⟨_,rfl⟩;rw [hB1] at hbw c3
 go_enter Tryz.func35,Tryz.ntmps35
 go_wp2_with fail
 generalize (w.alloc (.cells #[.int .i64 i,.slice a (PP l) c] 46))=w1 at W0 c3 hbw hdw ⊢;have e0:w1.cell? ⟨B1,0,aa7⟩=UV (.int .i64 i):=by simp [rc,c3]
 have e1:w1.cell? ⟨B1,1,aa7⟩=UV (.slice a (PP l) c):=by simp [rc,c3]
 have c3':w1.drew.heap[B1]? =_:=c3;have WW:Calls Tryz.prog 55 #[.agg #[.int .i64 i,.slice a (PP l) c],.int .i64 i,.slice aa7 0 0] w1.drew fun e w'=> ∃va vc,e= .returned (.slice va (PP m) vc)/\Below w.heap.size w w'/\w.drawn<=w'.drawn/\w'.cell? ⟨B1,0,aa7⟩=UV (.int .i64 i)/\w'.cell? ⟨B1,1,aa7⟩=UV (.slice a (PP l) c):=W0.mono fun e W2 ⟨v2,h1,r2,hn2,b2,q2,d2,Yx⟩=>by
  obtain ⟨va,vc,rfl⟩:=KR r2;have c4:=q2 _ _ _ _ (by decide) c3';refine ⟨va,vc,h1,?_,wn (IR hdw) d2,by simp [rc,c4],by simp [rc,c4]⟩;rw [hB1];exact (hbw.drew).trans (b2.mono (by have:=(pm.1 c3').1;omega))
 have hq:(((PP m):Int)==((PP l):Int))=decide (PP m=PP l):=by rw [Bool.eq_iff_iff];simp only [beq_iff_eq,decide_eq_true_eq];omega
 clear W0 hbw hdw c3 c3'
 go_region_with (go_at_call 55;refine WW.mono ?_;rintro e W2 ⟨va,vc,rfl,b2,d2,f0,f1⟩)
 all_goals (go_wp2;go_ret)
 all_goals first|exact ⟨rfl,b2,d2⟩|exact ⟨congrArg (fun b=>Ending.returned (Value.bool b)) hq,b2,d2⟩
theorem Na:om Tryz.prog 36 (.fb false (Gj [.i .i64,.i .i64,.i .i64] [.i .i64] ov)):=by
 cases hb:Tryz.f36.body with
 |none=>exact absurd hb (by intro h;cases h)
 |some c=>exact ⟨rfl,nm.mkT Tryz.func36 (by kernel_rfl) hb H3⟩
theorem Nb:om Tryz.prog 35 (.fb false (Gk [.i .i64,.i .i64,.i .i64] iP)):=by
 cases hb:Tryz.f35.body with
 |none=>exact absurd hb (by intro h;cases h)
 |some c=>exact ⟨rfl,nm.YG Tryz.func35 (by kernel_rfl) hb CC⟩
end Go.Proofs.YtmndepnolpbnpaaGreat
