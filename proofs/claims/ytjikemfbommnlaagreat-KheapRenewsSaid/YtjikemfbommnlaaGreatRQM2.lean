/- Plain laws (2). -/
import Derived.Test.YtjikemfbommnlaaGreatRQM1
import Derived.Test.YtjikemfbommnlaaGreatRVm3
namespace Go.Proofs.YtjikemfbommnlaaGreat
open Go.Vm Classical
theorem HasNum_eq (H:List Ev) (n:Int) (hl:H.length<=1000000):slices_ContainsFunc_Event__agenda_Push_1 H n=some (decide (∃w,w<H.length/\(H[w]!).2.2.1=n)):=by
 unfold slices_ContainsFunc_Event__agenda_Push_1 slices_IndexFunc_Event__agenda_Push_1;have key:=while_first (body:=slices_IndexFunc_Event__agenda_Push_1_l1) (fun i=>(H,n,(H.length:Int),(i:Int))) H.length (fun i=>(H[i]!).2.2.1=n) (fun i=>(i:Int)) (e:= -1) (fun i hi=>by
  have e1:decide ((i:Int)<(H.length:Int))=true:=dec_t (by omega)
  unfold slices_IndexFunc_Event__agenda_Push_1_l1 agenda_Push_1;simp only [e1,cond_true,geti_nat H i hi,bindS,wi_succ (show i<1000000000 by omega)]
  constructor
  · intro h;rw [beq_t h];rfl
  · intro h;rw [beq_f h];rfl) (by
  unfold slices_IndexFunc_Event__agenda_Push_1_l1
  have:decide ((H.length:Int)<(H.length:Int))=false:=dec_f (by omega)
  simp only [this,cond_false])
 rw [ofNat_eq]
 by_cases hx: ∃w,w<H.length/\(H[w]!).2.2.1=n
 · obtain ⟨k,h1,h2,h3⟩:=least hx
   have:=key.1 k h1 h2 h3
   rw [show ((0:Nat):Int)=0 from rfl] at this;rw [this,dec_t hx];simp only [bindS,dec_t (show (0:Int)<=(k:Int) by omega)]
 · have:=key.2 fun i hi he=>hx ⟨i,hi,he⟩
   rw [show ((0:Nat):Int)=0 from rfl] at this;rw [this,dec_f hx];rfl
noncomputable def newEv (a:Agenda) (t:Int×Int) (n:Int):Ev:=(t.1,t.2,n,sHandle a.slots)
noncomputable def agPush (a:Agenda) (t:Int×Int) (n:Int):Agenda:=
 ⟨sTaken a.slots,(settleG (a.heap.length+1) (newEv a t n) a.heap.length (a.heap++[newEv a t n]) a.where_).1,(settleG (a.heap.length+1) (newEv a t n) a.heap.length (a.heap++[newEv a t n]) a.where_).2⟩
section
variable {a : Agenda} (ok : AgOK a) (op : SOpen a.slots) {t : Int × Int} (ht : RatOK t) (h64 : R64 t) {n : Int} (n0 : 0 <= n) (n1 : n <= 1000000)
include ok op
theorem push_ix:Ev.ix (newEv a t n)=(nextI a.slots:Int)/\nextI a.slots<a.slots.uses.length/\a.slots.used[nextI a.slots]! =false/\a.slots.free.length=(sTaken a.slots).free.length+1:=by
 obtain ⟨h1,h2,h3⟩:=next_lt ok.so op.1;refine ⟨rfl,h1,?_,?_⟩
 · have:=ok.so.uf (nextI a.slots) h1
   cases h:a.slots.used[nextI a.slots]! with
   |false=>rfl
   |true=>exact absurd h3 (this.1 h)
 · show _=(a.slots.free.take (a.slots.free.length-1)).length+1
   have:=op.1
   rw [List.length_take];omega
theorem push_hole:Hole (a.heap.length+1) (newEv a t n) (fun e=>e∈a.heap) (a.heap++[newEv a t n]) a.where_ a.heap.length:=by
 obtain ⟨h1,h2,h3,h4⟩:=push_ix (t:=t) (n:=n) ok op;have cell: ∀w,w<a.heap.length->(a.heap++[newEv a t n])[w]! =a.heap[w]!:=fun w hw=>bang_app_left hw
 refine ⟨by omega,by simp,fun w hw hwi=>?_,by rw [h1];omega,by rw [h1,ok.wl];omega,fun e=>?_⟩
 · have hw':w<a.heap.length:=by omega
   rw [cell w hw'];obtain ⟨c1,c2,c3,c4,c5⟩:=ok.back hw';refine ⟨c1,by rw [ok.wl];exact c2,c5,fun h=>?_⟩
   rw [h1] at h
   have:Ev.n a.heap[w]! =nextI a.slots:=by show (Ev.ix a.heap[w]!).toNat=_;omega
   exact ok.no_ev h3 hw' this
 · constructor
   · rintro ⟨w,hw,hwi,rfl⟩
     rw [cell w (by omega)]
     exact bang_mem (by omega)
   · intro h
     obtain ⟨w,hw,rfl⟩:=mem_bang.1 h;exact ⟨w,by omega,by omega,cell w hw⟩
theorem push_ord (ht:RatOK t):Ord (a.heap.length+1) (a.heap++[newEv a t n]) a.heap.length:=by
 have _:=op;have cell: ∀w,w<a.heap.length->(a.heap++[newEv a t n])[w]! =a.heap[w]!:=fun w hw=>bang_app_left hw
 refine ⟨fun w hw=>?_,fun k k0 hk k1 k2=>?_,fun i0 k k0 hk hp=>by omega⟩
 · by_cases h:w<a.heap.length
   · rw [cell w h];exact (ok.ev w h).den
   · have:w=a.heap.length:=by omega
     subst this;rw [bang_app_right (Nat.le_refl _),Nat.sub_self];exact ht.1
 · rw [cell k (by omega),cell _ (by omega)]
   exact ok.ord k k0 (by omega)
theorem push_settled (ht:RatOK t):Settled (a.heap.length+1) (newEv a t n) (fun e=>e∈a.heap) (fun k=>k≠Ev.n (newEv a t n)/\ ∀w,w<a.heap.length+1->w≠a.heap.length->Ev.n (a.heap++[newEv a t n])[w]!≠k) (a.heap++[newEv a t n]) a.where_ (agPush a t n).heap (agPush a t n).where_:=
 settle_spec (x:=newEv a t n) ht.1 (push_hole ok op) (push_ord ok op ht)
theorem push_len (ht:RatOK t):(agPush a t n).heap.length=a.heap.length+1:=by
 have:=(push_settled (n:=n) ok op ht).hl
 rw [this];simp
theorem push_mem (ht:RatOK t) (e:Ev):e∈(agPush a t n).heap↔(e=newEv a t n\/e∈a.heap):=by
 have st:=push_settled (n:=n) ok op ht;rw [mem_bang,push_len ok op ht];exact st.mem e
theorem new_ev (ht:RatOK t) (h64:R64 t) (n0:0<=n) (n1:n<=1000000):EvOK (newEv a t n):=by
 have _:=ok;have _:=op;exact ⟨ht,h64,n0,n1⟩
theorem push_ok (ht:RatOK t) (h64:R64 t) (n0:0<=n) (n1:n<=1000000) (nn: ∀e∈a.heap,Ev.num e≠n):AgOK (agPush a t n):=by
 have st:=push_settled (n:=n) ok op ht;have len:=push_len (n:=n) ok op ht;obtain ⟨h1,h2,h3,h4⟩:=push_ix (t:=t) (n:=n) ok op;have hu:=ok.so.ul;have ul:(sTaken a.slots).uses.length=a.slots.uses.length:=List.length_set;have key:=ok_of_settled (taken_ok ok.so op) st (by simp) (by rw [ul];exact ok.wl) (by rw [ul];have:=ok.hl;omega) (fun j hj hu'=>by
  rw [ul] at hj;change (a.slots.used.set (nextI a.slots) true)[j]! =true at hu';rw [bang_set] at hu'
  show∃e:Ev,_/\_/\_=(a.slots.uses.set (nextI a.slots) (a.slots.uses[nextI a.slots]!+1))[j]!
  rw [bang_set]
  by_cases e:j=nextI a.slots
  · rw [if_pos ⟨e,h2⟩]
    exact ⟨newEv a t n,.inl rfl,by rw [h1,e],rfl⟩
  · rw [if_neg (fun k=>e k.1)]
    rw [if_neg (fun k=>e k.1)] at hu'
    obtain ⟨w,hw,e1,e2⟩:=ok.used_ev hj hu';exact ⟨a.heap[w]!,.inr (bang_mem hw),e1,e2⟩) (fun j hj hu'=>by
  rw [ul] at hj;change (a.slots.used.set (nextI a.slots) true)[j]! =false at hu';rw [bang_set] at hu'
  by_cases e:j=nextI a.slots
  · rw [if_pos ⟨e,by omega⟩] at hu';cases hu'
  · rw [if_neg (fun k=>e k.1)] at hu'
    refine ⟨⟨?_,fun w hw hwi=>?_⟩,ok.un j hj hu'⟩
    · show j≠(Ev.ix (newEv a t n)).toNat
      omega
    · rw [bang_app_left (by omega)]
      exact ok.no_ev hu' (by omega)) (by
  rintro e (rfl|h)
  · exact new_ev ok op ht h64 n0 n1
  · obtain ⟨w,hw,rfl⟩:=mem_bang.1 h
    exact ok.ev w hw) (by
  rintro e f (rfl|he) (rfl|hf) hn
  · rfl
  · exact absurd hn.symm (nn f hf)
  · exact absurd hn (nn e he)
  · obtain ⟨v,hv,rfl⟩:=mem_bang.1 he
    obtain ⟨w,hw,rfl⟩:=mem_bang.1 hf;rw [ok.nums hv hw hn])
 have:(agPush a t n).heap.take (a.heap.length+1)=(agPush a t n).heap:=List.take_of_length_le (by rw [len];exact Nat.le_refl _)
 show AgOK ⟨sTaken a.slots,(agPush a t n).heap,(agPush a t n).where_⟩;rw [<- this];exact key
theorem push_cells (ht:RatOK t) (h64:R64 t) (n0:0<=n) (n1:n<=1000000):Cells (a.heap.length+1) (a.heap++[newEv a t n]) a.where_:=by
 have bd:=ok.bd;obtain ⟨h1,h2,h3,h4⟩:=push_ix (t:=t) (n:=n) ok op;refine ⟨by simp,by simp;omega,fun w hw=>?_⟩
 by_cases h:w<a.heap.length
 · rw [bang_app_left h];exact ok.cells.ev w h
 · have:w=a.heap.length:=by omega
   subst this;rw [bang_app_right (Nat.le_refl _),Nat.sub_self];exact ⟨new_ev ok op ht h64 n0 n1,by show 0<=Ev.ix (newEv a t n);omega,by show Ev.ix (newEv a t n)<_;rw [ok.wl];omega⟩
theorem agenda_Push_open (fit:AgFit a) (ht:RatOK t) (h64:R64 t) (n0:0<=n) (n1:n<=1000000) (nn: ∀e∈a.heap,Ev.num e≠n):agenda_Push a t n=some (agPush a t n,sHandle a.slots,0):=by
 have bd:=ok.bd;obtain ⟨h1,h2,h3,h4⟩:=push_ix (t:=t) (n:=n) ok op;have hn: ¬ ∃w,w<a.heap.length/\(a.heap[w]!).2.2.1=n:=by
  rintro ⟨w,hw,e⟩;exact nn _ (bang_mem hw) e
 unfold agenda_Push;rw [agenda_Check_eq a fit,if_pos ok,ratio_Check_eq h64,if_pos ht,HasNum_eq _ _ (by omega),dec_f hn,slot_Take_eq ok.so,if_pos op]
 have se:=settleO_eq (u:=(sTaken a.slots).uses) (us:=(sTaken a.slots).used) (fr:=(sTaken a.slots).free) (new_ev ok op ht h64 n0 n1) (show 0<=Ev.ix (newEv a t n) by omega) (push_cells ok op ht h64 n0 n1) (by simp) (show a.heap.length<a.heap.length+1 by omega) (show Ev.ix (newEv a t n)<a.where_.length by rw [ok.wl];omega)
 have e1:wrapF .i64 (((a.heap++[newEv a t n]).length:Int) -1)=(a.heap.length:Int):=by rw [wi,List.length_append];simp;omega
 have ap:appendO a.heap [(t.1,t.2,n,sHandle a.slots)]=some (a.heap++[newEv a t n]):=appendO_le (by simp;omega)
 have se':agenda_settle_w6855 ((sTaken a.slots).uses,(sTaken a.slots).used,(sTaken a.slots).free,(a.heap.length:Int),t.1,t.2,n,(sHandle a.slots).1,(sHandle a.slots).2,a.heap++[newEv a t n],a.where_)=some (settleG (a.heap.length+1) (newEv a t n) a.heap.length (a.heap++[newEv a t n]) a.where_):=se
 simp only [bindS,gt_iff_lt,Int.lt_irrefl,if_false,show ((0:Int) !=0)=false from rfl,cond_false,dec_f (show¬n<0 by omega),dec_f (show¬1000000<n by omega),cloneO_le (show a.heap.length<=1048576 by omega),cloneO_le (show a.where_.length<=1048576 by omega),ap,ofNat_eq,e1,se']
 rfl
theorem ref07_Pushed_eq (ht:RatOK t) (h64:R64 t) (n0:0<=n) (n1:n<=1000000):ref07_Pushed a t n=some (agPush a t n,sHandle a.slots):=by
 have bd:=ok.bd;obtain ⟨h1,h2,h3,h4⟩:=push_ix (t:=t) (n:=n) ok op;unfold ref07_Pushed;rw [ref07_Twin_eq ok];have e1:wrapF .i64 (((a.heap++[newEv a t n]).length:Int) -1)=(a.heap.length:Int):=by rw [wi,List.length_append];simp;omega
 have ap:appendO a.heap [(t.1,t.2,n,sHandle a.slots)]=some (a.heap++[newEv a t n]):=appendO_le (by simp;omega)
 have hx:=new_ev (n:=n) ok op ht h64 n0 n1;have last:settleG (a.heap.length+1) (newEv a t n) a.heap.length (a.heap++[newEv a t n]) a.where_=_:=settle_last (x:=newEv a t n) ht.1 (push_hole ok op) (push_ord ok op ht) (fun k k0 hk hp=>by omega)
 have hs:(a.heap++[newEv a t n]).set a.heap.length (newEv a t n)=a.heap++[newEv a t n]:=set_same (by rw [bang_app_right (Nat.le_refl _),Nat.sub_self];rfl)
 have ws:seti a.where_ (sHandle a.slots).1 (a.heap.length:Int)=a.where_.set (Ev.n (newEv a t n)) (a.heap.length:Int):=rfl
 have u1:ref07_up_w1305 ((sTaken a.slots).uses,(sTaken a.slots).used,(sTaken a.slots).free,(a.heap.length:Int),a.heap++[newEv a t n],a.where_.set (Ev.n (newEv a t n)) (a.heap.length:Int))=some (((upG (newEv a t n) a.heap.length (a.heap++[newEv a t n]) a.where_).1:Int),(upG (newEv a t n) a.heap.length (a.heap++[newEv a t n]) a.where_).2.1.set (upG (newEv a t n) a.heap.length (a.heap++[newEv a t n]) a.where_).1 (newEv a t n),(upG (newEv a t n) a.heap.length (a.heap++[newEv a t n]) a.where_).2.2.set (Ev.n (newEv a t n)) ((upG (newEv a t n) a.heap.length (a.heap++[newEv a t n]) a.where_).1:Int)):=by
  unfold ref07_up_w1305
  have:=up_psh (c0:=((sTaken a.slots).uses,(sTaken a.slots).used,(sTaken a.slots).free,(a.heap.length:Int),a.heap++[newEv a t n],a.where_.set (Ev.n (newEv a t n)) (a.heap.length:Int))) (u:=(sTaken a.slots).uses) (us:=(sTaken a.slots).used) (fr:=(sTaken a.slots).free) hx (show 0<=Ev.ix (newEv a t n) by omega) a.heap.length (a.heap++[newEv a t n]) a.where_ (push_cells ok op ht h64 n0 n1) (by omega) (by simp) (by rw [ok.wl];omega) rfl List.length_set
  rw [hs] at this;exact this
 have g1:geti a.where_ (sHandle a.slots).1=some a.where_[nextI a.slots]!:=geti_nat a.where_ (nextI a.slots) (by rw [ok.wl];exact h2)
 simp only [bindS,ref06_Taken_eq ok.so op,ap,g1,ofNat_eq,e1,ws,u1];unfold agPush;rw [last]
end
theorem agenda_Push_full {a:Agenda} (ok:AgOK a) (op: ¬SOpen a.slots) (fit:AgFit a) {t:Int×Int} (ht:RatOK t) (h64:R64 t) {n:Int} (n0:0<=n) (n1:n<=1000000) (nn: ∀e∈a.heap,Ev.num e≠n):agenda_Push a t n=some (⟨⟨[],[],[]⟩,[],[]⟩,(0,0),18):=by
 have bd:=ok.bd;have hn: ¬ ∃w,w<a.heap.length/\(a.heap[w]!).2.2.1=n:=by
  rintro ⟨w,hw,e⟩;exact nn _ (bang_mem hw) e
 unfold agenda_Push;rw [agenda_Check_eq a fit,if_pos ok,ratio_Check_eq h64,if_pos ht,HasNum_eq _ _ (by omega),dec_f hn,slot_Take_eq ok.so,if_neg op]
 simp only [bindS,gt_iff_lt,Int.lt_irrefl,if_false,show ((0:Int) !=0)=false from rfl,cond_false,dec_f (show¬n<0 by omega),dec_f (show¬1000000<n by omega),show ((18:Int) !=0)=true from rfl,cond_true]
end Go.Proofs.YtjikemfbommnlaaGreat
namespace Go.Proofs.YtjikemfbommnlaaGreat
open Go.Vm Classical
theorem take_set_lt {l:List Ev} {n i:Nat} {v:Ev}:(l.set i v).take n=(l.take n).set i v:=by
 apply List.ext_getElem?;intro j;rw [List.getElem?_take,List.getElem?_set,List.getElem?_set,List.getElem?_take,List.length_take]
 by_cases h1:j<n
 · rw [if_pos h1]
   by_cases h2:i=j
   · subst h2
     by_cases h3:i<l.length
     · rw [if_pos rfl,if_pos h3,if_pos rfl,if_pos (by omega)]
     · rw [if_pos rfl,if_neg h3,if_pos rfl,if_neg (by omega)]
   · rw [if_neg h2,if_neg h2,if_pos h1]
 · rw [if_neg h1]
   by_cases h2:i=j
   · rw [if_pos h2,if_neg (by omega)]
   · rw [if_neg h2,if_neg h1]
theorem upG_take {n:Nat} {x:Ev}: ∀(i:Nat) (H:List Ev) (W:List Int),i<n->upG x i (H.take n) W=((upG x i H W).1,(upG x i H W).2.1.take n,(upG x i H W).2.2)
 |0,H,W,hi=>by rw [upG,upG]
 |i+1,H,W,hi=>by
  have e:(H.take n)[i / 2]! =H[i / 2]!:=bang_take (by omega)
  rw [upG,upG,e]
  by_cases h:less x H[i / 2]!
  · rw [if_pos h,if_pos h,<- take_set_lt]
    exact upG_take (i / 2) _ _ (by omega)
  · rw [if_neg h,if_neg h]
termination_by i=>i
decreasing_by omega
theorem upG_le {x:Ev}: ∀(i:Nat) (H:List Ev) (W:List Int),(upG x i H W).1<=i
 |0,H,W=>by rw [upG];exact Nat.le_refl _
 |i+1,H,W=>by
  rw [upG];split
  · exact Nat.le_trans (upG_le (i / 2) _ _) (by omega)
  · exact Nat.le_refl _
termination_by i=>i
decreasing_by omega
theorem kid_take {n:Nat} {H:List Ev} {i:Nat} (hk:2*i+1<n):kid n (H.take n) i=kid n H i:=by
 unfold kid
 by_cases h:2*i+2<n
 · rw [bang_take h,bang_take (show 2*i+1<n by omega)]
 · rw [if_neg (fun k=>h k.1),if_neg (fun k=>h k.1)]
theorem downG_go {n:Nat} {x:Ev} {i:Nat} {H:List Ev} {W:List Int} (h:2*i+1<n) (hl:less H[kid n H i]! x):downG n x i H W=downG n x (kid n H i) (H.set i H[kid n H i]!) (W.set (H[kid n H i]!).n (i:Int)):=by
 rw [downG,dif_pos h,if_pos hl]
theorem downG_stop {n:Nat} {x:Ev} {i:Nat} {H:List Ev} {W:List Int} (h: ¬(2*i+1<n/\less H[kid n H i]! x)):downG n x i H W=(i,H,W):=by
 rw [downG];split
 · rename_i h1;rw [if_neg (fun k=>h ⟨h1,k⟩)]
 · rfl
theorem downG_take {n:Nat} {x:Ev}: ∀(d i:Nat) (H:List Ev) (W:List Int),n-i<=d->downG n x i (H.take n) W=((downG n x i H W).1,(downG n x i H W).2.1.take n,(downG n x i H W).2.2)
 |0,i,H,W,hd=>by
  rw [downG_stop (fun h=>by omega),downG_stop (fun h=>by omega)]
 |d+1,i,H,W,hd=>by
  have kc:=kid_cases n H i
  by_cases h:2*i+1<n/\less H[kid n H i]! x
  · have e:(H.take n)[kid n (H.take n) i]! =H[kid n H i]!:=by rw [kid_take h.1,bang_take (by omega)]
    rw [downG_go h.1 h.2,downG_go (H:=H.take n) h.1 (by rw [e];exact h.2),e,kid_take h.1,<- take_set_lt]
    exact downG_take d _ _ _ (by omega)
  · have h': ¬(2*i+1<n/\less (H.take n)[kid n (H.take n) i]! x):=by
     rintro ⟨k1,k2⟩;rw [kid_take k1,bang_take (by omega)] at k2
     exact h ⟨k1,k2⟩
    rw [downG_stop h,downG_stop h']
theorem upG_len {x:Ev}: ∀(i:Nat) (H:List Ev) (W:List Int),(upG x i H W).2.1.length=H.length/\(upG x i H W).2.2.length=W.length
 |0,H,W=>by rw [upG];exact ⟨rfl,rfl⟩
 |i+1,H,W=>by
  rw [upG];split
  · have:=upG_len (x:=x) (i / 2) (H.set (i+1) H[i / 2]!) (W.set (H[i / 2]!).n ((i+1:Nat):Int))
    rwa [List.length_set,List.length_set] at this
  · exact ⟨rfl,rfl⟩
termination_by i=>i
decreasing_by omega
theorem settleG_take {n:Nat} {x:Ev} {i:Nat} {H:List Ev} {W:List Int} (hi:i<n):settleG n x i (H.take n) W=((settleG n x i H W).1.take n,(settleG n x i H W).2):=by
 unfold settleG;rw [upG_take i H W hi];dsimp only;rw [downG_take n _ _ _ (by omega)]
 dsimp only;rw [take_set_lt]
noncomputable def agRemove (a:Agenda) (i:Nat):Agenda:=
 if i<a.heap.length-1 then ⟨sGiven a.slots (a.heap[i]!).2.2.2,(settleG (a.heap.length-1) a.heap[a.heap.length-1]! i a.heap (a.where_.set (Ev.n a.heap[i]!) (-1))).1.take (a.heap.length-1),(settleG (a.heap.length-1) a.heap[a.heap.length-1]! i a.heap (a.where_.set (Ev.n a.heap[i]!) (-1))).2⟩
 else ⟨sGiven a.slots (a.heap[i]!).2.2.2,a.heap.take (a.heap.length-1),a.where_.set (Ev.n a.heap[i]!) (-1)⟩
section
variable {a : Agenda} (ok : AgOK a) {i : Nat} (hi : i < a.heap.length)
include ok hi
theorem rem_where {w:Nat} (hw:w<a.heap.length) (hne:w≠i):Ev.n a.heap[w]!≠Ev.n a.heap[i]!:=by
 have h1:=(ok.back hw).1;have h2:=(ok.back hi).1;exact n_ne h1 h2 fun h=>hne (ok.inj hw hi h)
theorem rem_cells:Cells (a.heap.length-1) a.heap (a.where_.set (Ev.n a.heap[i]!) (-1)):=by
 have c:=ok.cells;refine ⟨by omega,c.hb,fun w hw=>?_⟩
 rw [List.length_set];exact c.ev w (by omega)
theorem rem_hole (hlt:i<a.heap.length-1):Hole (a.heap.length-1) a.heap[a.heap.length-1]! (fun e=> ∃w,w<a.heap.length-1/\w≠i/\a.heap[w]! =e) a.heap (a.where_.set (Ev.n a.heap[i]!) (-1)) i:=by
 obtain ⟨b1,b2,b3,b4,b5⟩:=ok.back (show a.heap.length-1<a.heap.length by omega)
 refine ⟨hlt,by omega,fun w hw hwi=>?_,b1,by rw [List.length_set,ok.wl];exact b2,fun e=>Iff.rfl⟩
 obtain ⟨c1,c2,c3,c4,c5⟩:=ok.back (show w<a.heap.length by omega)
 refine ⟨c1,by rw [List.length_set,ok.wl];exact c2,?_,fun h=>?_⟩
 · rw [bang_set,if_neg (fun h=>rem_where ok hi (show w<a.heap.length by omega) hwi h.1)]
   exact c5
 · have:=ok.inj (show w<a.heap.length by omega) (show a.heap.length-1<a.heap.length by omega) h
   omega
theorem rem_ord:Ord (a.heap.length-1) a.heap i:=
 ⟨fun w hw=>(ok.ev w (by omega)).den,fun k k0 hk _ _=>ok.ord k k0 (by omega),fun i0 k k0 hk hp=>ok.grand i0 k0 (by omega) hp⟩
theorem rem_settled (hlt:i<a.heap.length-1):
 Settled (a.heap.length-1) a.heap[a.heap.length-1]! (fun e=> ∃w,w<a.heap.length-1/\w≠i/\a.heap[w]! =e) (fun k=>k≠Ev.n a.heap[a.heap.length-1]!/\ ∀w,w<a.heap.length-1->w≠i->Ev.n a.heap[w]!≠k) a.heap (a.where_.set (Ev.n a.heap[i]!) (-1))
  (settleG (a.heap.length-1) a.heap[a.heap.length-1]! i a.heap (a.where_.set (Ev.n a.heap[i]!) (-1))).1 (settleG (a.heap.length-1) a.heap[a.heap.length-1]! i a.heap (a.where_.set (Ev.n a.heap[i]!) (-1))).2:=
 settle_spec (ok.ev (a.heap.length-1) (by omega)).den (rem_hole ok hi hlt) (rem_ord ok hi)
theorem rem_slots:SlotsOK (sGiven a.slots (a.heap[i]!).2.2.2):=given_ok ok.so (ok.handle hi).1
theorem rem_used {j:Nat} (hj:j<a.slots.uses.length):(sGiven a.slots (a.heap[i]!).2.2.2).used[j]! =if j=Ev.n a.heap[i]! then false else a.slots.used[j]!:=by
 have _:=hi;show (a.slots.used.set (Ev.n a.heap[i]!) false)[j]! =_;rw [bang_set]
 have:=ok.so.ul
 by_cases e:j=Ev.n a.heap[i]!
 · rw [if_pos ⟨e,by omega⟩,if_pos e]
 · rw [if_neg (fun k=>e k.1),if_neg e]
theorem remove_ok:AgOK (agRemove a i):=by
 have hb:=ok.back hi;have hl:a.heap.length-1+(sGiven a.slots (a.heap[i]!).2.2.2).free.length=a.slots.uses.length:=by
  show a.heap.length-1+(a.slots.free++[_]).length=_;rw [List.length_append]
  have:=ok.hl
  simp only [List.length_cons,List.length_nil];omega
 have un: ∀j,j<a.slots.uses.length->(sGiven a.slots (a.heap[i]!).2.2.2).used[j]! =false->(a.where_.set (Ev.n a.heap[i]!) (-1))[j]! = -1:=by
  intro j hj hu;rw [rem_used ok hi hj] at hu;rw [bang_set]
  by_cases e:j=Ev.n a.heap[i]!
  · rw [if_pos ⟨e.symm▸rfl,by rw [ok.wl];omega⟩]
  · rw [if_neg e] at hu
    rw [if_neg (fun k=>e k.1)]
    exact ok.un j hj hu
 unfold agRemove
 by_cases hlt:i<a.heap.length-1
 · rw [if_pos hlt]
   have st:=rem_settled ok hi hlt;refine ok_of_settled (rem_slots ok hi) st (by omega) (by rw [List.length_set];exact ok.wl) hl (fun j hj hu=>?_) (fun j hj hu=>⟨⟨?_,fun w hw hwi=>?_⟩,un j hj hu⟩) ?_ ?_
   · change j<a.slots.uses.length at hj
     rw [rem_used ok hi hj] at hu
     by_cases e:j=Ev.n a.heap[i]!
     · rw [if_pos e] at hu;cases hu
     · rw [if_neg e] at hu
       obtain ⟨w,hw,e1,e2⟩:=ok.used_ev hj hu;refine ⟨a.heap[w]!,?_,e1,e2⟩
       by_cases hl':w=a.heap.length-1
       · left;rw [hl']
       · refine .inr ⟨w,by omega,fun h=>e ?_,rfl⟩
         rw [<- h];show j=(Ev.ix a.heap[w]!).toNat;omega
   · change j<a.slots.uses.length at hj
     rw [rem_used ok hi hj] at hu
     by_cases e:j=Ev.n a.heap[i]!
     · rw [e];exact (rem_where ok hi (by omega) (by omega)).symm
     · rw [if_neg e] at hu
       exact (ok.no_ev hu (by omega)).symm
   · change j<a.slots.uses.length at hj
     rw [rem_used ok hi hj] at hu
     by_cases e:j=Ev.n a.heap[i]!
     · rw [e];exact rem_where ok hi (by omega) hwi
     · rw [if_neg e] at hu
       exact ok.no_ev hu (by omega)
   · rintro e (rfl|⟨w,hw,_,rfl⟩)
     · exact ok.ev _ (by omega)
     · exact ok.ev w (by omega)
   · rintro e f (rfl|⟨v,hv,hvi,rfl⟩) (rfl|⟨w,hw,hwi,rfl⟩) he
     · rfl
     · rw [ok.nums (by omega) (by omega) he]
     · rw [ok.nums (by omega) (by omega) he]
     · rw [ok.nums (by omega) (by omega) he]
 · rw [if_neg hlt]
   have hie:i=a.heap.length-1:=by omega
   refine ok_of (rem_slots ok hi) (fun e=> ∃w,w<a.heap.length-1/\a.heap[w]! =e) (by omega) (by rw [List.length_set];exact ok.wl) hl (fun w hw=>?_) (fun e=>Iff.rfl) (fun k k0 hk=>ok.ord k k0 (by omega)) (fun j hj hu=>?_) un ?_ ?_
   · obtain ⟨c1,c2,c3,c4,c5⟩:=ok.back (show w<a.heap.length by omega)
     refine ⟨c1,by rw [List.length_set,ok.wl];exact c2,?_⟩
     rw [bang_set,if_neg (fun h=>rem_where ok hi (show w<a.heap.length by omega) (by omega) h.1)]
     exact c5
   · change j<a.slots.uses.length at hj
     rw [rem_used ok hi hj] at hu
     by_cases e:j=Ev.n a.heap[i]!
     · rw [if_pos e] at hu;cases hu
     · rw [if_neg e] at hu
       obtain ⟨w,hw,e1,e2⟩:=ok.used_ev hj hu;refine ⟨a.heap[w]!,⟨w,?_,rfl⟩,e1,e2⟩
       have:w≠i:=fun h=>e (by rw [<- h];show j=(Ev.ix a.heap[w]!).toNat;omega)
       omega
   · rintro e ⟨w,hw,rfl⟩
     exact ok.ev w (by omega)
   · rintro e f ⟨v,hv,rfl⟩ ⟨w,hw,rfl⟩ he
     rw [ok.nums (by omega) (by omega) he]
theorem remove_mem (e:Ev):e∈(agRemove a i).heap↔(e∈a.heap/\e≠a.heap[i]!):=by
 have other: ∀w,w<a.heap.length->(a.heap[w]!≠a.heap[i]!↔w≠i):=fun w hw=>⟨fun h k=>h (by rw [k]),fun h k=>h (ok.inj hw hi (by rw [k]))⟩
 unfold agRemove
 by_cases hlt:i<a.heap.length-1
 · rw [if_pos hlt]
   have st:=rem_settled ok hi hlt;show e∈(_:List Ev).take _↔_;rw [take_bang_mem (by rw [st.hl];omega)]
   refine (st.mem e).trans ?_;constructor
   · rintro (h|⟨w,hw,hwi,rfl⟩)
     · rw [h];exact ⟨bang_mem (by omega),(other _ (by omega)).2 (by omega)⟩
     · exact ⟨bang_mem (by omega),(other _ (by omega)).2 hwi⟩
   · rintro ⟨h,hne⟩
     obtain ⟨w,hw,rfl⟩:=mem_bang.1 h
     by_cases c:w=a.heap.length-1
     · left;rw [c]
     · exact .inr ⟨w,by omega,(other w hw).1 hne,rfl⟩
 · rw [if_neg hlt]
   show e∈a.heap.take _↔_;rw [take_bang_mem (by omega)]
   constructor
   · rintro ⟨w,hw,rfl⟩
     exact ⟨bang_mem (by omega),(other _ (by omega)).2 (by omega)⟩
   · rintro ⟨h,hne⟩
     obtain ⟨w,hw,rfl⟩:=mem_bang.1 h
     have:=(other w hw).1 hne
     exact ⟨w,by omega,rfl⟩
theorem agenda_remove_eq:agenda_remove a (i:Int)=some (agRemove a i,a.heap[i]!,0):=by
 have bd:=ok.bd;obtain ⟨b1,b2,b3,b4,b5⟩:=ok.back hi;obtain ⟨c1,c2,c3,c4,c5⟩:=ok.back (show a.heap.length-1<a.heap.length by omega)
 unfold agenda_remove;have e1:wrapF .i64 ((a.heap.length:Int) -1)=((a.heap.length-1:Nat):Int):=wi_pred (by omega) (by omega)
 have g1:geti a.where_ (a.heap[i]!).2.2.2.1=some a.where_[(a.heap[i]!).2.2.2.1.toNat]!:=geti_int b1 (by rw [ok.wl];exact b2)
 have ws:seti a.where_ (a.heap[i]!).2.2.2.1 (-1)=a.where_.set (Ev.n a.heap[i]!) (-1):=rfl
 simp only [geti_nat a.heap i hi,bindS,slot_Give_eq ok.so (ok.handle hi).1,show ((0:Int) !=0)=false from rfl,cond_false,cloneO_le (show a.heap.length<=1048576 by omega),cloneO_le (show a.where_.length<=1048576 by omega),ofNat_eq,e1,geti_nat a.heap (a.heap.length-1) (by omega),sliceO_le a.heap (a.heap.length-1) (by omega),g1,ws,Int.toNat_natCast]
 unfold agRemove
 by_cases hlt:i<a.heap.length-1
 · rw [dec_t (by omega),if_pos hlt]
   have se:=settleP_eq (cap:=a.heap.length) (u:=(sGiven a.slots (a.heap[i]!).2.2.2).uses) (us:=(sGiven a.slots (a.heap[i]!).2.2.2).used) (fr:=(sGiven a.slots (a.heap[i]!).2.2.2).free) (ok.ev (a.heap.length-1) (by omega)) (show 0<=Ev.ix a.heap[a.heap.length-1]! from c1) (rem_cells ok hi) hlt (show Ev.ix a.heap[a.heap.length-1]!<_ by rw [List.length_set,ok.wl];exact c2)
   rw [se];rfl
 · rw [dec_f (by omega),if_neg hlt]
   rfl
theorem agenda_Remove_eq (fit:AgFit a) {h:Int×Int} (hh:(a.heap[i]!).2.2.2=h):agenda_Remove a h=some (agRemove a i,a.heap[i]!,0):=by
 unfold agenda_Remove;rw [place_ag ok fit hi hh];simp only [bindS,show ((0:Int) !=0)=false from rfl,cond_false,agenda_remove_eq ok hi]
theorem ref07_Removed_eq {h:Int×Int} (hh:(a.heap[i]!).2.2.2=h):ref07_Removed a h=some (agRemove a i):=by
 have bd:=ok.bd;subst hh;obtain ⟨b1,b2,b3,b4,b5⟩:=ok.back hi;obtain ⟨c1,c2,c3,c4,c5⟩:=ok.back (show a.heap.length-1<a.heap.length by omega)
 unfold ref07_Removed;rw [ref07_Twin_eq ok];have e1:wrapF .i64 ((a.heap.length:Int) -1)=((a.heap.length-1:Nat):Int):=wi_pred (by omega) (by omega)
 have g1:geti a.where_ (a.heap[i]!).2.2.2.1=some (i:Int):=by
  rw [geti_int (l:=a.where_) b1 (by rw [ok.wl];exact b2)]
  exact congrArg some b5
 have gv:=ref06_Given_eq ok.so (ok.handle hi).1;simp only [bindS,g1,ofNat_eq,e1,Int.toNat_natCast];unfold agRemove
 by_cases hlt:i<a.heap.length-1
 · rw [bne_t (show (i:Int)≠((a.heap.length-1:Nat):Int) by omega),if_pos hlt]
   have hne:a.heap.length-1≠i:=by omega
   have nn:Ev.n a.heap[a.heap.length-1]!≠Ev.n a.heap[i]!:=rem_where ok hi (by omega) hne
   have sw:=swap_own (n:=a.heap.length) (x:=a.heap[i]!) (u:=a.slots.uses) (us:=a.slots.used) (fr:=a.slots.free) (H:=a.heap) (W:=a.where_) hi (show a.heap.length-1<a.heap.length by omega) hne rfl b1 (by rw [ok.wl];exact b2) c1 (by rw [ok.wl];exact c2)
   rw [set_same (l:=a.heap) rfl,set_same (l:=a.where_) b5] at sw;have hs:(a.heap.set i a.heap[a.heap.length-1]!).set (a.heap.length-1) a.heap[i]! =(a.heap.set (a.heap.length-1) a.heap[i]!).set i a.heap[a.heap.length-1]!:=List.set_comm _ _ (by omega)
   have ws:seti ((a.where_.set (Ev.n a.heap[a.heap.length-1]!) (i:Int)).set (Ev.n a.heap[i]!) ((a.heap.length-1:Nat):Int)) (a.heap[i]!).2.2.2.1 (-1)=(a.where_.set (Ev.n a.heap[i]!) (-1)).set (Ev.n a.heap[a.heap.length-1]!) (i:Int):=by
    show ((a.where_.set (Ev.n a.heap[a.heap.length-1]!) (i:Int)).set (Ev.n a.heap[i]!) ((a.heap.length-1:Nat):Int)).set (Ev.n a.heap[i]!) (-1)=_;rw [List.set_set,List.set_comm _ _ nn]
   have g2:geti ((a.where_.set (Ev.n a.heap[a.heap.length-1]!) (i:Int)).set (Ev.n a.heap[i]!) ((a.heap.length-1:Nat):Int)) (a.heap[i]!).2.2.2.1=some _:=geti_int b1 (by rw [List.length_set,List.length_set,ok.wl];exact b2)
   have cells:Cells (a.heap.length-1) (a.heap.set (a.heap.length-1) a.heap[i]!) (a.where_.set (Ev.n a.heap[i]!) (-1)):=by
    refine ⟨by rw [List.length_set];omega,by rw [List.length_set];omega,fun w hw=>?_⟩
    rw [bang_set,if_neg (by omega)]
    exact (rem_cells ok hi).ev w hw
   have x1:Ev.ix a.heap[a.heap.length-1]!<(a.where_.set (Ev.n a.heap[i]!) (-1)).length:=by rw [List.length_set,ok.wl];exact c2
   have hx:=ok.ev (a.heap.length-1) (by omega)
   have gv':ref06_Given (Slots.mk a.slots.uses a.slots.used a.slots.free) (a.heap[i]!).2.2.2=some (sGiven a.slots (a.heap[i]!).2.2.2):=gv;have tk:(a.heap.set (a.heap.length-1) a.heap[i]!).take (a.heap.length-1)=a.heap.take (a.heap.length-1):=by rw [take_set_lt];exact List.set_eq_of_length_le (by rw [List.length_take];omega)
   have U:ref07_up_w3571 ((sGiven a.slots (a.heap[i]!).2.2.2).uses,(sGiven a.slots (a.heap[i]!).2.2.2).used,(sGiven a.slots (a.heap[i]!).2.2.2).free,a.heap.length-1,((a.heap.set (a.heap.length-1) a.heap[i]!).set i a.heap[a.heap.length-1]!).length,(i:Int),(a.heap.set (a.heap.length-1) a.heap[i]!).set i a.heap[a.heap.length-1]!,(a.where_.set (Ev.n a.heap[i]!) (-1)).set (Ev.n a.heap[a.heap.length-1]!) (i:Int))=
    some (((upG a.heap[a.heap.length-1]! i (a.heap.set (a.heap.length-1) a.heap[i]!) (a.where_.set (Ev.n a.heap[i]!) (-1))).1:Int),(upG a.heap[a.heap.length-1]! i (a.heap.set (a.heap.length-1) a.heap[i]!) (a.where_.set (Ev.n a.heap[i]!) (-1))).2.1.set (upG a.heap[a.heap.length-1]! i (a.heap.set (a.heap.length-1) a.heap[i]!) (a.where_.set (Ev.n a.heap[i]!) (-1))).1 a.heap[a.heap.length-1]!,(upG a.heap[a.heap.length-1]! i (a.heap.set (a.heap.length-1) a.heap[i]!) (a.where_.set (Ev.n a.heap[i]!) (-1))).2.2.set (Ev.n a.heap[a.heap.length-1]!) ((upG a.heap[a.heap.length-1]! i (a.heap.set (a.heap.length-1) a.heap[i]!) (a.where_.set (Ev.n a.heap[i]!) (-1))).1:Int)):=by
    unfold ref07_up_w3571
    exact up_pre (n:=a.heap.length-1) (c0:=((sGiven a.slots (a.heap[i]!).2.2.2).uses,(sGiven a.slots (a.heap[i]!).2.2.2).used,(sGiven a.slots (a.heap[i]!).2.2.2).free,a.heap.length-1,((a.heap.set (a.heap.length-1) a.heap[i]!).set i a.heap[a.heap.length-1]!).length,(i:Int),(a.heap.set (a.heap.length-1) a.heap[i]!).set i a.heap[a.heap.length-1]!,(a.where_.set (Ev.n a.heap[i]!) (-1)).set (Ev.n a.heap[a.heap.length-1]!) (i:Int))) hx c1 i _ _ cells hlt x1 List.length_set List.length_set
   have ul:=upG_le (x:=a.heap[a.heap.length-1]!) i (a.heap.set (a.heap.length-1) a.heap[i]!) (a.where_.set (Ev.n a.heap[i]!) (-1));have un:=upG_len (x:=a.heap[a.heap.length-1]!) i (a.heap.set (a.heap.length-1) a.heap[i]!) (a.where_.set (Ev.n a.heap[i]!) (-1));have uc:=fun w hw=>up_cells (x:=a.heap[a.heap.length-1]!) cells hlt (i:=i) rfl w hw
   have cells1:Cells (a.heap.length-1) (upG a.heap[a.heap.length-1]! i (a.heap.set (a.heap.length-1) a.heap[i]!) (a.where_.set (Ev.n a.heap[i]!) (-1))).2.1 (upG a.heap[a.heap.length-1]! i (a.heap.set (a.heap.length-1) a.heap[i]!) (a.where_.set (Ev.n a.heap[i]!) (-1))).2.2:=by
    refine ⟨by rw [un.1,List.length_set];omega,by rw [un.1,List.length_set];omega,fun w hw=>?_⟩
    rw [un.2];exact uc w hw
   have D:ref07_down_w3571 ((sGiven a.slots (a.heap[i]!).2.2.2).uses,(sGiven a.slots (a.heap[i]!).2.2.2).used,(sGiven a.slots (a.heap[i]!).2.2.2).free,a.heap.length-1,((a.heap.set (a.heap.length-1) a.heap[i]!).set i a.heap[a.heap.length-1]!).length,((upG a.heap[a.heap.length-1]! i (a.heap.set (a.heap.length-1) a.heap[i]!) (a.where_.set (Ev.n a.heap[i]!) (-1))).1:Int),(upG a.heap[a.heap.length-1]! i (a.heap.set (a.heap.length-1) a.heap[i]!) (a.where_.set (Ev.n a.heap[i]!) (-1))).2.1.set (upG a.heap[a.heap.length-1]! i (a.heap.set (a.heap.length-1) a.heap[i]!) (a.where_.set (Ev.n a.heap[i]!) (-1))).1 a.heap[a.heap.length-1]!,(upG a.heap[a.heap.length-1]! i (a.heap.set (a.heap.length-1) a.heap[i]!) (a.where_.set (Ev.n a.heap[i]!) (-1))).2.2.set (Ev.n a.heap[a.heap.length-1]!) ((upG a.heap[a.heap.length-1]! i (a.heap.set (a.heap.length-1) a.heap[i]!) (a.where_.set (Ev.n a.heap[i]!) (-1))).1:Int))=
    some (settleG (a.heap.length-1) a.heap[a.heap.length-1]! i (a.heap.set (a.heap.length-1) a.heap[i]!) (a.where_.set (Ev.n a.heap[i]!) (-1))):=by
    unfold ref07_down_w3571
    exact down_pre (n:=a.heap.length-1) (c0:=((sGiven a.slots (a.heap[i]!).2.2.2).uses,(sGiven a.slots (a.heap[i]!).2.2.2).used,(sGiven a.slots (a.heap[i]!).2.2.2).free,a.heap.length-1,((a.heap.set (a.heap.length-1) a.heap[i]!).set i a.heap[a.heap.length-1]!).length,((upG a.heap[a.heap.length-1]! i (a.heap.set (a.heap.length-1) a.heap[i]!) (a.where_.set (Ev.n a.heap[i]!) (-1))).1:Int),(upG a.heap[a.heap.length-1]! i (a.heap.set (a.heap.length-1) a.heap[i]!) (a.where_.set (Ev.n a.heap[i]!) (-1))).2.1.set (upG a.heap[a.heap.length-1]! i (a.heap.set (a.heap.length-1) a.heap[i]!) (a.where_.set (Ev.n a.heap[i]!) (-1))).1 a.heap[a.heap.length-1]!,(upG a.heap[a.heap.length-1]! i (a.heap.set (a.heap.length-1) a.heap[i]!) (a.where_.set (Ev.n a.heap[i]!) (-1))).2.2.set (Ev.n a.heap[a.heap.length-1]!) ((upG a.heap[a.heap.length-1]! i (a.heap.set (a.heap.length-1) a.heap[i]!) (a.where_.set (Ev.n a.heap[i]!) (-1))).1:Int))) hx c1 a.heap.length (upG a.heap[a.heap.length-1]! i (a.heap.set (a.heap.length-1) a.heap[i]!) (a.where_.set (Ev.n a.heap[i]!) (-1))).1 (upG a.heap[a.heap.length-1]! i (a.heap.set (a.heap.length-1) a.heap[i]!) (a.where_.set (Ev.n a.heap[i]!) (-1))).2.1 (upG a.heap[a.heap.length-1]! i (a.heap.set (a.heap.length-1) a.heap[i]!) (a.where_.set (Ev.n a.heap[i]!) (-1))).2.2 (by omega) cells1 (by omega) (by rw [un.2];exact x1) List.length_set List.length_set
   have st:=settleG_take (n:=(a.heap.length-1)) (x:=a.heap[a.heap.length-1]!) (i:=i) (H:=(a.heap.set (a.heap.length-1) a.heap[i]!)) (W:=(a.where_.set (Ev.n a.heap[i]!) (-1))) hlt;have st2:=settleG_take (n:=(a.heap.length-1)) (x:=a.heap[a.heap.length-1]!) (i:=i) (H:=a.heap) (W:=(a.where_.set (Ev.n a.heap[i]!) (-1))) hlt;rw [tk,st2] at st;injection st with st1 st3
   simp only [cond_true,sw,bindS,sliceO_le _ (a.heap.length-1) (show a.heap.length-1<=((a.heap.set (a.heap.length-1) a.heap[i]!).set i a.heap[a.heap.length-1]!).length by rw [List.length_set,List.length_set];omega),g2,gv',ws,hs,U,D,<- st1,<- st3]
 · rw [bne_f (show (i:Int)=((a.heap.length-1:Nat):Int) by omega),if_neg hlt]
   have ws:seti a.where_ (a.heap[i]!).2.2.2.1 (-1)=a.where_.set (Ev.n a.heap[i]!) (-1):=rfl;simp only [cond_false,sliceO_le a.heap (a.heap.length-1) (by omega),bindS,gv,ws]
end
end Go.Proofs.YtjikemfbommnlaaGreat
namespace Go.Proofs.YtjikemfbommnlaaGreat
open Go.Vm Classical
abbrev Tri:=Int×Int×Int
theorem AgOK.fit {a:Agenda} (ok:AgOK a):AgFit a:=by
 have bd:=ok.bd
 have:=ok.so.fl
 have:=ok.so.n2
 exact ⟨by omega,by omega,by omega,fun w hw=>(ok.ev w hw).2.1⟩
theorem bs_held (l:List Tri) (id:Int) (hl:l.length<=1000000) (hs: ∀i j,i<j->j<l.length->(l[i]!).1<(l[j]!).1):
 (∀k,k<l.length->(l[k]!).1=id->slices_BinarySearchFunc_Held_int__cert_find_1 l id ()=some ((k:Int),true))/\
 ((∀k,k<l.length->(l[k]!).1≠id)-> ∃m,m<=l.length/\(∀i,i<m->(l[i]!).1<id)/\(∀i,m<=i->i<l.length->id<(l[i]!).1)/\slices_BinarySearchFunc_Held_int__cert_find_1 l id ()=some ((m:Int),false)):=by
 obtain ⟨m,m1,m2,m3⟩:=place_ex (fun i=>(l[i]!).1) id l.length hs
 have run:slices_BinarySearchFunc_Held_int__cert_find_1 l id ()=whileO slices_BinarySearchFunc_Held_int__cert_find_1_l1 (l,id,(l.length:Int),(m:Int),(m:Int)):=by
  unfold slices_BinarySearchFunc_Held_int__cert_find_1;refine while_bin (body:=slices_BinarySearchFunc_Held_int__cert_find_1_l1) (fun lo hi=>(l,id,(l.length:Int),(lo:Int),(hi:Int))) l.length m (fun i=>(l[i]!).1<id) (fun lo hi h1 h2=>?_) m2 (fun i h1 h2 h3=>by have:=m3 i h1 h2;omega) l.length 0 l.length (by omega) (by omega) m1 (Nat.le_refl _)
  have e1:decide ((lo:Int)<(hi:Int))=true:=dec_t (by omega)
  have hh:=half_eq (a:=lo) (b:=hi) (by omega) (by omega)
  unfold slices_BinarySearchFunc_Held_int__cert_find_1_l1 cert_find_1;simp only [e1,cond_true,hh,geti_nat l ((lo+hi) / 2) (by omega),Compare_121_eq,bindS,wi_succ (show (lo+hi) / 2<1000000000 by omega)]
  constructor
  · intro h
    have:decide (cmpI (l[(lo+hi) / 2]!).1 id<0)=true:=by
     rcases cmpI_cases (l[(lo+hi) / 2]!).1 id with ⟨a,e⟩|⟨a,e⟩|⟨a,e⟩<;>rw [e]<;>first|rfl|omega
    rw [this];rfl
  · intro h
    have:decide (cmpI (l[(lo+hi) / 2]!).1 id<0)=false:=by
     rcases cmpI_cases (l[(lo+hi) / 2]!).1 id with ⟨a,e⟩|⟨a,e⟩|⟨a,e⟩<;>rw [e]<;>first|rfl|omega
    rw [this];rfl
 have fin:whileO slices_BinarySearchFunc_Held_int__cert_find_1_l1 (l,id,(l.length:Int),(m:Int),(m:Int))=if m<l.length/\(l[m]!).1=id then some ((m:Int),true) else some ((m:Int),false):=by
  have e1:decide ((m:Int)<(m:Int))=false:=dec_f (by omega)
  by_cases hm:m<l.length
  · have e2:decide ((m:Int)<(l.length:Int))=true:=dec_t (by omega)
    have body:slices_BinarySearchFunc_Held_int__cert_find_1_l1 (l,id,(l.length:Int),(m:Int),(m:Int))=some (.done ((m:Int),cmpI (l[m]!).1 id==0)):=by
     unfold slices_BinarySearchFunc_Held_int__cert_find_1_l1 cert_find_1;simp only [e1,e2,cond_true,cond_false,geti_nat l m hm,Compare_121_eq,bindS]
    rw [whileO_done body];rcases cmpI_cases (l[m]!).1 id with ⟨a,e⟩|⟨a,e⟩|⟨a,e⟩
    · rw [e,if_neg (fun h=>by omega)];rfl
    · rw [e,if_pos ⟨hm,a⟩];rfl
    · rw [e,if_neg (fun h=>by omega)];rfl
  · have e2:decide ((m:Int)<(l.length:Int))=false:=dec_f (by omega)
    have body:slices_BinarySearchFunc_Held_int__cert_find_1_l1 (l,id,(l.length:Int),(m:Int),(m:Int))=some (.done ((m:Int),false)):=by
     unfold slices_BinarySearchFunc_Held_int__cert_find_1_l1;simp only [e1,e2,cond_false]
    rw [whileO_done body,if_neg (fun h=>hm h.1)]
 rw [run,fin];constructor
 · intro k hk he
   have hkm:k=m:=by
    rcases Nat.lt_trichotomy k m with h|h|h
    · have:=m2 k h;omega
    · exact h
    · have h1:=m3 m (Nat.le_refl _) (by omega)
      have h2:=hs m k h hk;omega
   subst hkm;rw [if_pos ⟨hk,he⟩]
 · intro h
   refine ⟨m,m1,m2,fun i h1 h2=>?_,?_⟩
   · have:=m3 i h1 h2
     have:=h i h2
     omega
   · rw [if_neg (fun k=>h m k.1 k.2)]
theorem bs_due:slices_BinarySearchFunc_Due_int__clock_place_1=slices_BinarySearchFunc_Held_int__cert_find_1:=rfl
theorem bs_point:slices_BinarySearchFunc_Point_int__clock_point_1=slices_BinarySearchFunc_Held_int__cert_find_1:=rfl
theorem bs_find:slices_BinarySearchFunc_Point_int__field_find_1=slices_BinarySearchFunc_Held_int__cert_find_1:=rfl
theorem erase_eq {α:Type} (l:List α) (k:Nat):l.eraseIdx k=l.take k++l.drop (k+1):=List.eraseIdx_eq_take_drop_succ l k
theorem Delete_held (l:List Tri) (k:Nat) (hk:k<l.length): ∃L:List Tri,slices_Delete_Held_w821 ((k:Int),((k+1:Nat):Int),l)=some (l.length-1,l.length,L)/\L.take (l.length-1)=l.eraseIdx k:=by
 unfold slices_Delete_Held_w821;have e1:decide ((0:Int)<=(k:Int))=true:=dec_t (by omega)
 have e2:decide ((k:Int)<=((k+1:Nat):Int))=true:=dec_t (by omega)
 have e3:decide (((k+1:Nat):Int)<=(l.length:Int))=true:=dec_t (by omega)
 have e4:decide ((l.length:Int)<=(l.length:Int))=true:=dec_t (by omega)
 have e5:((k:Int)==((k+1:Nat):Int))=false:=beq_f (by omega)
 have e6:decide ((0:Int)<=((k+1:Nat):Int))=true:=dec_t (by omega)
 have e7:decide ((k:Int)<=(l.length:Int))=true:=dec_t (by omega)
 have dr:(l.drop (k+1)).take (l.length- (k+1))=l.drop (k+1):=List.take_of_length_le (by rw [List.length_drop];exact Nat.le_refl _)
 have dl:(l.drop (k+1)).length=l.length- (k+1):=List.length_drop;simp only [ofNat_eq,e1,e2,e3,e4,e5,e6,e7,Bool.and_self,cond_true,cond_false,sliceO_le l k (by omega),bindS,Int.toNat_natCast,Nat.zero_add,dr,dl,Bool.not_false,Bool.and_true]
 by_cases h:k+1=l.length
 · have em:(l.drop (k+1)).isEmpty=true:=by rw [List.isEmpty_iff,List.drop_eq_nil_iff];omega
   have n1:Nat.beq (l.length-k) 0=false:=by
    cases hb:Nat.beq (l.length-k) 0 with
    |false=>rfl
    |true=>have:=Nat.eq_of_beq_eq_true hb;omega
   have n2:Nat.ble (k+(l.length-k)) l.length=true:=Nat.ble_eq_true_of_le (by omega)
   have ll:(layL l k (List.replicate (l.length-k) ((0:Int),(0:Int),(0:Int)))).length=l.length:=by
    unfold layL;simp;omega
   simp only [em,cond_true,n1,cond_false,n2,ll,beq_self_eq_true];refine ⟨_,by rw [show k=l.length-1 by omega],?_⟩
   rw [erase_eq,show l.length-1=k by omega]
   unfold layL;rw [List.append_assoc,List.take_append_of_le_length (by rw [List.length_take];omega),List.take_take,Nat.min_self]
   rw [List.drop_eq_nil_of_le (by omega),List.append_nil]
 · have em:(l.drop (k+1)).isEmpty=false:=by
    cases hb:(l.drop (k+1)).isEmpty with
    |false=>rfl
    |true=>rw [List.isEmpty_iff,List.drop_eq_nil_iff] at hb;omega
   have n1:Nat.ble (k+(l.length- (k+1))) l.length=true:=Nat.ble_eq_true_of_le (by omega)
   have n2:decide ((0:Int)<=((k+(l.length- (k+1)):Nat):Int))=true:=dec_t (by omega)
   have n3:decide (((k+(l.length- (k+1)):Nat):Int)<=(l.length:Int))=true:=dec_t (by omega)
   have n4:Nat.beq (l.length- (k+(l.length- (k+1)))) 0=false:=by
    cases hb:Nat.beq (l.length- (k+(l.length- (k+1)))) 0 with
    |false=>rfl
    |true=>have:=Nat.eq_of_beq_eq_true hb;omega
   have l1:(layL l k (l.drop (k+1))).length=l.length:=by
    unfold layL;simp;omega
   have n5:Nat.ble (k+(l.length- (k+1))+(l.length- (k+(l.length- (k+1))))) l.length=true:=Nat.ble_eq_true_of_le (by omega)
   have l2:(layL (layL l k (l.drop (k+1))) (k+(l.length- (k+1))) (List.replicate (l.length- (k+(l.length- (k+1)))) ((0:Int),(0:Int),(0:Int)))).length=l.length:=by
    unfold layL;simp;omega
   simp only [em,cond_false,n1,cond_true,n2,n3,Bool.and_self,n4,l1,n5,l2,beq_self_eq_true];refine ⟨_,by rw [show k+(l.length- (k+1))=l.length-1 by omega],?_⟩
   rw [erase_eq]
   have:k+(l.length- (k+1))=l.length-1:=by omega
   unfold layL;rw [List.append_assoc,List.take_append_of_le_length (by simp;omega),List.take_take,Nat.min_self,List.append_assoc]
   rw [show (l.take k++(l.drop (k+1)++l.drop (k+(l.drop (k+1)).length)))=(l.take k++l.drop (k+1))++l.drop (k+(l.drop (k+1)).length) by rw [List.append_assoc]]
   rw [List.take_append_of_le_length (by simp;omega),List.take_of_length_le (by simp;omega)]
theorem Delete_due:slices_Delete_Due_w821=slices_Delete_Held_w821:=rfl
theorem bang_erase {α:Type} [Inhabited α] {l:List α} {k i:Nat}:(l.eraseIdx k)[i]! =if i<k then l[i]! else l[i+1]!:=by
 rw [erase_eq]
 by_cases hk:k<l.length
 · by_cases h:i<k
   · rw [if_pos h,bang_app_left (by rw [List.length_take];omega),bang_take h]
   · rw [if_neg h,bang_app_right (by rw [List.length_take];omega),bang_drop,List.length_take]
     congr 1;omega
 · have e1:l.take k=l:=List.take_of_length_le (by omega)
   have e2:l.drop (k+1)=[]:=List.drop_eq_nil_of_le (by omega)
   rw [e1,e2,List.append_nil];split
   · rfl
   · rw [getElem!_neg l i (by omega),getElem!_neg l (i+1) (by omega)]
end Go.Proofs.YtjikemfbommnlaaGreat
namespace Go.Proofs.YtjikemfbommnlaaGreat
open Go.Vm Classical
def CertV (x:Int×Int):Prop:=0<=x.1/\x.1<=65535/\0<=x.2/\x.2<=65535/\x.1≠x.2
theorem cert_valid_eq (x:Int×Int):cert_valid x=some (decide (CertV x)):=by
 obtain ⟨a,b⟩:=x;unfold cert_valid;dsimp only
 by_cases h1:0<=a
 · by_cases h3:0<=b
   · have e1:decide (0<=if b<a then b else a)=true:=dec_t (by split<;>omega)
     rw [e1]
     by_cases h2:a<=65535
     · by_cases h4:b<=65535
       · have e2:decide ((if b>a then b else a)<=65535)=true:=dec_t (by split<;>omega)
         rw [e2]
         by_cases h5:a=b
         · rw [bne_f h5,dec_f (p:=CertV (a,b)) (fun h=>h.2.2.2.2 h5)];rfl
         · rw [bne_t h5,dec_t (p:=CertV (a,b)) ⟨h1,h2,h3,h4,h5⟩];rfl
       · have e2:decide ((if b>a then b else a)<=65535)=false:=dec_f (by split<;>omega)
         rw [e2,dec_f (p:=CertV (a,b)) (fun h=>h4 h.2.2.2.1)];rfl
     · have e2:decide ((if b>a then b else a)<=65535)=false:=dec_f (by split<;>omega)
       rw [e2,dec_f (p:=CertV (a,b)) (fun h=>h2 h.2.1)];rfl
   · have e1:decide (0<=if b<a then b else a)=false:=dec_f (by split<;>omega)
     rw [e1,dec_f (p:=CertV (a,b)) (fun h=>h3 h.2.2.1)];rfl
 · have e1:decide (0<=if b<a then b else a)=false:=dec_f (by split<;>omega)
   rw [e1,dec_f (p:=CertV (a,b)) (fun h=>h1 h.1)];rfl
theorem ref08_Cert_eq (x:Int×Int):ref08_Cert x=some (decide (CertV x)):=by
 obtain ⟨a,b⟩:=x;unfold ref08_Cert;dsimp only
 by_cases h1:0<=a
 · by_cases h2:a<=65535
   · by_cases h3:0<=b
     · by_cases h4:b<=65535
       · by_cases h5:a=b
         · rw [bne_f h5,dec_t h1,dec_t h2,dec_t h3,dec_t h4,dec_f (p:=CertV (a,b)) (fun h=>h.2.2.2.2 h5)];rfl
         · rw [bne_t h5,dec_t h1,dec_t h2,dec_t h3,dec_t h4,dec_t (p:=CertV (a,b)) ⟨h1,h2,h3,h4,h5⟩];rfl
       · rw [dec_t h1,dec_t h2,dec_t h3,dec_f h4,dec_f (p:=CertV (a,b)) (fun h=>h4 h.2.2.2.1)];rfl
     · rw [dec_t h1,dec_t h2,dec_f h3,dec_f (p:=CertV (a,b)) (fun h=>h3 h.2.2.1)];rfl
   · rw [dec_t h1,dec_f h2,dec_f (p:=CertV (a,b)) (fun h=>h2 h.2.1)];rfl
 · rw [dec_f h1,dec_f (p:=CertV (a,b)) (fun h=>h1 h.1)];rfl
structure CertsOK (c:Certs):Prop where
 len:c.list.length<=200
 n0:0<=c.next_
 n1:c.next_<=1000000
 cv: ∀i,i<c.list.length->CertV (c.list[i]!).2
 nr: ∀i,i<c.list.length->0<=(c.list[i]!).1/\(c.list[i]!).1<c.next_
 up: ∀i j,i<j->j<c.list.length->(c.list[i]!).1<(c.list[j]!).1
 nd: ∀i j,i<j->j<c.list.length->(c.list[i]!).2≠(c.list[j]!).2
def lastN (l:List Tri) (i:Nat):Int:=if i=0 then -1 else (l[i-1]!).1
def CtLook (c:Certs) (i:Nat):Prop:=CertV (c.list[i]!).2/\(∀j,j<i->(c.list[j]!).2≠(c.list[i]!).2)/\lastN c.list i<(c.list[i]!).1/\(c.list[i]!).1<c.next_
theorem CertsOK.iff {c:Certs} (h1:c.list.length<=200) (h2:0<=c.next_) (h3:c.next_<=1000000):CertsOK c↔ ∀i,i<c.list.length->CtLook c i:=by
 constructor
 · intro ok i hi
   refine ⟨ok.cv i hi,fun j hj=>ok.nd j i hj hi,?_,(ok.nr i hi).2⟩
   unfold lastN;split
   · have:=(ok.nr i hi).1;omega
   · exact ok.up (i-1) i (by omega) hi
 · intro h
   have low: ∀i,i<c.list.length->0<=(c.list[i]!).1:=by
    intro i
    induction i with
    |zero=>
     intro hi
     have:=(h 0 hi).2.2.1
     unfold lastN at this;rw [if_pos rfl] at this;omega
    |succ i ih=>
     intro hi;have h1:=(h (i+1) hi).2.2.1;unfold lastN at h1;rw [if_neg (by omega),show i+1-1=i by omega] at h1
     have:=ih (by omega)
     omega
   have up: ∀i j,i<j->j<c.list.length->(c.list[i]!).1<(c.list[j]!).1:=by
    intro i j
    induction j with
    |zero=>intro h;omega
    |succ j ih=>
     intro hij hj;have h1:=(h (j+1) hj).2.2.1;unfold lastN at h1;rw [if_neg (by omega),show j+1-1=j by omega] at h1
     by_cases e:i=j
     · subst e;exact h1
     · have:=ih (by omega) (by omega)
       omega
   exact ⟨h1,h2,h3,fun i hi=>(h i hi).1,fun i hi=>⟨low i hi,(h i hi).2.2.2⟩,up,fun i j hij hj=>(h j hj).2.1 i hij⟩
theorem keys_certs (l:List Tri) (k:Nat) (a b:Int):keysLike [a,b] ((l.take k).map fun x=>[x.2.1,x.2.2])=true:=by
 unfold keysLike;rw [List.all_eq_true];intro x hx;obtain ⟨y,hy,rfl⟩:=List.mem_map.1 hx;rfl
theorem hasL_certs (l:List Tri) (k:Nat) (x:Int×Int):hasL ((l.take k).map fun y=>[y.2.1,y.2.2]) [x.1,x.2]=decide (∃j,j<k/\j<l.length/\(l[j]!).2=x):=by
 unfold hasL;rw [Bool.eq_iff_iff,List.any_eq_true,decide_eq_true_iff];constructor
 · rintro ⟨y,hy,he⟩
   obtain ⟨z,hz,rfl⟩:=List.mem_map.1 hy;obtain ⟨j,h1,h2,rfl⟩:=mem_take_bang.1 hz
   have:[x.1,x.2]=[(l[j]!).2.1,(l[j]!).2.2]:=by simpa using he
   injection this with e1 e2;injection e2 with e2 _;exact ⟨j,h1,h2,Prod.ext e1.symm e2.symm⟩
 · rintro ⟨j,h1,h2,h3⟩
   refine ⟨[(l[j]!).2.1,(l[j]!).2.2],List.mem_map.2 ⟨l[j]!,mem_take_bang.2 ⟨j,h1,h2,rfl⟩,rfl⟩,?_⟩;rw [h3];simp
theorem cert_Check_eq (c:Certs):cert_Check c=some (if CertsOK c then 0 else 8):=by
 unfold cert_Check;simp only [ofNat_eq]
 by_cases h1:200<c.list.length
 · rw [dec_t (show (200:Int)<(c.list.length:Int) by omega),if_neg (fun h=>by have:=h.len;omega)];rfl
 rw [dec_f (show¬(200:Int)<(c.list.length:Int) by omega)]
 by_cases h2:c.next_<0
 · rw [dec_t h2,if_neg (fun h=>by have:=h.n0;omega)];rfl
 rw [dec_f h2]
 by_cases h3:1000000<c.next_
 · rw [dec_t h3,if_neg (fun h=>by have:=h.n1;omega)];rfl
 rw [dec_f h3];simp only [cond_false];have key:=while_any (body:=cert_Check_l1) (fun i=>(lastN c.list i,c.list,(c.list.length:Int),(i:Int),c.next_,c.list,(c.list.take i).map fun x=>[x.2.1,x.2.2])) c.list.length (fun i=> ¬CtLook c i) (r:=8) (e:=0) (fun i hi=>by
  have e1:decide ((i:Int)<(c.list.length:Int))=true:=dec_t (by omega)
  have has:hasO ((c.list.take i).map fun x=>[x.2.1,x.2.2]) [(c.list[i]!).2.1,(c.list[i]!).2.2]=some (decide (∃j,j<i/\j<c.list.length/\(c.list[j]!).2=(c.list[i]!).2)):=by
   unfold hasO;rw [keys_certs,hasL_certs];rfl
  have nx:(c.list.take (i+1)).map (fun x=>[x.2.1,x.2.2])=((c.list.take i).map fun x=>[x.2.1,x.2.2])++[[(c.list[i]!).2.1,(c.list[i]!).2.2]]:=by
   rw [take_succ_bang hi,List.map_append];rfl
  have ln:lastN c.list (i+1)=(c.list[i]!).1:=by unfold lastN;rw [if_neg (by omega),show i+1-1=i by omega]
  unfold cert_Check_l1;simp only [e1,cond_true,geti_nat c.list i hi,bindS,cert_valid_eq,has,nx,ln,wi_succ (show i<1000000000 by omega)]
  unfold CtLook
  by_cases b1:CertV (c.list[i]!).2
  case neg=>
   rw [dec_f b1];exact ⟨fun _=>rfl,fun h=>absurd (Classical.not_not.1 h).1 b1⟩
  rw [dec_t b1]
  by_cases b2: ∃j,j<i/\j<c.list.length/\(c.list[j]!).2=(c.list[i]!).2
  · rw [dec_t b2]
    refine ⟨fun _=>rfl,fun h=>?_⟩
    obtain ⟨j,j1,j2,j3⟩:=b2;exact absurd j3 ((Classical.not_not.1 h).2.1 j j1)
  rw [dec_f b2];have b2': ∀j,j<i->(c.list[j]!).2≠(c.list[i]!).2:=fun j hj he=>b2 ⟨j,hj,by omega,he⟩
  by_cases b3:(c.list[i]!).1<=lastN c.list i
  · rw [dec_t b3]
    exact ⟨fun _=>rfl,fun h=>absurd (Classical.not_not.1 h).2.2.1 (by omega)⟩
  rw [dec_f b3]
  by_cases b4:c.next_<=(c.list[i]!).1
  · rw [dec_t b4]
    exact ⟨fun _=>rfl,fun h=>absurd (Classical.not_not.1 h).2.2.2 (by omega)⟩
  rw [dec_f b4];have ins:insO ((c.list.take i).map fun x=>[x.2.1,x.2.2]) [(c.list[i]!).2.1,(c.list[i]!).2.2]=some (((c.list.take i).map fun x=>[x.2.1,x.2.2])++[[(c.list[i]!).2.1,(c.list[i]!).2.2]]):=by
   unfold insO insL;rw [keys_certs,hasL_certs,dec_f b2];rfl
  rw [ins];exact ⟨fun h=>absurd ⟨b1,b2',by omega,by omega⟩ h,fun _=>rfl⟩) (by
  unfold cert_Check_l1
  have:decide ((c.list.length:Int)<(c.list.length:Int))=false:=dec_f (by omega)
  simp only [this,cond_false])
 have h0:lastN c.list 0= -1:=rfl;rw [h0] at key
 by_cases ok:CertsOK c
 · rw [if_pos ok]
   exact key.2 fun i hi=>Classical.not_not.2 ((CertsOK.iff (by omega) (by omega) (by omega)).1 ok i hi)
 · rw [if_neg ok]
   rw [CertsOK.iff (by omega) (by omega) (by omega)] at ok
   obtain ⟨i,h⟩:=Classical.not_forall.1 ok;obtain ⟨hi,hx⟩:=Classical.not_imp.1 h;exact key.1 ⟨i,hi,hx⟩
theorem ref08_l1_eq (c:Certs) (i:Nat) (hi:i<c.list.length) (hl:c.list.length<=200):
 ((∃j,j<i/\(c.list[j]!).2=(c.list[i]!).2)->whileO ref08_Check_l1 ((i:Int),0,c.next_,c.list,c.list[i]!)=some (.done 8))/\
 ((∀j,j<i-> ¬(c.list[j]!).2=(c.list[i]!).2)->whileO ref08_Check_l1 ((i:Int),0,c.next_,c.list,c.list[i]!)=some (.next (((i+1:Nat):Int),c.next_,c.list))):=by
 refine while_any (body:=ref08_Check_l1) (fun j=>((i:Int),(j:Int),c.next_,c.list,c.list[i]!)) i (fun j=>(c.list[j]!).2=(c.list[i]!).2) (r:= .done 8) (e:= .next (((i+1:Nat):Int),c.next_,c.list)) (fun j hj=>?_) ?_
 · have e1:decide ((j:Int)<(i:Int))=true:=dec_t (by omega)
   unfold ref08_Check_l1;simp only [e1,cond_true,geti_nat c.list j (by omega),bindS,wi_succ (show j<1000000000 by omega)]
   generalize c.list[j]! =x;generalize c.list[i]! =y;constructor
   · intro h;rw [beq_t (congrArg Prod.fst h),beq_t (congrArg Prod.snd h)];rfl
   · intro h
     by_cases h1:x.2.1=y.2.1
     · rw [beq_t h1,beq_f (fun h2=>h (Prod.ext h1 h2))];rfl
     · rw [beq_f h1];rfl
 · unfold ref08_Check_l1
   have:decide ((i:Int)<(i:Int))=false:=dec_f (by omega)
   simp only [this,cond_false,wi_succ (show i<1000000000 by omega)]
theorem ref08_Check_eq (c:Certs):ref08_Check c=some (if CertsOK c then 0 else 8):=by
 unfold ref08_Check;simp only [ofNat_eq]
 by_cases h1:200<c.list.length
 · rw [dec_t (show (200:Int)<(c.list.length:Int) by omega),if_neg (fun h=>by have:=h.len;omega)];rfl
 rw [dec_f (show¬(200:Int)<(c.list.length:Int) by omega)]
 by_cases h2:c.next_<0
 · rw [dec_t h2,if_neg (fun h=>by have:=h.n0;omega)];rfl
 rw [dec_f h2]
 by_cases h3:1000000<c.next_
 · rw [dec_t h3,if_neg (fun h=>by have:=h.n1;omega)];rfl
 rw [dec_f h3];simp only [cond_false];have key:=while_any (body:=ref08_Check_l2) (fun i=>((i:Int),c.next_,c.list)) c.list.length (fun i=> ¬(CertV (c.list[i]!).2/\0<=(c.list[i]!).1/\(c.list[i]!).1<c.next_/\(0<i->(c.list[i-1]!).1<(c.list[i]!).1)/\ ∀j,j<i-> ¬(c.list[j]!).2=(c.list[i]!).2)) (r:=8) (e:=0) (fun i hi=>by
  have e1:decide ((i:Int)<(c.list.length:Int))=true:=dec_t (by omega)
  have l1:=ref08_l1_eq c i hi (by omega)
  unfold ref08_Check_l2;simp only [ofNat_eq,e1,cond_true,geti_nat c.list i hi,bindS,ref08_Cert_eq]
  by_cases b1:CertV (c.list[i]!).2
  case neg=>
   rw [dec_f b1];exact ⟨fun _=>rfl,fun h=>absurd (Classical.not_not.1 h).1 b1⟩
  rw [dec_t b1]
  by_cases b2:(c.list[i]!).1<0
  · rw [dec_t b2]
    exact ⟨fun _=>rfl,fun h=>absurd (Classical.not_not.1 h).2.1 (by omega)⟩
  rw [dec_f b2]
  by_cases b3:c.next_<=(c.list[i]!).1
  · rw [dec_t b3]
    exact ⟨fun _=>rfl,fun h=>absurd (Classical.not_not.1 h).2.2.1 (by omega)⟩
  rw [dec_f b3];simp only [Bool.not_true,cond_false];have go:(0<i->(c.list[i-1]!).1<(c.list[i]!).1)->(¬(CertV (c.list[i]!).2/\0<=(c.list[i]!).1/\(c.list[i]!).1<c.next_/\(0<i->(c.list[i-1]!).1<(c.list[i]!).1)/\ ∀j,j<i-> ¬(c.list[j]!).2=(c.list[i]!).2)->whileO ref08_Check_l1 ((i:Int),0,c.next_,c.list,c.list[i]!)=some (.done 8))/\
   (¬¬(CertV (c.list[i]!).2/\0<=(c.list[i]!).1/\(c.list[i]!).1<c.next_/\(0<i->(c.list[i-1]!).1<(c.list[i]!).1)/\ ∀j,j<i-> ¬(c.list[j]!).2=(c.list[i]!).2)->whileO ref08_Check_l1 ((i:Int),0,c.next_,c.list,c.list[i]!)=some (.next (((i+1:Nat):Int),c.next_,c.list))):=by
   intro hp;constructor
   · intro h
     refine l1.1 (Classical.byContradiction fun hx=>h ⟨b1,by omega,by omega,hp,fun j hj he=>hx ⟨j,hj,he⟩⟩)
   · intro h
     exact l1.2 (Classical.not_not.1 h).2.2.2.2
  by_cases b4:0<i
  · have f1:decide ((0:Int)<(i:Int))=true:=dec_t (by omega)
    simp only [f1,cond_true,wi_pred (show i<1000000000 by omega) b4,geti_nat c.list (i-1) (by omega),bindS]
    by_cases b5:(c.list[i]!).1<=(c.list[i-1]!).1
    · rw [dec_t b5]
      exact ⟨fun _=>rfl,fun h=>absurd ((Classical.not_not.1 h).2.2.2.1 b4) (by omega)⟩
    · rw [dec_f b5]
      exact go fun _=>by omega
  · have f1:decide ((0:Int)<(i:Int))=false:=dec_f (by omega)
    rw [f1];exact go fun h=>absurd h b4) (by
  unfold ref08_Check_l2
  have:decide ((c.list.length:Int)<(c.list.length:Int))=false:=dec_f (by omega)
  simp only [ofNat_eq,this,cond_false])
 have same:CertsOK c↔ ∀i,i<c.list.length->(CertV (c.list[i]!).2/\0<=(c.list[i]!).1/\(c.list[i]!).1<c.next_/\(0<i->(c.list[i-1]!).1<(c.list[i]!).1)/\ ∀j,j<i-> ¬(c.list[j]!).2=(c.list[i]!).2):=by
  constructor
  · intro ok i hi
    exact ⟨ok.cv i hi,(ok.nr i hi).1,(ok.nr i hi).2,fun h=>ok.up (i-1) i (by omega) hi,fun j hj=>ok.nd j i hj hi⟩
  · intro h
    rw [CertsOK.iff (by omega) (by omega) (by omega)]
    intro i hi;obtain ⟨a1,a2,a3,a4,a5⟩:=h i hi;refine ⟨a1,a5,?_,a3⟩;unfold lastN;split
    · omega
    · exact a4 (by omega)
 by_cases ok:CertsOK c
 · rw [if_pos ok]
   exact key.2 fun i hi=>Classical.not_not.2 (same.1 ok i hi)
 · rw [if_neg ok]
   rw [same] at ok;obtain ⟨i,h⟩:=Classical.not_forall.1 ok;obtain ⟨hi,hx⟩:=Classical.not_imp.1 h;exact key.1 ⟨i,hi,hx⟩
end Go.Proofs.YtjikemfbommnlaaGreat
namespace Go.Proofs.YtjikemfbommnlaaGreat
open Go.Vm Classical
def HasC (l:List Tri) (x:Int×Int):Prop:= ∃i,i<l.length/\(l[i]!).2=x
theorem has_held (l:List Tri) (x:Int×Int) (hl:l.length<=1000000):slices_ContainsFunc_Held__cert_Add_1 l x=some (decide (HasC l x)):=by
 unfold slices_ContainsFunc_Held__cert_Add_1 slices_IndexFunc_Held__cert_Add_1;have key:=while_first (body:=slices_IndexFunc_Held__cert_Add_1_l1) (fun i=>(l,x.1,x.2,(l.length:Int),(i:Int))) l.length (fun i=>(l[i]!).2=x) (fun i=>(i:Int)) (e:= -1) (fun i hi=>by
  have e1:decide ((i:Int)<(l.length:Int))=true:=dec_t (by omega)
  unfold slices_IndexFunc_Held__cert_Add_1_l1 cert_Add_1;simp only [e1,cond_true,geti_nat l i hi,bindS,wi_succ (show i<1000000000 by omega)]
  generalize l[i]! =y;constructor
  · intro h;rw [beq_t (congrArg Prod.fst h),beq_t (congrArg Prod.snd h)];rfl
  · intro h
    by_cases h1:y.2.1=x.1
    · rw [beq_t h1,beq_f (fun h2=>h (Prod.ext h1 h2))];rfl
    · rw [beq_f h1];rfl) (by
  unfold slices_IndexFunc_Held__cert_Add_1_l1
  have:decide ((l.length:Int)<(l.length:Int))=false:=dec_f (by omega)
  simp only [this,cond_false])
 rw [ofNat_eq]
 by_cases hx:HasC l x
 · obtain ⟨k,h1,h2,h3⟩:=least hx
   have:=key.1 k h1 h2 h3
   rw [show ((0:Nat):Int)=0 from rfl] at this;rw [this,dec_t hx];simp only [bindS,dec_t (show (0:Int)<=(k:Int) by omega)]
 · have:=key.2 fun i hi he=>hx ⟨i,hi,he⟩
   rw [show ((0:Nat):Int)=0 from rfl] at this;rw [this,dec_f hx];rfl
theorem has_renew:slices_ContainsFunc_Held__kheap_renew_1=slices_ContainsFunc_Held__cert_Add_1:=rfl
theorem ref08_Has_eq (c:Certs) (x:Int×Int) (hl:c.list.length<=1000000):ref08_Has c x=some (decide (HasC c.list x)):=by
 unfold ref08_Has;have key:=while_any (body:=ref08_Has_l1) (fun i=>((i:Int),c.next_,c.list,x)) c.list.length (fun i=>(c.list[i]!).2=x) (r:=true) (e:=false) (fun i hi=>by
  have e1:decide ((i:Int)<(c.list.length:Int))=true:=dec_t (by omega)
  unfold ref08_Has_l1;simp only [ofNat_eq,e1,cond_true,geti_nat c.list i hi,bindS,wi_succ (show i<1000000000 by omega)]
  generalize c.list[i]! =y;constructor
  · intro h;rw [beq_t (congrArg Prod.fst h),beq_t (congrArg Prod.snd h)];rfl
  · intro h
    by_cases h1:y.2.1=x.1
    · rw [beq_t h1,beq_f (fun h2=>h (Prod.ext h1 h2))];rfl
    · rw [beq_f h1];rfl) (by
  unfold ref08_Has_l1
  have:decide ((c.list.length:Int)<(c.list.length:Int))=false:=dec_f (by omega)
  simp only [ofNat_eq,this,cond_false])
 by_cases hx:HasC c.list x
 · rw [dec_t hx];exact key.1 hx
 · rw [dec_f hx];exact key.2 fun i hi he=>hx ⟨i,hi,he⟩
def certAdd (c:Certs) (x:Int×Int):Certs:=⟨c.next_+1,c.list++[(c.next_,x)]⟩
def CFull (c:Certs):Prop:=c.list.length=200\/c.next_=1000000
theorem cert_Add_eq {c:Certs} (ok:CertsOK c) {x:Int×Int} (hx:CertV x):cert_Add c x=some (if HasC c.list x then (⟨0,[]⟩,0,14) else if CFull c then (⟨0,[]⟩,0,18) else (certAdd c x,c.next_,0)):=by
 have:=ok.len;have:=ok.n0;have:=ok.n1
 unfold cert_Add;rw [cert_Check_eq,if_pos ok,cert_valid_eq,dec_t hx,has_held _ _ (by omega)]
 simp only [bindS,show ((0:Int) !=0)=false from rfl,cond_false,Bool.not_true,ofNat_eq]
 by_cases h1:HasC c.list x
 · rw [dec_t h1,if_pos h1];rfl
 rw [dec_f h1,if_neg h1];unfold CFull
 by_cases h2:c.list.length=200
 · rw [beq_t (show (c.list.length:Int)=200 by omega),if_pos (.inl h2)];rfl
 rw [beq_f (show¬(c.list.length:Int)=200 by omega)]
 by_cases h3:c.next_=1000000
 · rw [beq_t h3,if_pos (.inr h3)];rfl
 rw [beq_f h3,if_neg (by omega)]
 have e:wrapF .i64 (c.next_+1)=c.next_+1:=by rw [wi];omega
 simp only [cond_false,cloneO_le (show c.list.length<=1048576 by omega),bindS,appendO_le (show c.list.length+[(c.next_,x)].length<=1048576 by simp;omega),e]
 rfl
theorem ref08_Add_eq {c:Certs} (ok:CertsOK c) {x:Int×Int} (hx:CertV x):ref08_Add c x=some (if HasC c.list x then (⟨0,[]⟩,0,14) else if CFull c then (⟨0,[]⟩,0,18) else (certAdd c x,c.next_,0)):=by
 have:=ok.len;have:=ok.n0;have:=ok.n1
 unfold ref08_Add ref08_Twin;rw [ref08_Check_eq,if_pos ok,ref08_Cert_eq,dec_t hx,ref08_Has_eq _ _ (by omega)]
 simp only [bindS,show ((0:Int) !=0)=false from rfl,cond_false,Bool.not_true,ofNat_eq]
 by_cases h1:HasC c.list x
 · rw [dec_t h1,if_pos h1];rfl
 rw [dec_f h1,if_neg h1];unfold CFull
 by_cases h2:c.list.length=200
 · rw [beq_t (show (c.list.length:Int)=200 by omega),if_pos (.inl h2)];rfl
 rw [beq_f (show¬(c.list.length:Int)=200 by omega)]
 by_cases h3:c.next_=1000000
 · rw [beq_t h3,if_pos (.inr h3)];rfl
 rw [beq_f h3,if_neg (by omega)]
 have e:wrapF .i64 (c.next_+1)=c.next_+1:=by rw [wi];omega
 simp only [cond_false,cloneO_le (show c.list.length<=1048576 by omega),bindS,appendO_le (show c.list.length+[(c.next_,x)].length<=1048576 by simp;omega),e]
 rfl
theorem cert_Add_bad {c:Certs} (ok:CertsOK c) {x:Int×Int} (hx: ¬CertV x):cert_Add c x=some (⟨0,[]⟩,0,8):=by
 unfold cert_Add;rw [cert_Check_eq,if_pos ok,cert_valid_eq,dec_f hx];rfl
theorem add_cell {c:Certs} {x:Int×Int} {i:Nat}:(certAdd c x).list[i]! =if i<c.list.length then c.list[i]! else if i=c.list.length then (c.next_,x) else default:=by
 show (c.list++[(c.next_,x)])[i]! =_
 by_cases h:i<c.list.length
 · rw [if_pos h,bang_app_left h]
 · rw [if_neg h,bang_app_right (by omega)]
   by_cases e:i=c.list.length
   · rw [if_pos e,e,Nat.sub_self];rfl
   · rw [if_neg e,getElem!_neg _ _ (by simp;omega)]
theorem add_len {c:Certs} {x:Int×Int}:(certAdd c x).list.length=c.list.length+1:=by
 show (c.list++[(c.next_,x)]).length=_;simp
theorem certAdd_ok {c:Certs} (ok:CertsOK c) {x:Int×Int} (hx:CertV x) (hn: ¬HasC c.list x) (hf: ¬CFull c):CertsOK (certAdd c x):=by
 have h1:=ok.len;have h2:=ok.n0;have h3:=ok.n1;unfold CFull at hf;refine ⟨by rw [add_len];omega,by show 0<=c.next_+1;omega,by show c.next_+1<=1000000;omega,?_,?_,?_,?_⟩
 · intro i hi
   rw [add_len] at hi;rw [add_cell]
   by_cases h:i<c.list.length
   · rw [if_pos h];exact ok.cv i h
   · rw [if_neg h,if_pos (by omega)];exact hx
 · intro i hi
   rw [add_len] at hi;rw [add_cell];show 0<=_/\_<c.next_+1
   by_cases h:i<c.list.length
   · rw [if_pos h];have:=ok.nr i h;omega
   · rw [if_neg h,if_pos (by omega)];dsimp only;omega
 · intro i j hij hj
   rw [add_len] at hj;rw [add_cell,add_cell,if_pos (by omega)]
   by_cases h:j<c.list.length
   · rw [if_pos h];exact ok.up i j hij h
   · rw [if_neg h,if_pos (by omega)]
     exact (ok.nr i (by omega)).2
 · intro i j hij hj
   rw [add_len] at hj;rw [add_cell,add_cell,if_pos (by omega)]
   by_cases h:j<c.list.length
   · rw [if_pos h];exact ok.nd i j hij h
   · rw [if_neg h,if_pos (by omega)]
     exact fun he=>hn ⟨i,by omega,he⟩
def certDel (c:Certs) (k:Nat):Certs:=⟨c.next_,c.list.eraseIdx k⟩
theorem del_len {α:Type} {l:List α} {k:Nat} (hk:k<l.length):(l.eraseIdx k).length=l.length-1:=by
 rw [List.length_eraseIdx,if_pos hk]
theorem certDel_ok {c:Certs} (ok:CertsOK c) {k:Nat} (hk:k<c.list.length):CertsOK (certDel c k):=by
 have h1:=ok.len;have len:(certDel c k).list.length=c.list.length-1:=del_len hk;have cell: ∀i,∃j,i<=j/\j<=i+1/\(i<c.list.length-1->j<c.list.length)/\(certDel c k).list[i]! =c.list[j]!/\(i<k->j=i)/\(k<=i->j=i+1):=by
  intro i
  by_cases h:i<k
  · exact ⟨i,by omega,by omega,by omega,by show (c.list.eraseIdx k)[i]! =_;rw [bang_erase,if_pos h],fun _=>rfl,by omega⟩
  · exact ⟨i+1,by omega,by omega,by omega,by show (c.list.eraseIdx k)[i]! =_;rw [bang_erase,if_neg h],by omega,fun _=>rfl⟩
 refine ⟨by omega,ok.n0,ok.n1,?_,?_,?_,?_⟩
 · intro i hi
   obtain ⟨j,j1,j2,j3,j4,j5,j6⟩:=cell i;rw [j4];exact ok.cv j (j3 (by omega))
 · intro i hi
   obtain ⟨j,j1,j2,j3,j4,j5,j6⟩:=cell i;rw [j4];exact ok.nr j (j3 (by omega))
 · intro i i' hij hi
   obtain ⟨j,j1,j2,j3,j4,j5,j6⟩:=cell i;obtain ⟨m,m1,m2,m3,m4,m5,m6⟩:=cell i';rw [j4,m4];exact ok.up j m (by omega) (m3 (by omega))
 · intro i i' hij hi
   obtain ⟨j,j1,j2,j3,j4,j5,j6⟩:=cell i;obtain ⟨m,m1,m2,m3,m4,m5,m6⟩:=cell i';rw [j4,m4];exact ok.nd j m (by omega) (m3 (by omega))
theorem cert_Remove_eq {c:Certs} (ok:CertsOK c) {k:Nat} (hk:k<c.list.length) {n:Int} (hn:(c.list[k]!).1=n):cert_Remove c n=some (certDel c k,(c.list[k]!).2,0):=by
 have h1:=ok.len;unfold cert_Remove cert_find;obtain ⟨L,d1,d2⟩:=Delete_held c.list k hk;rw [cert_Check_eq,if_pos ok,(bs_held c.list n (by omega) ok.up).1 k hk hn]
 simp only [bindS,show ((0:Int) !=0)=false from rfl,cond_false,Bool.not_true,cloneO_le (show c.list.length<=1048576 by omega),wi_succ (show k<1000000000 by omega),d1,geti_nat c.list k hk,d2]
 rfl
theorem filter_erase {l:List Tri} {k:Nat} (hk:k<l.length) (hs: ∀i j,i<j->j<l.length->(l[i]!).1<(l[j]!).1) {n:Int} (hn:(l[k]!).1=n):l.filter (fun x=>x.1 !=n)=l.eraseIdx k:=by
 rw [erase_eq];have e:l.filter (fun x=>x.1 !=n)=(l.take k++l[k]!::l.drop (k+1)).filter (fun x=>x.1 !=n):=congrArg _ (split_at hk)
 rw [e,List.filter_append,List.filter_cons_of_neg (by rw [hn];simp)]
 congr 1
 · rw [List.filter_eq_self]
   intro x hx;obtain ⟨i,h1,h2,rfl⟩:=mem_take_bang.1 hx
   have:=hs i k h1 hk
   exact bne_t (by omega)
 · rw [List.filter_eq_self]
   intro x hx;obtain ⟨i,h1,rfl⟩:=mem_bang.1 hx;rw [List.length_drop] at h1;rw [bang_drop]
   have:=hs k (k+1+i) (by omega) (by omega)
   exact bne_t (by omega)
theorem ref08_Without_eq {c:Certs} (ok:CertsOK c) {k:Nat} (hk:k<c.list.length) {n:Int} (hn:(c.list[k]!).1=n):ref08_Without c n=some (certDel c k):=by
 have h1:=ok.len;unfold ref08_Without;have key:=while_steps (body:=ref08_Without_l1) (fun i=>(n,(i:Int),c.next_,c.list,0,c.next_,(c.list.take i).filter (fun x=>x.1 !=n))) c.list.length (fun i hi=>by
  have e1:decide ((i:Int)<(c.list.length:Int))=true:=dec_t (by omega)
  have nx:(c.list.take (i+1)).filter (fun x=>x.1 !=n)=(c.list.take i).filter (fun x=>x.1 !=n)++(if (c.list[i]!).1 !=n then [c.list[i]!] else []):=by
   rw [take_succ_bang hi,List.filter_append,List.filter_cons,List.filter_nil]
  have fl:((c.list.take i).filter (fun x=>x.1 !=n)).length<=200:=Nat.le_trans (List.length_filter_le _ _) (by rw [List.length_take];omega)
  unfold ref08_Without_l1;simp only [ofNat_eq,e1,cond_true,geti_nat c.list i hi,bindS,wi_succ (show i<1000000000 by omega),nx]
  by_cases h:(c.list[i]!).1=n
  · rw [bne_f h];simp
  · rw [bne_t h]
    simp only [cond_true,if_true,appendO_le (show ((c.list.take i).filter (fun x=>x.1 !=n)).length+[c.list[i]!].length<=1048576 by simp only [List.length_cons,List.length_nil];omega),bindS])
 have fin:ref08_Without_l1 (n,(c.list.length:Int),c.next_,c.list,0,c.next_,(c.list.take c.list.length).filter (fun x=>x.1 !=n))=some (.done (certDel c k)):=by
  unfold ref08_Without_l1
  have:decide ((c.list.length:Int)<(c.list.length:Int))=false:=dec_f (by omega)
  simp only [ofNat_eq,this,cond_false,List.take_length];rw [filter_erase hk ok.up hn];rfl
 refine Eq.trans ?_ (whileO_done fin);exact key
end Go.Proofs.YtjikemfbommnlaaGreat
namespace Go.Proofs.YtjikemfbommnlaaGreat
open Go.Vm Classical
def HasP (l:List Pt) (id:Int):Prop:= ∃k,k<l.length/\(l[k]!).1=id
noncomputable def ptOf (l:List Pt) (id:Int):Pt:=if h:HasP l id then l[h.choose]! else (-1,0,0)
theorem ptOf_at {l:List Pt} (hs:Sorted l) {k:Nat} (hk:k<l.length) {id:Int} (h:(l[k]!).1=id):ptOf l id=l[k]!:=by
 have hp:HasP l id:=⟨k,hk,h⟩;unfold ptOf;rw [dif_pos hp]
 have:=hp.choose_spec
 rw [sorted_inj hs this.1 hk (by rw [this.2,h])]
theorem ptOf_ok {l:List Pt} (ok:FieldOK l) {id:Int} (h:HasP l id):PtOK (ptOf l id)/\(ptOf l id).1=id:=by
 obtain ⟨k,hk,he⟩:=h;rw [ptOf_at ok.2.2 hk he];exact ⟨ok.2.1 _ (bang_mem hk),he⟩
theorem ptOf_none {l:List Pt} {id:Int} (h: ¬HasP l id):ptOf l id=(-1,0,0):=by unfold ptOf;rw [dif_neg h]
theorem clock_point_eq {l:List Pt} (ok:FieldOK l) (id:Int):clock_point ⟨l⟩ id=some (ptOf l id):=by
 have h1:=ok.1;have bs:=bs_held l id (by omega) (fun i j=>sorted_lt ok.2.2)
 unfold clock_point;dsimp only;rw [bs_point]
 by_cases h:HasP l id
 · obtain ⟨k,hk,he⟩:=h
   rw [bs.1 k hk he];simp only [bindS,Bool.not_true,cond_false,geti_nat l k hk,ptOf_at ok.2.2 hk he]
 · obtain ⟨m,m1,m2,m3,e⟩:=bs.2 (fun k hk he=>h ⟨k,hk,he⟩)
   rw [e,ptOf_none h];rfl
theorem At_has {l:List Pt} (ok:FieldOK l) {id:Int} (h:HasP l id): ∃k,k<l.length/\ref03_At ⟨l⟩ id=some (k:Int)/\l[k]! =ptOf l id:=by
 have h1:=ok.1;obtain ⟨k,hk,he⟩:=h;exact ⟨k,hk,At_sorted ok.2.2 (by omega) hk he,(ptOf_at ok.2.2 hk he).symm⟩
theorem At_not {l:List Pt} (ok:FieldOK l) {id:Int} (h: ¬HasP l id):ref03_At ⟨l⟩ id=some (-1):=by
 have h1:=ok.1;exact At_none (by omega) fun k hk he=>h ⟨k,hk,he⟩
def Both (l:List Pt) (x:Int×Int):Prop:=HasP l x.1/\HasP l x.2
noncomputable def whenS (l:List Pt) (x t:Int×Int):(Int×Int)×Bool:=fails (ptOf l x.2) (ptOf l x.1) t
theorem clock_when_eq {l:List Pt} (ok:FieldOK l) {x t:Int×Int} (hx:CertV x) (ht:RatOK t) (h64:R64 t):
 clock_when ⟨l⟩ x t=some (if Both l x then ((whenS l x t).1,(whenS l x t).2,0) else ((0,0),false,8)):=by
 unfold clock_when;rw [clock_point_eq ok,clock_point_eq ok];simp only [bindS,course_Fails_eq h64];have bad: ¬PtOK (-1,0,0):=by unfold PtOK;dsimp only;omega
 by_cases h1:HasP l x.1
 · by_cases h2:HasP l x.2
   · obtain ⟨p1,p2⟩:=ptOf_ok ok h1
     obtain ⟨q1,q2⟩:=ptOf_ok ok h2;rw [if_pos ⟨q1,p1,ht,by rw [p2,q2];exact fun h=>hx.2.2.2.2 h.symm⟩,if_pos ⟨h1,h2⟩]
     rfl
   · rw [ptOf_none h2,if_neg (fun h=>bad h.1),if_neg (fun h=>bad h.1),if_neg (fun h=>h2 h.2)]
 · rw [ptOf_none h1,if_neg (fun h=>bad h.2.1),if_neg (fun h=>bad h.2.1),if_neg (fun h=>h1 h.1)]
theorem ref09_When_eq {l:List Pt} (ok:FieldOK l) {x t:Int×Int} (h64:R64 t) (hb:Both l x):ref09_When ⟨l⟩ x t=some (whenS l x t):=by
 obtain ⟨h1,h2⟩:=hb;obtain ⟨j,j1,j2,j3⟩:=At_has ok h1;obtain ⟨k,k1,k2,k3⟩:=At_has ok h2;unfold ref09_When;simp only [j2,k2,bindS,geti_nat l j j1,geti_nat l k k1,j3,k3,Failure_eq (ptOf_ok ok h2).1 (ptOf_ok ok h1).1 h64];rfl
theorem Known_eq (c:Certs) {l:List Pt} (ok:FieldOK l) (hl:c.list.length<=200):ref08_Known c ⟨l⟩=some (decide (∀i,i<c.list.length->Both l (c.list[i]!).2)):=by
 unfold ref08_Known;have key:=while_any (body:=ref08_Known_l1) (fun i=>((i:Int),c.next_,c.list,l)) c.list.length (fun i=> ¬Both l (c.list[i]!).2) (r:=false) (e:=true) (fun i hi=>by
  have e1:decide ((i:Int)<(c.list.length:Int))=true:=dec_t (by omega)
  unfold ref08_Known_l1 Both;simp only [ofNat_eq,e1,cond_true,geti_nat c.list i hi,bindS,wi_succ (show i<1000000000 by omega)]
  by_cases h1:HasP l (c.list[i]!).2.1
  · obtain ⟨k,k1,k2,_⟩:=At_has ok h1
    rw [k2];simp only [bindS,dec_f (show¬(k:Int)<0 by omega),cond_false]
    by_cases h2:HasP l (c.list[i]!).2.2
    · obtain ⟨j,j1,j2,_⟩:=At_has ok h2
      rw [j2];simp only [bindS,dec_f (show¬(j:Int)<0 by omega),cond_false]
      exact ⟨fun h=>absurd ⟨h1,h2⟩ h,fun _=>trivial⟩
    · rw [At_not ok h2]
      exact ⟨fun _=>rfl,fun h=>absurd (Classical.not_not.1 h).2 h2⟩
  · rw [At_not ok h1]
    exact ⟨fun _=>rfl,fun h=>absurd (Classical.not_not.1 h).1 h1⟩) (by
  unfold ref08_Known_l1
  have:decide ((c.list.length:Int)<(c.list.length:Int))=false:=dec_f (by omega)
  simp only [ofNat_eq,this,cond_false])
 by_cases hx: ∀i,i<c.list.length->Both l (c.list[i]!).2
 · rw [dec_t hx];exact key.2 fun i hi=>Classical.not_not.2 (hx i hi)
 · rw [dec_f hx]
   obtain ⟨i,h⟩:=Classical.not_forall.1 hx;obtain ⟨hi,hx⟩:=Classical.not_imp.1 h;exact key.1 ⟨i,hi,hx⟩
def Follow (l:List Pt) (t:Int×Int) (H:List Ev):List Tri->List Tri->Prop
 | [],ds=>ds=[]
 |x::cs,ds=>((whenS l x.2 t).2=true-> ∃d ds',ds=d::ds'/\d.1=x.1/\((whenS l x.2 t).1.1,(whenS l x.2 t).1.2,x.1,d.2)∈H/\Follow l t H cs ds')/\((whenS l x.2 t).2=false->Follow l t H cs ds)
structure ClockOK (c:Clock):Prop where
 nowv:RatOK c.now
 now64:R64 c.now
 fld:FieldOK c.field.points
 crt:CertsOK c.certs
 agd:AgOK c.agenda
 w200:c.agenda.where_.length=200
 hd:c.agenda.heap.length=c.due.length
 known: ∀i,i<c.certs.list.length->Both c.field.points (c.certs.list[i]!).2
 fol:Follow c.field.points c.now c.agenda.heap c.certs.list c.due
structure ClockFit (c:Clock):Prop where
 now64:R64 c.now
 ag:AgFit c.agenda
 du:c.due.length<=1000000
theorem ev_at {a:Agenda} (ok:AgOK a) (w2:a.where_.length=200) (t:Int×Int) (n:Int) (h:Int×Int):
 (0<=h.1/\h.1<200/\0<=a.where_[h.1.toNat]!/\a.heap[(a.where_[h.1.toNat]!).toNat]! =(t.1,t.2,n,h))↔((t.1,t.2,n,h):Ev)∈a.heap:=by
 have wl:=ok.wl;have hu:=ok.so.ul;constructor
 · rintro ⟨h1,h2,h3,h4⟩
   cases hb:a.slots.used[h.1.toNat]! with
   |false=>
    have:=ok.un h.1.toNat (by omega) hb
    omega
   |true=>
    have:=ok.fwd h.1.toNat (by omega) hb
    rw [<- h4];exact bang_mem (by omega)
 · intro hm
   obtain ⟨w,hw,he⟩:=mem_bang.1 hm;obtain ⟨b1,b2,b3,b4,b5⟩:=ok.back hw;have e:Ev.ix a.heap[w]! =h.1:=by rw [he]
   have e2:Ev.n a.heap[w]! =h.1.toNat:=by rw [he]
   rw [e] at b1 b2;rw [e2] at b5;refine ⟨b1,by omega,by omega,?_⟩
   rw [b5,Int.toNat_natCast,he]
theorem where_lt {a:Agenda} (ok:AgOK a) {i:Nat} (hi:i<a.slots.uses.length) (h:0<=a.where_[i]!):a.where_[i]!<a.heap.length:=by
 cases hb:a.slots.used[i]! with
 |false=>have:=ok.un i hi hb;omega
 |true=>exact (ok.fwd i hi hb).2.1
theorem drop_cons {α:Type} [Inhabited α] {l:List α} {i:Nat} (h:i<l.length):l.drop i=l[i]!::l.drop (i+1):=by
 rw [getElem!_pos l i h];exact List.drop_eq_getElem_cons h
theorem clock_l1_eq {c : Clock} (nowv : RatOK c.now) (now64 : R64 c.now) (fld : FieldOK c.field.points) (crt : CertsOK c.certs) (agd : AgOK c.agenda) (w2 : c.agenda.where_.length = 200) :
    ∀ (d i : Nat) (ds : List Tri), c.certs.list.length - i <= d -> i <= c.certs.list.length -> ds.length <= 1000000 ->
      whileO clock_Check_l1 (ds, c.certs.list, (c.certs.list.length : Int), (i : Int), c.now.1, c.now.2, c.field.points, c.certs.next_, c.certs.list, c.agenda.slots.uses, c.agenda.slots.used, c.agenda.slots.free, c.agenda.heap, c.agenda.where_, c.due) =
        some (.done (if (∀ j, i <= j -> j < c.certs.list.length -> Both c.field.points (c.certs.list[j]!).2) /\ Follow c.field.points c.now c.agenda.heap (c.certs.list.drop i) ds then 0 else 8)) := by
  have hl := crt.len
  have wl := agd.wl
  have fin : ∀ (ds : List Tri), whileO clock_Check_l1 (ds, c.certs.list, (c.certs.list.length : Int), (c.certs.list.length : Int), c.now.1, c.now.2, c.field.points, c.certs.next_, c.certs.list, c.agenda.slots.uses, c.agenda.slots.used, c.agenda.slots.free, c.agenda.heap, c.agenda.where_, c.due) = some (.done (if ds = [] then 0 else 8)) := by
    intro ds
    refine whileO_done ?_
    unfold clock_Check_l1
    have e1 : decide ((c.certs.list.length : Int) < (c.certs.list.length : Int)) = false := dec_f (by omega)
    simp only [ofNat_eq, e1, cond_false]
    cases ds with
    | nil => rw [dec_f (by simp), if_pos rfl]; rfl
    | cons d ds => rw [dec_t (by simp), if_neg (by simp)]; rfl
  intro d
  induction d with
  | zero =>
    intro i ds hd hi hds
    have : i = c.certs.list.length := by omega
    subst this
    rw [fin ds, List.drop_length]
    have : ((∀ j, c.certs.list.length <= j -> j < c.certs.list.length -> Both c.field.points (c.certs.list[j]!).2) /\ Follow c.field.points c.now c.agenda.heap [] ds) ↔ ds = [] := ⟨fun h => h.2, fun h => ⟨fun j h1 h2 => by omega, h⟩⟩
    by_cases h : ds = []
    · rw [if_pos h, if_pos (this.2 h)]
    · rw [if_neg h, if_neg (fun k => h (this.1 k))]
  | succ d ih =>
    intro i ds hd hi hds
    by_cases he : i = c.certs.list.length
    · subst he
      rw [fin ds, List.drop_length]
      have : ((∀ j, c.certs.list.length <= j -> j < c.certs.list.length -> Both c.field.points (c.certs.list[j]!).2) /\ Follow c.field.points c.now c.agenda.heap [] ds) ↔ ds = [] := ⟨fun h => h.2, fun h => ⟨fun j h1 h2 => by omega, h⟩⟩
      by_cases h : ds = []
      · rw [if_pos h, if_pos (this.2 h)]
      · rw [if_neg h, if_neg (fun k => h (this.1 k))]
    have hi' : i < c.certs.list.length := by omega
    have e1 : decide ((i : Int) < (c.certs.list.length : Int)) = true := dec_t (by omega)
    have hw := clock_when_eq fld (x := (c.certs.list[i]!).2) (t := (c.now.1, c.now.2)) (crt.cv i hi') nowv now64
    have dr := drop_cons hi'
    have all : (∀ j, i <= j -> j < c.certs.list.length -> Both c.field.points (c.certs.list[j]!).2) ↔ (Both c.field.points (c.certs.list[i]!).2 /\ ∀ j, i + 1 <= j -> j < c.certs.list.length -> Both c.field.points (c.certs.list[j]!).2) := by
      constructor
      · intro h; exact ⟨h i (Nat.le_refl _) hi', fun j h1 h2 => h j (by omega) h2⟩
      · rintro ⟨h1, h2⟩ j h3 h4
        by_cases e : j = i
        · rw [e]; exact h1
        · exact h2 j (by omega) h4
    have sc := wi_succ (show i < 1000000000 by omega)
    by_cases hb : Both c.field.points (c.certs.list[i]!).2
    case neg =>
      rw [if_neg (fun h => hb (all.1 h.1).1)]
      refine whileO_done ?_
      unfold clock_Check_l1
      simp only [e1, cond_true, geti_nat c.certs.list i hi', bindS, hw, if_neg hb]
      rfl
    rw [if_pos hb] at hw
    by_cases is : (whenS c.field.points (c.certs.list[i]!).2 c.now).2 = true
    case neg =>
      have is' : (whenS c.field.points (c.certs.list[i]!).2 c.now).2 = false := by simpa using is
      rw [whileO_next (y := (ds, c.certs.list, (c.certs.list.length : Int), ((i + 1 : Nat) : Int), c.now.1, c.now.2, c.field.points, c.certs.next_, c.certs.list, c.agenda.slots.uses, c.agenda.slots.used, c.agenda.slots.free, c.agenda.heap, c.agenda.where_, c.due)) (by
        unfold clock_Check_l1
        simp only [e1, cond_true, geti_nat c.certs.list i hi', bindS, hw, sc, is', show ((0 : Int) != 0) = false from rfl, cond_false, Bool.not_false]), ih (i + 1) ds (by omega) (by omega) hds]
      have same : ((∀ j, i <= j -> j < c.certs.list.length -> Both c.field.points (c.certs.list[j]!).2) /\ Follow c.field.points c.now c.agenda.heap (c.certs.list.drop i) ds) ↔ ((∀ j, i + 1 <= j -> j < c.certs.list.length -> Both c.field.points (c.certs.list[j]!).2) /\ Follow c.field.points c.now c.agenda.heap (c.certs.list.drop (i + 1)) ds) := by
        rw [dr, all]
        constructor
        · rintro ⟨⟨_, h1⟩, h2⟩; exact ⟨h1, h2.2 is'⟩
        · rintro ⟨h1, h2⟩; exact ⟨⟨hb, h1⟩, fun h => absurd h is, fun _ => h2⟩
      simp only [same]
    have stop : (¬ ((∀ j, i <= j -> j < c.certs.list.length -> Both c.field.points (c.certs.list[j]!).2) /\ Follow c.field.points c.now c.agenda.heap (c.certs.list.drop i) ds)) -> clock_Check_l1 (ds, c.certs.list, (c.certs.list.length : Int), (i : Int), c.now.1, c.now.2, c.field.points, c.certs.next_, c.certs.list, c.agenda.slots.uses, c.agenda.slots.used, c.agenda.slots.free, c.agenda.heap, c.agenda.where_, c.due) = some (.done (.done 8)) -> whileO clock_Check_l1 (ds, c.certs.list, (c.certs.list.length : Int), (i : Int), c.now.1, c.now.2, c.field.points, c.certs.next_, c.certs.list, c.agenda.slots.uses, c.agenda.slots.used, c.agenda.slots.free, c.agenda.heap, c.agenda.where_, c.due) =
        some (.done (if (∀ j, i <= j -> j < c.certs.list.length -> Both c.field.points (c.certs.list[j]!).2) /\ Follow c.field.points c.now c.agenda.heap (c.certs.list.drop i) ds then 0 else 8)) := by
      intro h1 h2
      rw [if_neg h1]
      exact whileO_done h2
    cases ds with
    | nil =>
      refine stop (fun h => ?_) ?_
      · rw [dr] at h
        obtain ⟨d, ds', h1, _⟩ := h.2.1 is
        cases h1
      · unfold clock_Check_l1
        simp only [e1, cond_true, geti_nat c.certs.list i hi', bindS, hw, is, show ((0 : Int) != 0) = false from rfl, cond_false, Bool.not_true]
        rfl
    | cons d0 ds =>
      have l0 : ((((d0 :: ds).length : Nat) : Int) == 0) = false := beq_f (by simp; omega)
      have g0 : geti (d0 :: ds) 0 = some d0 := rfl
      have fol : ∀ P : Prop, (P ↔ d0.1 = (c.certs.list[i]!).1 /\ (((whenS c.field.points (c.certs.list[i]!).2 c.now).1.1, (whenS c.field.points (c.certs.list[i]!).2 c.now).1.2, (c.certs.list[i]!).1, d0.2) : Ev) ∈ c.agenda.heap) -> ¬ P -> ¬ ((∀ j, i <= j -> j < c.certs.list.length -> Both c.field.points (c.certs.list[j]!).2) /\ Follow c.field.points c.now c.agenda.heap (c.certs.list.drop i) (d0 :: ds)) := by
        intro P hP hn h
        rw [dr] at h
        obtain ⟨d, ds', h1, h2, h3, _⟩ := h.2.1 is
        injection h1 with h1 _
        subst h1
        exact hn (hP.2 ⟨h2, h3⟩)
      by_cases b1 : d0.1 = (c.certs.list[i]!).1
      case neg =>
        refine stop (fol (d0.1 = (c.certs.list[i]!).1 /\ _) Iff.rfl (fun h => b1 h.1)) ?_
        unfold clock_Check_l1
        simp only [ofNat_eq, e1, cond_true, geti_nat c.certs.list i hi', bindS, hw, is, show ((0 : Int) != 0) = false from rfl, cond_false, Bool.not_true, l0, g0, bne_t b1]
      have ea := ev_at agd w2 (whenS c.field.points (c.certs.list[i]!).2 c.now).1 (c.certs.list[i]!).1 d0.2
      by_cases b2 : d0.2.1 < 0
      · refine stop (fol (d0.1 = (c.certs.list[i]!).1 /\ _) Iff.rfl (fun h => by have := (ea.2 h.2).1; omega)) ?_
        unfold clock_Check_l1
        simp only [ofNat_eq, e1, cond_true, geti_nat c.certs.list i hi', bindS, hw, is, show ((0 : Int) != 0) = false from rfl, cond_false, Bool.not_true, l0, g0, bne_f b1, dec_t b2]
      by_cases b3 : 200 <= d0.2.1
      · refine stop (fol (d0.1 = (c.certs.list[i]!).1 /\ _) Iff.rfl (fun h => by have := (ea.2 h.2).2.1; omega)) ?_
        unfold clock_Check_l1
        simp only [ofNat_eq, e1, cond_true, geti_nat c.certs.list i hi', bindS, hw, is, show ((0 : Int) != 0) = false from rfl, cond_false, Bool.not_true, l0, g0, bne_f b1, dec_f b2, dec_t b3]
      have gw := geti_int (l := c.agenda.where_) (i := d0.2.1) (by omega) (by omega)
      by_cases b4 : c.agenda.where_[d0.2.1.toNat]! < 0
      · refine stop (fol (d0.1 = (c.certs.list[i]!).1 /\ _) Iff.rfl (fun h => by have := (ea.2 h.2).2.2.1; omega)) ?_
        unfold clock_Check_l1
        simp only [ofNat_eq, e1, cond_true, geti_nat c.certs.list i hi', bindS, hw, is, show ((0 : Int) != 0) = false from rfl, cond_false, Bool.not_true, l0, g0, bne_f b1, dec_f b2, dec_f b3, gw, dec_t b4]
      have gh := geti_int (l := c.agenda.heap) (i := c.agenda.where_[d0.2.1.toNat]!) (by omega) (where_lt agd (by omega) (by omega))
      have sl : sliceO (d0 :: ds) 1 ((((d0 :: ds).length : Nat) : Int)) = some ds := by
        unfold sliceO
        rw [if_pos ⟨by omega, by simp; omega, by omega⟩]
        simp
      have evq : ∀ (e : Ev) (p : Int × Int) (n : Int) (h : Int × Int), ((e.1 == p.1) && ((e.2.1 == p.2) && ((e.2.2.1 == n) && ((e.2.2.2.1 == h.1) && (e.2.2.2.2 == h.2))))) = decide (e = (p.1, p.2, n, h)) := by
        intro e p n h
        rw [Bool.eq_iff_iff, decide_eq_true_iff]
        simp only [Bool.and_eq_true, beq_iff_eq]
        constructor
        · rintro ⟨h1, h2, h3, h4, h5⟩
          exact Prod.ext h1 (Prod.ext h2 (Prod.ext h3 (Prod.ext h4 h5)))
        · intro h; rw [h]; exact ⟨rfl, rfl, rfl, rfl, rfl⟩
      have evq' := evq c.agenda.heap[(c.agenda.where_[d0.2.1.toNat]!).toNat]! (whenS c.field.points (c.certs.list[i]!).2 c.now).1 (c.certs.list[i]!).1 d0.2
      by_cases b5 : c.agenda.heap[(c.agenda.where_[d0.2.1.toNat]!).toNat]! = ((whenS c.field.points (c.certs.list[i]!).2 c.now).1.1, (whenS c.field.points (c.certs.list[i]!).2 c.now).1.2, (c.certs.list[i]!).1, d0.2)
      case neg =>
        refine stop (fol (d0.1 = (c.certs.list[i]!).1 /\ _) Iff.rfl (fun h => b5 (ea.2 h.2).2.2.2)) ?_
        unfold clock_Check_l1
        simp only [ofNat_eq, e1, cond_true, geti_nat c.certs.list i hi', bindS, hw, is, show ((0 : Int) != 0) = false from rfl, cond_false, Bool.not_true, l0, g0, bne_f b1, dec_f b2, dec_f b3, gw, dec_f b4, gh]
        rw [evq', dec_f b5]
        rfl
      have hmem := ea.1 ⟨by omega, by omega, by omega, b5⟩
      rw [whileO_next (y := (ds, c.certs.list, (c.certs.list.length : Int), ((i + 1 : Nat) : Int), c.now.1, c.now.2, c.field.points, c.certs.next_, c.certs.list, c.agenda.slots.uses, c.agenda.slots.used, c.agenda.slots.free, c.agenda.heap, c.agenda.where_, c.due)) (by
        unfold clock_Check_l1
        simp only [ofNat_eq, e1, cond_true, geti_nat c.certs.list i hi', bindS, hw, is, show ((0 : Int) != 0) = false from rfl, cond_false, Bool.not_true, l0, g0, bne_f b1, dec_f b2, dec_f b3, gw, dec_f b4, gh, sl, sc]
        rw [evq', dec_t b5]
        rfl), ih (i + 1) ds (by omega) (by omega) (by simp at hds; omega)]
      have same : ((∀ j, i <= j -> j < c.certs.list.length -> Both c.field.points (c.certs.list[j]!).2) /\ Follow c.field.points c.now c.agenda.heap (c.certs.list.drop i) (d0 :: ds)) ↔ ((∀ j, i + 1 <= j -> j < c.certs.list.length -> Both c.field.points (c.certs.list[j]!).2) /\ Follow c.field.points c.now c.agenda.heap (c.certs.list.drop (i + 1)) ds) := by
        rw [dr, all]
        constructor
        · rintro ⟨⟨_, h1⟩, h2⟩
          obtain ⟨d, ds', k1, k2, k3, k4⟩ := h2.1 is
          injection k1 with k1 k5
          subst k5
          exact ⟨h1, k4⟩
        · rintro ⟨h1, h2⟩
          exact ⟨⟨hb, h1⟩, fun _ => ⟨d0, ds, rfl, b1, hmem, h2⟩, fun h => by rw [is] at h; cases h⟩
      simp only [same]
end Go.Proofs.YtjikemfbommnlaaGreat
namespace Go.Proofs.YtjikemfbommnlaaGreat
open Go.Vm Classical
theorem ClockOK.iff {c:Clock} (fit:ClockFit c):ClockOK c↔RatOK c.now/\FieldOK c.field.points/\CertsOK c.certs/\AgOK c.agenda/\c.agenda.where_.length=200/\c.agenda.heap.length=c.due.length/\(∀i,i<c.certs.list.length->Both c.field.points (c.certs.list[i]!).2)/\Follow c.field.points c.now c.agenda.heap c.certs.list c.due:=
 ⟨fun h=>⟨h.nowv,h.fld,h.crt,h.agd,h.w200,h.hd,h.known,h.fol⟩,fun ⟨h1,h2,h3,h4,h5,h6,h7,h8⟩=>⟨h1,fit.now64,h2,h3,h4,h5,h6,h7,h8⟩⟩
theorem ClockOK.fit {c:Clock} (ok:ClockOK c):ClockFit c:=⟨ok.now64,ok.agd.fit,by have:=ok.hd;have:=ok.agd.bd;omega⟩
theorem clock_l2_eq {c:Clock} {n0 n1 n2 n3:Int}:
 whileO clock_Check_l2 (4,0,c.now.1,c.now.2,c.field.points,c.certs.next_,c.certs.list,c.agenda.slots.uses,c.agenda.slots.used,c.agenda.slots.free,c.agenda.heap,c.agenda.where_,c.due,[n0,n1,n2,n3])=
  if n0=0/\n1=0/\n2=0/\n3=0 then whileO clock_Check_l2 (4,4,c.now.1,c.now.2,c.field.points,c.certs.next_,c.certs.list,c.agenda.slots.uses,c.agenda.slots.used,c.agenda.slots.free,c.agenda.heap,c.agenda.where_,c.due,[n0,n1,n2,n3]) else some 8:=by
 have st: ∀(i:Nat) (n:Int),i<4->geti [n0,n1,n2,n3] (i:Int)=some n->whileO clock_Check_l2 (4,(i:Int),c.now.1,c.now.2,c.field.points,c.certs.next_,c.certs.list,c.agenda.slots.uses,c.agenda.slots.used,c.agenda.slots.free,c.agenda.heap,c.agenda.where_,c.due,[n0,n1,n2,n3])=
  if n=0 then whileO clock_Check_l2 (4,((i+1:Nat):Int),c.now.1,c.now.2,c.field.points,c.certs.next_,c.certs.list,c.agenda.slots.uses,c.agenda.slots.used,c.agenda.slots.free,c.agenda.heap,c.agenda.where_,c.due,[n0,n1,n2,n3]) else some 8:=by
  intro i n hi hg;have e1:decide ((i:Int)<4)=true:=dec_t (by omega)
  by_cases h:n=0
  · rw [if_pos h]
    refine whileO_next ?_;unfold clock_Check_l2;simp only [e1,cond_true,hg,bindS,bne_f h,cond_false,wi_succ (show i<1000000000 by omega)]
  · rw [if_neg h]
    refine whileO_done ?_;unfold clock_Check_l2;simp only [e1,cond_true,hg,bindS,bne_t h]
 have s0:=st 0 n0 (by omega) rfl
 have s1:=st 1 n1 (by omega) rfl
 have s2:=st 2 n2 (by omega) rfl
 have s3:=st 3 n3 (by omega) rfl
 have c0:((0:Nat):Int)=0:=rfl;have c4:((3+1:Nat):Int)=4:=rfl;rw [c0] at s0;rw [c4] at s3;rw [s0]
 by_cases h0:n0=0
 · rw [if_pos h0,show ((0+1:Nat):Int)=((1:Nat):Int) from rfl,s1]
   by_cases h1:n1=0
   · rw [if_pos h1,show ((1+1:Nat):Int)=((2:Nat):Int) from rfl,s2]
     by_cases h2:n2=0
     · rw [if_pos h2,show ((2+1:Nat):Int)=((3:Nat):Int) from rfl,s3]
       by_cases h3:n3=0
       · rw [if_pos h3,if_pos ⟨h0,h1,h2,h3⟩]
       · rw [if_neg h3,if_neg (fun h=>h3 h.2.2.2)]
     · rw [if_neg h2,if_neg (fun h=>h2 h.2.2.1)]
   · rw [if_neg h1,if_neg (fun h=>h1 h.2.1)]
 · rw [if_neg h0,if_neg (fun h=>h0 h.1)]
theorem clock_Check_eq {c:Clock} (fit:ClockFit c):clock_Check c=some (if ClockOK c then 0 else 8):=by
 unfold clock_Check;rw [ratio_Check_eq fit.now64,field_Check_eq,cert_Check_eq,agenda_Check_eq _ fit.ag];simp only [bindS];have h4:Int.ofNat [if RatOK c.now then (0:Int) else 8,fieldErr c.field.points,if CertsOK c.certs then (0:Int) else 8,if AgOK c.agenda then (0:Int) else 8].length=4:=rfl
 rw [h4,clock_l2_eq];have z: ∀(p:Prop) [Decidable p],(if p then (0:Int) else 8)=0↔p:=fun p _=>by by_cases h:p<;>simp [h]
 simp only [z,fieldErr_ok];have f1:=ClockOK.iff fit
 by_cases ok:RatOK c.now/\FieldOK c.field.points/\CertsOK c.certs/\AgOK c.agenda
 case neg=>rw [if_neg ok,if_neg (c:=ClockOK c) (fun h=>ok ⟨h.nowv,h.fld,h.crt,h.agd⟩)]
 obtain ⟨nowv,fld,crt,agd⟩:=ok;rw [if_pos ⟨nowv,fld,crt,agd⟩]
 by_cases w2:c.agenda.where_.length=200
 case neg=>
  rw [if_neg (c:=ClockOK c) (fun h=>w2 h.w200)]
  refine whileO_done ?_;unfold clock_Check_l2;simp only [ofNat_eq,dec_f (show¬(4:Int)<4 by omega),cond_false,bne_t (show¬(c.agenda.where_.length:Int)=200 by omega),cond_true]
 by_cases hd:c.agenda.heap.length=c.due.length
 case neg=>
  rw [if_neg (c:=ClockOK c) (fun h=>hd h.hd)]
  refine whileO_done ?_;unfold clock_Check_l2;simp only [ofNat_eq,dec_f (show¬(4:Int)<4 by omega),cond_false,bne_f (show (c.agenda.where_.length:Int)=200 by omega),bne_t (show¬(c.agenda.heap.length:Int)=(c.due.length:Int) by omega),cond_true]
 have run:=clock_l1_eq nowv fit.now64 fld crt agd w2 c.certs.list.length 0 c.due (by omega) (by omega) fit.du
 rw [List.drop_zero] at run;have same:((∀j,0<=j->j<c.certs.list.length->Both c.field.points (c.certs.list[j]!).2)/\Follow c.field.points c.now c.agenda.heap c.certs.list c.due)↔ClockOK c:=by
  rw [f1];constructor
  · rintro ⟨h1,h2⟩;exact ⟨nowv,fld,crt,agd,w2,hd,fun i hi=>h1 i (by omega) hi,h2⟩
  · rintro ⟨_,_,_,_,_,_,h1,h2⟩;exact ⟨fun j _ hj=>h1 j hj,h2⟩
 simp only [same] at run;refine whileO_done ?_;unfold clock_Check_l2;simp only [ofNat_eq,dec_f (show¬(4:Int)<4 by omega),cond_false,bne_f (show (c.agenda.where_.length:Int)=200 by omega),bne_f (show (c.agenda.heap.length:Int)=(c.due.length:Int) by omega)]
 exact run
theorem Find_eq {a:Agenda} (ok:AgOK a) (h:Int×Int):ref07_Find a h=some (if SLive a.slots h then (a.heap[(a.where_[h.1.toNat]!).toNat]!,0) else ((0,0,0,0,0),6)):=by
 unfold ref07_Find;rw [ref07_Check_eq a ok.fit,if_pos ok,Live_eq ok.so];simp only [bindS,show ((0:Int) !=0)=false from rfl,cond_false]
 by_cases lv:SLive a.slots h
 · obtain ⟨i,hi,hw,hh⟩:=ok.live lv
   have:=lv.1;have:=lv.2.1;have:=ok.wl
   rw [dec_t lv,if_pos lv,geti_int (l:=a.where_) lv.1 (by omega),hw]
   simp only [Bool.not_true,cond_false,bindS,geti_nat a.heap i hi,Int.toNat_natCast]
 · rw [dec_f lv,if_neg lv];rfl
theorem ref09_l1_eq {c : Clock} (now64 : R64 c.now) (fld : FieldOK c.field.points) (crt : CertsOK c.certs) (agd : AgOK c.agenda) (w2 : c.agenda.where_.length = 200) (hdu : c.due.length <= 1000000)
    (kn : ∀ i, i < c.certs.list.length -> Both c.field.points (c.certs.list[i]!).2) :
    ∀ (d i k : Nat), c.certs.list.length - i <= d -> i <= c.certs.list.length -> k <= c.due.length ->
      whileO ref09_Check_l1 ((k : Int), (i : Int), c.now.1, c.now.2, c.field.points, c.certs.next_, c.certs.list, c.agenda.slots.uses, c.agenda.slots.used, c.agenda.slots.free, c.agenda.heap, c.agenda.where_, c.due) =
        some (if Follow c.field.points c.now c.agenda.heap (c.certs.list.drop i) (c.due.drop k) then 0 else 8) := by
  have hl := crt.len
  have wl := agd.wl
  have fin : ∀ k : Nat, k <= c.due.length -> whileO ref09_Check_l1 ((k : Int), (c.certs.list.length : Int), c.now.1, c.now.2, c.field.points, c.certs.next_, c.certs.list, c.agenda.slots.uses, c.agenda.slots.used, c.agenda.slots.free, c.agenda.heap, c.agenda.where_, c.due) = some (if Follow c.field.points c.now c.agenda.heap (c.certs.list.drop c.certs.list.length) (c.due.drop k) then 0 else 8) := by
    intro k hk
    rw [List.drop_length]
    refine whileO_done ?_
    unfold ref09_Check_l1
    have e1 : decide ((c.certs.list.length : Int) < (c.certs.list.length : Int)) = false := dec_f (by omega)
    simp only [ofNat_eq, e1, cond_false]
    have : Follow c.field.points c.now c.agenda.heap [] (c.due.drop k) ↔ k = c.due.length := by
      show c.due.drop k = [] ↔ _
      rw [List.drop_eq_nil_iff]
      omega
    by_cases h : k = c.due.length
    · rw [if_pos (this.2 h), bne_f (by omega)]; rfl
    · rw [if_neg (fun x => h (this.1 x)), bne_t (by omega)]; rfl
  intro d
  induction d with
  | zero =>
    intro i k hd hi hk
    have : i = c.certs.list.length := by omega
    subst this
    exact fin k hk
  | succ d ih =>
    intro i k hd hi hk
    by_cases he : i = c.certs.list.length
    · subst he; exact fin k hk
    have hi' : i < c.certs.list.length := by omega
    have e1 : decide ((i : Int) < (c.certs.list.length : Int)) = true := dec_t (by omega)
    have hw := ref09_When_eq fld (x := (c.certs.list[i]!).2) (t := (c.now.1, c.now.2)) now64 (kn i hi')
    have dr := drop_cons hi'
    have sc := wi_succ (show i < 1000000000 by omega)
    have sk := wi_succ (show k < 1000000000 by omega)
    by_cases is : (whenS c.field.points (c.certs.list[i]!).2 c.now).2 = true
    case neg =>
      have is' : (whenS c.field.points (c.certs.list[i]!).2 c.now).2 = false := by simpa using is
      rw [whileO_next (y := ((k : Int), ((i + 1 : Nat) : Int), c.now.1, c.now.2, c.field.points, c.certs.next_, c.certs.list, c.agenda.slots.uses, c.agenda.slots.used, c.agenda.slots.free, c.agenda.heap, c.agenda.where_, c.due)) (by
        unfold ref09_Check_l1
        simp only [ofNat_eq, e1, cond_true, geti_nat c.certs.list i hi', bindS, hw, sc, is', Bool.not_false]), ih (i + 1) k (by omega) (by omega) hk]
      have same : Follow c.field.points c.now c.agenda.heap (c.certs.list.drop i) (c.due.drop k) ↔ Follow c.field.points c.now c.agenda.heap (c.certs.list.drop (i + 1)) (c.due.drop k) := by
        rw [dr]
        exact ⟨fun h => h.2 is', fun h => ⟨fun h' => absurd h' is, fun _ => h⟩⟩
      simp only [same]
    have stop : (¬ Follow c.field.points c.now c.agenda.heap (c.certs.list.drop i) (c.due.drop k)) -> ref09_Check_l1 ((k : Int), (i : Int), c.now.1, c.now.2, c.field.points, c.certs.next_, c.certs.list, c.agenda.slots.uses, c.agenda.slots.used, c.agenda.slots.free, c.agenda.heap, c.agenda.where_, c.due) = some (.done 8) ->
        whileO ref09_Check_l1 ((k : Int), (i : Int), c.now.1, c.now.2, c.field.points, c.certs.next_, c.certs.list, c.agenda.slots.uses, c.agenda.slots.used, c.agenda.slots.free, c.agenda.heap, c.agenda.where_, c.due) = some (if Follow c.field.points c.now c.agenda.heap (c.certs.list.drop i) (c.due.drop k) then 0 else 8) := by
      intro h1 h2
      rw [if_neg h1]
      exact whileO_done h2
    by_cases hkl : k = c.due.length
    · refine stop (fun h => ?_) ?_
      · rw [dr] at h
        obtain ⟨d, ds', h1, _⟩ := h.1 is
        rw [hkl, List.drop_length] at h1
        cases h1
      · unfold ref09_Check_l1
        simp only [ofNat_eq, e1, cond_true, geti_nat c.certs.list i hi', bindS, hw, is, Bool.not_true, cond_false, dec_t (show (c.due.length : Int) <= (k : Int) by omega)]
    have hk' : k < c.due.length := by omega
    have dk := drop_cons hk'
    have e2 : decide ((c.due.length : Int) <= (k : Int)) = false := dec_f (by omega)
    have fol : ¬ ((c.due[k]!).1 = (c.certs.list[i]!).1 /\ (((whenS c.field.points (c.certs.list[i]!).2 c.now).1.1, (whenS c.field.points (c.certs.list[i]!).2 c.now).1.2, (c.certs.list[i]!).1, (c.due[k]!).2) : Ev) ∈ c.agenda.heap) -> ¬ Follow c.field.points c.now c.agenda.heap (c.certs.list.drop i) (c.due.drop k) := by
      intro hn h
      rw [dr, dk] at h
      obtain ⟨d, ds', h1, h2, h3, _⟩ := h.1 is
      injection h1 with h1 _
      subst h1
      exact hn ⟨h2, h3⟩
    by_cases b1 : (c.due[k]!).1 = (c.certs.list[i]!).1
    case neg =>
      refine stop (fol (fun h => b1 h.1)) ?_
      unfold ref09_Check_l1
      simp only [ofNat_eq, e1, cond_true, geti_nat c.certs.list i hi', bindS, hw, is, Bool.not_true, cond_false, e2, geti_nat c.due k hk', bne_t b1]
    have fi := Find_eq agd (c.due[k]!).2
    have ea := ev_at agd w2 (whenS c.field.points (c.certs.list[i]!).2 c.now).1 (c.certs.list[i]!).1 (c.due[k]!).2
    have fi' : ref07_Find (Agenda.mk (Slots.mk c.agenda.slots.uses c.agenda.slots.used c.agenda.slots.free) c.agenda.heap c.agenda.where_) (c.due[k]!).2 = _ := fi
    by_cases lv : SLive c.agenda.slots (c.due[k]!).2
    case neg =>
      rw [if_neg lv] at fi'
      refine stop (fol (fun h => lv ?_)) ?_
      · obtain ⟨w, hw', hev⟩ := mem_bang.1 h.2
        have := (agd.handle hw').1
        rwa [hev] at this
      · unfold ref09_Check_l1
        simp only [ofNat_eq, e1, cond_true, geti_nat c.certs.list i hi', bindS, hw, is, Bool.not_true, cond_false, e2, geti_nat c.due k hk', bne_f b1, fi', show ((6 : Int) != 0) = true from rfl]
    rw [if_pos lv] at fi'
    obtain ⟨w, hw1, hw2, hw3⟩ := agd.live lv
    rw [hw2, Int.toNat_natCast] at fi'
    have q1 : (0 <= (c.due[k]!).2.1 /\ (c.due[k]!).2.1 < 200 /\ 0 <= c.agenda.where_[(c.due[k]!).2.1.toNat]!) := ⟨lv.1, by have := lv.2.1; omega, by rw [hw2]; omega⟩
    by_cases b2 : (c.agenda.heap[w]!).2.2.1 = (c.certs.list[i]!).1
    case neg =>
      refine stop (fol (fun h => b2 ?_)) ?_
      · have := (ea.2 h.2).2.2.2
        rw [hw2, Int.toNat_natCast] at this
        rw [this]
      · unfold ref09_Check_l1
        simp only [ofNat_eq, e1, cond_true, geti_nat c.certs.list i hi', bindS, hw, is, Bool.not_true, cond_false, e2, geti_nat c.due k hk', bne_f b1, fi', show ((0 : Int) != 0) = false from rfl, bne_t b2]
    have teq : ((c.agenda.heap[w]!).1 == (whenS c.field.points (c.certs.list[i]!).2 c.now).1.1 && (c.agenda.heap[w]!).2.1 == (whenS c.field.points (c.certs.list[i]!).2 c.now).1.2) = decide (((c.agenda.heap[w]!).1, (c.agenda.heap[w]!).2.1) = (whenS c.field.points (c.certs.list[i]!).2 c.now).1) := by
      rw [Bool.eq_iff_iff, decide_eq_true_iff]
      simp only [Bool.and_eq_true, beq_iff_eq]
      constructor
      · rintro ⟨h1, h2⟩; exact Prod.ext h1 h2
      · intro h; rw [<- h]; exact ⟨rfl, rfl⟩
    by_cases b3 : ((c.agenda.heap[w]!).1, (c.agenda.heap[w]!).2.1) = (whenS c.field.points (c.certs.list[i]!).2 c.now).1
    case neg =>
      refine stop (fol (fun h => b3 ?_)) ?_
      · have := (ea.2 h.2).2.2.2
        rw [hw2, Int.toNat_natCast] at this
        rw [this]
      · unfold ref09_Check_l1
        simp only [ofNat_eq, e1, cond_true, geti_nat c.certs.list i hi', bindS, hw, is, Bool.not_true, cond_false, e2, geti_nat c.due k hk', bne_f b1, fi', show ((0 : Int) != 0) = false from rfl, bne_f b2]
        rw [teq, dec_f b3]
        rfl
    have hmem := ea.1 ⟨q1.1, q1.2.1, q1.2.2, by
      rw [hw2, Int.toNat_natCast]
      have t1 := congrArg Prod.fst b3
      have t2 := congrArg Prod.snd b3
      exact Prod.ext t1 (Prod.ext t2 (Prod.ext b2 hw3))⟩
    rw [whileO_next (y := (((k + 1 : Nat) : Int), ((i + 1 : Nat) : Int), c.now.1, c.now.2, c.field.points, c.certs.next_, c.certs.list, c.agenda.slots.uses, c.agenda.slots.used, c.agenda.slots.free, c.agenda.heap, c.agenda.where_, c.due)) (by
      unfold ref09_Check_l1
      simp only [ofNat_eq, e1, cond_true, geti_nat c.certs.list i hi', bindS, hw, is, Bool.not_true, cond_false, e2, geti_nat c.due k hk', bne_f b1, fi', show ((0 : Int) != 0) = false from rfl, bne_f b2, sc, sk]
      rw [teq, dec_t b3]
      rfl), ih (i + 1) (k + 1) (by omega) (by omega) (by omega)]
    have same : Follow c.field.points c.now c.agenda.heap (c.certs.list.drop i) (c.due.drop k) ↔ Follow c.field.points c.now c.agenda.heap (c.certs.list.drop (i + 1)) (c.due.drop (k + 1)) := by
      rw [dr, dk]
      constructor
      · intro h2
        obtain ⟨d, ds', k1, k2, k3, k4⟩ := h2.1 is
        injection k1 with k1 k5
        subst k5
        exact k4
      · intro h2
        exact ⟨fun _ => ⟨_, _, rfl, b1, hmem, h2⟩, fun h => by rw [is] at h; cases h⟩
    simp only [same]
theorem ref09_Check_eq {c:Clock} (fit:ClockFit c):ref09_Check c=some (if ClockOK c then 0 else 8):=by
 unfold ref09_Check;rw [ref01_Check_eq fit.now64,ref03_Check_eq,ref08_Check_eq,ref07_Check_eq _ fit.ag];simp only [bindS]
 by_cases nowv:RatOK c.now
 case neg=>rw [if_neg nowv,if_neg (c:=ClockOK c) (fun h=>nowv h.nowv)];rfl
 rw [if_pos nowv]
 by_cases fld:FieldOK c.field.points
 case neg=>rw [bne_t (fun h=>fld (fieldErr_ok.1 h)),if_neg (c:=ClockOK c) (fun h=>fld h.fld)];rfl
 rw [bne_f (fieldErr_ok.2 fld)]
 by_cases crt:CertsOK c.certs
 case neg=>rw [if_neg crt,if_neg (c:=ClockOK c) (fun h=>crt h.crt)];rfl
 rw [if_pos crt];have kn:=Known_eq c.certs fld crt.len;simp only [show ((0:Int) !=0)=false from rfl,cond_false,kn,bindS]
 by_cases known: ∀i,i<c.certs.list.length->Both c.field.points (c.certs.list[i]!).2
 case neg=>rw [dec_f known,if_neg (c:=ClockOK c) (fun h=>known h.known)];rfl
 rw [dec_t known]
 by_cases agd:AgOK c.agenda
 case neg=>rw [if_neg agd,if_neg (c:=ClockOK c) (fun h=>agd h.agd)];rfl
 rw [if_pos agd];simp only [ofNat_eq,show ((0:Int) !=0)=false from rfl,cond_false,Bool.not_true]
 by_cases w2:c.agenda.where_.length=200
 case neg=>rw [bne_t (by omega),if_neg (c:=ClockOK c) (fun h=>w2 h.w200)];rfl
 rw [bne_f (by omega)]
 by_cases hd:c.agenda.heap.length=c.due.length
 case neg=>rw [bne_t (by omega),if_neg (c:=ClockOK c) (fun h=>hd h.hd)];rfl
 rw [bne_f (by omega)]
 have run:=ref09_l1_eq fit.now64 fld crt agd w2 fit.du known c.certs.list.length 0 0 (by omega) (by omega) (by omega)
 rw [List.drop_zero,List.drop_zero] at run;have same:Follow c.field.points c.now c.agenda.heap c.certs.list c.due↔ClockOK c:=by
  rw [ClockOK.iff fit];exact ⟨fun h=>⟨nowv,fld,crt,agd,w2,hd,known,h⟩,fun h=>h.2.2.2.2.2.2.2⟩
 simp only [same] at run;simp only [cond_false];exact run
end Go.Proofs.YtjikemfbommnlaaGreat
namespace Go.Proofs.YtjikemfbommnlaaGreat
open Go.Vm Classical
section
variable {l : List Pt} {t : Int × Int}
theorem Follow.cons_true {H:List Ev} {x:Tri} {cs ds:List Tri} (h:(whenS l x.2 t).2=true):Follow l t H (x::cs) ds↔ ∃d ds',ds=d::ds'/\d.1=x.1/\(((whenS l x.2 t).1.1,(whenS l x.2 t).1.2,x.1,d.2):Ev)∈H/\Follow l t H cs ds':=
 ⟨fun k=>k.1 h,fun k=>⟨fun _=>k,fun k'=>(by rw [h] at k';cases k')⟩⟩
theorem Follow.cons_false {H:List Ev} {x:Tri} {cs ds:List Tri} (h:(whenS l x.2 t).2=false):Follow l t H (x::cs) ds↔Follow l t H cs ds:=
 ⟨fun k=>k.2 h,fun k=>⟨fun k'=>(by rw [h] at k';cases k'),fun _=>k⟩⟩
theorem Follow.mono {H H':List Ev}: ∀{cs ds:List Tri},(∀x∈cs,∀e:Ev,e.num=x.1->e∈H->e∈H')->Follow l t H cs ds->Follow l t H' cs ds
 | [],_,_,h=>h
 |x::cs,ds,hm,h=>by
  have hm': ∀y∈cs,∀e:Ev,e.num=y.1->e∈H->e∈H':=fun y hy=>hm y (by simp [hy])
  cases hx:(whenS l x.2 t).2 with
  |true=>
   rw [Follow.cons_true hx] at h ⊢;obtain ⟨d,ds',h1,h2,h3,h4⟩:=h;exact ⟨d,ds',h1,h2,hm x (by simp) _ rfl h3,Follow.mono hm' h4⟩
  |false=>
   rw [Follow.cons_false hx] at h ⊢;exact Follow.mono hm' h
theorem Follow.due {H:List Ev}: ∀{cs ds:List Tri},Follow l t H cs ds-> ∀d∈ds,∃x∈cs,d.1=x.1/\(whenS l x.2 t).2=true/\(((whenS l x.2 t).1.1,(whenS l x.2 t).1.2,x.1,d.2):Ev)∈H
 | [],ds,h,d,hd=>by
  have:ds=[]:=h
  subst this;cases hd
 |x::cs,ds,h,d,hd=>by
  cases hx:(whenS l x.2 t).2 with
  |true=>
   rw [Follow.cons_true hx] at h;obtain ⟨e,ds',h1,h2,h3,h4⟩:=h;subst h1;rcases List.mem_cons.1 hd with rfl|hd
   · exact ⟨x,by simp,h2,hx,h3⟩
   · obtain ⟨y,hy,k⟩:=Follow.due h4 d hd
     exact ⟨y,by simp [hy],k⟩
  |false=>
   rw [Follow.cons_false hx] at h;obtain ⟨y,hy,k⟩:=Follow.due h d hd;exact ⟨y,by simp [hy],k⟩
theorem Follow.has {H:List Ev}: ∀{cs ds:List Tri},Follow l t H cs ds-> ∀x∈cs,(whenS l x.2 t).2=true-> ∃d∈ds,d.1=x.1/\(((whenS l x.2 t).1.1,(whenS l x.2 t).1.2,x.1,d.2):Ev)∈H
 | [],_,_,x,hx,_=>by cases hx
 |y::cs,ds,h,x,hx,hf=>by
  cases hy:(whenS l y.2 t).2 with
  |true=>
   rw [Follow.cons_true hy] at h;obtain ⟨e,ds',h1,h2,h3,h4⟩:=h;subst h1;rcases List.mem_cons.1 hx with rfl|hx
   · exact ⟨e,by simp,h2,h3⟩
   · obtain ⟨d,hd,k⟩:=Follow.has h4 x hx hf
     exact ⟨d,by simp [hd],k⟩
  |false=>
   rw [Follow.cons_false hy] at h;rcases List.mem_cons.1 hx with rfl|hx
   · rw [hf] at hy;cases hy
   · exact Follow.has h x hx hf
def Up (cs:List Tri):Prop:=cs.Pairwise fun x y=>x.1<y.1
theorem up_bang {cs:List Tri}:Up cs↔ ∀i j,i<j->j<cs.length->(cs[i]!).1<(cs[j]!).1:=by
 unfold Up;rw [List.pairwise_iff_getElem];constructor
 · intro h i j hij hj
   rw [getElem!_pos cs i (by omega),getElem!_pos cs j hj]
   exact h i j (by omega) hj hij
 · intro h i j hi hj hij
   have:=h i j hij hj
   rwa [getElem!_pos cs i hi,getElem!_pos cs j hj] at this
theorem Follow.up {H:List Ev}: ∀{cs ds:List Tri},Follow l t H cs ds->Up cs->Up ds
 | [],ds,h,_=>by
  have:ds=[]:=h
  subst this;exact List.Pairwise.nil
 |x::cs,ds,h,hu=>by
  have hu':=List.pairwise_cons.1 hu;cases hx:(whenS l x.2 t).2 with
  |true=>
   rw [Follow.cons_true hx] at h;obtain ⟨e,ds',h1,h2,h3,h4⟩:=h;subst h1;refine List.pairwise_cons.2 ⟨fun d hd=>?_,Follow.up h4 hu'.2⟩
   obtain ⟨y,hy,k,_⟩:=Follow.due h4 d hd
   have:=hu'.1 y hy
   omega
  |false=>
   rw [Follow.cons_false hx] at h;exact Follow.up h hu'.2
theorem Follow.snoc {H:List Ev}: ∀{cs ds:List Tri} {x:Tri},Follow l t H cs ds->((whenS l x.2 t).2=false->Follow l t H (cs++[x]) ds)/\
 (∀d:Tri,(whenS l x.2 t).2=true->d.1=x.1->(((whenS l x.2 t).1.1,(whenS l x.2 t).1.2,x.1,d.2):Ev)∈H->Follow l t H (cs++[x]) (ds++[d]))
 | [],ds,x,h=>by
  have:ds=[]:=h
  subst this;refine ⟨fun hx=>(Follow.cons_false hx).2 rfl,fun d hx h1 h2=>(Follow.cons_true hx).2 ⟨d,[],rfl,h1,h2,rfl⟩⟩
 |y::cs,ds,x,h=>by
  cases hy:(whenS l y.2 t).2 with
  |true=>
   rw [Follow.cons_true hy] at h;obtain ⟨e,ds',h1,h2,h3,h4⟩:=h;subst h1;have ih:=Follow.snoc (x:=x) h4;refine ⟨fun hx=>(Follow.cons_true hy).2 ⟨e,ds',rfl,h2,h3,ih.1 hx⟩,fun d hx k1 k2=>(Follow.cons_true hy).2 ⟨e,ds'++[d],rfl,h2,h3,ih.2 d hx k1 k2⟩⟩
  |false=>
   rw [Follow.cons_false hy] at h;have ih:=Follow.snoc (x:=x) h;exact ⟨fun hx=>(Follow.cons_false hy).2 (ih.1 hx),fun d hx k1 k2=>(Follow.cons_false hy).2 (ih.2 d hx k1 k2)⟩
theorem Follow.erase {H:List Ev}: ∀{cs ds:List Tri} {i:Nat},Follow l t H cs ds->i<cs.length->((whenS l (cs[i]!).2 t).2=false->Follow l t H (cs.eraseIdx i) ds)/\
 ((whenS l (cs[i]!).2 t).2=true-> ∃k,k<ds.length/\(ds[k]!).1=(cs[i]!).1/\(((whenS l (cs[i]!).2 t).1.1,(whenS l (cs[i]!).2 t).1.2,(cs[i]!).1,(ds[k]!).2):Ev)∈H/\Follow l t H (cs.eraseIdx i) (ds.eraseIdx k))
 | [],_,i,_,hi=>by cases hi
 |y::cs,ds,0,h,_=>by
  show ((whenS l y.2 t).2=false->Follow l t H cs ds)/\((whenS l y.2 t).2=true-> ∃k,k<ds.length/\(ds[k]!).1=y.1/\(((whenS l y.2 t).1.1,(whenS l y.2 t).1.2,y.1,(ds[k]!).2):Ev)∈H/\Follow l t H cs (ds.eraseIdx k));refine ⟨fun hy=>(Follow.cons_false hy).1 h,fun hy=>?_⟩
  obtain ⟨e,ds',h1,h2,h3,h4⟩:=(Follow.cons_true hy).1 h;subst h1;exact ⟨0,by simp,h2,h3,h4⟩
 |y::cs,ds,i+1,h,hi=>by
  have hi':i<cs.length:=by simpa using hi
  show ((whenS l (cs[i]!).2 t).2=false->Follow l t H (y::cs.eraseIdx i) ds)/\((whenS l (cs[i]!).2 t).2=true-> ∃k,k<ds.length/\(ds[k]!).1=(cs[i]!).1/\(((whenS l (cs[i]!).2 t).1.1,(whenS l (cs[i]!).2 t).1.2,(cs[i]!).1,(ds[k]!).2):Ev)∈H/\Follow l t H (y::cs.eraseIdx i) (ds.eraseIdx k));cases hy:(whenS l y.2 t).2 with
  |true=>
   obtain ⟨e,ds',h1,h2,h3,h4⟩:=(Follow.cons_true hy).1 h;subst h1;have ih:=Follow.erase (i:=i) h4 hi';refine ⟨fun hx=>(Follow.cons_true hy).2 ⟨e,ds',rfl,h2,h3,ih.1 hx⟩,fun hx=>?_⟩
   obtain ⟨k,k1,k2,k3,k4⟩:=ih.2 hx;exact ⟨k+1,by simp;omega,k2,k3,(Follow.cons_true hy).2 ⟨e,ds'.eraseIdx k,rfl,h2,h3,k4⟩⟩
  |false=>
   have h:=(Follow.cons_false hy).1 h;have ih:=Follow.erase (i:=i) h hi';refine ⟨fun hx=>(Follow.cons_false hy).2 (ih.1 hx),fun hx=>?_⟩
   obtain ⟨k,k1,k2,k3,k4⟩:=ih.2 hx;exact ⟨k,k1,k2,k3,(Follow.cons_false hy).2 k4⟩
end
theorem only_events {H:List Ev} {ns:List Int} (hd:ns.Nodup) (hl:H.length<=ns.length) (he: ∀n∈ns,∃e∈H,Ev.num e=n): ∀e∈H,Ev.num e∈ns:=by
 have pos: ∀n,n∈ns-> ∃w,w<H.length/\Ev.num H[w]! =n:=fun n hn=>by
  obtain ⟨e,he,h2⟩:=he n hn;obtain ⟨w,hw,rfl⟩:=mem_bang.1 he;exact ⟨w,hw,h2⟩
 let f:Int->Nat:=fun n=>if h: ∃w,w<H.length/\Ev.num H[w]! =n then h.choose else 0
 have hf: ∀n∈ns,f n<H.length/\Ev.num H[f n]! =n:=fun n hn=>by
  have h:=pos n hn;show (if h: ∃w,w<H.length/\Ev.num H[w]! =n then h.choose else 0)<_/\Ev.num H[(if h: ∃w,w<H.length/\Ev.num H[w]! =n then h.choose else 0)]! =n
  rw [dif_pos h];exact h.choose_spec
 have full:=pigeon_full (n:=H.length) (l:=ns.map f) (map_nodup hd fun x hx y hy h=>by
  have h1:=(hf x hx).2;have h2:=(hf y hy).2;rw [h] at h1
  omega) (fun x hx=>by
  obtain ⟨n,hn,rfl⟩:=List.mem_map.1 hx;exact (hf n hn).1) (by rw [List.length_map];exact hl)
 intro e hm;obtain ⟨w,hw,rfl⟩:=mem_bang.1 hm;obtain ⟨n,hn,h⟩:=List.mem_map.1 (full w hw);rw [<- h,(hf n hn).2];exact hn
theorem up_nodup {cs:List Tri} (h:Up cs):(cs.map fun x=>x.1).Nodup:=by
 refine map_nodup ?_ ?_
 · unfold Up at h
   exact h.imp fun hab he=>by rw [he] at hab;omega
 · intro x hx y hy he
   obtain ⟨i,hi,rfl⟩:=mem_bang.1 hx;obtain ⟨j,hj,rfl⟩:=mem_bang.1 hy;rcases Nat.lt_trichotomy i j with h1|h1|h1
   · have:=up_bang.1 h i j h1 hj;omega
   · rw [h1]
   · have:=up_bang.1 h j i h1 hi;omega
theorem ClockOK.crt_up {c:Clock} (ok:ClockOK c):Up c.certs.list:=up_bang.2 ok.crt.up
theorem ClockOK.due_up {c:Clock} (ok:ClockOK c):Up c.due:=ok.fol.up ok.crt_up
theorem ClockOK.nums {c:Clock} (ok:ClockOK c): ∀e∈c.agenda.heap,∃d∈c.due,d.1=Ev.num e:=by
 have:=only_events (H:=c.agenda.heap) (up_nodup ok.due_up) (by rw [List.length_map,ok.hd];exact Nat.le_refl _) (fun n hn=>by
  obtain ⟨d,hd,rfl⟩:=List.mem_map.1 hn;obtain ⟨x,hx,h1,h2,h3⟩:=ok.fol.due d hd;exact ⟨_,h3,h1.symm⟩)
 intro e he;obtain ⟨d,hd,h⟩:=List.mem_map.1 (this e he);exact ⟨d,hd,h⟩
end Go.Proofs.YtjikemfbommnlaaGreat
namespace Go.Proofs.YtjikemfbommnlaaGreat
open Go.Vm Classical
theorem DueAt_eq (c:Clock) (n:Int) (hl:c.due.length<=1000000):(∀k,k<c.due.length->(c.due[k]!).1=n->(∀j,j<k->(c.due[j]!).1≠n)->ref09_DueAt c n=some (k:Int))/\((∀k,k<c.due.length->(c.due[k]!).1≠n)->ref09_DueAt c n=some (-1)):=by
 unfold ref09_DueAt;refine while_first (body:=ref09_DueAt_l1) (fun i=>(n,(i:Int),c.now.1,c.now.2,c.field.points,c.certs.next_,c.certs.list,c.agenda.slots.uses,c.agenda.slots.used,c.agenda.slots.free,c.agenda.heap,c.agenda.where_,c.due)) c.due.length (fun i=>(c.due[i]!).1=n) (fun i=>(i:Int)) (fun i hi=>?_) ?_
 · have e1:decide ((i:Int)<(c.due.length:Int))=true:=dec_t (by omega)
   unfold ref09_DueAt_l1;simp only [ofNat_eq,e1,cond_true,geti_nat c.due i hi,bindS,wi_succ (show i<1000000000 by omega)]
   constructor
   · intro h;rw [beq_t h];rfl
   · intro h;rw [beq_f h];rfl
 · unfold ref09_DueAt_l1
   have:decide ((c.due.length:Int)<(c.due.length:Int))=false:=dec_f (by omega)
   simp only [ofNat_eq,this,cond_false]
theorem place_due {ds:List Tri} (hu:Up ds) (hl:ds.length<=1000000) (n:Int):(∀k,k<ds.length->(ds[k]!).1=n->clock_place ds n=some ((k:Int),true))/\((∀k,k<ds.length->(ds[k]!).1≠n)-> ∃m:Nat,clock_place ds n=some ((m:Int),false)):=by
 have bs:=bs_held ds n hl (up_bang.1 hu);unfold clock_place;rw [bs_due];constructor
 · intro k hk he;rw [bs.1 k hk he];rfl
 · intro h
   obtain ⟨m,_,_,_,e⟩:=bs.2 h;exact ⟨m,by rw [e];rfl⟩
theorem ClockOK.bd {c:Clock} (ok:ClockOK c):c.due.length<=200/\c.field.points.length<=64/\c.certs.list.length<=200:=by
 have:=ok.hd;have:=ok.agd.bd;have:=ok.fld.1;have:=ok.crt.len
 omega
theorem ref09_Twin_eq {c:Clock} (ok:ClockOK c):ref09_Twin c=some c:=by
 have bd:=ok.bd;unfold ref09_Twin ref03_Twin ref08_Twin;simp only [cloneO_le (show c.field.points.length<=1048576 by omega),cloneO_le (show c.certs.list.length<=1048576 by omega),cloneO_le (show c.due.length<=1048576 by omega),bindS,ref07_Twin_eq ok.agd]
theorem clock_twin_eq {c:Clock} (ok:ClockOK c):clock_twin c=some c:=by
 have bd:=ok.bd;have ab:=ok.agd.bd;have hl:=ok.agd.so.fl;have hn:=ok.agd.so.n2;have hu:=ok.agd.so.ul;unfold clock_twin;simp only [cloneO_le (show c.field.points.length<=1048576 by omega),cloneO_le (show c.certs.list.length<=1048576 by omega),cloneO_le (show c.due.length<=1048576 by omega),cloneO_le (show c.agenda.heap.length<=1048576 by omega),cloneO_le (show c.agenda.where_.length<=1048576 by omega),
  cloneO_le (show c.agenda.slots.uses.length<=1048576 by omega),cloneO_le (show c.agenda.slots.used.length<=1048576 by omega),cloneO_le (show c.agenda.slots.free.length<=1048576 by omega),bindS]
theorem mem_erase_ne {cs:List Tri} {i:Nat} (hu:Up cs) (hi:i<cs.length) {x:Tri} (hx:x∈cs.eraseIdx i):x∈cs/\x.1≠(cs[i]!).1:=by
 rw [erase_eq,List.mem_append] at hx;have ub:=up_bang.1 hu;rcases hx with hx|hx
 · obtain ⟨j,h1,h2,rfl⟩:=mem_take_bang.1 hx
   have:=ub j i h1 hi
   exact ⟨bang_mem h2,by omega⟩
 · obtain ⟨j,hj,rfl⟩:=mem_bang.1 hx
   rw [List.length_drop] at hj;rw [bang_drop]
   have:=ub i (i+1+j) (by omega) (by omega)
   exact ⟨bang_mem (by omega),by omega⟩
theorem known_erase {c:Clock} (ok:ClockOK c) (i:Nat) (hi:i<c.certs.list.length): ∀j,j<(certDel c.certs i).list.length->Both c.field.points ((certDel c.certs i).list[j]!).2:=by
 intro j hj;have hm:(certDel c.certs i).list[j]!∈c.certs.list:=(mem_erase_ne ok.crt_up hi (bang_mem hj)).1;obtain ⟨m,hm1,hm2⟩:=mem_bang.1 hm;rw [<- hm2];exact ok.known m hm1
theorem retire {c:Clock} (ok:ClockOK c) {i:Nat} (hi:i<c.certs.list.length):
 ∃c':Clock,clock_drop c (c.certs.list[i]!).1=some (c',(c.certs.list[i]!).2,0)/\ref09_Gone c (c.certs.list[i]!).1=some c'/\ClockOK c'/\c'.field=c.field/\c'.now=c.now/\c'.certs=certDel c.certs i:=by
 have bd:=ok.bd;have rm:=cert_Remove_eq ok.crt hi (n:=(c.certs.list[i]!).1) rfl;have wo:=ref08_Without_eq ok.crt hi (n:=(c.certs.list[i]!).1) rfl;have fe:=ok.fol.erase (i:=i) hi;have pd:=place_due ok.due_up (by omega) (c.certs.list[i]!).1
 have da:=DueAt_eq c (c.certs.list[i]!).1 (by omega)
 cases hf:(whenS c.field.points (c.certs.list[i]!).2 c.now).2 with
 |false=>
  have no: ∀k,k<c.due.length->(c.due[k]!).1≠(c.certs.list[i]!).1:=by
   intro k hk he;obtain ⟨x,hx,h1,h2,_⟩:=ok.fol.due _ (bang_mem hk);obtain ⟨j,hj,rfl⟩:=mem_bang.1 hx;have ub:=up_bang.1 ok.crt_up
   have:j=i:=by
    rcases Nat.lt_trichotomy j i with h|h|h
    · have:=ub j i h hi;omega
    · exact h
    · have:=ub i j h hj;omega
   rw [this,hf] at h2;cases h2
  refine ⟨⟨c.now,c.field,certDel c.certs i,c.agenda,c.due⟩,?_,?_,?_,rfl,rfl,rfl⟩
  · unfold clock_drop
    obtain ⟨m,e⟩:=pd.2 no;simp only [rm,bindS,show ((0:Int) !=0)=false from rfl,cond_false,clock_twin_eq ok,e]
  · unfold ref09_Gone
    simp only [ref09_Twin_eq ok,bindS,wo,da.2 no,dec_f (show¬(0:Int)<= -1 by omega),cond_false]
  · exact ⟨ok.nowv,ok.now64,ok.fld,certDel_ok ok.crt hi,ok.agd,ok.w200,ok.hd,known_erase ok i hi,fe.1 hf⟩
 |true=>
  obtain ⟨k,hk,k1,k2,k3⟩:=fe.2 hf;obtain ⟨w,hw,hev⟩:=mem_bang.1 k2;have hh:(c.agenda.heap[w]!).2.2.2=(c.due[k]!).2:=by rw [hev]
  have ub:=up_bang.1 ok.due_up;have before: ∀j,j<k->(c.due[j]!).1≠(c.certs.list[i]!).1:=fun j hj he=>by have:=ub j k hj hk;omega
  have dl:(c.due.eraseIdx k).length=c.due.length-1:=del_len hk;obtain ⟨L,d1,d2⟩:=Delete_held c.due k hk;refine ⟨⟨c.now,c.field,certDel c.certs i,agRemove c.agenda w,c.due.eraseIdx k⟩,?_,?_,?_,rfl,rfl,rfl⟩
  · unfold clock_drop
    simp only [rm,bindS,show ((0:Int) !=0)=false from rfl,cond_false,clock_twin_eq ok,pd.1 k hk k1,cond_true,geti_nat c.due k hk,agenda_Remove_eq ok.agd hw ok.agd.fit hh,wi_succ (show k<1000000000 by omega),Delete_due,d1,d2]
  · unfold ref09_Gone
    have s1:sliceO c.due 0 (k:Int)=some (c.due.take k):=sliceO_le c.due k (by omega)
    have s2:sliceO c.due ((k+1:Nat):Int) (c.due.length:Int)=some (c.due.drop (k+1)):=by
     unfold sliceO;rw [if_pos ⟨by omega,by omega,by omega⟩]
     simp only [Int.toNat_natCast];rw [List.take_of_length_le (by rw [List.length_drop];exact Nat.le_refl _)]
    have tl:(c.due.take k).length=k:=by rw [List.length_take];omega
    have dl2:(c.due.drop (k+1)).length=c.due.length- (k+1):=List.length_drop;simp only [ref09_Twin_eq ok,bindS,wo,da.1 k hk k1 before,dec_t (show (0:Int)<=(k:Int) by omega),cond_true,geti_nat c.due k hk,ref07_Removed_eq ok.agd hw hh,s1,cloneO_le (show (c.due.take k).length<=1048576 by omega),wi_succ (show k<1000000000 by omega),ofNat_eq,s2,
     appendO_le (show (c.due.take k).length+(c.due.drop (k+1)).length<=1048576 by omega),erase_eq]
    cases hem:(c.due.drop (k+1)).isEmpty with
    |true=>
     rw [List.isEmpty_iff] at hem;rw [hem,List.append_nil];rfl
    |false=>rfl
  · have rem:=remove_ok ok.agd hw
    have rmem:=remove_mem ok.agd hw;have hlen:(agRemove c.agenda w).heap.length=c.agenda.heap.length-1:=by
     have h1:=rem.hl;have h2:=ok.agd.hl;have h3:(agRemove c.agenda w).slots=sGiven c.agenda.slots (c.agenda.heap[w]!).2.2.2:=by unfold agRemove;split<;>rfl
     rw [h3] at h1;change _+(c.agenda.slots.free++[_]).length=c.agenda.slots.uses.length at h1;rw [List.length_append] at h1;simp only [List.length_cons,List.length_nil] at h1;omega
    have wlen:(agRemove c.agenda w).where_.length=200:=by
     have h1:=rem.wl;have h3:(agRemove c.agenda w).slots=sGiven c.agenda.slots (c.agenda.heap[w]!).2.2.2:=by unfold agRemove;split<;>rfl
     rw [h3] at h1;change _=c.agenda.slots.uses.length at h1;rw [h1,<- ok.agd.wl,ok.w200]
    refine ⟨ok.nowv,ok.now64,ok.fld,certDel_ok ok.crt hi,rem,wlen,?_,known_erase ok i hi,?_⟩
    · show (agRemove c.agenda w).heap.length=(c.due.eraseIdx k).length
      rw [hlen,dl,ok.hd]
    · refine k3.mono fun x hx e he hm=>(rmem e).2 ⟨hm,fun h=>?_⟩
      have:=(mem_erase_ne ok.crt_up hi hx).2
      rw [h,hev] at he;exact this he.symm
theorem clock_Retire_eq {c:Clock} (ok:ClockOK c) {i:Nat} (_hi:i<c.certs.list.length) {c':Clock} (h:clock_drop c (c.certs.list[i]!).1=some (c',(c.certs.list[i]!).2,0)):clock_Retire c (c.certs.list[i]!).1=some (c',0):=by
 unfold clock_Retire;rw [clock_Check_eq ok.fit,if_pos ok];simp only [bindS,show ((0:Int) !=0)=false from rfl,cond_false,h]
end Go.Proofs.YtjikemfbommnlaaGreat
namespace Go.Proofs.YtjikemfbommnlaaGreat
open Go.Vm Classical
abbrev noClock:Clock:=⟨(0,0),⟨[]⟩,⟨0,[]⟩,⟨⟨[],[],[]⟩,[],[]⟩,[]⟩
theorem pt_neg {l:List Pt} (ok:FieldOK l) {id:Int} (h:HasP l id): ¬(ptOf l id).1<0:=by
 obtain ⟨h1,_⟩:=ptOf_ok ok h
 have:=h1.1
 omega
theorem certify {c:Clock} (ok:ClockOK c) {x:Int×Int} (hx:CertV x) (hb:Both c.field.points x) (hn: ¬HasC c.certs.list x):
 (clock_Certify c x=some (noClock,0,18)/\ref09_Added c x=some (noClock,0,18))\/
 ∃c':Clock,clock_Certify c x=some (c',c.certs.next_,0)/\ref09_Added c x=some (c',c.certs.next_,0)/\ClockOK c'/\c'.field=c.field/\c'.now=c.now/\c'.certs=certAdd c.certs x:=by
 have bd:=ok.bd;have n0:=ok.crt.n0;have n1:=ok.crt.n1;have fit:=ok.fit;have ad:=cert_Add_eq ok.crt hx;have rd:=ref08_Add_eq ok.crt hx;rw [if_neg hn] at ad rd;have hc:clock_Check c=some 0:=by rw [clock_Check_eq fit,if_pos ok]
 have p1:=clock_point_eq ok.fld x.1;have p2:=clock_point_eq ok.fld x.2;have q1:=pt_neg ok.fld hb.1;have q2:=pt_neg ok.fld hb.2;have wh:=clock_when_eq ok.fld hx ok.nowv ok.now64;rw [if_pos hb] at wh;have rw':=ref09_When_eq ok.fld ok.now64 hb
 by_cases hf:CFull c.certs
 · rw [if_pos hf] at ad rd
   left;constructor
   · unfold clock_Certify clock_Certify_1
     simp only [hc,bindS,show ((0:Int) !=0)=false from rfl,cond_false,ad,show ((18:Int)==8)=false from rfl,p1,p2,dec_f q1,dec_f q2,show ((18:Int) !=0)=true from rfl,cond_true]
   · unfold ref09_Added
     simp only [rd,bindS,show ((18:Int) !=0)=true from rfl,cond_true]
 rw [if_neg hf] at ad rd;have cok:=certAdd_ok ok.crt hx hn hf;have known': ∀j,j<(certAdd c.certs x).list.length->Both c.field.points ((certAdd c.certs x).list[j]!).2:=by
  intro j hj;rw [add_len] at hj;rw [add_cell]
  by_cases h:j<c.certs.list.length
  · rw [if_pos h];exact ok.known j h
  · rw [if_neg h,if_pos (by omega)];exact hb
 have fresh: ∀e∈c.agenda.heap,Ev.num e≠c.certs.next_:=by
  intro e he hne;obtain ⟨d,hd,h1⟩:=ok.nums e he;obtain ⟨y,hy,h2,_⟩:=ok.fol.due d hd;obtain ⟨j,hj,rfl⟩:=mem_bang.1 hy
  have:=(ok.crt.nr j hj).2
  omega
 have sn:=ok.fol.snoc (x:=(c.certs.next_,x));cases hw:(whenS c.field.points x c.now).2 with
 |false=>
  right;refine ⟨⟨c.now,c.field,certAdd c.certs x,c.agenda,c.due⟩,?_,?_,⟨ok.nowv,ok.now64,ok.fld,cok,ok.agd,ok.w200,ok.hd,known',sn.1 hw⟩,rfl,rfl,rfl⟩
  · unfold clock_Certify clock_Certify_1
    simp only [hc,bindS,show ((0:Int) !=0)=false from rfl,cond_false,ad,show ((0:Int)==8)=false from rfl,p1,p2,dec_f q1,dec_f q2,clock_twin_eq ok,wh,hw]
  · unfold ref09_Added
    simp only [rd,bindS,show ((0:Int) !=0)=false from rfl,cond_false,ref09_Twin_eq ok,rw',hw,Bool.not_false,cond_true]
 |true=>
  obtain ⟨t1,t2⟩:=fails_ok (ptOf_ok ok.fld hb.2).1 (ptOf_ok ok.fld hb.1).1 ok.now64 ok.nowv hw
  by_cases op:SOpen c.agenda.slots
  · right
    have pu:=agenda_Push_open ok.agd op ok.agd.fit (t:=(whenS c.field.points x c.now).1) (n:=c.certs.next_) t1 t2 n0 n1 fresh;have rp:=ref07_Pushed_eq ok.agd op (t:=(whenS c.field.points x c.now).1) (n:=c.certs.next_) t1 t2 n0 n1;have pok:=push_ok ok.agd op (t:=(whenS c.field.points x c.now).1) (n:=c.certs.next_) t1 t2 n0 n1 fresh
    have pmem:=push_mem ok.agd op (t:=(whenS c.field.points x c.now).1) (n:=c.certs.next_) t1;have plen:=push_len ok.agd op (t:=(whenS c.field.points x c.now).1) (n:=c.certs.next_) t1;have ap: ∀h:Int×Int,appendO c.due [(c.certs.next_,h)]=some (c.due++[(c.certs.next_,h)]):=fun h=>appendO_le (by simp;omega)
    have wlen:(agPush c.agenda (whenS c.field.points x c.now).1 c.certs.next_).where_.length=200:=by
     have:=pok.wl
     change _=(c.agenda.slots.uses.set _ _).length at this;rw [List.length_set] at this;rw [this,<- ok.agd.wl,ok.w200]
    refine ⟨⟨c.now,c.field,certAdd c.certs x,agPush c.agenda (whenS c.field.points x c.now).1 c.certs.next_,c.due++[(c.certs.next_,sHandle c.agenda.slots)]⟩,?_,?_,⟨ok.nowv,ok.now64,ok.fld,cok,pok,wlen,?_,known',?_⟩,rfl,rfl,rfl⟩
    · unfold clock_Certify clock_Certify_1
      simp only [hc,bindS,show ((0:Int) !=0)=false from rfl,cond_false,ad,show ((0:Int)==8)=false from rfl,p1,p2,dec_f q1,dec_f q2,clock_twin_eq ok,wh,hw,cond_true,pu,ap]
    · unfold ref09_Added
      simp only [rd,bindS,show ((0:Int) !=0)=false from rfl,cond_false,ref09_Twin_eq ok,rw',hw,Bool.not_true,ref06_Open_eq ok.agd.so,dec_t op,rp,ap]
    · show (agPush c.agenda (whenS c.field.points x c.now).1 c.certs.next_).heap.length=(c.due++[_]).length
      rw [plen,List.length_append,ok.hd];rfl
    · have fm:Follow c.field.points c.now (agPush c.agenda (whenS c.field.points x c.now).1 c.certs.next_).heap c.certs.list c.due:=ok.fol.mono fun y hy e he hm=>(pmem e).2 (.inr hm)
      exact (fm.snoc (x:=(c.certs.next_,x))).2 _ hw rfl ((pmem _).2 (.inl rfl))
  · left
    have pu:=agenda_Push_full ok.agd op ok.agd.fit (t:=(whenS c.field.points x c.now).1) (n:=c.certs.next_) t1 t2 n0 n1 fresh;constructor
    · unfold clock_Certify clock_Certify_1
      simp only [hc,bindS,show ((0:Int) !=0)=false from rfl,cond_false,ad,show ((0:Int)==8)=false from rfl,p1,p2,dec_f q1,dec_f q2,clock_twin_eq ok,wh,hw,cond_true,pu,show ((18:Int) !=0)=true from rfl]
    · unfold ref09_Added
      simp only [rd,bindS,show ((0:Int) !=0)=false from rfl,cond_false,ref09_Twin_eq ok,rw',hw,Bool.not_true,ref06_Open_eq ok.agd.so,dec_f op,Bool.not_false,cond_true]
end Go.Proofs.YtjikemfbommnlaaGreat
namespace Go.Proofs.YtjikemfbommnlaaGreat
open Go.Vm Classical
theorem Up.inj {cs:List Tri} (h:Up cs) {x y:Tri} (hx:x∈cs) (hy:y∈cs) (he:x.1=y.1):x=y:=by
 obtain ⟨i,hi,rfl⟩:=mem_bang.1 hx;obtain ⟨j,hj,rfl⟩:=mem_bang.1 hy;have ub:=up_bang.1 h;rcases Nat.lt_trichotomy i j with h1|h1|h1
 · have:=ub i j h1 hj;omega
 · rw [h1]
 · have:=ub j i h1 hi;omega
structure AltInv (c:Clock) (f:List Pt) (i k:Nat) (a:Agenda) (ds:List Tri):Prop where
 ok:AgOK a
 w2:a.where_.length=200
 new:Follow f c.now a.heap (c.certs.list.take i) ds
 old:Follow c.field.points c.now a.heap (c.certs.list.drop i) (c.due.drop k)
 kl:k<=c.due.length
 cnt:a.heap.length=ds.length+(c.due.length-k)
theorem ag_len {a:Agenda} (ok:AgOK a) {w:Nat} (hw:w<a.heap.length):(agRemove a w).heap.length=a.heap.length-1/\(agRemove a w).where_.length=a.where_.length:=by
 have rem:=remove_ok ok hw;have h3:(agRemove a w).slots=sGiven a.slots (a.heap[w]!).2.2.2:=by unfold agRemove;split<;>rfl
 have h1:=rem.hl;have h2:=ok.hl;have h4:=rem.wl;rw [h3] at h1 h4;change _+(a.slots.free++[_]).length=a.slots.uses.length at h1;change _=a.slots.uses.length at h4;rw [List.length_append] at h1;simp only [List.length_cons,List.length_nil] at h1;exact ⟨by omega,by rw [h4,ok.wl]⟩
theorem push_wl {a:Agenda} {t:Int×Int} {n:Int} (ok:AgOK a) (pok:AgOK (agPush a t n)):(agPush a t n).where_.length=a.where_.length:=by
 have:=pok.wl
 change _=(a.slots.uses.set _ _).length at this;rw [List.length_set] at this;rw [this,ok.wl]
section
variable {c : Clock} (ok : ClockOK c) {f : List Pt} (fok : FieldOK f) (kn : ∀ i, i < c.certs.list.length -> Both f (c.certs.list[i]!).2)
include ok
theorem alt_mem_take {i:Nat} {x:Tri} (hx:x∈c.certs.list.take i) (hi:i<c.certs.list.length):x.1≠(c.certs.list[i]!).1:=by
 obtain ⟨j,h1,h2,rfl⟩:=mem_take_bang.1 hx
 have:=ok.crt.up j i h1 hi
 omega
theorem alt_mem_drop {i:Nat} {x:Tri} (hx:x∈c.certs.list.drop (i+1)) (hi:i<c.certs.list.length):x.1≠(c.certs.list[i]!).1:=by
 obtain ⟨j,h1,rfl⟩:=mem_bang.1 hx;rw [List.length_drop] at h1;rw [bang_drop]
 have:=ok.crt.up i (i+1+j) (by omega) (by omega)
 omega
theorem alt_fresh {i k:Nat} {a:Agenda} {ds:List Tri} (inv:AltInv c f i k a ds) (hi:i<c.certs.list.length) (was:(whenS c.field.points (c.certs.list[i]!).2 c.now).2=false): ∀e∈a.heap,Ev.num e≠(c.certs.list[i]!).1:=by
 have u1:Up (c.certs.list.take i):=ok.crt_up.sublist (List.take_sublist _ _);have u2:Up (c.certs.list.drop i):=ok.crt_up.sublist (List.drop_sublist _ _);have d1:=inv.new.up u1;have d2:=inv.old.up u2;have cross: ∀x∈ds,∀y∈c.due.drop k,x.1<y.1:=by
  intro x hx y hy;obtain ⟨p,hp,h1,_⟩:=inv.new.due x hx;obtain ⟨q,hq,h2,_⟩:=inv.old.due y hy;obtain ⟨m,m1,m2,rfl⟩:=mem_take_bang.1 hp;obtain ⟨n,n1,rfl⟩:=mem_bang.1 hq;rw [List.length_drop] at n1;rw [bang_drop] at h2
  have:=ok.crt.up m (i+n) (by omega) (by omega)
  omega
 have nd:((ds++c.due.drop k).map fun x=>x.1).Nodup:=up_nodup (by
  show List.Pairwise _ _;rw [List.pairwise_append];exact ⟨d1,d2,cross⟩)
 have only:=only_events (H:=a.heap) nd (by rw [List.length_map,List.length_append,List.length_drop,inv.cnt];exact Nat.le_refl _) (fun n hn=>by
  obtain ⟨x,hx,rfl⟩:=List.mem_map.1 hn;rcases List.mem_append.1 hx with hx|hx
  · obtain ⟨p,hp,h1,h2,h3⟩:=inv.new.due x hx
    exact ⟨_,h3,h1.symm⟩
  · obtain ⟨p,hp,h1,h2,h3⟩:=inv.old.due x hx
    exact ⟨_,h3,h1.symm⟩)
 intro e he hne;obtain ⟨x,hx,h1⟩:=List.mem_map.1 (only e he);rcases List.mem_append.1 hx with hx|hx
 · obtain ⟨p,hp,h2,_⟩:=inv.new.due x hx
   exact alt_mem_take ok hp hi (by rw [<- h2,h1,hne])
 · obtain ⟨p,hp,h2,h3,_⟩:=inv.old.due x hx
   have hp':p∈c.certs.list:=List.mem_of_mem_drop hp
   have:=ok.crt_up.inj hp' (bang_mem hi) (by rw [<- h2,h1,hne])
   rw [this,was] at h3;cases h3
def stP (c:Clock) (f:List Pt) (i:Nat) (a:Agenda) (ds:List Tri):=
 (c.certs.list,(c.certs.list.length:Int),(i:Int),c.now.1,c.now.2,c.field.points,c.certs.next_,c.certs.list,c.agenda.slots.uses,c.agenda.slots.used,c.agenda.slots.free,c.agenda.heap,c.agenda.where_,c.due,f,(0:Int),(0:Int),(0:Int),c.now.1,c.now.2,c.certs.next_,c.certs.list,a.slots.uses,a.slots.used,a.slots.free,a.heap,a.where_,f,ds)
def stR (c:Clock) (f:List Pt) (i:Nat) (a:Agenda) (ds:List Tri):=
 ((i:Int),c.now.1,c.now.2,c.field.points,c.certs.next_,c.certs.list,c.agenda.slots.uses,c.agenda.slots.used,c.agenda.slots.free,c.agenda.heap,c.agenda.where_,c.due,f,(0:Int),(0:Int),(0:Int),c.now.1,c.now.2,f,c.certs.next_,c.certs.list,a.slots.uses,a.slots.used,a.slots.free,a.heap,a.where_,ds)
include fok kn
theorem alt_step {i k:Nat} {a:Agenda} {ds:List Tri} (inv:AltInv c f i k a ds) (hi:i<c.certs.list.length) (hds:ds.length<=i):
 (clock_Alter_l1 (stP c f i a ds)=some (.done (.done (noClock,18)))/\ref09_Altered_l1 (stR c f i a ds)=some (.done (noClock,18)))\/
 ∃k' a' ds',clock_Alter_l1 (stP c f i a ds)=some (.next (stP c f (i+1) a' ds'))/\ref09_Altered_l1 (stR c f i a ds)=some (.next (stR c f (i+1) a' ds'))/\AltInv c f (i+1) k' a' ds'/\ds'.length<=i+1:=by
 have bd:=ok.bd;have e1:decide ((i:Int)<(c.certs.list.length:Int))=true:=dec_t (by omega)
 have sc:=wi_succ (show i<1000000000 by omega)
 have cg:=geti_nat c.certs.list i hi;have hb:=kn i hi;have wn:=clock_when_eq fok (x:=(c.certs.list[i]!).2) (t:=(c.now.1,c.now.2)) (ok.crt.cv i hi) ok.nowv ok.now64;rw [if_pos hb] at wn;have wr:=ref09_When_eq fok (x:=(c.certs.list[i]!).2) (t:=(c.now.1,c.now.2)) ok.now64 hb;have pd:=place_due ok.due_up (by omega) (c.certs.list[i]!).1
 have da:=DueAt_eq c (c.certs.list[i]!).1 (by omega)
 have dr:=drop_cons hi;have tk:=take_succ_bang hi;have old:=inv.old;rw [dr] at old;have aeta:Agenda.mk (Slots.mk a.slots.uses a.slots.used a.slots.free) a.heap a.where_=a:=rfl
 have ceta:(Clock.mk (c.now.1,c.now.2) (Field.mk c.field.points) (Certs.mk c.certs.next_ c.certs.list) (Agenda.mk (Slots.mk c.agenda.slots.uses c.agenda.slots.used c.agenda.slots.free) c.agenda.heap c.agenda.where_) c.due)=c:=rfl;have other: ∀x∈c.certs.list.take i,x.1≠(c.certs.list[i]!).1:=fun x hx=>alt_mem_take ok hx hi
 have other': ∀x∈c.certs.list.drop (i+1),x.1≠(c.certs.list[i]!).1:=fun x hx=>alt_mem_drop ok hx hi
 cases hwas:(whenS c.field.points (c.certs.list[i]!).2 c.now).2 with
 |true=>
  obtain ⟨d,ds',hd1,hd2,hd3,hd4⟩:=(Follow.cons_true hwas).1 old;have hk:k<c.due.length:=by
   refine Classical.byContradiction fun h=>?_
   rw [List.drop_eq_nil_of_le (by omega)] at hd1
   cases hd1
  have dk:=drop_cons hk;rw [dk] at hd1;injection hd1 with hd5 hd6;subst hd5 hd6;obtain ⟨w,hw,hev⟩:=mem_bang.1 hd3;have hh:(a.heap[w]!).2.2.2=(c.due[k]!).2:=by rw [hev]
  have hnum:Ev.num a.heap[w]! =(c.certs.list[i]!).1:=by rw [hev]
  have before: ∀j,j<k->(c.due[j]!).1≠(c.certs.list[i]!).1:=fun j hj he=>by
   have:=up_bang.1 ok.due_up j k hj hk
   omega
  have pl:=pd.1 k hk hd2;have dq:=da.1 k hk hd2 before;have gk:=geti_nat c.due k hk;have k0:decide ((0:Int)<=(k:Int))=true:=dec_t (by omega)
  have ap:appendO ds [c.due[k]!]=some (ds++[c.due[k]!]):=appendO_le (by simp;omega)
  cases his:(whenS f (c.certs.list[i]!).2 c.now).2 with
  |true=>
   right;have tt:RatOK (whenS f (c.certs.list[i]!).2 c.now).1/\R64 (whenS f (c.certs.list[i]!).2 c.now).1:=fails_ok (ptOf_ok fok hb.2).1 (ptOf_ok fok hb.1).1 ok.now64 ok.nowv his;obtain ⟨t1,t2⟩:=tt;have re:=agenda_Rekey_eq inv.ok inv.ok.fit (t:=(whenS f (c.certs.list[i]!).2 c.now).1) hw hh t1 t2;have rr:=ref07_Rekeyed_eq inv.ok (t:=(whenS f (c.certs.list[i]!).2 c.now).1) hw hh t1 t2
   have rok:=rekey_ok inv.ok hw t1 t2;have rmem:=rekey_mem inv.ok hw t1;have rlen:=rekey_len inv.ok hw t1;have stay: ∀(cs:List Tri),(∀x∈cs,x.1≠(c.certs.list[i]!).1)-> ∀x∈cs,∀e:Ev,e.num=x.1->e∈a.heap->e∈(agRekey a w (whenS f (c.certs.list[i]!).2 c.now).1).heap:=by
    intro cs hcs x hx e he hm;refine (rmem e).2 (.inr ⟨hm,fun h=>hcs x hx ?_⟩)
    rw [<- he,h,hnum]
   refine ⟨k+1,agRekey a w (whenS f (c.certs.list[i]!).2 c.now).1,ds++[c.due[k]!],?_,?_,⟨rok,by rw [rlen.2];exact inv.w2,?_,?_,by omega,?_⟩,by simp;omega⟩
   · unfold clock_Alter_l1 stP
     simp only [e1,cond_true,cg,bindS,wn,pl,his,gk,aeta,re,ap,show ((0:Int) !=0)=false from rfl,cond_false,sc]
   · unfold ref09_Altered_l1 stR
     simp only [ofNat_eq,e1,cond_true,cg,bindS,ceta,dq,wr,his,k0,gk,aeta,rr,ap,Bool.not_true,cond_false,sc]
   · rw [tk]
     exact ((inv.new.mono (stay _ other)).snoc (x:=c.certs.list[i]!)).2 _ his hd2 ((rmem _).2 (.inl (by
      show _=((whenS f (c.certs.list[i]!).2 c.now).1.1,(whenS f (c.certs.list[i]!).2 c.now).1.2,(a.heap[w]!).2.2);rw [hev])))
   · exact hd4.mono (stay _ other')
   · rw [rlen.1,inv.cnt,List.length_append]
     simp only [List.length_cons,List.length_nil];omega
  |false=>
   right;have rv:=agenda_Remove_eq inv.ok hw inv.ok.fit hh;have rr:=ref07_Removed_eq inv.ok hw hh;have rok:=remove_ok inv.ok hw;have rmem:=remove_mem inv.ok hw;have rlen:=ag_len inv.ok hw;have stay: ∀(cs:List Tri),(∀x∈cs,x.1≠(c.certs.list[i]!).1)-> ∀x∈cs,∀e:Ev,e.num=x.1->e∈a.heap->e∈(agRemove a w).heap:=by
    intro cs hcs x hx e he hm;refine (rmem e).2 ⟨hm,fun h=>hcs x hx ?_⟩
    rw [<- he,h,hnum]
   refine ⟨k+1,agRemove a w,ds,?_,?_,⟨rok,by rw [rlen.2];exact inv.w2,?_,hd4.mono (stay _ other'),by omega,?_⟩,by omega⟩
   · unfold clock_Alter_l1 stP
     simp only [e1,cond_true,cg,bindS,wn,pl,his,gk,aeta,rv,show ((0:Int) !=0)=false from rfl,cond_false,sc]
   · unfold ref09_Altered_l1 stR
     simp only [ofNat_eq,e1,cond_true,cg,bindS,ceta,dq,wr,his,k0,gk,aeta,rr,Bool.not_false,cond_false,sc]
   · rw [tk]
     exact ((inv.new.mono (stay _ other)).snoc (x:=c.certs.list[i]!)).1 his
   · have:=inv.cnt
     rw [rlen.1];omega
 |false=>
  have fol:=(Follow.cons_false hwas).1 old;have no: ∀j,j<c.due.length->(c.due[j]!).1≠(c.certs.list[i]!).1:=by
   intro j hj he;obtain ⟨x,hx,h1,h2,_⟩:=ok.fol.due _ (bang_mem hj)
   have:=ok.crt_up.inj hx (bang_mem hi) (by rw [<- h1,he])
   rw [this,hwas] at h2;cases h2
  obtain ⟨m,pl⟩:=pd.2 no;have dq:=da.2 no;have k0:decide ((0:Int)<= -1)=false:=dec_f (by omega)
  cases his:(whenS f (c.certs.list[i]!).2 c.now).2 with
  |true=>
   have tt:RatOK (whenS f (c.certs.list[i]!).2 c.now).1/\R64 (whenS f (c.certs.list[i]!).2 c.now).1:=fails_ok (ptOf_ok fok hb.2).1 (ptOf_ok fok hb.1).1 ok.now64 ok.nowv his;obtain ⟨t1,t2⟩:=tt;have n0:=(ok.crt.nr i hi).1;have n1:(c.certs.list[i]!).1<=1000000:=by have:=(ok.crt.nr i hi).2;have:=ok.crt.n1;omega
   have fresh:=alt_fresh ok inv hi hwas
   by_cases op:SOpen a.slots
   · right
     have pu:=agenda_Push_open inv.ok op inv.ok.fit (t:=(whenS f (c.certs.list[i]!).2 c.now).1) (n:=(c.certs.list[i]!).1) t1 t2 n0 n1 fresh;have rp:=ref07_Pushed_eq inv.ok op (t:=(whenS f (c.certs.list[i]!).2 c.now).1) (n:=(c.certs.list[i]!).1) t1 t2 n0 n1;have pok:=push_ok inv.ok op (t:=(whenS f (c.certs.list[i]!).2 c.now).1) (n:=(c.certs.list[i]!).1) t1 t2 n0 n1 fresh
     have pmem:=push_mem inv.ok op (t:=(whenS f (c.certs.list[i]!).2 c.now).1) (n:=(c.certs.list[i]!).1) t1;have plen:=push_len inv.ok op (t:=(whenS f (c.certs.list[i]!).2 c.now).1) (n:=(c.certs.list[i]!).1) t1;have ap: ∀h:Int×Int,appendO ds [((c.certs.list[i]!).1,h)]=some (ds++[((c.certs.list[i]!).1,h)]):=fun h=>appendO_le (by simp;omega)
     have opn:=ref06_Open_eq inv.ok.so;rw [dec_t op] at opn;refine ⟨k,agPush a (whenS f (c.certs.list[i]!).2 c.now).1 (c.certs.list[i]!).1,ds++[((c.certs.list[i]!).1,sHandle a.slots)],?_,?_,⟨pok,by rw [push_wl inv.ok pok];exact inv.w2,?_,?_,inv.kl,?_⟩,by simp;omega⟩
     · unfold clock_Alter_l1 stP
       simp only [e1,cond_true,cg,bindS,wn,pl,his,aeta,pu,ap,show ((0:Int) !=0)=false from rfl,cond_false,sc]
     · unfold ref09_Altered_l1 stR
       simp only [ofNat_eq,e1,cond_true,cg,bindS,ceta,dq,wr,his,k0,aeta,rp,ap,Bool.not_true,cond_false,sc,opn]
     · rw [tk]
       exact ((inv.new.mono fun x hx e he hm=>(pmem e).2 (.inr hm)).snoc (x:=c.certs.list[i]!)).2 _ his rfl ((pmem _).2 (.inl rfl))
     · exact fol.mono fun x hx e he hm=>(pmem e).2 (.inr hm)
     · have:=inv.cnt
       rw [plen,List.length_append];simp only [List.length_cons,List.length_nil];omega
   · left
     have pu:=agenda_Push_full inv.ok op inv.ok.fit (t:=(whenS f (c.certs.list[i]!).2 c.now).1) (n:=(c.certs.list[i]!).1) t1 t2 n0 n1 fresh;have ap: ∀h:Int×Int,appendO ds [((c.certs.list[i]!).1,h)]=some (ds++[((c.certs.list[i]!).1,h)]):=fun h=>appendO_le (by simp;omega)
     have opn:=ref06_Open_eq inv.ok.so;rw [dec_f op] at opn;constructor
     · unfold clock_Alter_l1 stP
       simp only [e1,cond_true,cg,bindS,wn,pl,his,aeta,pu,ap,show ((18:Int) !=0)=true from rfl,cond_false]
     · unfold ref09_Altered_l1 stR
       simp only [ofNat_eq,e1,cond_true,cg,bindS,ceta,dq,wr,his,k0,aeta,Bool.not_true,Bool.not_false,cond_false,opn]
  |false=>
   right;refine ⟨k,a,ds,?_,?_,⟨inv.ok,inv.w2,?_,fol,inv.kl,inv.cnt⟩,by omega⟩
   · unfold clock_Alter_l1 stP
     simp only [e1,cond_true,cg,bindS,wn,pl,his,show ((0:Int) !=0)=false from rfl,cond_false,sc]
   · unfold ref09_Altered_l1 stR
     simp only [ofNat_eq,e1,cond_true,cg,bindS,ceta,dq,wr,his,k0,Bool.not_false,cond_false,sc]
   · rw [tk]
     exact (inv.new.snoc (x:=c.certs.list[i]!)).1 his
theorem alter:
 (clock_Alter c ⟨f⟩=some (noClock,18)/\ref09_Altered c ⟨f⟩=some (noClock,18))\/
 ∃c':Clock,clock_Alter c ⟨f⟩=some (c',0)/\ref09_Altered c ⟨f⟩=some (c',0)/\ClockOK c'/\c'.field.points=f/\c'.now=c.now/\c'.certs=c.certs:=by
 have bd:=ok.bd;have f64:=fok.1;have run: ∀(d i k:Nat) (a:Agenda) (ds:List Tri),c.certs.list.length-i<=d->i<=c.certs.list.length->AltInv c f i k a ds->ds.length<=i->
  (whileO clock_Alter_l1 (stP c f i a ds)=some (.done (noClock,18))/\whileO ref09_Altered_l1 (stR c f i a ds)=some (noClock,18))\/
  ∃c':Clock,whileO clock_Alter_l1 (stP c f i a ds)=some (.done (c',0))/\whileO ref09_Altered_l1 (stR c f i a ds)=some (c',0)/\ClockOK c'/\c'.field.points=f/\c'.now=c.now/\c'.certs=c.certs:=by
  have fin: ∀(k:Nat) (a:Agenda) (ds:List Tri),AltInv c f c.certs.list.length k a ds-> ∃c':Clock,whileO clock_Alter_l1 (stP c f c.certs.list.length a ds)=some (.done (c',0))/\whileO ref09_Altered_l1 (stR c f c.certs.list.length a ds)=some (c',0)/\ClockOK c'/\c'.field.points=f/\c'.now=c.now/\c'.certs=c.certs:=by
   intro k a ds inv;have e1:decide ((c.certs.list.length:Int)<(c.certs.list.length:Int))=false:=dec_f (by omega)
   have hk:c.due.length-k=0:=by
    have:=inv.old
    rw [List.drop_length] at this
    have:c.due.drop k=[]:=this
    rw [List.drop_eq_nil_iff] at this;omega
   have new:=inv.new;rw [List.take_length] at new;refine ⟨⟨c.now,⟨f⟩,c.certs,a,ds⟩,whileO_done ?_,whileO_done ?_,⟨ok.nowv,ok.now64,fok,ok.crt,inv.ok,inv.w2,?_,kn,new⟩,rfl,rfl,rfl⟩
   · unfold clock_Alter_l1 stP
     simp only [e1,cond_false]
   · unfold ref09_Altered_l1 stR
     simp only [ofNat_eq,e1,cond_false]
   · have:=inv.cnt
     show a.heap.length=ds.length;omega
  intro d
  induction d with
  |zero=>
   intro i k a ds hd hi inv hds
   have:i=c.certs.list.length:=by omega
   subst this;exact .inr (fin k a ds inv)
  |succ d ih=>
   intro i k a ds hd hi inv hds
   by_cases he:i=c.certs.list.length
   · subst he;exact .inr (fin k a ds inv)
   rcases alt_step ok fok kn inv (by omega) hds with ⟨h1,h2⟩|⟨k',a',ds',h1,h2,h3,h4⟩
   · exact .inl ⟨whileO_done h1,whileO_done h2⟩
   · rw [whileO_next h1,whileO_next h2]
     exact ih (i+1) k' a' ds' (by omega) (by omega) h3 h4
 have start:=run c.certs.list.length 0 0 c.agenda [] (by omega) (by omega) ⟨ok.agd,ok.w200,rfl,by rw [List.drop_zero,List.drop_zero];exact ok.fol,by omega,by have:=ok.hd;simp;omega⟩ (by simp)
 have hc:clock_Check c=some 0:=by rw [clock_Check_eq ok.fit,if_pos ok]
 have hf:field_Check ⟨f⟩=some 0:=by rw [field_Check_eq];exact congrArg some (fieldErr_ok.2 fok)
 have tw:=clock_twin_eq ok;have tw':clock_twin (Clock.mk (c.now.1,c.now.2) (Field.mk c.field.points) (Certs.mk c.certs.next_ c.certs.list) (Agenda.mk (Slots.mk c.agenda.slots.uses c.agenda.slots.used c.agenda.slots.free) c.agenda.heap c.agenda.where_) c.due)=some c:=tw
 have first:whileO clock_Alter_l2 (c.certs.list,(c.certs.list.length:Int),0,c.now.1,c.now.2,c.field.points,c.certs.next_,c.certs.list,c.agenda.slots.uses,c.agenda.slots.used,c.agenda.slots.free,c.agenda.heap,c.agenda.where_,c.due,f,0,0,0)=
  whileO clock_Alter_l2 (c.certs.list,(c.certs.list.length:Int),(c.certs.list.length:Int),c.now.1,c.now.2,c.field.points,c.certs.next_,c.certs.list,c.agenda.slots.uses,c.agenda.slots.used,c.agenda.slots.free,c.agenda.heap,c.agenda.where_,c.due,f,0,0,0):=by
  refine while_steps (body:=clock_Alter_l2) (fun i=>(c.certs.list,(c.certs.list.length:Int),(i:Int),c.now.1,c.now.2,c.field.points,c.certs.next_,c.certs.list,c.agenda.slots.uses,c.agenda.slots.used,c.agenda.slots.free,c.agenda.heap,c.agenda.where_,c.due,f,0,0,0)) c.certs.list.length (fun i hi=>?_)
  have e1:decide ((i:Int)<(c.certs.list.length:Int))=true:=dec_t (by omega)
  unfold clock_Alter_l2;simp only [e1,cond_true,geti_nat c.certs.list i hi,bindS,clock_point_eq fok,dec_f (pt_neg fok (kn i hi).1),dec_f (pt_neg fok (kn i hi).2),cond_false,wi_succ (show i<1000000000 by omega)]
 have second: ∀r,whileO clock_Alter_l1 (stP c f 0 c.agenda [])=some (.done r)->clock_Alter c ⟨f⟩=some r:=by
  intro r hr;unfold clock_Alter;simp only [hc,bindS,show ((0:Int) !=0)=false from rfl,cond_false,hf,ofNat_eq];rw [first]
  refine whileO_done ?_;unfold clock_Alter_l2;have e1:decide ((c.certs.list.length:Int)<(c.certs.list.length:Int))=false:=dec_f (by omega)
  simp only [ofNat_eq,e1,cond_false,tw',bindS,cloneO_le (show f.length<=1048576 by omega)]
  exact hr
 have third: ∀r,whileO ref09_Altered_l1 (stR c f 0 c.agenda [])=some r->ref09_Altered c ⟨f⟩=some r:=by
  intro r hr;unfold ref09_Altered ref03_Twin;simp only [ref09_Twin_eq ok,bindS,cloneO_le (show f.length<=1048576 by omega)]
  exact hr
 rcases start with ⟨h1,h2⟩|⟨c',h1,h2,h3⟩
 · exact .inl ⟨second _ h1,third _ h2⟩
 · exact .inr ⟨c',second _ h1,third _ h2,h3⟩
end
end Go.Proofs.YtjikemfbommnlaaGreat
namespace Go.Proofs.YtjikemfbommnlaaGreat
open Go.Vm Classical
theorem contains_cert (l:List (Int×Int)) (x:Int×Int) (hl:l.length<=1000000):slices_Contains_Cert l x=some (decide (x∈l)):=by
 unfold slices_Contains_Cert slices_Index_Cert;have key:=while_first (body:=slices_Index_Cert_l1) (fun i=>(l,(l.length:Int),(i:Int),x)) l.length (fun i=>l[i]! =x) (fun i=>(i:Int)) (e:= -1) (fun i hi=>by
  have e1:decide ((i:Int)<(l.length:Int))=true:=dec_t (by omega)
  unfold slices_Index_Cert_l1;simp only [e1,cond_true,geti_nat l i hi,bindS,wi_succ (show i<1000000000 by omega)]
  generalize l[i]! =y;constructor
  · intro h;rw [beq_t (congrArg Prod.fst h.symm),beq_t (congrArg Prod.snd h.symm)];rfl
  · intro h
    by_cases h1:x.1=y.1
    · rw [beq_t h1,beq_f (fun h2=>h (Prod.ext h1.symm h2.symm))];rfl
    · rw [beq_f h1];rfl) (by
  unfold slices_Index_Cert_l1
  have:decide ((l.length:Int)<(l.length:Int))=false:=dec_f (by omega)
  simp only [this,cond_false])
 rw [ofNat_eq]
 by_cases hx:x∈l
 · obtain ⟨i,hi,he⟩:=mem_bang.1 hx
   obtain ⟨k,h1,h2,h3⟩:=least (c:=fun i=>l[i]! =x) ⟨i,hi,he⟩
   have:=key.1 k h1 h2 h3
   rw [show ((0:Nat):Int)=0 from rfl] at this;rw [this,dec_t hx];simp only [bindS,dec_t (show (0:Int)<=(k:Int) by omega)]
 · have:=key.2 fun i hi he=>hx (mem_bang.2 ⟨i,hi,he⟩)
   rw [show ((0:Nat):Int)=0 from rfl] at this;rw [this,dec_f hx];rfl
theorem ref13_In_eq (l:List (Int×Int)) (x:Int×Int) (hl:l.length<=1000000):ref13_In l x=some (decide (x∈l)):=by
 unfold ref13_In;have key:=while_any (body:=ref13_In_l1) (fun i=>(l,(i:Int),x)) l.length (fun i=>l[i]! =x) (r:=true) (e:=false) (fun i hi=>by
  have e1:decide ((i:Int)<(l.length:Int))=true:=dec_t (by omega)
  unfold ref13_In_l1;simp only [ofNat_eq,e1,cond_true,geti_nat l i hi,bindS,wi_succ (show i<1000000000 by omega)]
  generalize l[i]! =y;constructor
  · intro h;rw [beq_t (congrArg Prod.fst h),beq_t (congrArg Prod.snd h)];rfl
  · intro h
    by_cases h1:y.1=x.1
    · rw [beq_t h1,beq_f (fun h2=>h (Prod.ext h1 h2))];rfl
    · rw [beq_f h1];rfl) (by
  unfold ref13_In_l1
  have:decide ((l.length:Int)<(l.length:Int))=false:=dec_f (by omega)
  simp only [ofNat_eq,this,cond_false])
 by_cases hx:x∈l
 · rw [dec_t hx];exact key.1 (mem_bang.1 hx)
 · rw [dec_f hx];exact key.2 fun i hi he=>hx (mem_bang.2 ⟨i,hi,he⟩)
theorem tri_eq (x y:Tri):((x.1==y.1)&&((x.2.1==y.2.1)&&(x.2.2==y.2.2)))=decide (x=y):=by
 rw [Bool.eq_iff_iff,decide_eq_true_iff];simp only [Bool.and_eq_true,beq_iff_eq];constructor
 · rintro ⟨h1,h2,h3⟩;exact Prod.ext h1 (Prod.ext h2 h3)
 · rintro rfl;exact ⟨rfl,rfl,rfl⟩
theorem same_points (a b:List Tri) (hl:a.length<=1000000):ref03_Same ⟨a⟩ ⟨b⟩=some (decide (a=b)):=by
 unfold ref03_Same;simp only [ofNat_eq]
 by_cases h:a.length=b.length
 case neg=>rw [bne_t (by omega),dec_f (fun k=>h (by rw [k]))];rfl
 rw [bne_f (by omega)]
 simp only [cond_false];have key:=while_any (body:=ref03_Same_l1) (fun i=>((i:Int),a,b)) a.length (fun i=> ¬a[i]! =b[i]!) (r:=false) (e:=true) (fun i hi=>by
  have e1:decide ((i:Int)<(a.length:Int))=true:=dec_t (by omega)
  unfold ref03_Same_l1;simp only [ofNat_eq,e1,cond_true,geti_nat a i hi,geti_nat b i (by omega),bindS,wi_succ (show i<1000000000 by omega),tri_eq]
  constructor
  · intro h;rw [dec_f h];rfl
  · intro h;rw [dec_t (Classical.not_not.1 h)];rfl) (by
  unfold ref03_Same_l1
  have:decide ((a.length:Int)<(a.length:Int))=false:=dec_f (by omega)
  simp only [ofNat_eq,this,cond_false])
 by_cases he:a=b
 · rw [dec_t he]
   exact key.2 fun i hi=>Classical.not_not.2 (by rw [he])
 · rw [dec_f he]
   refine key.1 (Classical.byContradiction fun hx=>he (ext_bang h fun i hi=>?_))
   exact Classical.byContradiction fun hn=>hx ⟨i,hi,hn⟩
theorem equal_points (a b:List Tri) (hl:a.length<=1000000):slices_Equal_Point a b=some (decide (a=b)):=by
 unfold slices_Equal_Point;simp only [ofNat_eq]
 by_cases h:a.length=b.length
 case neg=>rw [bne_t (by omega),dec_f (fun k=>h (by rw [k]))];rfl
 rw [bne_f (by omega)]
 simp only [cond_false];have key:=while_any (body:=slices_Equal_Point_l1) (fun i=>(a,b,(a.length:Int),(i:Int))) a.length (fun i=> ¬a[i]! =b[i]!) (r:=false) (e:=true) (fun i hi=>by
  have e1:decide ((i:Int)<(a.length:Int))=true:=dec_t (by omega)
  unfold slices_Equal_Point_l1;simp only [e1,cond_true,geti_nat a i hi,geti_nat b i (by omega),bindS,wi_succ (show i<1000000000 by omega),tri_eq]
  constructor
  · intro h;rw [dec_f h];rfl
  · intro h;rw [dec_t (Classical.not_not.1 h)];rfl) (by
  unfold slices_Equal_Point_l1
  have:decide ((a.length:Int)<(a.length:Int))=false:=dec_f (by omega)
  simp only [this,cond_false])
 by_cases he:a=b
 · rw [dec_t he]
   exact key.2 fun i hi=>Classical.not_not.2 (by rw [he])
 · rw [dec_f he]
   refine key.1 (Classical.byContradiction fun hx=>he (ext_bang h fun i hi=>?_))
   exact Classical.byContradiction fun hn=>hx ⟨i,hi,hn⟩
theorem mem_erase {cs:List Tri} {m:Nat} {x:Tri} (hx:x∈cs) (hne:x.1≠(cs[m]!).1):x∈cs.eraseIdx m:=by
 obtain ⟨j,hj,rfl⟩:=mem_bang.1 hx;have hjm:j≠m:=fun h=>hne (by rw [h])
 rw [erase_eq,List.mem_append]
 by_cases h:j<m
 · exact .inl (mem_take_bang.2 ⟨j,h,hj,rfl⟩)
 · right
   rw [mem_bang];refine ⟨j- (m+1),by rw [List.length_drop];omega,?_⟩
   rw [bang_drop]
   congr 1;omega
def kP (c0:Clock) (f:List Pt) (es:List (Int×Int)) (i:Nat) (c:Clock):=
 (es,c0.certs.list,(c0.certs.list.length:Int),(i:Int),c.now.1,c.now.2,c.field.points,c.certs.next_,c.certs.list,c.agenda.slots.uses,c.agenda.slots.used,c.agenda.slots.free,c.agenda.heap,c.agenda.where_,c.due,f,(0:Int),(0:Int),(0:Int))
def kR (c0:Clock) (f:List Pt) (es:List (Int×Int)) (i:Nat) (c:Clock):=
 (es,(i:Int),c0.now.1,c0.now.2,c0.field.points,c0.certs.next_,c0.certs.list,c0.agenda.slots.uses,c0.agenda.slots.used,c0.agenda.slots.free,c0.agenda.heap,c0.agenda.where_,c0.due,f,(0:Int),(0:Int),(0:Int),c.now.1,c.now.2,c.field.points,c.certs.next_,c.certs.list,c.agenda.slots.uses,c.agenda.slots.used,c.agenda.slots.free,c.agenda.heap,c.agenda.where_,c.due)
def eP (es:List (Int×Int)) (i:Nat) (c:Clock):=
 (es,(es.length:Int),(i:Int),c.now.1,c.now.2,c.field.points,c.certs.next_,c.certs.list,c.agenda.slots.uses,c.agenda.slots.used,c.agenda.slots.free,c.agenda.heap,c.agenda.where_,c.due,(0:Int),(0:Int),(0:Int))
def eR (es:List (Int×Int)) (i:Nat) (c:Clock):=
 (es,(i:Int),(0:Int),(0:Int),(0:Int),c.now.1,c.now.2,c.field.points,c.certs.next_,c.certs.list,c.agenda.slots.uses,c.agenda.slots.used,c.agenda.slots.free,c.agenda.heap,c.agenda.where_,c.due)
structure EdgesOK (f:List Pt) (es:List (Int×Int)):Prop where
 len:es.length<=1000000
 cv: ∀x∈es,CertV x
 kn: ∀x∈es,Both f x
theorem renew_go {c0 : Clock} (ok0 : ClockOK c0) {f : List Pt} {es : List (Int × Int)} (eok : EdgesOK f es) :
    ∀ (d i : Nat) (c : Clock), c0.certs.list.length - i <= d -> i <= c0.certs.list.length -> ClockOK c -> (∀ x ∈ c0.certs.list.drop i, x ∈ c.certs.list) -> (∀ x ∈ c.certs.list, x ∈ c0.certs.list.drop i \/ x.2 ∈ es) ->
      ∃ c' : Clock, whileO kheap_renew_l2 (kP c0 f es i c) = whileO kheap_renew_l2 (kP c0 f es c0.certs.list.length c') /\ whileO ref13_Renewed_l2 (kR c0 f es i c) = whileO ref13_Renewed_l2 (kR c0 f es c0.certs.list.length c') /\ ClockOK c' /\ ∀ x ∈ c'.certs.list, x.2 ∈ es := by
  have bd := ok0.bd
  intro d
  induction d with
  | zero =>
    intro i c hd hi ok h1 h2
    have : i = c0.certs.list.length := by omega
    subst this
    refine ⟨c, rfl, rfl, ok, fun x hx => ?_⟩
    rcases h2 x hx with h | h
    · rw [List.drop_length] at h; cases h
    · exact h
  | succ d ih =>
    intro i c hd hi ok h1 h2
    by_cases he : i = c0.certs.list.length
    · subst he
      refine ⟨c, rfl, rfl, ok, fun x hx => ?_⟩
      rcases h2 x hx with h | h
      · rw [List.drop_length] at h; cases h
      · exact h
    have hi' : i < c0.certs.list.length := by omega
    have e1 : decide ((i : Int) < (c0.certs.list.length : Int)) = true := dec_t (by omega)
    have sc := wi_succ (show i < 1000000000 by omega)
    have cg := geti_nat c0.certs.list i hi'
    have dr := drop_cons hi'
    have ceta : (Clock.mk (c.now.1, c.now.2) (Field.mk c.field.points) (Certs.mk c.certs.next_ c.certs.list) (Agenda.mk (Slots.mk c.agenda.slots.uses c.agenda.slots.used c.agenda.slots.free) c.agenda.heap c.agenda.where_) c.due) = c := rfl
    by_cases hin : (c0.certs.list[i]!).2 ∈ es
    · have s1 : kheap_renew_l2 (kP c0 f es i c) = some (.next (kP c0 f es (i + 1) c)) := by
        unfold kheap_renew_l2 kP
        simp only [e1, cond_true, cg, bindS, contains_cert _ _ eok.len, dec_t hin, Bool.not_true, cond_false, sc]
      have s2 : ref13_Renewed_l2 (kR c0 f es i c) = some (.next (kR c0 f es (i + 1) c)) := by
        unfold ref13_Renewed_l2 kR
        simp only [ofNat_eq, e1, cond_true, cg, bindS, ref13_In_eq _ _ eok.len, dec_t hin, Bool.not_true, cond_false, sc]
      rw [whileO_next s1, whileO_next s2]
      refine ih (i + 1) c (by omega) (by omega) ok (fun x hx => h1 x (by rw [dr]; exact List.mem_cons_of_mem _ hx)) (fun x hx => ?_)
      rcases h2 x hx with h | h
      · rw [dr] at h
        rcases List.mem_cons.1 h with rfl | h
        · exact .inr hin
        · exact .inl h
      · exact .inr h
    · have hm := h1 (c0.certs.list[i]!) (by rw [dr]; exact List.mem_cons_self)
      obtain ⟨m, hm1, hm2⟩ := mem_bang.1 hm
      obtain ⟨c', r1, r2, r3, r4, r5, r6⟩ := retire ok hm1
      have rt := clock_Retire_eq ok hm1 r1
      rw [hm2] at r2 rt
      have s1 : kheap_renew_l2 (kP c0 f es i c) = some (.next (kP c0 f es (i + 1) c')) := by
        unfold kheap_renew_l2 kP
        simp only [e1, cond_true, cg, bindS, contains_cert _ _ eok.len, dec_f hin, Bool.not_false, sc, ceta, rt]
      have s2 : ref13_Renewed_l2 (kR c0 f es i c) = some (.next (kR c0 f es (i + 1) c')) := by
        unfold ref13_Renewed_l2 kR
        simp only [ofNat_eq, e1, cond_true, cg, bindS, ref13_In_eq _ _ eok.len, dec_f hin, Bool.not_false, sc, ceta, r2]
      rw [whileO_next s1, whileO_next s2]
      have cl : c'.certs.list = c.certs.list.eraseIdx m := by rw [r6]; rfl
      refine ih (i + 1) c' (by omega) (by omega) r3 (fun x hx => ?_) (fun x hx => ?_)
      · rw [cl]
        refine mem_erase (h1 x (by rw [dr]; exact List.mem_cons_of_mem _ hx)) ?_
        rw [hm2]
        exact alt_mem_drop ok0 hx hi'
      · rw [cl] at hx
        obtain ⟨a1, a2⟩ := mem_erase_ne ok.crt_up hm1 hx
        rw [hm2] at a2
        rcases h2 x a1 with h | h
        · rw [dr] at h
          rcases List.mem_cons.1 h with rfl | h
          · exact absurd rfl a2
          · exact .inl h
        · exact .inr h
theorem renew_in {f : List Pt} (_fok : FieldOK f) {es : List (Int × Int)} (eok : EdgesOK f es) :
    ∀ (d i : Nat) (c : Clock), es.length - i <= d -> i <= es.length -> ClockOK c -> c.field.points = f ->
      ∃ r : Clock × Int, whileO kheap_renew_l1 (eP es i c) = some (.done r) /\ whileO ref13_Renewed_l1 (eR es i c) = some (.done r) /\ (ClockOK r.1 \/ r.1 = noClock) := by
  have el := eok.len
  have fin : ∀ c : Clock, ClockOK c -> ∃ r : Clock × Int, whileO kheap_renew_l1 (eP es es.length c) = some (.done r) /\ whileO ref13_Renewed_l1 (eR es es.length c) = some (.done r) /\ (ClockOK r.1 \/ r.1 = noClock) := by
    intro c ok
    have e1 : decide ((es.length : Int) < (es.length : Int)) = false := dec_f (by omega)
    refine ⟨(c, 0), whileO_done ?_, whileO_done ?_, .inl ok⟩
    · unfold kheap_renew_l1 eP
      simp only [e1, cond_false]
    · unfold ref13_Renewed_l1 eR
      simp only [ofNat_eq, e1, cond_false]
  intro d
  induction d with
  | zero =>
    intro i c hd hi ok hf
    have : i = es.length := by omega
    subst this
    exact fin c ok
  | succ d ih =>
    intro i c hd hi ok hf
    by_cases he : i = es.length
    · subst he; exact fin c ok
    have bd := ok.bd
    have hi' : i < es.length := by omega
    have e1 : decide ((i : Int) < (es.length : Int)) = true := dec_t (by omega)
    have sc := wi_succ (show i < 1000000000 by omega)
    have cg := geti_nat es i hi'
    have ceta : (Clock.mk (c.now.1, c.now.2) (Field.mk c.field.points) (Certs.mk c.certs.next_ c.certs.list) (Agenda.mk (Slots.mk c.agenda.slots.uses c.agenda.slots.used c.agenda.slots.free) c.agenda.heap c.agenda.where_) c.due) = c := rfl
    have ceta2 : Certs.mk c.certs.next_ c.certs.list = c.certs := rfl
    have hc := has_held c.certs.list es[i]! (by omega)
    have hr := ref08_Has_eq c.certs es[i]! (by omega)
    by_cases hin : HasC c.certs.list es[i]!
    · have s1 : kheap_renew_l1 (eP es i c) = some (.next (eP es (i + 1) c)) := by
        unfold kheap_renew_l1 eP
        simp only [e1, cond_true, cg, bindS, has_renew, hc, dec_t hin, sc]
      have s2 : ref13_Renewed_l1 (eR es i c) = some (.next (eR es (i + 1) c)) := by
        unfold ref13_Renewed_l1 eR
        simp only [ofNat_eq, e1, cond_true, cg, bindS, ceta2, hr, dec_t hin, sc]
      rw [whileO_next s1, whileO_next s2]
      exact ih (i + 1) c (by omega) (by omega) ok hf
    · have hb : Both c.field.points es[i]! := by rw [hf]; exact eok.kn _ (bang_mem hi')
      rcases certify ok (eok.cv _ (bang_mem hi')) hb hin with ⟨r1, r2⟩ | ⟨c', r1, r2, r3, r4, r5, r6⟩
      · refine ⟨(noClock, 18), whileO_done ?_, whileO_done ?_, .inr rfl⟩
        · unfold kheap_renew_l1 eP
          simp only [e1, cond_true, cg, bindS, has_renew, hc, dec_f hin, cond_false, ceta, r1, show ((18 : Int) != 0) = true from rfl]
        · unfold ref13_Renewed_l1 eR
          simp only [ofNat_eq, e1, cond_true, cg, bindS, ceta2, hr, dec_f hin, cond_false, ceta, r2, show ((18 : Int) != 0) = true from rfl]
      · have s1 : kheap_renew_l1 (eP es i c) = some (.next (eP es (i + 1) c')) := by
          unfold kheap_renew_l1 eP
          simp only [e1, cond_true, cg, bindS, has_renew, hc, dec_f hin, cond_false, ceta, r1, show ((0 : Int) != 0) = false from rfl, sc]
        have s2 : ref13_Renewed_l1 (eR es i c) = some (.next (eR es (i + 1) c')) := by
          unfold ref13_Renewed_l1 eR
          simp only [ofNat_eq, e1, cond_true, cg, bindS, ceta2, hr, dec_f hin, cond_false, ceta, r2, show ((0 : Int) != 0) = false from rfl, sc]
        rw [whileO_next s1, whileO_next s2]
        exact ih (i + 1) c' (by omega) (by omega) r3 (by rw [r4, hf])
theorem renewed {c:Clock} (ok:ClockOK c) {f:List Pt} (fok:FieldOK f) {es:List (Int×Int)} (eok:EdgesOK f es):
 ∃r:Clock×Int,kheap_renew c ⟨f⟩ es=some r/\ref13_Renewed c ⟨f⟩ es=some r/\(ClockOK r.1\/r.1=noClock):=by
 have f64:=fok.1;obtain ⟨c',g1,g2,g3,g4⟩:=renew_go ok eok c.certs.list.length 0 c (by omega) (by omega) ok (fun x hx=>by rwa [List.drop_zero] at hx) (fun x hx=> .inl (by rwa [List.drop_zero]))
 have bd:=g3.bd;have e1:decide ((c.certs.list.length:Int)<(c.certs.list.length:Int))=false:=dec_f (by omega)
 have start1:kheap_renew c ⟨f⟩ es=whileO kheap_renew_l2 (kP c f es 0 c):=rfl;have start2:ref13_Renewed c ⟨f⟩ es=whileO ref13_Renewed_l2 (kR c f es 0 c):=by
  unfold ref13_Renewed;simp only [ref09_Twin_eq ok,bindS];rfl
 rw [start1,start2,g1,g2];have eq1:=equal_points c'.field.points f (by omega)
 have eq2:=same_points c'.field.points f (by omega)
 have ceta:(Clock.mk (c'.now.1,c'.now.2) (Field.mk c'.field.points) (Certs.mk c'.certs.next_ c'.certs.list) (Agenda.mk (Slots.mk c'.agenda.slots.uses c'.agenda.slots.used c'.agenda.slots.free) c'.agenda.heap c'.agenda.where_) c'.due)=c':=rfl
 by_cases hf:c'.field.points=f
 · obtain ⟨r,i1,i2,i3⟩:=renew_in fok eok es.length 0 c' (by omega) (by omega) g3 hf
   refine ⟨r,whileO_done ?_,whileO_done ?_,i3⟩
   · unfold kheap_renew_l2 kP
     simp only [e1,cond_false,eq1,dec_t hf,bindS,Bool.not_true];exact i1
   · unfold ref13_Renewed_l2 kR
     simp only [ofNat_eq,e1,cond_false,eq2,dec_t hf,bindS,Bool.not_true];exact i2
 · have kn: ∀i,i<c'.certs.list.length->Both f (c'.certs.list[i]!).2:=fun i hi=>eok.kn _ (g4 _ (bang_mem hi))
   rcases alter g3 fok kn with ⟨a1,a2⟩|⟨c2,a1,a2,a3,a4,a5,a6⟩
   · refine ⟨(noClock,18),whileO_done ?_,whileO_done ?_,.inr rfl⟩
     · unfold kheap_renew_l2 kP
       simp only [e1,cond_false,eq1,dec_f hf,bindS,Bool.not_false,cond_true,ceta,a1,show ((18:Int) !=0)=true from rfl]
     · unfold ref13_Renewed_l2 kR
       simp only [ofNat_eq,e1,cond_false,eq2,dec_f hf,bindS,Bool.not_false,cond_true,ceta,a2,show ((18:Int) !=0)=true from rfl]
   · obtain ⟨r,i1,i2,i3⟩:=renew_in fok eok es.length 0 c2 (by omega) (by omega) a3 a4
     refine ⟨r,whileO_done ?_,whileO_done ?_,i3⟩
     · unfold kheap_renew_l2 kP
       simp only [e1,cond_false,eq1,dec_f hf,bindS,Bool.not_false,cond_true,ceta,a1,show ((0:Int) !=0)=false from rfl];exact i1
     · unfold ref13_Renewed_l2 kR
       simp only [ofNat_eq,e1,cond_false,eq2,dec_f hf,bindS,Bool.not_false,cond_true,ceta,a2,show ((0:Int) !=0)=false from rfl];exact i2
end Go.Proofs.YtjikemfbommnlaaGreat
namespace Go.Proofs.YtjikemfbommnlaaGreat
open Go.Vm Classical
noncomputable def edgeErr (f:List Pt) (es:List (Int×Int)):Int:=if¬(∀x∈es,CertV x) then 8 else if¬es.Nodup then 14 else if¬(∀x∈es,Both f x) then 6 else 0
theorem nodup_take {α:Type} [Inhabited α] {l:List α}:l.Nodup↔ ∀k,k<l.length->l[k]!∉l.take k:=by
 rw [nodup_bang];constructor
 · intro h k hk hm
   obtain ⟨i,h1,h2,h3⟩:=mem_take_bang.1 hm;exact h i k h1 hk h3
 · intro h i j hij hj he
   exact h j hj (mem_take_bang.2 ⟨i,hij,by omega,he⟩)
theorem all_bang {α:Type} [Inhabited α] {l:List α} {P:α->Prop}:(∀x∈l,P x)↔ ∀i,i<l.length->P l[i]!:=by
 constructor
 · intro h i hi;exact h _ (bang_mem hi)
 · intro h x hx
   obtain ⟨i,hi,rfl⟩:=mem_bang.1 hx;exact h i hi
theorem any_or {σ ρ:Type} {body:σ->Option (Step σ ρ)} (st:Nat->σ) (n:Nat) (P:Nat->Prop) {r e:ρ} (h: ∀i,i<n->(¬P i->body (st i)=some (.done r))/\(P i->body (st i)=some (.next (st (i+1)))))
 (hend:body (st n)=some (.done e)):whileO body (st 0)=some (if∀i,i<n->P i then e else r):=by
 have key:=while_any (body:=body) st n (fun i=> ¬P i) (r:=r) (e:=e) (fun i hi=>⟨(h i hi).1,fun hn=>(h i hi).2 (Classical.not_not.1 hn)⟩) hend
 by_cases hx: ∀i,i<n->P i
 · rw [if_pos hx];exact key.2 fun i hi=>Classical.not_not.2 (hx i hi)
 · rw [if_neg hx]
   obtain ⟨i,h⟩:=Classical.not_forall.1 hx;obtain ⟨hi,hx⟩:=Classical.not_imp.1 h;exact key.1 ⟨i,hi,hx⟩
theorem ref13_Edged_eq {f:List Pt} (fok:FieldOK f) (es:List (Int×Int)) (hl:es.length<=1000):ref13_Edged ⟨f⟩ es=some (edgeErr f es):=by
 have el:decide ((es.length:Int)<(es.length:Int))=false:=dec_f (by omega)
 have k1:=any_or (body:=ref13_Edged_l1) (fun i=>(es,(i:Int),f)) es.length (fun i=>Both f es[i]!) (r:= .done (.done 6)) (e:= .done (.done 0)) (fun i hi=>by
  have e1:decide ((i:Int)<(es.length:Int))=true:=dec_t (by omega)
  unfold ref13_Edged_l1 Both;simp only [ofNat_eq,e1,cond_true,geti_nat es i hi,bindS,wi_succ (show i<1000000000 by omega)]
  by_cases h1:HasP f (es[i]!).1
  · obtain ⟨a,a1,a2,_⟩:=At_has fok h1
    rw [a2];simp only [bindS,dec_f (show¬(a:Int)<0 by omega),cond_false]
    by_cases h2:HasP f (es[i]!).2
    · obtain ⟨b,b1,b2,_⟩:=At_has fok h2
      rw [b2];simp only [bindS,dec_f (show¬(b:Int)<0 by omega),cond_false]
      exact ⟨fun h=>absurd ⟨h1,h2⟩ h,fun _=>trivial⟩
    · rw [At_not fok h2]
      exact ⟨fun _=>rfl,fun h=>absurd h.2 h2⟩
  · rw [At_not fok h1]
    exact ⟨fun _=>rfl,fun h=>absurd h.1 h1⟩) (by
  unfold ref13_Edged_l1;simp only [ofNat_eq,el,cond_false])
 have k2:=any_or (body:=ref13_Edged_l2) (fun i=>(es,(i:Int),f)) es.length (fun i=>es[i]!∉es.take i) (r:= .done 14) (e:= .done (if∀i,i<es.length->Both f es[i]! then 0 else 6)) (fun i hi=>by
  have e1:decide ((i:Int)<(es.length:Int))=true:=dec_t (by omega)
  unfold ref13_Edged_l2;simp only [ofNat_eq,e1,cond_true,sliceO_le es i (by omega),geti_nat es i hi,bindS,ref13_In_eq _ _ (show (es.take i).length<=1000000 by rw [List.length_take];omega),wi_succ (show i<1000000000 by omega)]
  by_cases h:es[i]!∈es.take i
  · rw [dec_t h];exact ⟨fun _=>rfl,fun k=>absurd h k⟩
  · rw [dec_f h];exact ⟨fun k=>absurd h k,fun _=>rfl⟩) (by
  unfold ref13_Edged_l2;simp only [ofNat_eq,el,cond_false];refine k1.trans ?_
  by_cases hb: ∀i,i<es.length->Both f es[i]!
  · rw [if_pos hb,if_pos hb]
  · rw [if_neg hb,if_neg hb])
 have k3:=any_or (body:=ref13_Edged_l3) (fun i=>(es,(i:Int),f)) es.length (fun i=>CertV es[i]!) (r:=8) (e:=if∀i,i<es.length->es[i]!∉es.take i then (if∀i,i<es.length->Both f es[i]! then 0 else 6) else 14) (fun i hi=>by
  have e1:decide ((i:Int)<(es.length:Int))=true:=dec_t (by omega)
  unfold ref13_Edged_l3;simp only [ofNat_eq,e1,cond_true,geti_nat es i hi,bindS,ref08_Cert_eq,wi_succ (show i<1000000000 by omega)]
  by_cases h:CertV es[i]!
  · rw [dec_t h];exact ⟨fun k=>absurd h k,fun _=>rfl⟩
  · rw [dec_f h];exact ⟨fun _=>rfl,fun k=>absurd k h⟩) (by
  unfold ref13_Edged_l3;simp only [ofNat_eq,el,cond_false];refine k2.trans ?_
  by_cases hb: ∀i,i<es.length->es[i]!∉es.take i
  · rw [if_pos hb,if_pos hb]
  · rw [if_neg hb,if_neg hb])
 refine k3.trans ?_;unfold edgeErr;have a1:=all_bang (P:=CertV) (l:=es);have a2:=nodup_take (l:=es);have a3:=all_bang (P:=Both f) (l:=es)
 by_cases h1: ∀x∈es,CertV x
 · rw [if_pos (a1.1 h1),if_neg (Classical.not_not.2 h1)]
   by_cases h2:es.Nodup
   · rw [if_pos (a2.1 h2),if_neg (Classical.not_not.2 h2)]
     by_cases h3: ∀x∈es,Both f x
     · rw [if_pos (a3.1 h3),if_neg (Classical.not_not.2 h3)]
     · rw [if_neg (fun h=>h3 (a3.2 h)),if_pos h3]
   · rw [if_neg (fun h=>h2 (a2.2 h)),if_pos h2]
 · rw [if_neg (fun h=>h1 (a1.2 h)),if_pos h1]
theorem field_Find_eq {f:List Pt} (fok:FieldOK f) (id:Int): ∃p e,field_Find ⟨f⟩ id=some (p,e)/\(e=0↔HasP f id):=by
 have h1:=fok.1;have hc:field_Check ⟨f⟩=some 0:=by rw [field_Check_eq];exact congrArg some (fieldErr_ok.2 fok)
 have bs:=bs_held f id (by omega) (fun i j=>sorted_lt fok.2.2)
 unfold field_Find field_place field_find;rw [bs_find];simp only [hc,bindS,show ((0:Int) !=0)=false from rfl,cond_false]
 by_cases h:HasP f id
 · obtain ⟨k,hk,he⟩:=h
   rw [bs.1 k hk he];refine ⟨f[k]!,0,?_,fun _=>⟨k,hk,he⟩,fun _=>rfl⟩
   simp only [bindS,Bool.not_true,cond_false,show ((0:Int) !=0)=false from rfl,geti_nat f k hk]
 · obtain ⟨m,_,_,_,e⟩:=bs.2 (fun k hk he=>h ⟨k,hk,he⟩)
   rw [e];exact ⟨(0,0,0),6,rfl,fun h=>(by cases h),fun k=>absurd k h⟩
def rP (c:Clock) (f:List Pt) (es:List (Int×Int)) (i:Nat):=
 (es,es,(es.length:Int),(i:Int),c.now.1,c.now.2,c.field.points,c.certs.next_,c.certs.list,c.agenda.slots.uses,c.agenda.slots.used,c.agenda.slots.free,c.agenda.heap,c.agenda.where_,c.due,f,(0:Int),(0:Int),(0:Int))
theorem kheap_Renew_eq {c:Clock} (ok:ClockOK c) {f:List Pt} (fok:FieldOK f) {es:List (Int×Int)} (hl:es.length<=1000) {r:Clock×Int} (hr:edgeErr f es=0->kheap_renew c ⟨f⟩ es=some r):
 kheap_Renew c ⟨f⟩ es=some (if edgeErr f es=0 then r else (noClock,edgeErr f es)):=by
 have bd:=ok.bd;have ab:=ok.agd.bd;have sl:=ok.agd.so.fl;have sn:=ok.agd.so.n2;have su:=ok.agd.so.ul;have el:decide ((es.length:Int)<(es.length:Int))=false:=dec_f (by omega)
 have hc:clock_Check c=some 0:=by rw [clock_Check_eq ok.fit,if_pos ok]
 have hf:field_Check ⟨f⟩=some 0:=by rw [field_Check_eq];exact congrArg some (fieldErr_ok.2 fok)
 have tw:kheap_twin (Clock.mk (c.now.1,c.now.2) (Field.mk c.field.points) (Certs.mk c.certs.next_ c.certs.list) (Agenda.mk (Slots.mk c.agenda.slots.uses c.agenda.slots.used c.agenda.slots.free) c.agenda.heap c.agenda.where_) c.due)=some c:=by
  unfold kheap_twin;simp only [cloneO_le (show c.field.points.length<=1048576 by omega),cloneO_le (show c.certs.list.length<=1048576 by omega),cloneO_le (show c.due.length<=1048576 by omega),cloneO_le (show c.agenda.heap.length<=1048576 by omega),cloneO_le (show c.agenda.where_.length<=1048576 by omega),
   cloneO_le (show c.agenda.slots.uses.length<=1048576 by omega),cloneO_le (show c.agenda.slots.used.length<=1048576 by omega),cloneO_le (show c.agenda.slots.free.length<=1048576 by omega),bindS]
 have k3: ∀e2:Clock×Int,whileO kheap_Renew_l2 (rP c f es 0)=some (.done e2)->whileO kheap_Renew_l3 (rP c f es 0)=some (if∀i,i<es.length->CertV es[i]! then e2 else (noClock,8)):=by
  intro e2 h2;refine any_or (body:=kheap_Renew_l3) (fun i=>rP c f es i) es.length (fun i=>CertV es[i]!) (r:=(noClock,8)) (e:=e2) (fun i hi=>?_) ?_
  · have e1:decide ((i:Int)<(es.length:Int))=true:=dec_t (by omega)
    unfold kheap_Renew_l3 rP CertV;simp only [e1,cond_true,geti_nat es i hi,bindS,wi_succ (show i<1000000000 by omega)]
    generalize es[i]! =x
    by_cases a1:x.1<0
    · rw [dec_t a1];exact ⟨fun _=>rfl,fun h=>by omega⟩
    rw [dec_f a1]
    by_cases a2:x.2<0
    · rw [dec_t a2];exact ⟨fun _=>rfl,fun h=>by omega⟩
    rw [dec_f a2]
    by_cases a3:65535<x.1
    · rw [dec_t a3];exact ⟨fun _=>rfl,fun h=>by omega⟩
    rw [dec_f a3]
    by_cases a4:65535<x.2
    · rw [dec_t a4];exact ⟨fun _=>rfl,fun h=>by omega⟩
    rw [dec_f a4]
    by_cases a5:x.1=x.2
    · rw [beq_t a5];exact ⟨fun _=>rfl,fun h=>absurd a5 h.2.2.2.2⟩
    · rw [beq_f a5];exact ⟨fun h=>absurd ⟨by omega,by omega,by omega,by omega,a5⟩ h,fun _=>rfl⟩
  · unfold kheap_Renew_l3 rP
    simp only [ofNat_eq,el,cond_false];exact h2
 have k2: ∀e1:Clock×Int,whileO kheap_Renew_l1 (rP c f es 0)=some (.done (.done e1))->whileO kheap_Renew_l2 (rP c f es 0)=some (.done (if∀i,i<es.length->es[i]!∉es.take i then e1 else (noClock,14))):=by
  intro e0 h2
  have:=any_or (body:=kheap_Renew_l2) (fun i=>rP c f es i) es.length (fun i=>es[i]!∉es.take i) (r:= .done (noClock,14)) (e:= .done e0) (fun i hi=>by
   have e1:decide ((i:Int)<(es.length:Int))=true:=dec_t (by omega)
   unfold kheap_Renew_l2 rP;simp only [e1,cond_true,geti_nat es i hi,sliceO_le es i (by omega),bindS,contains_cert _ _ (show (es.take i).length<=1000000 by rw [List.length_take];omega),wi_succ (show i<1000000000 by omega)]
   by_cases h:es[i]!∈es.take i
   · rw [dec_t h];exact ⟨fun _=>rfl,fun k=>absurd h k⟩
   · rw [dec_f h];exact ⟨fun k=>absurd h k,fun _=>rfl⟩) (by
   unfold kheap_Renew_l2 rP;simp only [ofNat_eq,el,cond_false];exact h2)
  refine this.trans ?_
  by_cases hb: ∀i,i<es.length->es[i]!∉es.take i
  · rw [if_pos hb,if_pos hb]
  · rw [if_neg hb,if_neg hb]
 have step1: ∀i,i<es.length->(¬Both f es[i]!->kheap_Renew_l1 (rP c f es i)=some (.done (.done (.done (noClock,6)))))/\(Both f es[i]!->kheap_Renew_l1 (rP c f es i)=some (.next (rP c f es (i+1)))):=by
  intro i hi;have e1:decide ((i:Int)<(es.length:Int))=true:=dec_t (by omega)
  obtain ⟨p,e,a1,a2⟩:=field_Find_eq fok (es[i]!).1;obtain ⟨q,g,b1,b2⟩:=field_Find_eq fok (es[i]!).2;unfold kheap_Renew_l1 rP Both;simp only [e1,cond_true,geti_nat es i hi,bindS,a1,b1,wi_succ (show i<1000000000 by omega)]
  by_cases h1:HasP f (es[i]!).1
  · rw [bne_f (a2.2 h1)]
    by_cases h2:HasP f (es[i]!).2
    · rw [bne_f (b2.2 h2)]
      exact ⟨fun h=>absurd ⟨h1,h2⟩ h,fun _=>rfl⟩
    · rw [bne_t (fun h=>h2 (b2.1 h))]
      exact ⟨fun _=>rfl,fun h=>absurd h.2 h2⟩
  · rw [bne_t (fun h=>h1 (a2.1 h))]
    exact ⟨fun _=>rfl,fun h=>absurd h.1 h1⟩
 have start:kheap_Renew c ⟨f⟩ es=whileO kheap_Renew_l3 (rP c f es 0):=by
  unfold kheap_Renew;simp only [hc,bindS,show ((0:Int) !=0)=false from rfl,cond_false,hf];rfl
 rw [start]
 by_cases h1: ∀x∈es,CertV x
 case neg=>
  have er:edgeErr f es=8:=by unfold edgeErr;rw [if_pos h1]
  rw [er,if_neg (by omega)]
  have:=while_any (body:=kheap_Renew_l3) (fun i=>rP c f es i) es.length (fun i=> ¬CertV es[i]!) (r:=(noClock,8)) (e:=r)
  have k3':=k3;rw [all_bang (P:=CertV)] at h1;obtain ⟨i,h⟩:=Classical.not_forall.1 h1;obtain ⟨hi,hx⟩:=Classical.not_imp.1 h;obtain ⟨m,m1,m2,m3⟩:=least (c:=fun i=> ¬CertV es[i]!) ⟨i,hi,hx⟩
  have go: ∀j,j<es.length->(¬CertV es[j]!->kheap_Renew_l3 (rP c f es j)=some (.done (noClock,8)))/\(CertV es[j]!->kheap_Renew_l3 (rP c f es j)=some (.next (rP c f es (j+1)))):=by
   intro j hj;have e1:decide ((j:Int)<(es.length:Int))=true:=dec_t (by omega)
   unfold kheap_Renew_l3 rP CertV;simp only [e1,cond_true,geti_nat es j hj,bindS,wi_succ (show j<1000000000 by omega)]
   generalize es[j]! =x
   by_cases a1:x.1<0
   · rw [dec_t a1];exact ⟨fun _=>rfl,fun h=>by omega⟩
   rw [dec_f a1]
   by_cases a2:x.2<0
   · rw [dec_t a2];exact ⟨fun _=>rfl,fun h=>by omega⟩
   rw [dec_f a2]
   by_cases a3:65535<x.1
   · rw [dec_t a3];exact ⟨fun _=>rfl,fun h=>by omega⟩
   rw [dec_f a3]
   by_cases a4:65535<x.2
   · rw [dec_t a4];exact ⟨fun _=>rfl,fun h=>by omega⟩
   rw [dec_f a4]
   by_cases a5:x.1=x.2
   · rw [beq_t a5];exact ⟨fun _=>rfl,fun h=>absurd a5 h.2.2.2.2⟩
   · rw [beq_f a5];exact ⟨fun h=>absurd ⟨by omega,by omega,by omega,by omega,a5⟩ h,fun _=>rfl⟩
  rw [while_steps (body:=kheap_Renew_l3) (fun i=>rP c f es i) m fun j hj=>(go j (by omega)).2 (Classical.not_not.1 (m3 j hj))]
  exact whileO_done ((go m m1).1 m2)
 have h1':=(all_bang (P:=CertV)).1 h1
 by_cases h2:es.Nodup
 case neg=>
  have er:edgeErr f es=14:=by unfold edgeErr;rw [if_neg (Classical.not_not.2 h1),if_pos h2]
  rw [er,if_neg (by omega)]
  have h2':=h2;rw [nodup_take] at h2';obtain ⟨i,h⟩:=Classical.not_forall.1 h2';obtain ⟨hi,hx⟩:=Classical.not_imp.1 h;obtain ⟨m,m1,m2,m3⟩:=least (c:=fun i=> ¬es[i]!∉es.take i) ⟨i,hi,hx⟩
  have go: ∀j,j<es.length->(es[j]!∈es.take j->kheap_Renew_l2 (rP c f es j)=some (.done (.done (noClock,14))))/\(es[j]!∉es.take j->kheap_Renew_l2 (rP c f es j)=some (.next (rP c f es (j+1)))):=by
   intro j hj;have e1:decide ((j:Int)<(es.length:Int))=true:=dec_t (by omega)
   unfold kheap_Renew_l2 rP;simp only [e1,cond_true,geti_nat es j hj,sliceO_le es j (by omega),bindS,contains_cert _ _ (show (es.take j).length<=1000000 by rw [List.length_take];omega),wi_succ (show j<1000000000 by omega)]
   by_cases h:es[j]!∈es.take j
   · rw [dec_t h];exact ⟨fun _=>rfl,fun k=>absurd h k⟩
   · rw [dec_f h];exact ⟨fun k=>absurd k h,fun _=>rfl⟩
  have l2:whileO kheap_Renew_l2 (rP c f es 0)=some (.done (noClock,14)):=by
   rw [while_steps (body:=kheap_Renew_l2) (fun i=>rP c f es i) m fun j hj=>(go j (by omega)).2 (Classical.not_not.1 (m3 j hj))]
   exact whileO_done ((go m m1).1 (Classical.not_not.1 m2))
  rw [k3 _ l2,if_pos h1']
 have h2':=nodup_take.1 h2
 by_cases h3: ∀x∈es,Both f x
 case neg=>
  have er:edgeErr f es=6:=by unfold edgeErr;rw [if_neg (Classical.not_not.2 h1),if_neg (Classical.not_not.2 h2),if_pos h3]
  rw [er,if_neg (by omega)]
  have h3':=h3;rw [all_bang (P:=Both f)] at h3';obtain ⟨i,h⟩:=Classical.not_forall.1 h3';obtain ⟨hi,hx⟩:=Classical.not_imp.1 h;obtain ⟨m,m1,m2,m3⟩:=least (c:=fun i=> ¬Both f es[i]!) ⟨i,hi,hx⟩
  have l1:whileO kheap_Renew_l1 (rP c f es 0)=some (.done (.done (noClock,6))):=by
   rw [while_steps (body:=kheap_Renew_l1) (fun i=>rP c f es i) m fun j hj=>(step1 j (by omega)).2 (Classical.not_not.1 (m3 j hj))]
   exact whileO_done ((step1 m m1).1 m2)
  rw [k3 _ (k2 _ l1),if_pos h1',if_pos h2']
 have h3':=(all_bang (P:=Both f)).1 h3;have er:edgeErr f es=0:=by unfold edgeErr;rw [if_neg (Classical.not_not.2 h1),if_neg (Classical.not_not.2 h2),if_neg (Classical.not_not.2 h3)]
 rw [er,if_pos rfl];have l1:whileO kheap_Renew_l1 (rP c f es 0)=some (.done (.done r)):=by
  rw [while_steps (body:=kheap_Renew_l1) (fun i=>rP c f es i) es.length fun j hj=>(step1 j hj).2 (h3' j hj)]
  refine whileO_done ?_;unfold kheap_Renew_l1 rP;simp only [el,cond_false,tw,bindS,hr er]
 rw [k3 _ (k2 _ l1),if_pos h1',if_pos h2']
structure Short (c:Clock):Prop where
 f:c.field.points.length<=1000000
 l:c.certs.list.length<=1000000
 d:c.due.length<=1000000
 h:c.agenda.heap.length<=1000000
 w:c.agenda.where_.length<=1000000
 s1:c.agenda.slots.uses.length<=1000000
 s2:c.agenda.slots.used.length<=1000000
 s3:c.agenda.slots.free.length<=1000000
theorem ClockOK.short {c:Clock} (ok:ClockOK c):Short c:=by
 have bd:=ok.bd;have ab:=ok.agd.bd;have sl:=ok.agd.so.fl;have sn:=ok.agd.so.n2;have su:=ok.agd.so.ul;exact ⟨by omega,by omega,by omega,by omega,by omega,by omega,by omega,by omega⟩
theorem noClock_short:Short noClock:=⟨by decide,by decide,by decide,by decide,by decide,by decide,by decide,by decide⟩
theorem ints_same (l:List Int) (hl:l.length<=1000000):ref06_SameInts l l=some true:=by
 unfold ref06_SameInts;rw [bne_f rfl];refine (while_steps (body:=ref06_SameInts_l1) (fun i=>(l,l,(i:Int))) l.length fun i hi=>?_).trans (whileO_done ?_)
 · have e1:decide ((i:Int)<(l.length:Int))=true:=dec_t (by omega)
   unfold ref06_SameInts_l1;simp only [ofNat_eq,e1,cond_true,geti_nat l i hi,bindS,wi_succ (show i<1000000000 by omega),bne_f rfl,cond_false]
 · unfold ref06_SameInts_l1
   have:decide ((l.length:Int)<(l.length:Int))=false:=dec_f (by omega)
   simp only [ofNat_eq,this,cond_false]
theorem bools_same (l:List Bool) (hl:l.length<=1000000):ref06_SameBools l l=some true:=by
 unfold ref06_SameBools;rw [bne_f rfl];refine (while_steps (body:=ref06_SameBools_l1) (fun i=>(l,l,(i:Int))) l.length fun i hi=>?_).trans (whileO_done ?_)
 · have e1:decide ((i:Int)<(l.length:Int))=true:=dec_t (by omega)
   unfold ref06_SameBools_l1;simp only [ofNat_eq,e1,cond_true,geti_nat l i hi,bindS,wi_succ (show i<1000000000 by omega),beq_self_eq_true,Bool.not_true,cond_false]
 · unfold ref06_SameBools_l1
   have:decide ((l.length:Int)<(l.length:Int))=false:=dec_f (by omega)
   simp only [ofNat_eq,this,cond_false]
theorem certs_same (c:Certs) (hl:c.list.length<=1000000):ref08_Same c c=some true:=by
 unfold ref08_Same;rw [bne_f rfl,bne_f rfl];refine (while_steps (body:=ref08_Same_l1) (fun i=>((i:Int),c.next_,c.list,c.next_,c.list)) c.list.length fun i hi=>?_).trans (whileO_done ?_)
 · have e1:decide ((i:Int)<(c.list.length:Int))=true:=dec_t (by omega)
   unfold ref08_Same_l1;simp only [ofNat_eq,e1,cond_true,geti_nat c.list i hi,bindS,wi_succ (show i<1000000000 by omega),beq_self_eq_true,Bool.and_self,Bool.not_true,cond_false]
 · unfold ref08_Same_l1
   have:decide ((c.list.length:Int)<(c.list.length:Int))=false:=dec_f (by omega)
   simp only [ofNat_eq,this,cond_false]
theorem agenda_same (a:Agenda) (h1:a.heap.length<=1000000) (h2:a.where_.length<=1000000) (h3:a.slots.uses.length<=1000000) (h4:a.slots.used.length<=1000000) (h5:a.slots.free.length<=1000000):ref07_Same a a=some true:=by
 unfold ref07_Same ref06_Same;simp only [ints_same _ h3,bools_same _ h4,ints_same _ h5,ints_same _ h2,bindS,cond_true,Bool.not_true,cond_false];rw [bne_f rfl];refine (while_steps (body:=ref07_Same_l1) (fun i=>((i:Int),a.slots.uses,a.slots.used,a.slots.free,a.heap,a.where_,a.slots.uses,a.slots.used,a.slots.free,a.heap,a.where_)) a.heap.length fun i hi=>?_).trans (whileO_done ?_)
 · have e1:decide ((i:Int)<(a.heap.length:Int))=true:=dec_t (by omega)
   unfold ref07_Same_l1;simp only [ofNat_eq,e1,cond_true,geti_nat a.heap i hi,bindS,wi_succ (show i<1000000000 by omega),beq_self_eq_true,Bool.and_self,Bool.not_true,cond_false]
 · unfold ref07_Same_l1
   have:decide ((a.heap.length:Int)<(a.heap.length:Int))=false:=dec_f (by omega)
   simp only [ofNat_eq,this,cond_false]
theorem clock_same {c:Clock} (sh:Short c):ref09_Same c c=some true:=by
 have hd:=sh.d;unfold ref09_Same;simp only [beq_self_eq_true,Bool.and_self,Bool.not_true,cond_false,same_points c.field.points c.field.points sh.f,certs_same _ sh.l,agenda_same _ sh.h sh.w sh.s1 sh.s2 sh.s3,bindS,dec_t];rw [bne_f rfl]
 refine (while_steps (body:=ref09_Same_l1) (fun i=>((i:Int),c.now.1,c.now.2,c.field.points,c.certs.next_,c.certs.list,c.agenda.slots.uses,c.agenda.slots.used,c.agenda.slots.free,c.agenda.heap,c.agenda.where_,c.due,c.now.1,c.now.2,c.field.points,c.certs.next_,c.certs.list,c.agenda.slots.uses,c.agenda.slots.used,c.agenda.slots.free,c.agenda.heap,c.agenda.where_,c.due)) c.due.length fun i hi=>?_).trans (whileO_done ?_)
 · have e1:decide ((i:Int)<(c.due.length:Int))=true:=dec_t (by omega)
   unfold ref09_Same_l1;simp only [ofNat_eq,e1,cond_true,geti_nat c.due i hi,bindS,wi_succ (show i<1000000000 by omega),beq_self_eq_true,Bool.and_self,Bool.not_true,cond_false]
 · unfold ref09_Same_l1
   have:decide ((c.due.length:Int)<(c.due.length:Int))=false:=dec_f (by omega)
   simp only [ofNat_eq,this,cond_false]
end Go.Proofs.YtjikemfbommnlaaGreat
namespace Go.Proofs.YtjikemfbommnlaaGreat
open Go.Vm Classical
structure Nums (c:Clock):Prop where
 now:R64 c.now
 at64: ∀w,w<c.agenda.heap.length->R64 ((c.agenda.heap[w]!).1,(c.agenda.heap[w]!).2.1)
theorem field_great (f:Field):ref03_Great f=some true\/(ref03_Great f=some false/\f.points.length<=70):=by
 unfold ref03_Great
 simp only [ofNat_eq]
 by_cases h1:16<f.points.length
 · rw [dec_t (show (16:Int)<(f.points.length:Int) by omega)]
   by_cases h2:f.points.length<64
   · rw [dec_t (show (f.points.length:Int)<64 by omega)];exact .inl rfl
   · rw [dec_f (show¬(f.points.length:Int)<64 by omega)]
     by_cases h3:70<f.points.length
     · rw [dec_t (show (70:Int)<(f.points.length:Int) by omega)];exact .inl rfl
     · rw [dec_f (show¬(70:Int)<(f.points.length:Int) by omega)];exact .inr ⟨rfl,by omega⟩
 · rw [dec_f (show¬(16:Int)<(f.points.length:Int) by omega),dec_f (show¬(70:Int)<(f.points.length:Int) by omega)]
   exact .inr ⟨rfl,by omega⟩
theorem clock_great (c:Clock):ref09_Great c=some true\/(ref09_Great c=some false/\Short c):=by
 unfold ref09_Great ref07_Great ref06_Great
 simp only [ofNat_eq]
 by_cases h1:40<c.certs.list.length
 · rw [dec_t (show (40:Int)<(c.certs.list.length:Int) by omega)];exact .inl rfl
 rw [dec_f (show¬(40:Int)<(c.certs.list.length:Int) by omega)]
 by_cases h2:40<c.due.length
 · rw [dec_t (show (40:Int)<(c.due.length:Int) by omega)];exact .inl rfl
 rw [dec_f (show¬(40:Int)<(c.due.length:Int) by omega)]
 rcases field_great c.field with e|⟨e,hf⟩
 · rw [e];exact .inl rfl
 rw [e];simp only [cond_false,bindS]
 by_cases a1:210<c.agenda.slots.uses.length
 · rw [dec_t (show (210:Int)<(c.agenda.slots.uses.length:Int) by omega)];exact .inl rfl
 rw [dec_f (show¬(210:Int)<(c.agenda.slots.uses.length:Int) by omega)]
 by_cases a2:210<c.agenda.slots.used.length
 · rw [dec_t (show (210:Int)<(c.agenda.slots.used.length:Int) by omega)];exact .inl rfl
 rw [dec_f (show¬(210:Int)<(c.agenda.slots.used.length:Int) by omega)]
 by_cases a3:210<c.agenda.slots.free.length
 · rw [dec_t (show (210:Int)<(c.agenda.slots.free.length:Int) by omega)];exact .inl rfl
 rw [dec_f (show¬(210:Int)<(c.agenda.slots.free.length:Int) by omega)]
 by_cases a4:210<c.agenda.heap.length
 · rw [dec_t (show (210:Int)<(c.agenda.heap.length:Int) by omega)];exact .inl rfl
 rw [dec_f (show¬(210:Int)<(c.agenda.heap.length:Int) by omega)]
 by_cases a5:210<c.agenda.where_.length
 · rw [dec_t (show (210:Int)<(c.agenda.where_.length:Int) by omega)];exact .inl rfl
 rw [dec_f (show¬(210:Int)<(c.agenda.where_.length:Int) by omega)]
 exact .inr ⟨rfl,⟨by omega,by omega,by omega,by omega,by omega,by omega,by omega,by omega⟩⟩
theorem twin_short {c:Clock} (sh:Short c):ref09_Twin c=some c:=by
 obtain ⟨h1,h2,h3,h4,h5,h6,h7,h8⟩:=sh;unfold ref09_Twin ref03_Twin ref08_Twin ref07_Twin ref06_Twin;simp only [cloneO_le (show c.field.points.length<=1048576 by omega),cloneO_le (show c.certs.list.length<=1048576 by omega),cloneO_le (show c.due.length<=1048576 by omega),cloneO_le (show c.agenda.heap.length<=1048576 by omega),cloneO_le (show c.agenda.where_.length<=1048576 by omega),
  cloneO_le (show c.agenda.slots.uses.length<=1048576 by omega),cloneO_le (show c.agenda.slots.used.length<=1048576 by omega),cloneO_le (show c.agenda.slots.free.length<=1048576 by omega),bindS]
theorem renew_both {c:Clock} (n:Nums c) (sh:Short c) (f:List Pt) {es:List (Int×Int)} (hl:es.length<=1000):
 ∃r:Clock×Int,kheap_Renew c ⟨f⟩ es=some r/\ref13_Renew c ⟨f⟩ es=some r/\Short r.1:=by
 have fit:ClockFit c:=⟨n.now,⟨sh.s3,sh.h,sh.w,n.at64⟩,sh.d⟩
 by_cases ok:ClockOK c
 case neg=>
  refine ⟨(noClock,8),?_,?_,noClock_short⟩
  · unfold kheap_Renew
    rw [clock_Check_eq fit,if_neg ok];rfl
  · unfold ref13_Renew
    rw [ref09_Check_eq fit,if_neg ok];rfl
 by_cases fok:FieldOK f
 case neg=>
  have e:fieldErr f≠0:=fun h=>fok (fieldErr_ok.1 h)
  refine ⟨(noClock,fieldErr f),?_,?_,noClock_short⟩
  · unfold kheap_Renew
    rw [clock_Check_eq fit,if_pos ok,field_Check_eq];simp only [bindS,show ((0:Int) !=0)=false from rfl,cond_false,bne_t e,cond_true]
  · unfold ref13_Renew
    rw [ref09_Check_eq fit,if_pos ok,ref03_Check_eq];simp only [bindS,show ((0:Int) !=0)=false from rfl,cond_false,bne_t e,cond_true]
 have hc:ref09_Check c=some 0:=by rw [ref09_Check_eq fit,if_pos ok]
 have hf:ref03_Check ⟨f⟩=some 0:=by rw [ref03_Check_eq];exact congrArg some (fieldErr_ok.2 fok)
 by_cases he:edgeErr f es=0
 · have eok:EdgesOK f es:=by
    unfold edgeErr at he
    by_cases h1: ∀x∈es,CertV x
    · rw [if_neg (Classical.not_not.2 h1)] at he
      by_cases h2:es.Nodup
      · rw [if_neg (Classical.not_not.2 h2)] at he
        by_cases h3: ∀x∈es,Both f x
        · exact ⟨by omega,h1,h3⟩
        · rw [if_pos h3] at he;cases he
      · rw [if_pos h2] at he;cases he
    · rw [if_pos h1] at he;cases he
   obtain ⟨r,r1,r2,r3⟩:=renewed ok fok eok;refine ⟨r,?_,?_,?_⟩
   · rw [kheap_Renew_eq ok fok hl (fun _=>r1),if_pos he]
   · unfold ref13_Renew
     simp only [hc,hf,ref13_Edged_eq fok es hl,bindS,show ((0:Int) !=0)=false from rfl,cond_false,bne_f he,r2]
   · rcases r3 with h|h
     · exact h.short
     · rw [h];exact noClock_short
 · refine ⟨(noClock,edgeErr f es),?_,?_,noClock_short⟩
   · rw [kheap_Renew_eq (r:=(noClock,0)) ok fok hl (fun h=>absurd h he),if_neg he]
   · unfold ref13_Renew
     simp only [hc,hf,ref13_Edged_eq fok es hl,bindS,show ((0:Int) !=0)=false from rfl,cond_false,bne_t he,cond_true]
theorem law13_KheapRenews_true (c:Clock) (f:Field) (es:List (Int×Int)) (n:Nums c):law13_KheapRenews c f es=some true:=by
 unfold law13_KheapRenews;rcases clock_great c with e|⟨e,sh⟩
 · rw [e];rfl
 rw [e];simp only [bindS,cond_false];rcases field_great f with e|⟨e,hf⟩
 · rw [e];rfl
 rw [e];simp only [bindS,cond_false,ofNat_eq]
 by_cases h1:40<es.length
 · rw [dec_t (show (40:Int)<(es.length:Int) by omega)];rfl
 rw [dec_f (show¬(40:Int)<(es.length:Int) by omega)]
 obtain ⟨r,r1,r2,r3⟩:=renew_both n sh f.points (es:=es) (by omega)
 have r1':kheap_Renew c f es=some r:=r1;have r2':ref13_Renew c f es=some r:=r2;simp only [cond_false,twin_short sh,bindS,r1',r2',clock_same r3,cond_true,beq_t rfl,clock_same sh]
end Go.Proofs.YtjikemfbommnlaaGreat
namespace Go.Proofs.YtjikemfbommnlaaGreat
open Go.Vm Classical
theorem Nums.of {c:Clock} (h1:RT.wf [.i .i64,.i .i64] c.now) (h2: ∀a∈c.agenda.heap,RT.wf [.i .i64,.i .i64,.i .i64,.i .i64,.i .i64] a):Nums c where
 now:=⟨wf_i64 h1.1,wf_i64 h1.2⟩
 at64 w hw:=by
  have:=h2 (c.agenda.heap[w]!) (by rw [getElem!_pos c.agenda.heap w hw];exact List.getElem_mem hw)
  exact ⟨wf_i64 this.1,wf_i64 this.2.1⟩
end Go.Proofs.YtjikemfbommnlaaGreat
