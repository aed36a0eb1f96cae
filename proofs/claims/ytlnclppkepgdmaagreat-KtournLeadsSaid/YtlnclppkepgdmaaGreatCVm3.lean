/- The logical machine, part 3: SvRel, SvOps1, SvOps2, SvOps3, SvOps4, SvNorm, SvCall, SvFp, SvRun, SvCon, SvLaw, SvSort, SvSortI. -/
import Derived.Test.YtlnclppkepgdmaaGreatCVm2
import Derived.Sort.Grow
open Nat renaming eq_of_beq_eq_true->aa,le_of_ble_eq_true->au,ble->ay,beq_refl->bn,beq->bw,lt_or_ge->cw,zero_add->dd,eq_zero_or_pos->dp,le_refl->dy,beq_eq->ed,min_eq_left->ef,blt->ek,le_of_lt->fg,sub_self->fy
open Bool renaming and_eq_true->ac,false_eq_true->ar,not_eq_true'->be,and_self->bk,not_false->cq,and_true->df,not_true->ew,or_eq_true->fw
open List renaming getElem?_eq_some_iff->ae,getElem?_append_left->af,getElem?_append_right->ai,getElem?_eq_getElem->aj,getElem?_take_of_lt->am,getElem?_set->ao,length_map->az,length_cons->ba,append_assoc->bg,map_cons->bj,length_take->bo,replicate->bq,append_nil->bv,map_take->bz,length_eq_zero_iff->cb,take_of_length_le->cd,drop_zero->ce,getElem?_cons_succ->cf,all_eq_true->ci,mem_of_getElem?->cu,getElem?_eq_none_iff->cy,map_drop->cz,map_append->c6,length_append->c8,mem_cons_self->db,mem_singleton->dc,mem_append_right->de,mem_cons_of_mem->dh,mem_append_left->di,getElem_of_mem->dj,pairwise_cons->dv,ext_getElem?->dz,getElem?_map->d5,getElem?_cons_zero->d7,cons_append->d9,length_drop->eb,nodup_cons->eg,all_cons->eu,mem_cons->ez,cons_beq_cons->fa,range->fb,map_set->ff,map_nil->fh,flatMap_cons->fj,any_eq_true->fq,mem_flatMap->ft,all_append->fu,mem_append->fv,any_cons->fx,mem_map->ga,all_map->gb
open Option.some renaming injEq->aq,inj->cj
open Int renaming eq_ofNat_of_zero_le->ax,ofNat->cm,le_trans->dm
open Option renaming map_eq_some_iff->bi,isSome_iff_exists->d6,getD_none->d8,map_some->eh,getD_some->fo
open Prod.mk renaming injEq->bu
open Array renaming getElem?_eq_some_iff->dt,getElem?_eq_getElem->dw,getElem?_modify->ei,getElem?_mapIdx->ej
open Go.World renaming cells?_some->fk
/- What a typed value says of a value of the logical machine. -/
namespace Go.Vm
def aED (s:List SB) (t e n:Nat):Prop:=(∃r l,s[t]? =some (.arr r l)/\e=r.length/\n=l.length)\/s[t]? =some .dead
def HA (s:List SB) (t e:Nat):Prop:=(∃r l,s[t]? =some (.arr r l)/\e=r.length)\/s[t]? =some .dead
def aEE (s:List SB) (t:Nat) (r:List PT) (i:Int) (a:RT r):Prop:=(∃l,s[t]? =some (.arr r l)/\aL l i=some a)\/s[t]? =some .dead
def aN9 (s:List SB) (t:Nat) (i:Int):Prop:=(∃r l,s[t]? =some (.arr r l)/\(aL l i).isSome=true)\/s[t]? =some .dead
mutual
def R (s:List SB):SV->PV->Prop
 | .junk,_=>True
 | .undef,v=>v= .undef
 | .nul,v=>v= .nul
 | .nilf,v=>v= .nilf
 | .int k n,v=>v= .int k n
 | .bool b,v=>v= .bool b
 | .str x,v=>v= .str x
 | .agg cs,v=> ∃ps,v= .agg ps/\RL s cs ps
 | .tup cs,v=> ∃ps,v= .tup ps/\RL s cs ps
 | .sl r l,v=>v= .sl r.length false (l.map (RT.pv r))
 | .nil e c,v=>v= .sl e c []
 | .own t ex,v=> ∃e n,v= .own t e 0 n n ex/\aED s t e n
 | .pre t len cap ex,v=> ∃e,v= .own t e 0 len cap ex/\HA s t e
 | .part t off len cap ex,v=> ∃e,v= .own t e off len cap ex/\HA s t e
 | .pa t r i a off,v=>v= .ptr t r.length i.toNat off/\aEE s t r i a
 | .pb t i off,v=> ∃e,v= .ptr t e i.toNat off/\aN9 s t i
 | .bp t n off,v=>v= .ptr t n 0 off
 | .rptr cs off,v=> ∃ps,v= .rptr ps off/\RL s cs ps
 | .clo f a b,v=> ∃pa pb,v= .clo f pa pb/\RL s a pa/\RL s b pb
 | .mp t,v=>v= .mp t
def RL (s:List SB):List SV->List PV->Prop
 | [],ps=>ps=[]
 |x::xs,ps=> ∃p q,ps=p::q/\R s x p/\RL s xs q
end
def zU:List Int->PV
 | [a]=> .int .i64 a
 |l=> .agg (l.map (.int .i64))
def JQ (k:List Int):PV×PV:=(zU k,.bool true)
def M9 (p:PT) (a:RT [.i .i64,p]):PV×PV:=(.int .i64 a.1,p.pv a.2)
def RB (s:List SB):SB->mJ->Prop
 | .arr r l,b=>b= .arr r.length (l.map (RT.pv r))
 | .box cs,b=> ∃ps,b= .box ps/\RL s cs ps
 | .set l,b=>b= .map (l.map JQ)
 | .tab p l,b=>b= .map (l.map (M9 p))
 | .dead,b=>b= .dead
structure cZ (s:List SB) (p:cX):Prop where
 len:p.length=s.length
 at_: ∀(t:Nat) (b:SB),s[t]? =some b-> ∃q,p[t]? =some q/\RB s b q
def eU (s:List SB):SE->zO->Prop
 | [],e=>e=[]
 |(t,v)::r,e=> ∃p q,e=(t,p)::q/\R s v p/\eU s r q
structure HB (st:vL) (p:St):Prop where
 env:eU st.sto st.env p.env
 sto:cZ st.sto p.sto
 fz:p.fz=st.fz
 kn:p.kn=st.kn
theorem pK: ∀(s l:List SB),apS s l=s++l
 | [],_=>rfl
 |b::r,l=>by simp [apS,pK r l]
theorem JR: ∀(s:List SB) (t:Nat) (b:SB),aEy s t b=s.set t b
 | [],_,_=>by simp [aEy]
 |_::_,0,_=>rfl
 |x::r,n+1,b=>by simp [aEy,JR r n b]
theorem RL.nil {s:List SB}:RL s [] []:=rfl
theorem RL.cons {s:List SB} {x:SV} {xs:List SV} {p:PV} {q:List PV} (h:R s x p) (k:RL s xs q):RL s (x::xs) (p::q):=⟨p,q,rfl,h,k⟩
theorem RL.cons_inv {s:List SB} {x:SV} {xs:List SV} {ps:List PV} (h:RL s (x::xs) ps): ∃p q,ps=p::q/\R s x p/\RL s xs q:=h
theorem RL.length {s:List SB}: ∀{xs:List SV} {ps:List PV},RL s xs ps->ps.length=xs.length
 | [],ps,h=>by rw [show ps=[] from h];rfl
 |x::xs,ps,h=>by
  obtain ⟨p,q,rfl,_,h2⟩:=h.cons_inv;simp [h2.length]
theorem RL.append {s:List SB}: ∀{xs:List SV} {ps:List PV},RL s xs ps-> ∀{ys:List SV} {qs:List PV},RL s ys qs->RL s (xs++ys) (ps++qs)
 | [],ps,h,_,_,k=>by rw [show ps=[] from h];exact k
 |x::xs,ps,h,_,_,k=>by
  obtain ⟨p,q,rfl,h1,h2⟩:=h.cons_inv;exact RL.cons h1 (h2.append k)
theorem RL.take {s:List SB}: ∀{xs:List SV} {ps:List PV},RL s xs ps-> ∀n,RL s (xs.take n) (ps.take n)
 | [],ps,h,n=>by rw [show ps=[] from h];simp;exact RL.nil
 |x::xs,ps,h,0=>by simp;exact RL.nil
 |x::xs,ps,h,n+1=>by
  obtain ⟨p,q,rfl,h1,h2⟩:=h.cons_inv;exact RL.cons h1 (h2.take n)
theorem RL.drop {s:List SB}: ∀{xs:List SV} {ps:List PV},RL s xs ps-> ∀n,RL s (xs.drop n) (ps.drop n)
 | [],ps,h,n=>by rw [show ps=[] from h];simp;exact RL.nil
 |x::xs,ps,h,0=>h
 |x::xs,ps,h,n+1=>by
  obtain ⟨p,q,rfl,h1,h2⟩:=h.cons_inv;exact h2.drop n
theorem RL.nth {s:List SB}: ∀{xs:List SV} {ps:List PV},RL s xs ps-> ∀{n:Nat} {v:SV},Vm.nth xs n=some v-> ∃p,ps[n]? =some p/\R s v p
 | [],_,_,_,_,e=>by cases e
 |x::xs,ps,h,0,v,e=>by
  obtain ⟨p,q,rfl,h1,_⟩:=h.cons_inv;injection e with e;subst e;exact ⟨p,rfl,h1⟩
 |x::xs,ps,h,n+1,v,e=>by
  obtain ⟨p,q,rfl,_,h2⟩:=h.cons_inv;obtain ⟨p',h3,h4⟩:=h2.nth (n:=n) e;exact ⟨p',by simpa using h3,h4⟩
mutual
theorem aAC (s:List SB): ∀v:PV,R s (aGw v) v
 | .undef=>rfl
 | .nul=>rfl
 | .nilf=>rfl
 | .int _ _=>rfl
 | .bool _=>rfl
 | .str _=>rfl
 | .agg cs=>⟨cs,rfl,ofPVL_R s cs⟩
 | .tup cs=>⟨cs,rfl,ofPVL_R s cs⟩
 | .sl e c rows=>by
  cases rows with
  |nil=>exact rfl
  |cons _ _=>trivial
 | .clo f a b=>⟨a,b,rfl,ofPVL_R s a,ofPVL_R s b⟩
 | .own .. =>trivial
 | .ptr .. =>trivial
 | .rptr .. =>trivial
 | .mp _=>trivial
theorem ofPVL_R (s:List SB): ∀l:List PV,RL s (ofPVL l) l
 | []=>rfl
 |x::xs=>RL.cons (aAC s x) (ofPVL_R s xs)
end
theorem eU.lk {s:List SB}: ∀{e:SE} {p:zO},eU s e p-> ∀t,R s (RJ t e) (Vm.lk t p)
 | [],p,h,t=>by rw [show p=[] from h];rfl
 |(u,v)::r,p,h,t=>by
  obtain ⟨q,qs,rfl,h1,h2⟩:=h;simp only [RJ,Vm.lk];cases hb:bw u t with
  |true=>exact h1
  |false=>exact eU.lk h2 t
theorem eU.setS {s:List SB}: ∀{e:SE} {p:zO},eU s e p-> ∀{t:Nat} {v:SV},R s v (Vm.lk t p)->eU s (Vm.setS t v e) p
 | [],p,h,t,v,_=>h
 |(u,x)::r,p,h,t,v,hv=>by
  obtain ⟨q,qs,rfl,h1,h2⟩:=h;simp only [Vm.setS];simp only [Vm.lk] at hv;cases hb:bw u t with
  |true=>rw [hb] at hv;exact ⟨q,qs,rfl,hv,h2⟩
  |false=>rw [hb] at hv;exact ⟨q,qs,rfl,h1,eU.setS h2 hv⟩
theorem eQ {s:List SB} {e:SE} {p:zO} (h:eU s e p): ∀x:gW,R s (cI e x) (x.ev p)
 | .t n=>h.lk n
 | .c v=>aAC s v
theorem GF {s:List SB} {e:SE} {p:zO} (h:eU s e p): ∀l:List gW,RL s (lU e l) (NX p l)
 | []=>rfl
 |x::xs=>RL.cons (eQ h x) (GF h xs)
def Fr (bad:List Nat) (s s':List SB):Prop:= ∀(t:Nat) (b:SB),s[t]? =some b->match b with
 | .arr r l=>(∃l',s'[t]? =some (.arr r l')/\l'.length=l.length/\(has bad t=false->l'=l))\/s'[t]? =some .dead
 | .dead=>s'[t]? =some .dead
 |_=>True
theorem Fr.refl (bad:List Nat) (s:List SB):Fr bad s s:=fun t b h=>by
 cases b with
 |arr r l=>exact .inl ⟨l,h,rfl,fun _=>rfl⟩
 |dead=>exact h
 |_=>trivial
theorem Fr.app (bad:List Nat) (s l:List SB):Fr bad s (s++l):=fun t b h=>by
 have h':(s++l)[t]? =some b:=by
  have:=(ae.1 h).1
  rw [af this];exact h
 cases b with
 |arr r l=>exact .inl ⟨l,h',rfl,fun _=>rfl⟩
 |dead=>exact h'
 |_=>trivial
theorem Fr.trans {bad:List Nat} {a b c:List SB} (h:Fr bad a b) (k:Fr bad b c):Fr bad a c:=fun t x hx=>by
 have h1:=h t x hx;cases x with
 |arr r l=>
  rcases h1 with ⟨l',h2,h3,h4⟩|h2
  · have k1:=k t _ h2
    rcases k1 with ⟨l2,k2,k3,k4⟩|k2
    · exact .inl ⟨l2,k2,k3.trans h3,fun hb=>(k4 hb).trans (h4 hb)⟩
    exact .inr k2
  exact .inr (k t _ h2)
 |dead=>exact k t _ h1
 |_=>trivial
theorem MS {α:Type} {l m:List α} {i:Int} (h:(aL l i).isSome=true) (hl:m.length=l.length):(aL m i).isSome=true:=by
 cases i with
 |ofNat n=>
  simp only [aL] at h ⊢;rw [d6] at h;obtain ⟨a,ha⟩:=h
  have:=(ae.1 ha).1
  rw [aj (by omega)];rfl
 |negSucc n=>simp [aL] at h
mutual
theorem R.fr {bad:List Nat} {s s':List SB} (hf:Fr bad s s'): ∀{v:SV} {p:PV},R s v p->R s' (dgV bad v) p
 | .junk,_,_=>trivial
 | .undef,_,h=>h
 | .nul,_,h=>h
 | .nilf,_,h=>h
 | .int _ _,_,h=>h
 | .bool _,_,h=>h
 | .str _,_,h=>h
 | .agg cs,_,h=>by obtain ⟨ps,rfl,h⟩:=h;exact ⟨ps,rfl,RL.fr hf h⟩
 | .tup cs,_,h=>by obtain ⟨ps,rfl,h⟩:=h;exact ⟨ps,rfl,RL.fr hf h⟩
 | .sl _ _,_,h=>h
 | .nil _ _,_,h=>h
 | .own t ex,_,h=>by
  obtain ⟨e,n,rfl,h⟩:=h;refine ⟨e,n,rfl,?_⟩;rcases h with ⟨r,l,h1,h2,h3⟩|h1
  · rcases hf t _ h1 with ⟨l',k1,k2,_⟩|k1
    · exact .inl ⟨r,l',k1,h2,by rw [h3,k2]⟩
    exact .inr k1
  exact .inr (hf t _ h1)
 | .pre t len cap ex,_,h=>by
  obtain ⟨e,rfl,h⟩:=h;refine ⟨e,rfl,?_⟩;rcases h with ⟨r,l,h1,h2⟩|h1
  · rcases hf t _ h1 with ⟨l',k1,_,_⟩|k1
    · exact .inl ⟨r,l',k1,h2⟩
    exact .inr k1
  exact .inr (hf t _ h1)
 | .part t off len cap ex,_,h=>by
  obtain ⟨e,rfl,h⟩:=h;refine ⟨e,rfl,?_⟩;rcases h with ⟨r,l,h1,h2⟩|h1
  · rcases hf t _ h1 with ⟨l',k1,_,_⟩|k1
    · exact .inl ⟨r,l',k1,h2⟩
    exact .inr k1
  exact .inr (hf t _ h1)
 | .pa t r i a off,_,h=>by
  obtain ⟨rfl,h⟩:=h;simp only [dgV];cases hb:has bad t with
  |true=>
   refine ⟨_,rfl,?_⟩;rcases h with ⟨l,h1,h2⟩|h1
   · rcases hf t _ h1 with ⟨l',k1,k2,_⟩|k1
     · exact .inl ⟨r,l',k1,MS (by rw [h2];rfl) k2⟩
     exact .inr k1
   exact .inr (hf t _ h1)
  |false=>
   refine ⟨rfl,?_⟩;rcases h with ⟨l,h1,h2⟩|h1
   · rcases hf t _ h1 with ⟨l',k1,_,k3⟩|k1
     · exact .inl ⟨l',k1,by rw [k3 hb];exact h2⟩
     exact .inr k1
   exact .inr (hf t _ h1)
 | .pb t i off,_,h=>by
  obtain ⟨e,rfl,h⟩:=h;refine ⟨e,rfl,?_⟩;rcases h with ⟨r,l,h1,h2⟩|h1
  · rcases hf t _ h1 with ⟨l',k1,k2,_⟩|k1
    · exact .inl ⟨r,l',k1,MS h2 k2⟩
    exact .inr k1
  exact .inr (hf t _ h1)
 | .bp _ _ _,_,h=>h
 | .rptr cs off,_,h=>by obtain ⟨ps,rfl,h⟩:=h;exact ⟨ps,rfl,RL.fr hf h⟩
 | .clo f a b,_,h=>by obtain ⟨pa,pb,rfl,h1,h2⟩:=h;exact ⟨pa,pb,rfl,RL.fr hf h1,RL.fr hf h2⟩
 | .mp _,_,h=>h
theorem RL.fr {bad:List Nat} {s s':List SB} (hf:Fr bad s s'): ∀{v:List SV} {p:List PV},RL s v p->RL s' (dgL bad v) p
 | [],_,h=>h
 |x::xs,_,h=>by
  obtain ⟨p,q,rfl,h1,h2⟩:=h.cons_inv;exact RL.cons (R.fr hf h1) (RL.fr hf h2)
end
mutual
theorem aBR: ∀v:SV,dgV [] v=v
 | .junk| .undef| .nul| .nilf| .int _ _| .bool _| .str _| .sl _ _| .nil _ _| .own _ _| .pre _ _ _ _| .part _ _ _ _ _| .pb _ _ _| .bp _ _ _| .mp _=>rfl
 | .agg cs=>by simp only [dgV,dgL_nil cs]
 | .tup cs=>by simp only [dgV,dgL_nil cs]
 | .rptr cs _=>by simp only [dgV,dgL_nil cs]
 | .clo _ a b=>by simp only [dgV,dgL_nil a,dgL_nil b]
 | .pa t r i a off=>by simp [dgV,has]
theorem dgL_nil: ∀v:List SV,dgL [] v=v
 | []=>rfl
 |x::xs=>by simp only [dgL,aBR x,dgL_nil xs]
end
theorem R.ext {s s':List SB} (hf:Fr [] s s') {v:SV} {p:PV} (h:R s v p):R s' v p:=by
 have:=R.fr hf h
 rwa [aBR] at this
theorem RL.ext {s s':List SB} (hf:Fr [] s s') {v:List SV} {p:List PV} (h:RL s v p):RL s' v p:=by
 have:=RL.fr hf h
 rwa [dgL_nil] at this
theorem RB.fr {bad:List Nat} {s s':List SB} (hf:Fr bad s s') {b:SB} {p:mJ} (h:RB s b p):RB s' (dgB bad b) p:=by
 cases b with
 |box cs=>obtain ⟨ps,rfl,h⟩:=h;exact ⟨ps,rfl,RL.fr hf h⟩
 |_=>exact h
theorem RB.ext {s s':List SB} (hf:Fr [] s s') {b:SB} {p:mJ} (h:RB s b p):RB s' b p:=by
 cases b with
 |box cs=>obtain ⟨ps,rfl,h⟩:=h;exact ⟨ps,rfl,RL.ext hf h⟩
 |_=>exact h
theorem eU.fr {bad:List Nat} {s s':List SB} (hf:Fr bad s s'): ∀{e:SE} {p:zO},eU s e p->eU s' (dgE bad e) p
 | [],_,h=>h
 |(t,v)::r,_,h=>by
  obtain ⟨p,q,rfl,h1,h2⟩:=h;exact ⟨p,q,rfl,R.fr hf h1,eU.fr hf h2⟩
theorem eU.ext {s s':List SB} (hf:Fr [] s s'): ∀{e:SE} {p:zO},eU s e p->eU s' e p
 | [],_,h=>h
 |(t,v)::r,_,h=>by
  obtain ⟨p,q,rfl,h1,h2⟩:=h;exact ⟨p,q,rfl,R.ext hf h1,eU.ext hf h2⟩
theorem cZ.app {s:List SB} {p:cX} (h:cZ s p) {l:List SB} {q:cX} (hl:q.length=l.length) (hb: ∀(j:Nat) (b:SB),l[j]? =some b-> ∃x,q[j]? =some x/\RB (s++l) b x):cZ (s++l) (p++q) where
 len:=by simp [h.len,hl]
 at_:=fun t b ht=>by
  rcases cw t s.length with hlt|hge
  · rw [af hlt] at ht
    obtain ⟨x,h1,h2⟩:=h.at_ t b ht;exact ⟨x,by rw [af (by rw [h.len];exact hlt)];exact h1,h2.ext (Fr.app [] s l)⟩
  rw [ai hge] at ht
  obtain ⟨x,h1,h2⟩:=hb _ b ht;exact ⟨x,by rw [ai (by rw [h.len];exact hge),h.len];exact h1,h2⟩
theorem CZ (ts:List Nat): ∀(s:List SB) (t:Nat),(LG ts s)[t]? =(s[t]?).map (dgB ts)
 | [],t=>by simp [LG]
 |b::r,0=>by simp [LG]
 |b::r,t+1=>by simp [LG,CZ ts r t]
theorem GG (ts:List Nat): ∀(s:List SB),(LG ts s).length=s.length
 | []=>rfl
 |b::r=>by simp [LG,GG ts r]
theorem Fr.dg {bad ts:List Nat} {s s':List SB} (h:Fr bad s s'):Fr bad s (LG ts s'):=fun t b hb=>by
 have h1:=h t b hb;cases b with
 |arr r l=>
  rcases h1 with ⟨l',h2,h3,h4⟩|h2
  · exact .inl ⟨l',by rw [CZ,h2];rfl,h3,h4⟩
  exact .inr (by rw [CZ,h2];rfl)
 |dead=>show (LG ts s')[t]? =_;rw [CZ,h1];rfl
 |_=>trivial
theorem SU {s:List SB}: ∀(r:List PT) (a:RT r),RL s (RT.sv r a) (RT.pv r a)
 | [],_=>rfl
 | [p],a=>by refine RL.cons ?_ RL.nil;cases p<;>rfl
 |p::q::r,a=>by refine RL.cons ?_ (SU (q::r) a.2);cases p<;>rfl
theorem GH {s:List SB}: ∀(r:List PT) (a:RT r) {ps:List PV},RL s (RT.sv r a) ps->ps=RT.pv r a
 | [],_,ps,h=>h
 | [p],a,ps,h=>by
  obtain ⟨x,q,rfl,h1,h2⟩:=h.cons_inv;have h2':q=[]:=h2;subst h2';cases p<;>(have h1':=h1;simp only [PT.sv,R] at h1';rw [h1'];rfl)
 |p::q::r,a,ps,h=>by
  obtain ⟨x,qs,rfl,h1,h2⟩:=h.cons_inv;rw [GH (q::r) a.2 h2];cases p<;>(have h1':=h1;simp only [PT.sv,R] at h1';rw [h1'];rfl)
theorem RT.plain: ∀(r:List PT) (a:RT r),(RT.pv r a).all PV.plain=true
 | [],_=>rfl
 | [p],a=>by cases p<;>rfl
 |p::q::r,a=>by
  have:=RT.plain (q::r) a.2
  cases p<;>(simp only [RT.pv,eu,this,df];rfl)
theorem R.cells {s:List SB} {v:SV} {p:PV} (h:R s v p) (hj:v≠ .junk):RL s v.cells p.cells:=by
 cases v with
 |junk=>exact absurd rfl hj
 |agg cs=>obtain ⟨ps,rfl,h⟩:=h;exact h
 |undef=>rw [show p= .undef from h];exact RL.cons rfl RL.nil
 |nul=>rw [show p= .nul from h];exact RL.cons rfl RL.nil
 |nilf=>rw [show p= .nilf from h];exact RL.cons rfl RL.nil
 |int k n=>rw [show p= .int k n from h];exact RL.cons rfl RL.nil
 |bool b=>rw [show p= .bool b from h];exact RL.cons rfl RL.nil
 |str x=>rw [show p= .str x from h];exact RL.cons rfl RL.nil
 |sl r l=>rw [show p=_ from h];exact RL.cons rfl RL.nil
 |nil e c=>rw [show p=_ from h];exact RL.cons rfl RL.nil
 |bp t n o=>rw [show p=_ from h];exact RL.cons rfl RL.nil
 |mp t=>rw [show p=_ from h];exact RL.cons rfl RL.nil
 |tup cs=>obtain ⟨ps,rfl,h⟩:=h;exact RL.cons ⟨ps,rfl,h⟩ RL.nil
 |own t ex=>obtain ⟨e,n,rfl,h⟩:=h;exact RL.cons ⟨e,n,rfl,h⟩ RL.nil
 |pre t a b c=>obtain ⟨e,rfl,h⟩:=h;exact RL.cons ⟨e,rfl,h⟩ RL.nil
 |part t o a b c=>obtain ⟨e,rfl,h⟩:=h;exact RL.cons ⟨e,rfl,h⟩ RL.nil
 |pa t r i a o=>obtain ⟨rfl,h⟩:=h;exact RL.cons ⟨rfl,h⟩ RL.nil
 |pb t i o=>obtain ⟨e,rfl,h⟩:=h;exact RL.cons ⟨e,rfl,h⟩ RL.nil
 |rptr cs o=>obtain ⟨ps,rfl,h⟩:=h;exact RL.cons ⟨ps,rfl,h⟩ RL.nil
 |clo f a b=>obtain ⟨pa,pb,rfl,h⟩:=h;exact RL.cons ⟨pa,pb,rfl,h⟩ RL.nil
theorem R.isOne {s:List SB} {v:SV} {p:PV} (h:R s v p) (ho:v.isOne=true):p.isOne=true:=by
 cases v with
 |junk|undef|nul|agg _|tup _=>cases ho
 |nilf|int _ _|bool _|str _|sl _ _|nil _ _|bp _ _ _|mp _=>rw [show p=_ from h];rfl
 |own t ex=>obtain ⟨e,n,rfl,h⟩:=h;rfl
 |pre t a b c=>obtain ⟨e,rfl,h⟩:=h;rfl
 |part t o a b c=>obtain ⟨e,rfl,h⟩:=h;rfl
 |pa t r i a o=>obtain ⟨rfl,h⟩:=h;rfl
 |pb t i o=>obtain ⟨e,rfl,h⟩:=h;rfl
 |rptr cs o=>obtain ⟨ps,rfl,h⟩:=h;rfl
 |clo f a b=>obtain ⟨pa,pb,rfl,h⟩:=h;rfl
theorem RL.allOne {s:List SB}: ∀{cs:List SV} {ps:List PV},RL s cs ps->Vm.allOne cs=true->ps.all PV.isOne=true
 | [],ps,h,_=>by rw [show ps=[] from h];rfl
 |x::xs,ps,h,ho=>by
  obtain ⟨p,q,rfl,h1,h2⟩:=h.cons_inv;simp only [Vm.allOne,ac] at ho;simp only [eu,ac];exact ⟨h1.isOne ho.1,h2.allOne ho.2⟩
theorem R.stored {s:List SB} {v:SV} {p:PV} {w:List SV} (h:R s v p) (hs:v.stored=some w): ∃q,p.stored=some q/\RL s w q:=by
 unfold SV.stored at hs;cases ha:Vm.allOne v.cells with
 |false=>rw [ha] at hs;cases hs
 |true=>
  rw [ha] at hs;injection hs with hs;subst hs;have hj:v≠ .junk:=by intro e;subst e;cases ha
  have hc:=h.cells hj;exact ⟨p.cells,by unfold PV.stored;rw [if_pos (hc.allOne ha)],hc⟩
theorem R.ofRow {s:List SB} {v:SV} {p:PV} {r:List PT} {a:RT r} (h:R s v p) (hr:RT.of r v.cells=some a):p.storedPlain=some (RT.pv r a)/\v.cells.length=r.length:=by
 have hc:=RT.of_some hr;have hl:v.cells.length=r.length:=by rw [hc,RT.sv_len]
 refine ⟨?_,hl⟩;have hj:v≠ .junk:=by
  intro e;subst e;cases r with
  |nil=>simp [SV.cells,RT.of] at hr
  |cons p q=>cases q with
   |nil=>cases p<;>simp [SV.cells,RT.of,PT.of] at hr
   |cons _ _=>simp only [SV.cells,RT.of] at hr;split at hr<;>cases hr<;>(rename_i x y h1 h2;simp at h2)
 have h1:=h.cells hj;rw [hc] at h1;have h2:=GH r a h1;unfold PV.storedPlain;rw [h2,if_pos (RT.plain r a)]
theorem AD {s:List SB} {agg:Option Nat} {off:Nat} {cs:List SV} {ps:List PV} {v:SV} (h:RL s cs ps) (hp:G6 agg off cs=some v): ∃p,part agg off ps=some p/\R s v p:=by
 cases agg with
 |none=>
  obtain ⟨p,h1,h2⟩:=h.nth hp;exact ⟨p,h1,h2⟩
 |some n=>
  simp only [G6] at hp;cases hb:ay (off+n) cs.length with
  |false=>rw [hb] at hp;cases hp
  |true=>
   rw [hb] at hp;injection hp with hp;subst hp
   have:off+n<=ps.length:=by rw [h.length];exact au hb
   exact ⟨.agg ((ps.drop off).take n),by simp only [part,if_pos this],_,rfl,(h.drop off).take n⟩
theorem GI {s:List SB} {off:Nat} {new old:List SV} {pn po:List PV} (h:RL s new pn) (k:RL s old po):RL s (uL off new old) (sZ off pn po):=by
 unfold uL sZ;rw [h.length];exact ((k.take off).append h).append (k.drop _)
theorem aBS {s:List SB} {ps:cX} {v:SV} {p:PV} {r:List PT} {l:List (RT r)} (hs:cZ s ps) (h:R s v p) (hc:G7 s v=some ⟨r,l⟩):
 rJ ps r.length p=some (l.map (RT.pv r))/\kM p=CX v:=by
 cases v with
 |sl q m=>
  have hc':(⟨q,m⟩:Rows)=⟨r,l⟩:=by injection hc
  cases hc';rw [show p=_ from h];refine ⟨?_,rfl⟩;cases l with
  |nil=>rfl
  |cons a l=>simp [rJ]
 |own t ex=>
  simp only [G7,cN] at hc;split at hc
  · rename_i q m hst
    have hc':(⟨q,m⟩:Rows)=⟨r,l⟩:=by injection hc
    cases hc';obtain ⟨e,n,rfl,hat⟩:=h;rcases hat with ⟨q',m',h1,rfl,rfl⟩|h1
    · rw [hst] at h1
      injection h1 with h1;cases h1;obtain ⟨b,h2,h3⟩:=hs.at_ t _ hst;rw [show b=_ from h3] at h2;refine ⟨?_,rfl⟩;simp only [rJ,bn,if_true,h2,ce];rw [cd (by simp)]
    rw [hst] at h1;cases h1
  cases hc
 |pre t len cap ex=>
  simp only [G7,cN] at hc;split at hc
  · rename_i q m hst
    have hc':(⟨q,m.take len⟩:Rows)=⟨r,l⟩:=by injection hc
    cases hc';obtain ⟨e,rfl,hat⟩:=h;rcases hat with ⟨q',m',h1,rfl⟩|h1
    · rw [hst] at h1
      injection h1 with h1;cases h1;obtain ⟨b,h2,h3⟩:=hs.at_ t _ hst;rw [show b=_ from h3] at h2;refine ⟨?_,rfl⟩;simp only [rJ,bn,if_true,h2];simp
    rw [hst] at h1;cases h1
  cases hc
 |part t off len cap ex=>
  simp only [G7,cN] at hc;split at hc
  · rename_i q m hst
    have hc':(⟨q,(m.drop off).take len⟩:Rows)=⟨r,l⟩:=by injection hc
    cases hc';obtain ⟨e,rfl,hat⟩:=h;rcases hat with ⟨q',m',h1,rfl⟩|h1
    · rw [hst] at h1
      injection h1 with h1;cases h1;obtain ⟨b,h2,h3⟩:=hs.at_ t _ hst;rw [show b=_ from h3] at h2;refine ⟨?_,rfl⟩;simp only [rJ,bn,if_true,h2];simp
    rw [hst] at h1;cases h1
  cases hc
 |_=>cases hc
end Go.Vm
/- Operation by operation: what the typed machine does, the logical machine does; the easy ones. -/
namespace Go.Vm
structure jQ (s:List SB) (ps:cX) (sr:iA) (pr:sU):Prop where
 rd:pr.rd=sr.rd
 fr:pr.fr=sr.fr
 wr:pr.wr.map (·.1)=E3 sr.wr
 nw:CN pr.wr=true
 nl:pr.news.length=sr.news.length
 sto:cZ (sr.stoOf s) (Z9 (iN pr.wr ps) pr.news)
 v:R (sr.stoOf s) sr.v pr.v
 fra:Fr (E3 sr.wr) s (sr.stoOf s)
section
variable {s : List SB} {ps : cX}
theorem jQ.val (hS:cZ s ps) {v:SV} {p:PV} {rd fr:List Nat} (hv:R s v p):jQ s ps {v,rd,fr} {v:=p,rd,fr} where
 rd:=rfl
 fr:=rfl
 wr:=rfl
 nw:=rfl
 nl:=rfl
 sto:=by simp only [iA.stoOf,pK,bv,iN,Z9];exact hS
 v:=by simp only [iA.stoOf,pK,bv];exact hv
 fra:=by simp only [iA.stoOf,pK,bv];exact Fr.refl _ _
theorem jQ.news (hS:cZ s ps) {v:SV} {p:PV} {l:List SB} {q:cX} {rd:List Nat} (hl:q.length=l.length) (hb: ∀(j:Nat) (b:SB),l[j]? =some b-> ∃x,q[j]? =some x/\RB (s++l) b x) (hv:R (s++l) v p):
 jQ s ps {v,news:=l,rd} {v:=p,news:=q,rd} where
 rd:=rfl
 fr:=rfl
 wr:=rfl
 nw:=rfl
 nl:=hl
 sto:=by simp only [iA.stoOf,pK,iN,xH];exact hS.app hl hb
 v:=by simp only [iA.stoOf,pK];exact hv
 fra:=by simp only [iA.stoOf,pK];exact Fr.app _ _ _
theorem jQ.new (hS:cZ s ps) {v:SV} {p:PV} {b:SB} {q:mJ} {rd:List Nat} (hb:RB (s++[b]) b q) (hv:R (s++[b]) v p):jQ s ps {v,news:=[b],rd} {v:=p,news:=[q],rd}:=
 jQ.news hS rfl (fun j x h=>by
  cases j with
  |zero=>simp at h;subst h;exact ⟨q,rfl,hb⟩
  |succ j=>simp at h) hv
def aBT (b0 b:SB):Prop:=
 match b0 with
 | .arr r l=>(∃l',b= .arr r l'/\l'.length=l.length)\/b= .dead
 | .dead=>b= .dead
 |_=>True
theorem Fr.set {t:Nat} {b0 b:SB} (h0:s[t]? =some b0) (hk:aBT b0 b):Fr [t] s (s.set t b):=fun u x hu=>by
 by_cases hut:t=u
 · subst hut
   rw [h0] at hu;injection hu with hu;subst hu;have hlt:=(ae.1 h0).1;have hb:(s.set t b)[t]? =some b:=by simp [hlt]
   cases b0 with
   |arr r l=>
    rcases hk with ⟨l',rfl,hl⟩|rfl
    · exact .inl ⟨l',hb,hl,fun h=>by simp [has] at h⟩
    exact .inr hb
   |dead=>rw [show b= .dead from hk] at hb ⊢;exact hb
   |_=>trivial
 have hb:(s.set t b)[u]? =some x:=by rw [ao];simp [hut,hu]
 cases x with
 |arr r l=>exact .inl ⟨l,hb,rfl,fun _=>rfl⟩
 |dead=>exact hb
 |_=>trivial
theorem cZ.put (hS:cZ s ps) {t:Nat} {b0 b:SB} {q:mJ} (h0:s[t]? =some b0) (hk:aBT b0 b) (hq:RB (LG [t] (s.set t b)) (dgB [t] b) q):cZ (LG [t] (s.set t b)) (ps.set t q) where
 len:=by simp [GG,hS.len]
 at_:=fun u x hu=>by
  have hlt:=(ae.1 h0).1;rw [CZ] at hu
  by_cases hut:t=u
  · subst hut
    have hb:(s.set t b)[t]? =some b:=by simp [hlt]
    rw [hb] at hu;simp at hu;subst hu;exact ⟨q,by rw [ao];simp [hS.len,hlt],hq⟩
  rw [ao] at hu
  simp only [hut,if_false,bi] at hu;obtain ⟨y,hy,rfl⟩:=hu;obtain ⟨q',h1,h2⟩:=hS.at_ u y hy;exact ⟨q',by rw [ao];simp [hut,h1],h2.fr (Fr.dg (Fr.set h0 hk))⟩
theorem jQ.put (hS:cZ s ps) {v:SV} {p:PV} {t:Nat} {b0 b:SB} {q:mJ} {l:List SB} {ql:cX} {rd:List Nat} (h0:s[t]? =some b0) (hk:aBT b0 b) (hq:RB (LG [t] (s.set t b)) (dgB [t] b) q)
 (hl:ql.length=l.length) (hb: ∀(j:Nat) (x:SB),l[j]? =some x-> ∃y,ql[j]? =some y/\RB (LG [t] (s.set t b)++l) x y) (hv:R (LG [t] (s.set t b)++l) v p):
 jQ s ps {v,wr:=[(t,b)],news:=l,rd} {v:=p,wr:=[(t,q)],news:=ql,rd} where
 rd:=rfl
 fr:=rfl
 wr:=rfl
 nw:=rfl
 nl:=hl
 sto:=by
  simp only [iA.stoOf,pK,iN,xH,E3,wR,JR];exact (hS.put h0 hk hq).app hl hb
 v:=by simp only [iA.stoOf,pK,E3,wR,JR];exact hv
 fra:=by
  simp only [iA.stoOf,pK,E3,wR,JR];exact (Fr.dg (Fr.set h0 hk)).trans (Fr.app _ _ _)
theorem jQ.put0 (hS:cZ s ps) {t:Nat} {b0 b:SB} {q:mJ} {rd:List Nat} (h0:s[t]? =some b0) (hk:aBT b0 b) (hq:RB (LG [t] (s.set t b)) (dgB [t] b) q):
 jQ s ps {v:= .undef,wr:=[(t,b)],rd} {v:= .undef,wr:=[(t,q)],rd}:=
 jQ.put hS h0 hk hq rfl (fun j x h=>by simp at h) rfl
end
section
variable {R' ρ : Type} {w : R' -> ρ} {y : ρ}
theorem bX {α:Type} {x:Option α} {k:α->jC R'} (h:oG x k ρ w=some y): ∃a,x=some a/\k a ρ w=some y:=by
 cases x with
 |none=>cases h
 |some a=>exact ⟨a,rfl,h⟩
theorem dJ {α:Type} {x:Option α} {k:α->jC R'} (h:oF x k ρ w=some y): ∃a,x=some a/\k a ρ w=some y:=aAo h
theorem gD {c:Bool} {a b:jC R'} (h:iR c a b ρ w=some y):(c=true/\a ρ w=some y)\/(c=false/\b ρ w=some y):=aAp h
theorem dG {c:Bool} {a:jC R'} (h:(bif c then a else aQ) ρ w=some y):c=true/\a ρ w=some y:=by
 cases c
 · cases h
 exact ⟨rfl,h⟩
theorem xW {c:Bool} {a:jC R'} (h:(bif c then aQ else a) ρ w=some y):c=false/\a ρ w=some y:=by
 cases c
 · exact ⟨rfl,h⟩
 cases h
theorem jX {c:Bool} {a:jC R'} (h:iR c a aQ ρ w=some y):c=true/\a ρ w=some y:=by
 rcases gD h with ⟨h1,h2⟩|⟨_,h2⟩
 · exact ⟨h1,h2⟩
 cases h2
theorem C0 {c:Bool} {a:jC R'} (h:iR c aQ a ρ w=some y):c=false/\a ρ w=some y:=by
 rcases gD h with ⟨_,h2⟩|⟨h1,h2⟩
 · cases h2
 exact ⟨h1,h2⟩
end
def jD {R':Type} (s:List SB) (ps:cX) (po:Option sU) (k:iA->jC R') (ρ:Type) (w:R'->ρ) (y:ρ):Prop:=
 ∃sr pr,po=some pr/\jQ s ps sr pr/\k sr ρ w=some y
section
variable {R' ρ : Type} {w : R' -> ρ} {y : ρ} {s : List SB} {ps : cX} {e : SE} {pe : zO} {z : List Nat} {k : iA -> jC R'}
theorem jD.val (hS:cZ s ps) {po:Option sU} {v:SV} {p:PV} (h:k {v} ρ w=some y) (hp:po=some {v:=p}) (hv:R s v p):jD s ps po k ρ w y:=
 ⟨_,_,hp,jQ.val hS hv,h⟩
theorem jD.rd (hS:cZ s ps) {po:Option sU} {v:SV} {p:PV} {rd:List Nat} (h:k {v,rd} ρ w=some y) (hp:po=some {v:=p,rd}) (hv:R s v p):jD s ps po k ρ w y:=
 ⟨_,_,hp,jQ.val hS hv,h⟩
theorem qI (hE:eU s e pe) {x:gW} {a:IntKind} {n:Int} (h:cI e x= .int a n):x.ev pe= .int a n:=by
 have:=eQ hE x;rw [h] at this;exact this
theorem JS (hE:eU s e pe) {x:gW} {b:Bool} (h:cI e x= .bool b):x.ev pe= .bool b:=by
 have:=eQ hE x;rw [h] at this;exact this
theorem aDf (hE:eU s e pe) {x:gW} {v:SV} (h:cI e x=v):R s v (x.ev pe):=by
 have:=eQ hE x;rwa [h] at this
theorem XE (k:IntKind):gG k k=true:=by cases k<;>rfl
theorem aAD (hS:cZ s ps) {op:BinOp} {a:IntKind} {m n:Int} (h:aAs op a m n (ofV k) ρ w=some y): ∃p,V7 op a m n=some p/\jD s ps (some {v:=p}) k ρ w y:=by
 cases op with
 |quo=>
  obtain ⟨h1,h2⟩:=C0 h;have hn:n≠0:=by intro e;subst e;cases h1
  exact ⟨_,by simp only [V7,if_neg hn],jD.val hS h2 rfl rfl⟩
 |rem=>
  obtain ⟨h1,h2⟩:=C0 h;have hn:n≠0:=by intro e;subst e;cases h1
  exact ⟨_,by simp only [V7,if_neg hn],jD.val hS h2 rfl rfl⟩
 |shl=>cases h
 |shr=>cases h
 |_=>exact ⟨_,rfl,jD.val hS h rfl rfl⟩
theorem aGF (hE:eU s e pe) (hS:cZ s ps) {op:BinOp} {a b:gW} (h:pO e s z (.bin op a b) k ρ w=some y):jD s ps (bU pe ps z (.bin op a b)) k ρ w y:=by
 simp only [pO] at h;generalize ha:cI e a=va at h;cases va with
 |int ka m=>
  generalize hb:cI e b=vb at h;cases vb with
  |int kb n=>
   have h1:=qI hE ha;have h2:=qI hE hb;have key:(op≠ .shl)->(op≠ .shr)->(bif gG ka kb then aAs op ka m n (ofV k) else aQ) ρ w=some y->jD s ps (bU pe ps z (.bin op a b)) k ρ w y:=by
    intro n1 n2 h;obtain ⟨hk,h⟩:=dG h;obtain ⟨p,hp,hs⟩:=aAD hS h
    have:bU pe ps z (.bin op a b)=some {v:=p}:=by
     simp only [bU,h1,h2];cases op<;>first|exact absurd rfl n1|exact absurd rfl n2|(simp only [aCR,hk,if_true,hp];rfl)
    rw [this];exact hs
   cases op with
   |shl=>
    obtain ⟨hc,h⟩:=C0 h;have hc': ¬n<0:=by simpa using hc
    exact jD.val hS h (by simp only [bU,h1,h2,aCR,KW,if_neg hc'];rfl) rfl
   |shr=>
    obtain ⟨hc,h⟩:=C0 h;have hc': ¬n<0:=by simpa using hc
    exact jD.val hS h (by simp only [bU,h1,h2,aCR,KW,if_neg hc'];rfl) rfl
   |_=>exact key (by intro e;cases e) (by intro e;cases e) h
  |_=>cases h
 |_=>cases h
theorem aEF (hE:eU s e pe) (hS:cZ s ps) {neg:Bool} {a b:gW} (h:pO e s z (.binb neg a b) k ρ w=some y):jD s ps (bU pe ps z (.binb neg a b)) k ρ w y:=by
 simp only [pO] at h;generalize ha:cI e a=va at h;cases va with
 |bool x=>
  generalize hb:cI e b=vb at h;cases vb with
  |bool x'=>
   refine jD.val hS h ?_ rfl;simp only [bU,JS hE ha,JS hE hb];cases neg<;>rfl
  |_=>cases h
 |_=>cases h
theorem aEG: ∀{xs ys:List SV} {ps qs:List PV} {r:Bool},RL s xs ps->RL s ys qs->eqS xs ys=some r->eD ps qs=some r
 | [],[],ps,qs,r,h1,h2,h=>by rw [show ps=[] from h1,show qs=[] from h2];exact h
 |x::xs,b::ys,ps,qs,r,h1,h2,h=>by
  obtain ⟨p,ps,rfl,a1,a2⟩:=h1.cons_inv;obtain ⟨q,qs,rfl,b1,b2⟩:=h2.cons_inv;simp only [eqS] at h;split at h
  · rename_i ka m kb n
    have a1':p= .int ka m:=a1;have b1':q= .int kb n:=b1;subst a1' b1';cases hk:gG ka kb with
    |false=>rw [hk] at h;cases h
    |true=>
     rw [hk] at h;have hc:wN (.int ka m) (.int kb n)=some (m==n):=by simp only [wN,hk,if_true]
     simp only [eD,hc];cases xs with
     |nil=>
      cases ys with
      |nil=>
       simp only [cond_true,aq] at h;subst h;rw [show ps=[] from a2,show qs=[] from b2];cases m==n<;>rfl
      |cons _ _=>cases h
     |cons x2 xs2=>
      simp only [cond_true] at h;split at h
      · rename_i r' hr
        injection h with h;subst h;rw [aEG a2 b2 hr];cases m==n<;>rfl
      cases h
  cases h
 | [],_::_,ps,qs,r,h1,h2,h=>by cases h
 |_::_,[],ps,qs,r,h1,h2,h=>by cases h
theorem aGG (hE:eU s e pe) (hS:cZ s ps) {n:Nat} {neg:Bool} {a b:gW} (h:pO e s z (.eqc n neg a b) k ρ w=some y):jD s ps (bU pe ps z (.eqc n neg a b)) k ρ w y:=by
 simp only [pO] at h;generalize ha:cI e a=va at h;cases va with
 |agg xs=>
  generalize hb:cI e b=vb at h;cases vb with
  |agg ys=>
   obtain ⟨hl,h⟩:=dG h;obtain ⟨r,hr,h⟩:=bX h;obtain ⟨p,hp,h1⟩:=aDf hE ha;obtain ⟨q,hq,h2⟩:=aDf hE hb;refine jD.val hS h ?_ rfl;simp only [bU,hp,hq,h1.length,h2.length];rw [if_pos hl,aEG h1 h2 hr];cases neg<;>rfl
  |_=>cases h
 |_=>cases h
theorem aOa (hE:eU s e pe) (hS:cZ s ps) {op:UnOp} {a:gW} (h:pO e s z (.un op a) k ρ w=some y):jD s ps (bU pe ps z (.un op a)) k ρ w y:=by
 simp only [pO] at h;cases op with
 |neg=>
  dsimp only at h;generalize ha:cI e a=va at h;cases va with
  |int ka n=>exact jD.val hS h (by simp only [bU,qI hE ha];rfl) rfl
  |_=>cases h
 |not=>
  dsimp only at h;generalize ha:cI e a=va at h;cases va with
  |bool b=>exact jD.val hS h (by simp only [bU,JS hE ha];rfl) rfl
  |_=>cases h
 |_=>cases h
theorem aEH (hE:eU s e pe) (hS:cZ s ps) {a:IntKind} {x:gW} (h:pO e s z (.conv a x) k ρ w=some y):jD s ps (bU pe ps z (.conv a x)) k ρ w y:=by
 simp only [pO] at h;generalize ha:cI e x=va at h;cases va with
 |int ka n=>exact jD.val hS h (by simp only [bU,qI hE ha]) rfl
 |_=>cases h
theorem aGH (hE:eU s e pe) (hS:cZ s ps) {x:gW} (h:pO e s z (.len x) k ρ w=some y):jD s ps (bU pe ps z (.len x)) k ρ w y:=by
 simp only [pO] at h;have hx:=eQ hE x;generalize cI e x=v at h hx;cases v with
 |nil e' c=>exact jD.val hS h (by simp only [bU,show x.ev pe= .sl e' c [] from hx];rfl) rfl
 |pre t len cap ex=>
  obtain ⟨e',hx,_⟩:=hx;exact jD.val hS h (by simp only [bU,hx]) rfl
 |part t off len cap ex=>
  obtain ⟨e',hx,_⟩:=hx;exact jD.val hS h (by simp only [bU,hx]) rfl
 |sl q m=>
  exact jD.val hS h (by simp only [bU,show x.ev pe=_ from hx,az]) rfl
 |own t ex=>
  obtain ⟨c,hc,h⟩:=bX h;simp only [G7,cN] at hc;split at hc
  · rename_i q m hst
    injection hc with hc;subst hc;obtain ⟨e',n,hx,hat⟩:=hx;rcases hat with ⟨q',m',h1,rfl,rfl⟩|h1
    · rw [hst] at h1;injection h1 with h1;cases h1
      exact jD.val hS h (by simp only [bU,hx]) rfl
    rw [hst] at h1;cases h1
  cases hc
 |_=>obtain ⟨c,hc,h⟩:=bX h;cases hc
theorem JT: ∀{l:List (Nat×Nat×SV)} {pl:List (Nat×Nat×PV)} {cs:List SV} {pc:List PV} {r:List SV},
 (pl.length=l.length/\ ∀(j:Nat) (a:Nat×Nat×SV),l[j]? =some a-> ∃b,pl[j]? =some (a.1,a.2.1,b)/\R s a.2.2 b)->RL s cs pc->CY l cs=some r-> ∃q,qP pl pc=some q/\RL s r q
 | [],pl,cs,pc,r,hl,hc,h=>by
  have:pl=[]:=cb.1 hl.1
  subst this;injection h with h;subst h;exact ⟨pc,rfl,hc⟩
 |(off,sz,v)::l,pl,cs,pc,r,hl,hc,h=>by
  cases pl with
  |nil=>simp at hl
  |cons p pl=>
   obtain ⟨b,h1,h2⟩:=hl.2 0 _ rfl;simp at h1;subst h1;simp only [CY] at h;split at h
   · rename_i w hw
     obtain ⟨q,hq,hqr⟩:=h2.stored hw;cases hcnd:(bw w.length sz&&ay (off+sz) cs.length) with
     |false=>rw [hcnd] at h;cases h
     |true=>
      rw [hcnd] at h;simp only [cond_true] at h;obtain ⟨q2,h3,h4⟩:=JT (pl:=pl) ⟨by simpa using hl.1,fun j a ha=>hl.2 (j+1) a (by simpa using ha)⟩ (GI hqr hc) h
      refine ⟨q2,?_,h4⟩;simp only [qP,hq,hqr.length,hc.length];rw [if_pos hcnd];exact h3
   cases h
theorem XF (hE:eU s e pe): ∀(l:List (Nat×Nat×gW)),((l.map fun p=>(p.1,p.2.1,p.2.2.ev pe)).length=(E1 e l).length/\ ∀(j:Nat) (a:Nat×Nat×SV),(E1 e l)[j]? =some a-> ∃b,(l.map fun p=>(p.1,p.2.1,p.2.2.ev pe))[j]? =some (a.1,a.2.1,b)/\R s a.2.2 b)
 | []=>⟨rfl,fun j a h=>by simp [E1] at h⟩
 |p::l=>by
  obtain ⟨h1,h2⟩:=XF hE l;refine ⟨by simp [E1] at h1 ⊢;omega,fun j a h=>?_⟩
  cases j with
  |zero=>simp [E1] at h;subst h;exact ⟨_,rfl,eQ hE _⟩
  |succ j=>simp only [E1,cf] at h;obtain ⟨b,h3,h4⟩:=h2 j a h;exact ⟨b,by simpa using h3,h4⟩
theorem aDg (hE:eU s e pe) (hS:cZ s ps) {zero:List PV} {parts:List (Nat×Nat×gW)} (h:pO e s z (.build zero parts) k ρ w=some y):jD s ps (bU pe ps z (.build zero parts)) k ρ w y:=by
 simp only [pO] at h;obtain ⟨cs,hc,h⟩:=bX h;obtain ⟨q,hq,hr⟩:=JT (XF hE parts) (ofPVL_R s zero) hc;exact jD.val hS h (by simp only [bU,hq];rfl) ⟨q,rfl,hr⟩
theorem aGI (hE:eU s e pe) (hS:cZ s ps) {x:gW} (h:pO e s z (.box x) k ρ w=some y):jD s ps (bU pe ps z (.box x)) k ρ w y:=by
 simp only [pO] at h;obtain ⟨cs,hc,h⟩:=bX h;obtain ⟨q,hq,hr⟩:=(eQ hE x).stored hc;refine ⟨_,_,?_,jQ.new hS (b:= .box cs) (q:= .box q) (v:= .bp s.length cs.length 0) (p:= .ptr s.length cs.length 0 0) (rd:=[]) ⟨q,rfl,hr.ext (Fr.app _ _ _)⟩ rfl,h⟩;simp only [bU,hq,hS.len,hr.length]
theorem aDh (hS:cZ s ps) {cells:List PV} (h:pO e s z (.alloc cells) k ρ w=some y):jD s ps (bU pe ps z (.alloc cells)) k ρ w y:=by
 simp only [pO] at h;refine ⟨_,_,?_,jQ.new hS (b:= .box (ofPVL cells)) (q:= .box cells) (v:= .bp s.length cells.length 0) (p:= .ptr s.length cells.length 0 0) (rd:=[]) ⟨cells,rfl,ofPVL_R _ _⟩ rfl,h⟩;simp only [bU,hS.len]
theorem aEI (hE:eU s e pe) (hS:cZ s ps) {x:gW} (h:pO e s z (.nilc x) k ρ w=some y):jD s ps (bU pe ps z (.nilc x)) k ρ w y:=by
 simp only [pO] at h;have hx:=eQ hE x;generalize cI e x=v at h hx;cases v with
 |pa t r i a o=>exact jD.val hS h (by simp only [bU,hx.1]) ⟨rfl,hx.2⟩
 |pb t i o=>
  obtain ⟨e',h1,h2⟩:=hx;exact jD.val hS h (by simp only [bU,h1]) ⟨e',rfl,h2⟩
 |bp t n o=>exact jD.val hS h (by simp only [bU,show x.ev pe=_ from hx]) rfl
 |rptr c o=>
  obtain ⟨q,h1,h2⟩:=hx;exact jD.val hS h (by simp only [bU,h1]) ⟨q,rfl,h2⟩
 |clo f a b=>
  obtain ⟨pa,pb,h1,h2⟩:=hx;exact jD.val hS h (by simp only [bU,h1]) ⟨pa,pb,rfl,h2⟩
 |_=>cases h
theorem aEJ (hE:eU s e pe) (hS:cZ s ps) {off:Nat} {x:gW} (h:pO e s z (.fadr off x) k ρ w=some y):jD s ps (bU pe ps z (.fadr off x)) k ρ w y:=by
 simp only [pO] at h;have hx:=eQ hE x;generalize cI e x=v at h hx;cases v with
 |pa t r i a o=>exact jD.val hS h (by simp only [bU,hx.1]) ⟨rfl,hx.2⟩
 |pb t i o=>
  obtain ⟨e',h1,h2⟩:=hx;exact jD.val hS h (by simp only [bU,h1]) ⟨e',rfl,h2⟩
 |bp t n o=>exact jD.val hS h (by simp only [bU,show x.ev pe=_ from hx]) rfl
 |rptr c o=>
  obtain ⟨q,h1,h2⟩:=hx;exact jD.val hS h (by simp only [bU,h1]) ⟨q,rfl,h2⟩
 |_=>cases h
theorem aGJ (hE:eU s e pe) (hS:cZ s ps) {agg:Option Nat} {off:Nat} {x:gW} (h:pO e s z (.fld agg off x) k ρ w=some y):jD s ps (bU pe ps z (.fld agg off x)) k ρ w y:=by
 simp only [pO] at h;generalize hv:cI e x=v at h;cases v with
 |agg cs=>
  obtain ⟨v,h1,h⟩:=bX h;obtain ⟨q,h2,h3⟩:=aDf hE hv;obtain ⟨p,h4,h5⟩:=AD h3 h1;exact jD.val hS h (by simp only [bU,h2,h4];rfl) h5
 |_=>cases h
theorem aGK (hE:eU s e pe) (hS:cZ s ps) {i:Nat} {x:gW} (h:pO e s z (.ext i x) k ρ w=some y):jD s ps (bU pe ps z (.ext i x)) k ρ w y:=by
 simp only [pO] at h;generalize hv:cI e x=v at h;cases v with
 |tup cs=>
  obtain ⟨v,h1,h⟩:=bX h;obtain ⟨q,h2,h3⟩:=aDf hE hv;obtain ⟨p,h4,h5⟩:=h3.nth h1;exact jD.val hS h (by simp only [bU,h2,h4];rfl) h5
 |_=>cases h
theorem aGL (hE:eU s e pe) (hS:cZ s ps) {f:FuncId} {a b:List gW} (h:pO e s z (.mkf f a b) k ρ w=some y):jD s ps (bU pe ps z (.mkf f a b)) k ρ w y:=by
 simp only [pO] at h;exact jD.val hS h rfl ⟨_,_,rfl,GF hE a,GF hE b⟩
theorem aGM (hS:cZ s ps) {m:Option PV} (h:pO e s z (.mkm m) k ρ w=some y):jD s ps (bU pe ps z (.mkm m)) k ρ w y:=by
 simp only [pO] at h;cases m with
 |none=>
  refine ⟨_,_,?_,jQ.new hS (b:= .set []) (q:= .map []) (v:= .mp s.length) (p:= .mp s.length) (rd:=[]) rfl rfl,h⟩;simp only [bU,hS.len]
 |some m=>
  obtain ⟨p,_,h⟩:=bX h;refine ⟨_,_,?_,jQ.new hS (b:= .tab p []) (q:= .map []) (v:= .mp s.length) (p:= .mp s.length) (rd:=[]) rfl rfl,h⟩;simp only [bU,hS.len]
theorem aNL: ∀{l:List SV} {q:List PV} {m:Bool} {a:IntKind} {n:Int} {v:SV},RL s l q->mmS m a n l=some v-> ∃p,mmE m a n q=some p/\R s v p
 | [],q,m,a,n,v,hl,h=>by
  rw [show q=[] from hl];injection h with h;subst h;exact ⟨_,rfl,rfl⟩
 |x::l,q,m,a,n,v,hl,h=>by
  obtain ⟨p,q,rfl,h1,h2⟩:=hl.cons_inv;simp only [mmS] at h;split at h
  · rename_i b c
    have h1':p= .int b c:=h1;subst h1';cases hk:gG a b with
    |true=>
     rw [hk] at h;obtain ⟨p,h3,h4⟩:=aNL h2 h;refine ⟨p,?_,h4⟩;simp only [mmE,hk,if_true];rw [<- h3];cases m<;>rfl
    |false=>rw [hk] at h;cases h
  cases h
theorem aOb (hE:eU s e pe) (hS:cZ s ps) {m:Bool} {x:gW} {xs:List gW} (h:pO e s z (.mm m x xs) k ρ w=some y):jD s ps (bU pe ps z (.mm m x xs)) k ρ w y:=by
 simp only [pO] at h;generalize hv:cI e x=v at h;cases v with
 |int a n=>
  obtain ⟨v,h1,h⟩:=bX h;obtain ⟨p,h2,h3⟩:=aNL (GF hE xs) h1;exact jD.val hS h (by simp only [bU,qI hE hv,h2];rfl) h3
 |_=>cases h
theorem aEK (hE:eU s e pe) (hS:cZ s ps) {c a b:gW} (h:pO e s z (.pick c a b) k ρ w=some y):jD s ps (bU pe ps z (.pick c a b)) k ρ w y:=by
 simp only [pO] at h;generalize hv:cI e c=v at h;cases v with
 |bool x=>
  rcases gD h with ⟨rfl,h⟩|⟨rfl,h⟩
  · exact jD.val hS h (by simp only [bU,JS hE hv]) (eQ hE a)
  exact jD.val hS h (by simp only [bU,JS hE hv]) (eQ hE b)
 |_=>cases h
end
end Go.Vm
/- Operation by operation, second part: elements, blocks, slices, sets. -/
namespace Go.Vm
section
variable {R' ρ : Type} {w : R' -> ρ} {y : ρ} {s : List SB} {ps : cX} {e : SE} {pe : zO} {z : List Nat} {k : iA -> jC R'}
theorem cZ.arr (hS:cZ s ps) {t:Nat} {r:List PT} {l:List (RT r)} (h:s[t]? =some (.arr r l)):ps[t]? =some (.arr r.length (l.map (RT.pv r))):=by
 obtain ⟨q,h1,h2⟩:=hS.at_ t _ h;rw [show q=_ from h2] at h1;exact h1
theorem cZ.box (hS:cZ s ps) {t:Nat} {cs:List SV} (h:s[t]? =some (.box cs)): ∃q,ps[t]? =some (.box q)/\RL s cs q:=by
 obtain ⟨q,h1,q',rfl,h2⟩:=hS.at_ t _ h;exact ⟨q',h1,h2⟩
theorem cZ.set_ (hS:cZ s ps) {t:Nat} {l:List (List Int)} (h:s[t]? =some (.set l)):ps[t]? =some (.map (l.map JQ)):=by
 obtain ⟨q,h1,h2⟩:=hS.at_ t _ h;rw [show q=_ from h2] at h1;exact h1
theorem cZ.tab_ (hS:cZ s ps) {t:Nat} {p:PT} {l:List (RT [.i .i64,p])} (h:s[t]? =some (.tab p l)):ps[t]? =some (.map (l.map (M9 p))):=by
 obtain ⟨q,h1,h2⟩:=hS.at_ t _ h;rw [show q=_ from h2] at h1;exact h1
theorem aED.inv {t e n:Nat} {r:List PT} {l:List (RT r)} (h:aED s t e n) (hs:s[t]? =some (.arr r l)):e=r.length/\n=l.length:=by
 rcases h with ⟨q,m,h1,rfl,rfl⟩|h1
 · rw [hs] at h1;injection h1 with h1;cases h1;exact ⟨rfl,rfl⟩
 rw [hs] at h1;cases h1
theorem HA.inv {t e:Nat} {r:List PT} {l:List (RT r)} (h:HA s t e) (hs:s[t]? =some (.arr r l)):e=r.length:=by
 rcases h with ⟨q,m,h1,rfl⟩|h1
 · rw [hs] at h1;injection h1 with h1;cases h1;rfl
 rw [hs] at h1;cases h1
theorem aEE.inv {t:Nat} {q r:List PT} {i:Int} {a:RT q} {l:List (RT r)} (h:aEE s t q i a) (hs:s[t]? =some (.arr r l)): ∃e:q=r,aL l i=some (e▸a):=by
 rcases h with ⟨m,h1,h2⟩|h1
 · rw [hs] at h1;injection h1 with h1;cases h1;exact ⟨rfl,h2⟩
 rw [hs] at h1;cases h1
theorem aN9.inv {t:Nat} {r:List PT} {i:Int} {l:List (RT r)} (h:aN9 s t i) (hs:s[t]? =some (.arr r l)):(aL l i).isSome=true:=by
 rcases h with ⟨q,m,h1,h2⟩|h1
 · rw [hs] at h1;injection h1 with h1;cases h1;exact h2
 rw [hs] at h1;cases h1
theorem gX {α:Type} {l:List α} {n:Nat} {i:Int} {a:α} (h:aL (l.take n) i=some a): ∃m:Nat,i=cm m/\m<n/\l[m]? =some a:=by
 obtain ⟨m,rfl,hm⟩:=qU h;have hlt:=(ae.1 hm).1;rw [bo] at hlt;have hmn:m<n:=by omega
 rw [am hmn] at hm;exact ⟨m,rfl,hmn,hm⟩
theorem aEL (hE:eU s e pe) (hS:cZ s ps) {esz:Nat} {x i:gW} (h:pO e s z (.iadr esz x i) k ρ w=some y):jD s ps (bU pe ps z (.iadr esz x i)) k ρ w y:=by
 simp only [pO] at h;generalize hi:cI e i=vi at h;cases vi with
 |int ki n=>
  have hi:=qI hE hi;have hx:=eQ hE x;dsimp only at h;unfold aNE at h;generalize cI e x=v at h hx;cases v with
  |sl r l=>
   obtain ⟨he,h⟩:=dG h;obtain ⟨a,ha,hk⟩:=dJ h;obtain ⟨m,rfl,hm⟩:=qU ha;refine jD.val hS (p:= .rptr (RT.pv r a) 0) hk ?_ ⟨_,rfl,SU r a⟩;have hr:(l.map (RT.pv r))[m]? =some (RT.pv r a):=by simp [hm]
   simp only [bU,hi,mL,show x.ev pe=_ from hx,hr,he,if_true]
  |own t ex=>
   simp only [cN] at h;generalize hst:s[t]? =b at h;cases b with
   |none=>cases h
   |some b=>
    cases b with
    |arr r l=>
     obtain ⟨he,h⟩:=dG h;obtain ⟨a,ha,hk⟩:=dJ h;obtain ⟨m,rfl,hm⟩:=qU ha;obtain ⟨e',n',hx,hat⟩:=hx;obtain ⟨rfl,rfl⟩:=hat.inv hst;have hlt:=(ae.1 hm).1;have h1:ek m l.length=true:=by simpa using hlt
     refine jD.val hS (p:= .ptr t r.length m 0) hk ?_ ⟨rfl,.inl ⟨l,hst,ha⟩⟩;simp only [bU,hi,mL,hx,h1,he,bk,if_true,dd]
    |_=>cases h
  |pre t len cap ex=>
   simp only [cN] at h;generalize hst:s[t]? =b at h;cases b with
   |none=>cases h
   |some b=>
    cases b with
    |arr r l=>
     obtain ⟨he,h⟩:=dG h;obtain ⟨a,ha,hk⟩:=dJ h;obtain ⟨m,rfl,hlt,hm⟩:=gX ha;obtain ⟨e',hx,hat⟩:=hx
     have:=hat.inv hst
     subst this;have h1:ek m len=true:=by simpa using hlt
     refine jD.val hS (p:= .ptr t r.length m 0) hk ?_ ⟨rfl,.inl ⟨l,hst,hm⟩⟩;simp only [bU,hi,mL,hx,h1,he,bk,if_true,dd]
    |_=>cases h
  |part t off len cap ex=>
   simp only [cN] at h;generalize hst:s[t]? =b at h;cases b with
   |none=>cases h
   |some b=>
    cases b with
    |arr r l=>
     obtain ⟨he,h⟩:=dG h;obtain ⟨a,ha,hk⟩:=dJ h;obtain ⟨m,rfl,hlt,hm⟩:=gX ha;rw [List.getElem?_drop] at hm;obtain ⟨e',hx,hat⟩:=hx
     have:=hat.inv hst
     subst this;have h1:ek m len=true:=by simpa using hlt
     refine jD.val hS (p:= .ptr t r.length (off+m) 0) hk ?_ ⟨rfl,.inl ⟨l,hst,hm⟩⟩;simp only [bU,hi,mL,hx,h1,he,bk,if_true]
    |_=>cases h
  |_=>cases h
 |_=>cases h
theorem IC {n:Nat} {i:Int} {j:Nat} {f:Nat->jC R'}:W7 n i j f ρ w=some y-> ∃m,i=cm m/\j<=m/\m<j+n/\f m ρ w=some y:=by
 induction n generalizing j with
 |zero=>intro h;cases h
 |succ n ih=>
  intro h;rcases gD h with ⟨h1,h2⟩|⟨_,h2⟩
  · exact ⟨j,by simpa using h1,dy _,by omega,h2⟩
  obtain ⟨m,h3,h4,h5,h6⟩:=ih h2
  exact ⟨m,h3,by omega,by omega,h6⟩
theorem aDi (hE:eU s e pe) (hS:cZ s ps) {n esz:Nat} {p i:gW} (h:pO e s z (.iadra n esz p i) k ρ w=some y):jD s ps (bU pe ps z (.iadra n esz p i)) k ρ w y:=by
 simp only [pO] at h;generalize hi:cI e i=vi at h;cases vi with
 |int ki j=>
  have hi:=qI hE hi;have hx:=eQ hE p;generalize cI e p=v at h hx;cases v with
  |bp t m o=>
   obtain ⟨j',rfl,_,h2,h⟩:=IC h;have h1:ek j' n=true:=by simp;omega
   exact jD.val hS h (by simp only [bU,hi,mL,h1,if_true,show p.ev pe=_ from hx]) rfl
  |rptr c o=>
   obtain ⟨j',rfl,_,h2,h⟩:=IC h;have h1:ek j' n=true:=by simp;omega
   obtain ⟨q,hq,hr⟩:=hx;exact jD.val hS h (by simp only [bU,hi,mL,h1,if_true,hq]) ⟨q,rfl,hr⟩
  |_=>cases h
 |_=>cases h
theorem aGN (hE:eU s e pe) (hS:cZ s ps) {n esz:Nat} {agg:Option Nat} {x i:gW} (h:pO e s z (.idx n esz agg x i) k ρ w=some y):jD s ps (bU pe ps z (.idx n esz agg x i)) k ρ w y:=by
 simp only [pO] at h;generalize hi:cI e i=vi at h;cases vi with
 |int ki j=>
  have hi:=qI hE hi;generalize hx:cI e x=v at h;cases v with
  |agg cs=>
   obtain ⟨j',rfl,_,h2,h⟩:=IC h;have h1:ek j' n=true:=by simp;omega
   obtain ⟨v,hv,h⟩:=bX h;obtain ⟨q,hq,hr⟩:=aDf hE hx;obtain ⟨p,hp,hpr⟩:=AD hr hv;exact jD.val hS h (by simp only [bU,hi,mL,h1,if_true,hq,hp];rfl) hpr
  |_=>cases h
 |_=>cases h
theorem aEM (hE:eU s e pe) (hS:cZ s ps) {x i:gW} (h:pO e s z (.sidx x i) k ρ w=some y):jD s ps (bU pe ps z (.sidx x i)) k ρ w y:=by
 simp only [pO] at h;generalize hi:cI e i=vi at h;cases vi with
 |int ki j=>
  have hi:=qI hE hi;generalize hx:cI e x=v at h;cases v with
  |str t=>
   obtain ⟨b,hb,h⟩:=dJ h;have hx:=aDf hE hx;cases j with
   |negSucc _=>cases hb
   |ofNat m=>
    simp only [xC,bi] at hb;obtain ⟨c,hc,rfl⟩:=hb;exact jD.val hS h (by simp only [bU,hi,mL,show x.ev pe=_ from hx,hc]) rfl
  |_=>cases h
 |_=>cases h
theorem aEN (hE:eU s e pe) (hS:cZ s ps) {agg:Option Nat} {p:gW} (h:pO e s z (.load agg p) k ρ w=some y):jD s ps (bU pe ps z (.load agg p)) k ρ w y:=by
 simp only [pO] at h;have hx:=eQ hE p;unfold aNF at h;generalize cI e p=v at h hx;cases v with
 |bp t n off=>
  simp only [cN] at h;generalize hst:s[t]? =b at h;cases b with
  |none=>cases h
  |some b=>
   cases b with
   |box cs=>
    obtain ⟨v,hv,h⟩:=bX h;obtain ⟨q,h1,h2⟩:=hS.box hst;obtain ⟨u,h3,h4⟩:=AD h2 hv;refine jD.rd hS h ?_ h4;show sV ps agg (p.ev pe)=_;rw [show p.ev pe=_ from hx];simp only [sV,h1,bn,if_true,h3];rfl
   |_=>cases h
 |pa t r i a off=>
  simp only [cN] at h;generalize hst:s[t]? =b at h;cases b with
  |none=>cases h
  |some b=>
   cases b with
   |arr q l=>
    obtain ⟨v,hv,hk⟩:=bX h;obtain ⟨hx,hat⟩:=hx;obtain ⟨rfl,hg⟩:=hat.inv hst;obtain ⟨u,h3,h4⟩:=AD (SU r a) hv;obtain ⟨m,rfl,hm⟩:=qU hg;refine jD.rd hS hk ?_ h4;show sV ps agg (p.ev pe)=_;rw [hx];have hm':(l.map (RT.pv r))[m]? =some (RT.pv r a):=by simp [hm]
    have e1:(cm m).toNat=m:=rfl;simp only [sV,hS.arr hst,e1,hm',h3];rfl
   |_=>cases h
 |pb t i off=>
  simp only [cN] at h;generalize hst:s[t]? =b at h;cases b with
  |none=>cases h
  |some b=>
   cases b with
   |arr r l=>
    obtain ⟨a,ha,h⟩:=dJ h;obtain ⟨v,hv,hk⟩:=bX h;obtain ⟨e',hx,hat⟩:=hx;obtain ⟨u,h3,h4⟩:=AD (SU r a) hv;obtain ⟨m,rfl,hm⟩:=qU ha;refine jD.rd hS hk ?_ h4;show sV ps agg (p.ev pe)=_;rw [hx];have hm':(l.map (RT.pv r))[m]? =some (RT.pv r a):=by simp [hm]
    have e1:(cm m).toNat=m:=rfl;simp only [sV,hS.arr hst,e1,hm',h3];rfl
   |_=>cases h
 |rptr cs off=>
  obtain ⟨v,hv,h⟩:=bX h;obtain ⟨q,hq,hr⟩:=hx;obtain ⟨u,h3,h4⟩:=AD hr hv;refine jD.val hS h ?_ h4;show sV ps agg (p.ev pe)=_;rw [hq];simp only [sV,h3];rfl
 |_=>cases h
theorem UO (hS:cZ s ps) {t:Nat} {r:List PT} {l:List (RT r)} (hst:s[t]? =some (.arr r l)) {i:Int} {b:RT r} {rd:List Nat}:
 jQ s ps {v:= .undef,wr:=[(t,.arr r (cL l i b))],rd} {v:= .undef,wr:=[(t,.arr r.length ((l.map (RT.pv r)).set i.toNat (RT.pv r b)))],rd}:=
 jQ.put0 hS hst (.inl ⟨_,rfl,by simp⟩) (by show _=_;simp [cL,ff])
theorem aDj (hE:eU s e pe) (hS:cZ s ps) {sz:Nat} {p x:gW} (h:pO e s z (.store sz p x) k ρ w=some y):jD s ps (bU pe ps z (.store sz p x)) k ρ w y:=by
 simp only [pO] at h;have hx:=eQ hE p;have hv:=eQ hE x;unfold aEq at h;generalize cI e p=v at h hx;generalize cI e x=u at h hv;cases v with
 |bp t n off=>
  simp only [cN] at h;generalize hst:s[t]? =b at h;cases b with
  |none=>cases h
  |some b=>
   cases b with
   |box cs=>
    obtain ⟨w',hw,h⟩:=bX h;obtain ⟨hc,h⟩:=dG h;obtain ⟨q,h1,h2⟩:=hv.stored hw;obtain ⟨b,h3,h4⟩:=hS.box hst;have hfr:=Fr.dg (ts:=[t]) (Fr.set (b:= .box (uL off w' cs)) hst trivial);refine ⟨_,_,?_,jQ.put0 hS (b:= .box (uL off w' cs)) (q:= .box (sZ off q b)) (rd:=[]) hst trivial ⟨_,rfl,RL.fr hfr (GI h2 h4)⟩,h⟩
    show yA ps z sz (x.ev pe) (p.ev pe)=_
    rw [show p.ev pe=_ from hx];simp only [yA,h3,h1,h2.length,h4.length];rw [if_pos (by simpa using hc)]
   |_=>cases h
 |pa t r i a off=>
  simp only [cN] at h;generalize hst:s[t]? =b at h;cases b with
  |none=>cases h
  |some b=>
   cases b with
   |arr q l=>
    obtain ⟨hc,h⟩:=dG h;obtain ⟨a',ha',hk⟩:=bX h;obtain ⟨hx,hat⟩:=hx;obtain ⟨rfl,hg⟩:=hat.inv hst;obtain ⟨m,rfl,hm⟩:=qU hg;refine ⟨_,_,?_,UO hS hst (rd:=[]),hk⟩;show yA ps z sz (x.ev pe) (p.ev pe)=_;rw [hx];have hm':(l.map (RT.pv r))[m]? =some (RT.pv r a):=by simp [hm]
    have e1:(cm m).toNat=m:=rfl;simp only [ac,be] at hc;obtain ⟨⟨c1,c2⟩,c3⟩:=hc;have hj:u≠ .junk:=by
     intro e;subst e
     have:=RT.of_some ha'
     have hq:=congrArg (fun l=>l[off]?) this
     have hle:=au c2;have hsz:sz=1:=by have:=aa c1;simpa [SV.cells] using this.symm
     have hlt:off<r.length:=by omega
     have hl1:off<(RT.sv r a).length:=by rw [RT.sv_len];exact hlt
     simp only [uL,SV.cells] at hq;rw [af (by simp;omega),ai (by simp;omega)] at hq
     simp only [bo,ef (fg hl1),fy,d7] at hq
     have: ∀(r:List PT) (b:RT r) (n:Nat),(RT.sv r b)[n]?≠some .junk:=by
      intro r
      induction r with
      |nil=>intro b n h;simp [RT.sv] at h
      |cons p rest ih=>
       intro b n;cases rest with
       |nil=>cases n<;>cases p<;>simp [RT.sv,PT.sv]
       |cons p2 rest2=>cases n with
        |zero=>cases p<;>simp [RT.sv,PT.sv]
        |succ n=>simpa [RT.sv] using ih b.2 n
     exact this r a' off hq.symm
    have hcells:=hv.cells hj;have hrow:=RT.of_some ha';have h5:RL s (RT.sv r a') (sZ off (x.ev pe).cells (RT.pv r a)):=by
     rw [<- hrow];exact GI hcells (SU r a)
    have h6:=GH r a' h5;have hplain:(x.ev pe).storedPlain=some (x.ev pe).cells:=by
     unfold PV.storedPlain;rw [if_pos ?_];have hall:=RT.plain r a';rw [<- h6] at hall;unfold sZ at hall;simp only [fu,ac] at hall;exact hall.1.2
    simp only [yA,hS.arr hst,e1,hm',hplain,hcells.length,RT.pv_len];rw [if_pos (by simp [c1,c2,c3])]
    simp only [h6]
   |_=>cases h
 |pb t i off=>
  simp only [cN] at h;generalize hst:s[t]? =b at h;cases b with
  |none=>cases h
  |some b=>
   cases b with
   |arr r l=>
    obtain ⟨hc,h⟩:=dG h;obtain ⟨e',hx,hat⟩:=hx;have hin:=hat.inv hst;rw [d6] at hin;obtain ⟨a0,hg⟩:=hin;obtain ⟨m,rfl,hm⟩:=qU hg;have hm':(l.map (RT.pv r))[m]? =some (RT.pv r a0):=by simp [hm]
    have e1:(cm m).toNat=m:=rfl;simp only [ac,be] at hc;obtain ⟨⟨c1,c2⟩,c3⟩:=hc;cases hsz:bw sz r.length with
    |true=>
     rw [hsz] at h;obtain ⟨a',ha',hk⟩:=bX h;obtain ⟨hp,hl⟩:=hv.ofRow ha';have hszr:=aa hsz;have hoff:off=0:=by have:=au c2;omega
     subst hoff;refine ⟨_,_,?_,UO hS hst (rd:=[]),hk⟩;show yA ps z sz (x.ev pe) (p.ev pe)=_;rw [hx];simp only [yA,hS.arr hst,e1,hm',hp,RT.pv_len];rw [if_pos (by rw [dd,hszr];simp [c3])]
     have:sZ 0 (RT.pv r a') (RT.pv r a0)=RT.pv r a':=by
      unfold sZ;rw [RT.pv_len,List.drop_of_length_le (by rw [RT.pv_len];omega)];simp
     rw [this]
    |false=>
     rw [hsz] at h;obtain ⟨a,ha,h⟩:=dJ h;obtain ⟨a',ha',hk⟩:=bX h;rw [hg] at ha;injection ha with ha;subst ha;refine ⟨_,_,?_,UO hS hst (rd:=[]),hk⟩;show yA ps z sz (x.ev pe) (p.ev pe)=_;rw [hx];have hj:u≠ .junk:=by
      intro e;subst e
      have:=RT.of_some ha'
      have hq:=congrArg (fun l=>l[off]?) this
      have hle:=au c2;have hsz:sz=1:=by have:=aa c1;simpa [SV.cells] using this.symm
      have hlt:off<r.length:=by omega
      have hl1:off<(RT.sv r a0).length:=by rw [RT.sv_len];exact hlt
      simp only [uL,SV.cells] at hq;rw [af (by simp;omega),ai (by simp;omega)] at hq
      simp only [bo,ef (fg hl1),fy,d7] at hq
      have: ∀(r:List PT) (b:RT r) (n:Nat),(RT.sv r b)[n]?≠some .junk:=by
       intro r
       induction r with
       |nil=>intro b n h;simp [RT.sv] at h
       |cons p rest ih=>
        intro b n;cases rest with
        |nil=>cases n<;>cases p<;>simp [RT.sv,PT.sv]
        |cons p2 rest2=>cases n with
         |zero=>cases p<;>simp [RT.sv,PT.sv]
         |succ n=>simpa [RT.sv] using ih b.2 n
      exact this r a' off hq.symm
     have hcells:=hv.cells hj;have hrow:=RT.of_some ha';have h5:RL s (RT.sv r a') (sZ off (x.ev pe).cells (RT.pv r a0)):=by
      rw [<- hrow];exact GI hcells (SU r a0)
     have h6:=GH r a' h5;have hplain:(x.ev pe).storedPlain=some (x.ev pe).cells:=by
      unfold PV.storedPlain;rw [if_pos ?_];have hall:=RT.plain r a';rw [<- h6] at hall;unfold sZ at hall;simp only [fu,ac] at hall;exact hall.1.2
     simp only [yA,hS.arr hst,e1,hm',hplain,hcells.length,RT.pv_len];rw [if_pos (by simp [c1,c2,c3])]
     simp only [h6]
   |_=>cases h
 |_=>cases h
end
end Go.Vm
/- Operation by operation, third part: slices, new blocks, append, sets; all of them together. -/
namespace Go.Vm
section
variable {R' ρ : Type} {w : R' -> ρ} {y : ρ} {s : List SB} {ps : cX} {e : SE} {pe : zO} {z : List Nat} {k : iA -> jC R'}
def O2 (pe:zO) (o:Option gW):Option (Option Nat):=match o with|none=>some none|some a=>(mL (a.ev pe)).map some
theorem B6 (hE:eU s e pe) {o:Option gW} {d a:Int} {n:Nat} (h:LD e d o=some a) (hd:d=cm n) (h0:0<=a): ∃b,O2 pe o=some b/\b.getD n=a.toNat:=by
 cases o with
 |none=>
  injection h with h;subst h hd;exact ⟨none,rfl,rfl⟩
 |some x=>
  simp only [LD] at h;split at h
  · rename_i ka m hx
    injection h with h;subst h;obtain ⟨b,rfl⟩:=ax h0;refine ⟨some b,?_,rfl⟩;simp only [O2,qI hE hx];rfl
  cases h
theorem ID {esz:Nat} {x:gW} {lo hi mx:Option gW} {l h m:Option Nat} {v:PV} (he:BQ esz (x.ev pe)=true) (h1:O2 pe lo=some l) (h2:O2 pe hi=some h) (h3:O2 pe mx=some m) (hv:wO (x.ev pe) l h m=some v):
 bU pe ps z (.slc esz x lo hi mx)=some {v:=v}:=by
 have e:bU pe ps z (.slc esz x lo hi mx)=(match O2 pe lo,O2 pe hi,O2 pe mx with|some l,some h,some m=>(wO (x.ev pe) l h m).map fun v=>({v}:sU)|_,_,_=>none):=by
  simp only [bU,he,ew,ar,if_false];rfl
 rw [e,h1,h2,h3];simp only [hv];rfl
theorem O3 {α:Type} {l r:List α} {lo hi:Int} (h:iX l lo hi=some r): ∃a b:Nat,lo=cm a/\hi=cm b/\a<=b/\b<=l.length/\r=(l.drop a).take (b-a):=by
 unfold iX at h;split at h
 · rename_i hc
   obtain ⟨a,rfl⟩:=ax hc.1;obtain ⟨b,rfl⟩:=ax (dm hc.1 hc.2.1);injection h with h;exact ⟨a,b,rfl,rfl,by omega,by omega,by rw [<- h];simp⟩
 cases h
theorem UP (hE:eU s e pe) (hS:cZ s ps) {esz t off len cap:Nat} {ex:Bool} {x:gW} {lo hi mx:Option gW} (hx:x.ev pe= .own t esz off len cap ex) (hat:HA s t esz) (h:aAt e t off len cap ex lo hi mx k ρ w=some y):
 jD s ps (bU pe ps z (.slc esz x lo hi mx)) k ρ w y:=by
 unfold aAt at h;obtain ⟨a,ha,h⟩:=bX h;obtain ⟨b,hb,h⟩:=bX h;have he:BQ esz (x.ev pe)=true:=by rw [hx];simp [BQ]
 cases mx with
 |none=>
  obtain ⟨hc,h⟩:=jX h;simp only [ac,decide_eq_true_eq] at hc;obtain ⟨⟨c1,c2⟩,c3⟩:=hc;obtain ⟨l,h1,h2⟩:=B6 hE (n:=0) ha rfl c1;obtain ⟨u,h3,h4⟩:=B6 hE (n:=len) hb rfl (dm c1 c2);refine jD.val hS h (ID he h1 h3 (m:=none) rfl ?_) ⟨esz,rfl,hat⟩;rw [hx];have c4:(ay a.toNat b.toNat&&ay b.toNat cap)=true:=by
   have c3':b<=(cap:Int):=c3
   simp;omega
  simp only [wO,h2,h4,c4,if_true]
 |some mo=>
  dsimp only at h;generalize hm:cI e mo=vm at h;cases vm with
  |int km c=>
   obtain ⟨hc,h⟩:=jX h;simp only [ac,decide_eq_true_eq] at hc;obtain ⟨⟨⟨c1,c2⟩,c3⟩,c4⟩:=hc;obtain ⟨l,h1,h2⟩:=B6 hE (n:=0) ha rfl c1;obtain ⟨u,h3,h4⟩:=B6 hE (n:=len) hb rfl (dm c1 c2);have hc0:0<=c:=dm (dm c1 c2) c3;obtain ⟨c,rfl⟩:=ax hc0
   refine jD.val hS h (ID he h1 h3 (m:=some c) (by simp only [O2,qI hE hm];rfl) ?_) ⟨esz,rfl,hat⟩
   rw [hx];have c5:(ay a.toNat b.toNat&&ay b.toNat c&&ay c cap)=true:=by
    have c4':(c:Int)<=(cap:Int):=c4
    simp;omega
   simp only [wO,h2,h4,c5,if_true];rfl
  |_=>cases h
theorem aGO (hE:eU s e pe) (hS:cZ s ps) {esz:Nat} {x:gW} {lo hi mx:Option gW} (h:pO e s z (.slc esz x lo hi mx) k ρ w=some y):jD s ps (bU pe ps z (.slc esz x lo hi mx)) k ρ w y:=by
 simp only [pO] at h;have hx:=eQ hE x;unfold aT3 at h;generalize cI e x=v at h hx;cases v with
 |sl r l=>
  cases mx with
  |some _=>cases h
  |none=>
   dsimp only at h;obtain ⟨he,h⟩:=dG h;have he:=aa he;obtain ⟨a,ha,h⟩:=bX h;obtain ⟨b,hb,h⟩:=bX h;obtain ⟨m,hm,hk⟩:=dJ h;obtain ⟨n1,n2,rfl,rfl,c1,c2,rfl⟩:=O3 hm;obtain ⟨u1,h1,h2⟩:=B6 hE (n:=0) ha rfl (by simp)
   obtain ⟨u2,h3,h4⟩:=B6 hE (n:=l.length) hb rfl (by simp)
   have hx':x.ev pe= .sl r.length false (l.map (RT.pv r)):=hx;subst he;refine jD.val hS (p:= .sl r.length false ((((l.drop n1).take (n2-n1))).map (RT.pv r))) hk (ID (m:=none) (by rw [hx'];simp [BQ]) h1 h3 rfl ?_) rfl
   rw [hx'];have h2':u1.getD 0=n1:=by rw [h2];rfl
   have h4':u2.getD (l.map (RT.pv r)).length=n2:=by rw [az,h4];rfl
   have c3:(ay n1 n2&&ay n2 (l.map (RT.pv r)).length)=true:=by simp [c1,c2]
   simp only [wO,h2',h4',c3,if_true,Bool.false_and,bz,cz]
 |own t ex=>
  simp only [cN] at h;generalize hst:s[t]? =b at h;cases b with
  |none=>cases h
  |some b=>
   cases b with
   |arr r l=>
    dsimp only at h;obtain ⟨he,hk⟩:=dG h;have he:=aa he;obtain ⟨e',n',hx,hat⟩:=hx;obtain ⟨rfl,rfl⟩:=hat.inv hst;subst he;have hesz:HA s t r.length:= .inl ⟨r,l,hst,rfl⟩;have gen:aAt e t 0 l.length l.length ex lo hi mx k ρ w=some y->jD s ps (bU pe ps z (.slc r.length x lo hi mx)) k ρ w y:=fun h=>UP hE hS hx hesz h
    have he:BQ r.length (x.ev pe)=true:=by rw [hx];simp [BQ]
    cases mx with
    |some m=>cases lo<;>cases hi<;>exact gen hk
    |none=>
     cases lo with
     |some _=>cases hi<;>exact gen hk
     |none=>
      cases hi with
      |none=>
       refine jD.val hS hk (ID (l:=none) (h:=none) (m:=none) he rfl rfl rfl ?_) ⟨r.length,l.length,rfl,hat⟩;rw [hx];simp [wO]
      |some ho=>
       dsimp only at hk;generalize hh:cI e ho=vh at hk;cases vh with
       |int kh b=>
        obtain ⟨m,hm,hk⟩:=dJ hk;obtain ⟨n1,n2,h0,rfl,c1,c2,rfl⟩:=O3 hm;refine jD.val hS hk (ID (l:=none) (h:=some n2) (m:=none) he rfl (by simp only [O2,qI hE hh];rfl) rfl ?_) ⟨r.length,rfl,hesz⟩
        rw [hx];have c3:(ay 0 n2&&ay n2 l.length)=true:=by simp [c2]
        simp only [wO,d8,fo,c3,if_true];rfl
       |_=>cases hk
   |_=>cases h
 |pre t len cap ex=>
  simp only [cN] at h;generalize hst:s[t]? =b at h;cases b with
  |none=>cases h
  |some b=>
   cases b with
   |arr r l=>
    dsimp only at h;obtain ⟨he,hk⟩:=dG h;have he:=aa he;obtain ⟨e',hx,hat⟩:=hx
    have:=hat.inv hst
    subst this;subst he;have gen:aAt e t 0 len cap ex lo hi mx k ρ w=some y->jD s ps (bU pe ps z (.slc r.length x lo hi mx)) k ρ w y:=fun h=>UP hE hS hx hat h
    have he:BQ r.length (x.ev pe)=true:=by rw [hx];simp [BQ]
    cases mx with
    |some m=>cases lo<;>cases hi<;>exact gen hk
    |none=>
     cases lo with
     |some _=>cases hi<;>exact gen hk
     |none=>
      cases hi with
      |none=>
       obtain ⟨hlc,hk⟩:=jX hk;refine jD.val hS hk (ID (l:=none) (h:=none) (m:=none) he rfl rfl rfl ?_) ⟨r.length,rfl,hat⟩;rw [hx];have c3:(ay 0 len&&ay len cap)=true:=by simp [hlc]
       simp only [wO,d8,c3,if_true];simp
      |some ho=>
       dsimp only at hk;generalize hh:cI e ho=vh at hk;cases vh with
       |int kh b=>
        obtain ⟨hc,hk⟩:=jX hk;simp only [ac,decide_eq_true_eq] at hc;obtain ⟨c1,c2⟩:=hc;obtain ⟨b,rfl⟩:=ax c1;refine jD.val hS hk (ID (l:=none) (h:=some b) (m:=none) he rfl (by simp only [O2,qI hE hh];rfl) rfl ?_) ⟨r.length,rfl,hat⟩
        rw [hx];have c3:(ay 0 b&&ay b cap)=true:=by
         have c2':(b:Int)<=(cap:Int):=c2
         simp;omega
        simp only [wO,d8,fo,c3,if_true];rfl
       |_=>cases hk
   |_=>cases h
 |part t off len cap ex=>
  simp only [cN] at h;generalize hst:s[t]? =b at h;cases b with
  |none=>cases h
  |some b=>
   cases b with
   |arr r l=>
    dsimp only at h;obtain ⟨he,hk⟩:=dG h;have he:=aa he;obtain ⟨e',hx,hat⟩:=hx
    have:=hat.inv hst
    subst this;subst he;exact UP hE hS hx hat hk
   |_=>cases h
 |_=>cases h
theorem vN {b:SB}:(s++[b])[s.length]? =some b:=by simp
theorem dB: ∀{v:PV} {p:PT},fT v=some p->p.pv p.zero=v
 | .int k n,p,h=>by
  simp only [fT] at h;split at h
  · injection h with h;subst h;rfl
  cases h
 | .bool b,p,h=>by
  simp only [fT] at h;split at h
  · injection h with h;subst h;rfl
  cases h
 | .undef,_,h| .nul,_,h| .str _,_,h| .agg _,_,h| .tup _,_,h| .sl _ _ _,_,h| .own _ _ _ _ _ _,_,h| .ptr _ _ _ _,_,h| .rptr _ _,_,h| .mp _,_,h| .clo _ _ _,_,h| .nilf,_,h=>by cases h
theorem JU : ∀ {l : List PV} {r : List PT}, OR l = some r -> RT.pv r (RT.zero r) = l
  | [], r, h => by injection h with h; subst h; rfl
  | v :: vs, r, h => by
    simp only [OR] at h
    split at h
    · rename_i p q h1 h2
      injection h with h; subst h
      have e1 := dB h1
      have e2 := JU h2
      cases q with
      | nil =>
        have : vs = [] := by
          cases vs with
          | nil => rfl
          | cons a b => simp only [RT.pv] at e2; cases e2
        subst this
        show [p.pv p.zero] = _
        rw [e1]
      | cons p2 q2 =>
        show p.pv p.zero :: RT.pv (p2 :: q2) (RT.zero (p2 :: q2)) = _
        rw [e1, e2]
    cases h
theorem aGP (hE:eU s e pe) (hS:cZ s ps) {esz:Nat} {zero:rI} {l c:gW} (h:pO e s z (.mks esz zero l c) k ρ w=some y):jD s ps (bU pe ps z (.mks esz zero l c)) k ρ w y:=by
 simp only [pO] at h;generalize hl:cI e l=vl at h;cases vl with
 |int kl n=>
  generalize hc:cI e c=vc at h;cases vc with
  |int kc m=>
   obtain ⟨hnm,h1⟩:=jX h;obtain ⟨r,hr,h2⟩:=bX h1;obtain ⟨he,h3⟩:=dG h2;obtain ⟨x,hx,hk⟩:=dJ h3;have hnm:n=m:=by simpa using hnm
   subst hnm;have he:=aa he;subst he;unfold xB at hx;split at hx
   · rename_i hc2
     injection hx with hx;subst hx;obtain ⟨a,rfl⟩:=ax hc2.1;have h1:(ay a a&&ay a most)=true:=by simp [most];omega
     refine ⟨_,_,?_,jQ.new hS (b:= .arr r (bq (cm a).toNat (RT.zero r))) (q:= .arr r.length (bq a zero)) (v:= .own s.length true) (p:= .own s.length r.length 0 a a true) (rd:=[]) ?_ ?_,hk⟩
     · have e1:mL (.int kl (a:Int))=some a:=rfl
       have e2:mL (.int kc (a:Int))=some a:=rfl;simp only [bU,qI hE hl,qI hE hc,e1,e2];rw [if_pos h1,hS.len]
     · show _=_
       simp [JU hr]
     exact ⟨r.length,a,rfl,.inl ⟨r,_,vN,rfl,by simp⟩⟩
   cases hx
  |_=>cases h
 |_=>cases h
def C1 {α:Type}:List α->List (Nat×α)->List α
 |l,[]=>l
 |l,(i,a)::r=>C1 (l.set i a) r
theorem O4 {α : Type} : ∀ (q : List (Nat × α)) (l : List α) (i : Nat), (C1 l q)[i]? = (l[i]?).map fun z => MP i z q
  | [], l, i => by simp [C1, MP]
  | (j, a) :: q, l, i => by
    simp only [C1, MP]
    rw [O4 q (l.set j a) i, ao]
    by_cases hji : j = i
    · subst hji
      cases hl : l[j]? with
      | none =>
        have : ¬ j < l.length := by intro h; rw [aj h] at hl; cases hl
        simp [this]
      | some z =>
        have : j < l.length := (ae.1 hl).1
        simp [this]
    have : bw j i = false := by
      cases hb : bw j i with
      | false => rfl
      | true => exact absurd (aa hb) hji
    simp [hji, this]
theorem XG {α:Type} (f:Nat->α): ∀(n i j:Nat),(UI f i n)[j]? =if j<n then some (f (i+j)) else none
 |0,i,j=>by simp [UI]
 |n+1,i,0=>by simp [UI]
 |n+1,i,j+1=>by
  simp only [UI,cf];rw [XG f n (i+1) j,show i+1+j=i+(j+1) by omega]
  by_cases h:j<n
  · simp [h]
  simp [h]
theorem O5 {α:Type} (z:α) (n:Nat) (q:List (Nat×α)):C1 (bq n z) q=UI (fun i=>MP i z q) 0 n:=by
 apply dz;intro i;rw [O4,XG]
 by_cases h:i<n
 · simp [h]
 simp [h]
theorem O6 (hE:eU s e pe) {r:List PT} {n:Nat}: ∀{parts:List (Nat×gW)} {q:List (Nat×RT r)} {l:List (RT r)},aBH r e n parts=some q->l.length=n->
 vC (parts.map fun p=>(p.1,p.2.ev pe)) (l.map (RT.pv r)) r.length=some ((C1 l q).map (RT.pv r))
 | [],q,l,h,hl=>by injection h with h;subst h;rfl
 |p::parts,q,l,h,hl=>by
  simp only [aBH] at h;split at h
  · rename_i a q' h1 h2
    cases hb:ek p.1 n with
    |false=>rw [hb] at h;cases h
    |true=>
     rw [hb] at h;injection h with h;subst h;have hp:=((eQ hE p.2).ofRow h1).1;simp only [bj,vC,hp,RT.pv_len,az,hl,hb,bn,bk,if_true,C1];rw [<- ff];exact O6 hE h2 (by simp [hl])
  cases h
theorem aDk (hE:eU s e pe) (hS:cZ s ps) {esz n:Nat} {zero:rI} {parts:List (Nat×gW)} (h:pO e s z (.mkrow esz n zero parts) k ρ w=some y):jD s ps (bU pe ps z (.mkrow esz n zero parts)) k ρ w y:=by
 simp only [pO] at h;obtain ⟨r,hr,h1⟩:=bX h;obtain ⟨he,h2⟩:=dG h1;obtain ⟨q,hq,hk⟩:=bX h2;have he:=aa he;subst he;have hf:=O6 hE (l:=bq n (RT.zero r)) hq (by simp)
 rw [O5] at hf;have hz:(bq n (RT.zero r)).map (RT.pv r)=bq n zero:=by simp [JU hr]
 rw [hz] at hf;refine ⟨_,_,?_,jQ.new hS (b:= .arr r (UI (fun i=>MP i (RT.zero r) q) 0 n)) (q:= .arr r.length ((UI (fun i=>MP i (RT.zero r) q) 0 n).map (RT.pv r))) (v:= .own s.length true) (p:= .own s.length r.length 0 n n true) (rd:=[]) rfl ?_,hk⟩
 · simp only [bU,hf,hS.len]
   rfl
 refine ⟨r.length,n,rfl,.inl ⟨r,_,vN,rfl,?_⟩⟩
 rw [<- O5]
 have: ∀(q:List (Nat×RT r)) (l:List (RT r)),(C1 l q).length=l.length:=by
  intro q
  induction q with
  |nil=>intro l;rfl
  |cons p q ih=>intro l;simp [C1,ih]
 rw [this];simp
theorem aBU: ∀{cs:List SV} {q:List PV} {l:List Int},RL s cs q->aBI cs=some l->q=l.map (.int .i64)
 | [],q,l,h,hi=>by injection hi with hi;subst hi;exact h
 |x::xs,q,l,h,hi=>by
  obtain ⟨p,q,rfl,h1,h2⟩:=h.cons_inv;simp only [aBI] at hi;split at hi
  · rename_i n l' hx
    injection hi with hi;subst hi;rw [show p= .int .i64 n from h1,aBU h2 hx];rfl
  cases hi
theorem aEO {v:SV} {p:PV} {n:Option Nat} {l:List Int} (h:R s v p) (hk:aGy n v=some l):p=zU l/\lP n (zU l)=true/\(zU l).storedPlain=some (zU l).cells/\(zU l).cells=l.map (.int .i64)/\(n=none->l.length=1)/\(∀m,n=some m->l.length=m/\m≠1):=by
 cases n with
 |none=>
  cases v with
  |int kk a=>
   cases kk with
   |i64=>
    injection hk with hk;subst hk;exact ⟨h,rfl,rfl,rfl,fun _=>rfl,fun m hm=>by cases hm⟩
   |_=>cases hk
  |_=>cases hk
 |some m=>
  cases v with
  |agg cs=>
   simp only [aGy] at hk;cases hc:(bw cs.length m&&!Nat.beq m 1) with
   |false=>rw [hc] at hk;cases hk
   |true=>
    rw [hc] at hk;simp only [cond_true] at hk;simp only [ac,ed,be] at hc;obtain ⟨c1,c2⟩:=hc;obtain ⟨q,rfl,hq⟩:=h;have hq':=aBU hq hk;have hlen:l.length=m:=by have:=hq.length;rw [hq'] at this;simp at this;omega
    have hm1:m≠1:=by intro e;subst e;cases c2
    have hkl:zU l= .agg (l.map (.int .i64)):=by
     unfold zU;split
     · simp at hlen;omega
     rfl
    refine ⟨by rw [hkl,hq'],by rw [hkl];simp [lP,hlen],?_,by rw [hkl];rfl,(fun h=>(by cases h)),fun m' hm=>by injection hm with hm;subst hm;exact ⟨hlen,hm1⟩⟩
    rw [hkl];unfold PV.storedPlain;rw [if_pos];simp [PV.cells,PV.plain]
  |_=>cases hk
theorem C2: ∀(a b:List Int),a.length=b.length->eD (a.map (.int .i64)) (b.map (.int .i64))=some (a==b)
 | [],[],_=>rfl
 |x::a,y::b,h=>by
  have ih:=C2 a b (by simpa using h)
  simp only [bj,eD,wN,XE,if_true];cases hxy:x==y with
  |true=>simp only [ih];simp [fa,hxy]
  |false=>simp [fa,hxy]
 | [],_::_,h=>by simp at h
 |_::_,[],h=>by simp at h
theorem LJ {n : Option Nat} {a : List Int} (ha : (zU a).cells = a.map (.int .i64)) (hn : (n = none -> a.length = 1) /\ (∀ m, n = some m -> a.length = m /\ m ≠ 1)) : ∀ (l : List (List Int)) (i : Nat), (∀ r, gF n (zU a) (l.map JQ) i = some r -> (match r with | none => M8 l a = false | some j => i <= j /\ M8 l a = true /\ l[j - i]? = some a))
  | [], i, r, h => by
    simp only [fh, gF, aq] at h
    subst h; rfl
  | b :: l, i, r, h => by
    simp only [bj, JQ, gF] at h
    split at h
    · rename_i hk
      have hb : (zU b).cells = b.map (.int .i64) /\ a.length = b.length := by
        cases n with
        | none =>
          have hl := hn.1 rfl
          unfold zU at hk ⊢
          split at hk
          · exact ⟨rfl, by simpa using hl⟩
          cases hk
        | some m =>
          obtain ⟨hl, hm⟩ := hn.2 m rfl
          unfold zU at hk ⊢
          split at hk
          · cases hk
          simp only [lP, az, ed] at hk
          exact ⟨rfl, by omega⟩
      rw [ha, hb.1, C2 a b hb.2] at h
      cases hab : a == b with
      | true =>
        rw [hab] at h
        injection h with h; subst h
        have : a = b := by simpa using hab
        subst this
        exact ⟨dy _, by simp [M8], by simp⟩
      | false =>
        rw [hab] at h
        have := LJ ha hn l (i + 1) r h
        cases r with
        | none => simpa [M8, hab] using this
        | some j =>
          obtain ⟨h1, h2, h3⟩ := this
          refine ⟨by omega, by simp only [M8] at h2; simp [M8, h2], ?_⟩
          rw [show j - i = (j - (i + 1)) + 1 by omega]; simpa using h3
    cases h
theorem JV {n:Option Nat} {a:List Int} (ha:(zU a).cells=a.map (.int .i64)) (hn:(n=none->a.length=1)/\(∀m,n=some m->a.length=m/\m≠1)) {l:List (List Int)} (hl:l.all (fun b=>lP n (zU b))=true): ∀i,∃r,gF n (zU a) (l.map JQ) i=some r:=by
 induction l with
 |nil=>intro i;exact ⟨none,rfl⟩
 |cons b l ih=>
  intro i;simp only [eu,ac] at hl;obtain ⟨r,hr⟩:=ih hl.2 (i+1);simp only [bj,JQ,gF,hl.1,if_true];have hb:(zU b).cells=b.map (.int .i64)/\a.length=b.length:=by
   have hk:=hl.1;cases n with
   |none=>
    have hl':=hn.1 rfl;unfold zU at hk ⊢;split at hk
    · exact ⟨rfl,by simpa using hl'⟩
    cases hk
   |some m=>
    obtain ⟨hl',hm⟩:=hn.2 m rfl;unfold zU at hk ⊢;split at hk
    · cases hk
    simp only [lP,az,ed] at hk
    exact ⟨rfl,by omega⟩
  rw [ha,hb.1,C2 a b hb.2];cases hab:a==b with
  |true=>exact ⟨some i,rfl⟩
  |false=>exact ⟨r,hr⟩
theorem MT {n:Option Nat} {a:List Int} (hn:(n=none->a.length=1)/\(∀m,n=some m->a.length=m/\m≠1)) {l:List (List Int)} (hl: ∀b∈l,b.length=a.length):l.all (fun b=>lP n (zU b))=true:=by
 rw [ci];intro b hb;have hlen:=hl b hb;cases n with
 |none=>
  have h1:=hn.1 rfl;rw [h1] at hlen
  match b,hlen with
  | [x],_=>rfl
 |some m=>
  obtain ⟨h1,h2⟩:=hn.2 m rfl;unfold zU;split
  · rename_i x;simp at hlen;omega
  simp [lP];omega
theorem JW {a:List Int} {l:List (List Int)} (h:rR a l=true): ∀b∈l,b.length=a.length:=by
 intro b hb;exact aa (ci.1 h b hb)
theorem PT.of_R {s:List SB} {p:PT} {v:SV} {q:PV} {a:p.T} (h:R s v q) (ho:p.of v=some a):q=p.pv a:=by
 cases p with
 |i k=>
  cases v with
  |int l n=>
   simp only [PT.of] at ho;cases hk:gG l k with
   |false=>rw [hk] at ho;cases ho
   |true=>
    rw [hk] at ho;obtain rfl:=gC.1 hk;injection ho with ho;subst ho;exact h
  |_=>cases ho
 |b=>
  cases v with
  |bool x=>
   injection ho with ho;subst ho;exact h
  |_=>cases ho
theorem O7 {β:Type} (g:Int×β->PV×PV) (hg: ∀x,(g x).1= .int .i64 x.1) (k:Int): ∀(l:List (Int×β)) (i:Nat),
 (∃j x,gF none (.int .i64 k) (l.map g) i=some (some (i+j))/\l[j]? =some x/\(∀z,vK z l k=x.2)/\ ∀a,sX l k a=l.set j (k,a))\/
 (gF none (.int .i64 k) (l.map g) i=some none/\(∀z,vK z l k=z)/\ ∀a,sX l k a=l++[(k,a)])
 | [],i=> .inr ⟨rfl,fun _=>rfl,fun _=>rfl⟩
 |x::l,i=>by
  have hk:lP none (g x).1=true:=by rw [hg];rfl
  have he:eD (PV.int .i64 k).cells (g x).1.cells=some (k==x.1):=by
   rw [hg];show eD [.int .i64 k] [.int .i64 x.1]=_;simp only [eD,wN,gG,if_true];cases k==x.1<;>rfl
  have hf:gF none (.int .i64 k) ((x::l).map g) i=(match some (k==x.1) with
   |some true=>some (some i)
   |some false=>gF none (.int .i64 k) (l.map g) (i+1)
   |none=>none):=by
   rw [bj];show (if lP none (g x).1 then _ else none)=_
   rw [if_pos hk,he];cases k==x.1<;>rfl
  cases hb:k==x.1 with
  |true=>
   rw [hb] at hf;exact .inl ⟨0,x,hf,rfl,fun z=>by simp only [vK,hb,cond_true],fun a=>by simp only [sX,hb,cond_true,List.set_cons_zero]⟩
  |false=>
   rw [hb] at hf;rcases O7 g hg k l (i+1) with ⟨j,y,h1,h2,h3,h4⟩|⟨h1,h2,h3⟩
   · refine .inl ⟨j+1,y,?_,by simpa using h2,fun z=>?_,fun a=>?_⟩
     · rw [hf];show gF none (.int .i64 k) (l.map g) (i+1)=_
       rw [h1,show i+1+j=i+(j+1) by omega]
     · simp only [vK,hb,cond_false,h3]
     simp only [sX,hb,cond_false,h4,List.set_cons_succ]
   exact .inr ⟨hf.trans h1,fun z=>by simp only [vK,hb,cond_false,h2],fun a=>by simp only [sX,hb,cond_false,h3,d9]⟩
theorem O8 (p:PT) (k:Int) (l:List (RT [.i .i64,p])):
 (∃(j:Nat) (x:RT [.i .i64,p]),gF none (.int .i64 k) (l.map (M9 p)) 0=some (some j)/\l[j]? =some x/\(∀z,p.get z l k=x.2)/\ ∀a,p.put l k a=l.set j (k,a))\/
 (gF none (.int .i64 k) (l.map (M9 p)) 0=some none/\(∀z,p.get z l k=z)/\ ∀a,p.put l k a=l++[(k,a)]):=by
 cases p with
 |i d=>
  rcases O7 (β:=Int) (M9 (.i d)) (fun _=>rfl) k l 0 with ⟨j,x,h1,h2,h3,h4⟩|h
  · exact .inl ⟨j,x,by rw [h1,dd],h2,h3,h4⟩
  exact .inr h
 |b=>
  rcases O7 (β:=Bool) (M9 .b) (fun _=>rfl) k l 0 with ⟨j,x,h1,h2,h3,h4⟩|h
  · exact .inl ⟨j,x,by rw [h1,dd],h2,h3,h4⟩
  exact .inr h
theorem PT.sv_R {s:List SB} (p:PT) (a:p.T):R s (p.sv a) (p.pv a):=by cases p<;>rfl
theorem PT.pv_plain (p:PT) (a:p.T):(p.pv a).storedPlain=some [p.pv a]:=by cases p<;>rfl
theorem aAE (hE:eU s e pe) (hS:cZ s ps) {n:Option Nat} {zero:PV} {ok:Bool} {m q:gW} (h:pO e s z (.lookup n zero ok m q) k ρ w=some y):jD s ps (bU pe ps z (.lookup n zero ok m q)) k ρ w y:=by
 simp only [pO] at h;have hx:=eQ hE m;generalize cI e m=v at h hx;cases v with
 |mp t=>
  simp only [cN] at h;generalize hst:s[t]? =b at h;cases b with
  |none=>cases h
  |some b=>
   cases b with
   |set l=>
    dsimp only at h;unfold aBK at h;cases zero with
    |bool b=>
     cases b with
     |true=>cases h
     |false=>
      cases ok with
      |true=>cases h
      |false=>
       obtain ⟨a,ha,h1⟩:=bX h;obtain ⟨b,hb,hk⟩:=dJ h1;obtain ⟨k1,k2,k3,k4,k5⟩:=aEO (eQ hE q) ha;unfold W5 at hb;cases hlk:rR a l with
       |false=>rw [hlk] at hb;cases hb
       |true=>
        rw [hlk] at hb;injection hb with hb;subst hb;obtain ⟨r,hr⟩:=JV k4 k5 (MT k5 (JW hlk)) 0;have hf:=LJ k4 k5 l 0 r hr;refine jD.rd hS hk ?_ rfl;show zV ps n (.bool false) false (m.ev pe) (q.ev pe)=_;rw [show m.ev pe=_ from hx,k1];simp only [zV,hS.set_ hst,k2,if_true,hr];cases r with
        |none=>simp only at hf;simp [hf]
        |some j=>
         obtain ⟨_,h2,h3⟩:=hf
         have:(l.map JQ)[j]? =some (JQ a):=by simp at h3;simp [h3]
         simp [this,h2,JQ]
    |_=>cases h
   |tab p l=>
    dsimp only at h;unfold aBL at h;cases n with
    |some _=>cases h
    |none=>
     cases ok with
     |true=>cases h
     |false=>
      have hq:=eQ hE q;generalize cI e q=u at h hq;cases u with
      |int d a=>
       cases d with
       |i64=>
        obtain ⟨zv,hz,hk⟩:=bX h;have hzero:=PT.of_R (aAC s zero) hz;refine jD.rd hS hk ?_ (PT.sv_R p _);show zV ps none zero false (m.ev pe) (q.ev pe)=_;rw [show m.ev pe=_ from hx,show q.ev pe=_ from hq];rcases O8 p a l with ⟨j,x,h1,h2,h3,_⟩|⟨h1,h2,_⟩
        · have h5:(l.map (M9 p))[j]? =some (M9 p x):=by simp [h2]
          simp only [zV,hS.tab_ hst,lP,if_true,h1,h5,h3,M9,ar,if_false]
        simp only [zV,hS.tab_ hst,lP,if_true,h1,h2,hzero,ar,if_false]
       |_=>cases h
      |_=>cases h
   |_=>cases h
 |_=>cases h
theorem aEP (hE:eU s e pe) (hS:cZ s ps) {n:Option Nat} {m q x:gW} (h:pO e s z (.mapu n m q x) k ρ w=some y):jD s ps (bU pe ps z (.mapu n m q x)) k ρ w y:=by
 simp only [pO] at h;have hx:=eQ hE m;generalize cI e m=v at h hx;cases v with
 |mp t=>
  simp only [cN] at h;generalize hst:s[t]? =b at h;cases b with
  |none=>cases h
  |some b=>
   cases b with
   |set l=>
    obtain ⟨hz,h0⟩:=xW h;unfold aEs at h0;have hv:=eQ hE x;generalize cI e x=u at h0 hv;cases u with
    |bool b=>
     cases b with
     |false=>cases h0
     |true=>
      obtain ⟨a,ha,h1⟩:=bX h0;obtain ⟨b,hb,hk⟩:=dJ h1;obtain ⟨k1,k2,k3,k4,k5⟩:=aEO (eQ hE q) ha;unfold W6 at hb;cases hlk:rR a l with
      |false=>rw [hlk] at hb;cases hb
      |true=>
       rw [hlk] at hb;injection hb with hb;subst hb;obtain ⟨r,hr⟩:=JV k4 k5 (MT k5 (JW hlk)) 0;have hf:=LJ k4 k5 l 0 r hr;refine ⟨_,_,?_,jQ.put0 hS (b:= .set (aAr l a)) (q:= .map ((aAr l a).map JQ)) (rd:=[]) hst trivial rfl,hk⟩;show MH ps z n (m.ev pe) (q.ev pe) (x.ev pe)=_;rw [show m.ev pe=_ from hx,k1,show x.ev pe= .bool true from hv]
       have p2:(PV.bool true).storedPlain=some [.bool true]:=rfl;simp only [MH,hS.set_ hst,k2,hz,cq,bk,if_true,k3,p2,hr];cases r with
       |none=>simp only at hf;simp [aAr,hf,JQ]
       |some j=>
        obtain ⟨_,h2,h3⟩:=hf;have h5:l[j]? =some a:=by simpa using h3
        have:(l.map JQ).set j (zU a,.bool true)=l.map JQ:=by
         apply dz;intro i;rw [ao];split
         · rename_i hij
           subst hij;have hlt:=(ae.1 h5).1;have h6:l[j]=a:=(ae.1 h5).2;simp [hlt,h6,JQ]
         rfl
        simp [aAr,h2,this]
    |_=>cases h0
   |tab p l=>
    obtain ⟨hz,h0⟩:=xW h;unfold aEt at h0;cases n with
    |some _=>cases h0
    |none=>
     have hq:=eQ hE q;generalize cI e q=u at h0 hq;cases u with
     |int d a=>
      cases d with
      |i64=>
       obtain ⟨xv,hxv,hk⟩:=bX h0;have hval:=PT.of_R (eQ hE x) hxv;refine ⟨_,_,?_,jQ.put0 hS (b:= .tab p (p.put l a xv)) (q:= .map ((p.put l a xv).map (M9 p))) (rd:=[]) hst trivial rfl,hk⟩;show MH ps z none (m.ev pe) (q.ev pe) (x.ev pe)=_;rw [show m.ev pe=_ from hx,show q.ev pe=_ from hq,hval];have p1:(PV.int .i64 a).storedPlain=some [.int .i64 a]:=rfl
       rcases O8 p a l with ⟨j,x,h1,_,_,h3⟩|⟨h1,_,h3⟩
       · simp only [MH,hS.tab_ hst,lP,hz,cq,bk,if_true,p1,PT.pv_plain,h1,h3,ff,M9]
       simp only [MH,hS.tab_ hst,lP,hz,cq,bk,if_true,p1,PT.pv_plain,h1,h3,c6,bj,fh,M9]
      |_=>cases h0
     |_=>cases h0
   |_=>cases h
 |_=>cases h
theorem HA.fr' {s s':List SB} {bad:List Nat} {t e:Nat} (h:HA s t e) (hf:Fr bad s s'):HA s' t e:=by
 rcases h with ⟨r,l,h1,h2⟩|h1
 · rcases hf t _ h1 with ⟨l',k1,_,_⟩|k1
   · exact .inl ⟨r,l',k1,h2⟩
   exact .inr k1
 exact .inr (hf t _ h1)
theorem IE {α:Type} {l r:List α} (h:cA l=some r):r=l/\l.length<=1048576:=by
 unfold cA at h;split at h
 · injection h with h;exact ⟨h.symm,by assumption⟩
 cases h
theorem E4 {α:Type} {l m r:List α} (h:bZ l m=some r):r=l++m/\l.length+m.length<=1048576:=by
 unfold bZ at h;split at h
 · injection h with h;exact ⟨h.symm,by assumption⟩
 cases h
theorem AE: ∀(m l:List rI) (n:Nat),n+m.length<=l.length->nV n m l=jP l n m
 | [],l,n,h=>by simp [nV,jP]
 |a::m,l,n,h=>by
  simp only [ba] at h;rw [nV,AE m (l.set n a) (n+1) (by simp;omega)]
  unfold jP;rw [List.take_set,List.drop_set];have hn:n<l.length:=by omega
  have h1: ¬(n+1+m.length<=n):=by omega
  rw [if_pos (by omega)]
  have:(l.take (n+1)).set n a=l.take n++[a]:=by
   rw [List.take_succ_eq_append_getElem hn,List.set_append_right _ _ (by simp;omega)]
   simp [ef (fg hn)]
  rw [this];simp only [bg,d9,List.nil_append,ba];rw [show n+1+m.length=n+(m.length+1) by omega]
theorem O9 {α β:Type} (f:α->β) (l m:List α) (n:Nat):(jP l n m).map f=jP (l.map f) n (m.map f):=by
 simp [jP,bz,cz]
theorem JX {α:Type} (l m:List α) (n:Nat) (h:n+m.length<=l.length):(jP l n m).length=l.length:=by
 simp [jP];omega
theorem aAF (hE:eU s e pe) (hS:cZ s ps) {esz:Nat} {x yy:gW} (h:pO e s z (.append esz x yy) k ρ w=some y):jD s ps (bU pe ps z (.append esz x yy)) k ρ w y:=by
 simp only [pO] at h;have hx:=eQ hE x;have hyv:=eQ hE yy;unfold aBJ at h;generalize cI e yy=vy at h hyv;cases hc:G7 s vy with
 |none=>rw [hc] at h;cases h
 |some cc=>
  obtain ⟨q,m⟩:=cc;rw [hc] at h;dsimp only at h;obtain ⟨he,h⟩:=dG h;have he:=aa he;obtain ⟨hro,htk⟩:=aBS hS hyv hc;rw [he] at hro;have pe_app:bU pe ps z (.append esz x yy)=kN ps z esz (x.ev pe) (yy.ev pe):=rfl;generalize cI e x=v at h hx;cases v with
  |nil e' c=>
   dsimp only at h;obtain ⟨hcl,h⟩:=dG h;obtain ⟨m',hm',hk⟩:=dJ h;obtain ⟨rfl,hle⟩:=IE hm';refine ⟨_,_,?_,jQ.new hS (b:= .arr q m') (q:= .arr esz (m'.map (RT.pv q))) (v:= .own s.length false) (p:= .own s.length esz 0 m'.length m'.length false) (rd:=CX vy) (by rw [<- he];rfl) ⟨esz,m'.length,rfl,.inl ⟨q,m',vN,he.symm,rfl⟩⟩,hk⟩
   rw [pe_app];have hcl':c=true:=hcl;subst hcl';rw [show x.ev pe= .sl e' true [] from hx];unfold kN;rw [hro];cases m' with
   |nil=>simp [hS.len,htk]
   |cons a m'=>
    have h2:ay ((a::m').length) most=true:=by simp [most] at hle ⊢;omega
    simp only [ba] at h2;simp [hS.len,htk,h2]
  |own t ex=>
   dsimp only at h;simp only [cN] at h;generalize hst:s[t]? =b at h;cases b with
   |none=>cases h
   |some b=>
    cases b with
    |arr r l=>
     dsimp only at h;cases hca:AB q r m with
     |none=>rw [hca] at h;cases h
     |some m2=>
      rw [hca] at h;dsimp only at h;obtain ⟨rfl,hmp,hml⟩:=JP hca;obtain ⟨e',n',hx,hat⟩:=hx;obtain ⟨rfl,rfl⟩:=hat.inv hst;rw [<- hmp] at hro;have harr:=hS.arr hst;cases ex with
      |true=>
       dsimp only at h;rcases gD h with ⟨hl,h⟩|⟨hl,h⟩
       · obtain ⟨m',hm',hk⟩:=dJ h
         obtain ⟨rfl,hle⟩:=IE hm';have hl:l=[]:=by simpa using hl
         subst hl;refine ⟨_,_,?_,jQ.new hS (b:= .arr q m') (q:= .arr q.length (m'.map (RT.pv q))) (v:= .own s.length false) (p:= .own s.length q.length 0 m'.length m'.length false) (rd:=t::CX vy) rfl ⟨q.length,m'.length,rfl,.inl ⟨q,m',vN,rfl,rfl⟩⟩,hk⟩;rw [pe_app,hx];unfold kN;rw [hro];subst he;cases m' with
         |nil=>simp [hS.len,htk]
         |cons a m'=>
          have h2:ay ((a::m').length) most=true:=by simp [most] at hle ⊢;omega
          simp only [ba] at h2;simp [hS.len,htk,h2,harr]
       have hl:l≠[]:=by intro e;subst e;cases hl
       have hl0:l.length≠0:=by intro e;exact hl (cb.1 e)
       have hb0:bw l.length 0=false:=by
        cases hb:bw l.length 0 with
        |false=>rfl
        |true=>exact absurd (aa hb) hl0
       rcases gD h with ⟨hm,h⟩|⟨hm,h⟩
       · have hm:m2=[]:=by simpa using hm
         subst hm;refine jD.rd hS h ?_ ⟨_,_,rfl,hat⟩;rw [pe_app,hx];unfold kN;rw [hro];simp [hb0,htk]
       obtain ⟨l',hl',hk⟩:=dJ h
       obtain ⟨rfl,hle⟩:=E4 hl';refine ⟨_,_,?_,jQ.new hS (b:= .arr q (l++m2)) (q:= .arr q.length ((l++m2).map (RT.pv q))) (v:= .own s.length false) (p:= .own s.length q.length 0 (l++m2).length (l++m2).length false) (rd:=t::CX vy) rfl ⟨q.length,(l++m2).length,rfl,.inl ⟨q,l++m2,vN,rfl,rfl⟩⟩,hk⟩;rw [pe_app,hx];unfold kN;rw [hro];subst he;cases m2 with
       |nil=>cases hm
       |cons a m2=>
        have h2:ay (l.length+(a::m2).length) most=true:=by simp [most] at hle ⊢;omega
        have h3:ay (l.length+(m2.length+1)) l.length=false:=by
         cases hb:ay (l.length+(m2.length+1)) l.length with
         |false=>rfl
         |true=>have:=au hb;omega
        simp only [ba] at h2;simp [hS.len,htk,h2,h3,harr,cd]
      |false=>
       dsimp only at h;rcases gD h with ⟨hm,h⟩|⟨hm,h⟩
       · have hm:m2=[]:=by simpa using hm
         subst hm;refine jD.rd hS h ?_ ⟨_,_,rfl,hat⟩;rw [pe_app,hx];unfold kN;rw [hro];simp [htk]
       obtain ⟨hz,h⟩:=xW h
       obtain ⟨l',hl',hk⟩:=dJ h;obtain ⟨rfl,hle⟩:=E4 hl';have hlen:(LG [t] (s.set t .dead)).length=s.length:=by rw [GG];simp
       refine ⟨_,_,?_,jQ.put hS (b:= .dead) (q:= .dead) (l:=[.arr q (l++m2)]) (ql:=[.arr q.length ((l++m2).map (RT.pv q))]) (v:= .own s.length false) (p:= .own s.length q.length 0 (l++m2).length (l++m2).length false) (rd:=CX vy) hst (.inr rfl) rfl rfl
        (fun j b hj=>by
         cases j with
         |zero=>simp at hj;subst hj;exact ⟨_,rfl,rfl⟩
         |succ j=>simp at hj)
        ⟨q.length,(l++m2).length,rfl,.inl ⟨q,l++m2,by rw [<- hlen];exact vN,rfl,rfl⟩⟩,hk⟩
       rw [pe_app,hx];unfold kN;rw [hro];subst he;cases m2 with
       |nil=>cases hm
       |cons a m2=>
        have h2:ay (l.length+(a::m2).length) most=true:=by simp [most] at hle ⊢;omega
        have h3:ay (l.length+(m2.length+1)) l.length=false:=by
         cases hb:ay (l.length+(m2.length+1)) l.length with
         |false=>rfl
         |true=>have:=au hb;omega
        simp only [ba] at h2;simp [hS.len,htk,h2,h3,harr,hz,cd]
    |_=>cases h
  |pre t len cap ex=>
   dsimp only at h;simp only [cN] at h;generalize hst:s[t]? =b at h;cases b with
   |none=>cases h
   |some b=>
    cases b with
    |arr r l=>
     dsimp only at h;cases hca:AB q r m with
     |none=>rw [hca] at h;cases h
     |some m2=>
      rw [hca] at h;dsimp only at h;obtain ⟨rfl,hmp,hml⟩:=JP hca;obtain ⟨e',hx,hat⟩:=hx
      have:=hat.inv hst
      subst this;rw [<- hmp] at hro;have harr:=hS.arr hst;obtain ⟨hex,h⟩:=xW h;subst hex;rcases gD h with ⟨hm,h⟩|⟨hm,h⟩
      · have hm:m2=[]:=by simpa using hm
        subst hm;refine jD.rd hS h ?_ ⟨_,rfl,hat⟩;rw [pe_app,hx];unfold kN;rw [hro];simp [htk]
      rcases gD h with ⟨c1,h⟩|⟨c1,h⟩
      · obtain ⟨hc2,hk⟩:=jX h
        simp only [ac,be] at hc2;obtain ⟨c2,c3⟩:=hc2;have c2':=au c2
        refine ⟨_,_,?_,jQ.put hS (b:= .arr q (jP l len m2)) (q:= .arr q.length ((jP l len m2).map (RT.pv q))) (l:=[]) (ql:=[]) (v:= .pre t (len+m2.length) cap false) (p:= .own t q.length 0 (len+m2.length) cap false) (rd:=CX vy) hst (.inl ⟨_,rfl,JX _ _ _ c2'⟩) rfl rfl
         (fun j b hj=>by simp at hj) ⟨q.length,rfl,?_⟩,hk⟩
        · rw [pe_app,hx]
          unfold kN;rw [hro];subst he;have hsr:nV (0+len) (m2.map (RT.pv q)) (l.map (RT.pv q))=(jP l len m2).map (RT.pv q):=by
           rw [AE _ _ _ (by simp;omega),O9,dd]
          cases m2 with
          |nil=>cases hm
          |cons a m2=>
           simp only [ba] at c1;simp only [bj] at hsr ⊢;simp only [harr,bn,ew,ar,if_false,ba,az,c1,if_true,c3,hsr,htk]
        have:=HA.fr' (s:=s) (s':=LG [t] (s.set t (.arr q (jP l len m2)))++[]) hat ((Fr.dg (ts:=[t]) (Fr.set hst (.inl ⟨_,rfl,JX _ _ _ c2'⟩))).trans (Fr.app [t] _ []))
        exact this
      obtain ⟨hz0,h⟩:=xW h
      have hz:has z t=false:=by
       cases hh:has z t with
       |false=>rfl
       |true=>rw [hh] at hz0;cases hz0
      obtain ⟨l',hl',h⟩:=dJ h;obtain ⟨hll,hk⟩:=jX h;obtain ⟨hl'e,hle⟩:=E4 hl';subst hl'e;have hll':=au hll;have htl:(l.take len).length=len:=by rw [bo];omega
      rw [htl] at hle;have hlen:(LG [t] (s.set t .dead)).length=s.length:=by rw [GG];simp
      have hal:(l.take len++m2).length=len+m2.length:=by rw [c8,htl]
      refine ⟨_,_,?_,jQ.put hS (b:= .dead) (q:= .dead) (l:=[.arr q (l.take len++m2)]) (ql:=[.arr q.length ((l.take len++m2).map (RT.pv q))]) (v:= .own s.length false) (p:= .own s.length q.length 0 (l.take len++m2).length (l.take len++m2).length false) (rd:=CX vy) hst (.inr rfl) rfl rfl
       (fun j b hj=>by
        cases j with
        |zero=>simp at hj;subst hj;exact ⟨_,rfl,rfl⟩
        |succ j=>simp at hj)
       ⟨q.length,(l.take len++m2).length,rfl,.inl ⟨q,l.take len++m2,by rw [<- hlen];exact vN,rfl,rfl⟩⟩,hk⟩
      rw [pe_app,hx];unfold kN;rw [hro];subst he;cases m2 with
      |nil=>cases hm
      |cons a m2=>
       have h2:ay (len+(m2.length+1)) most=true:=by simp [most] at hle ⊢;omega
       simp only [ba] at c1 hal;simp only [bj,ba,az,harr,bn,ew,ar,if_false,c1,h2,hz,hS.len,htk,hal,ce,c6,bz]
    |_=>cases h
  |_=>cases h
end
end Go.Vm
/- Operation by operation: all of them. -/
namespace Go.Vm
section
variable {R' ρ : Type} {w : R' -> ρ} {y : ρ} {s : List SB} {ps : cX} {e : SE} {pe : zO} {z : List Nat} {k : iA -> jC R'}
theorem aDl (hE:eU s e pe) (hS:cZ s ps) {esz:Nat} {zero:rI} {x:gW} (h:pO e s z (.clear esz zero x) k ρ w=some y):jD s ps (bU pe ps z (.clear esz zero x)) k ρ w y:=by
 simp only [pO] at h;have hx:=eQ hE x;unfold aEr at h;generalize cI e x=v at h hx;cases v with
 |part t off len cap ex=>
  simp only [cN] at h;generalize hst:s[t]? =b at h;cases b with
  |none=>cases h
  |some b=>
   cases b with
   |arr r l=>
    dsimp only at h;cases hq:OR zero with
    |none=>rw [hq] at h;cases h
    |some q=>
     rw [hq] at h;dsimp only at h;obtain ⟨hc,h1⟩:=dG h;simp only [ac] at hc;obtain ⟨hqr,he⟩:=hc;have hqr:=B5 hqr;have he:=aa he;obtain ⟨e',hx,hat⟩:=hx
     have:=hat.inv hst
     subst this;subst hqr;subst he;rcases gD h1 with ⟨hl,hk⟩|⟨hl,hk⟩
     · have hl:=aa hl
       subst hl;exact jD.val hS hk (by simp only [bU,hx]) rfl
     obtain ⟨hc2,hk⟩:=jX hk
     simp only [ac,be] at hc2;obtain ⟨c1,c2⟩:=hc2;have c1':=au c1;have hlen:=JX l (bq len (RT.zero q)) off (by simpa using c1')
     refine ⟨_,_,?_,jQ.put0 hS (b:= .arr q (jP l off (bq len (RT.zero q)))) (q:= .arr q.length ((jP l off (bq len (RT.zero q))).map (RT.pv q))) (rd:=[]) hst (.inl ⟨_,rfl,hlen⟩) rfl,hk⟩;cases len with
     |zero=>cases hl
     |succ len=>
      have hsr:nV off (bq (len+1) zero) (l.map (RT.pv q))=(jP l off (bq (len+1) (RT.zero q))).map (RT.pv q):=by
       rw [O9,AE _ _ _ (by simpa using c1')]
       simp [JU hq]
      simp only [bU,hx,hS.arr hst,bn,c2,cq,bk,if_true,hsr]
   |_=>cases h
 |_=>cases h
theorem IF (hS:cZ s ps) {t off len cap:Nat} {ex:Bool} {r:List PT} {l:List (RT r)} {x yy:gW} {vy:SV} (hst:s[t]? =some (.arr r l)) (hx:x.ev pe= .own t r.length off len cap ex) (hyv:R s vy (yy.ev pe))
 (h:OS s z t r l off len vy k ρ w=some y):jD s ps (bU pe ps z (.copy r.length x yy)) k ρ w y:=by
 unfold OS at h;cases hc:G7 s vy with
 |none=>rw [hc] at h;cases h
 |some cc=>
  obtain ⟨q,m⟩:=cc;rw [hc] at h;dsimp only at h;cases hca:AB q r m with
  |none=>rw [hca] at h;cases h
  |some m2=>
   rw [hca] at h;dsimp only at h;obtain ⟨hqr,hmp,hml⟩:=JP hca;subst hqr;obtain ⟨hro,htk⟩:=aBS hS hyv hc;rw [<- hmp] at hro;have htake:(m2.map (RT.pv q)).take len=(m2.take len).map (RT.pv q):=by rw [bz]
   generalize m2.take len=mm at h htake;rcases gD h with ⟨hm,hk⟩|⟨hm,hk⟩
   · have hm:mm=[]:=by simpa using hm
     subst hm;refine jD.rd hS hk ?_ rfl;simp only [bU,hro,hx,htake,fh,htk]
   obtain ⟨hc2,hk⟩:=jX hk
   simp only [ac,be] at hc2;obtain ⟨c1,c2⟩:=hc2;have c1':=au c1;have hlen:=JX l mm off c1'
   refine ⟨_,_,?_,jQ.put hS (b:= .arr q (jP l off mm)) (q:= .arr q.length ((jP l off mm).map (RT.pv q))) (l:=[]) (ql:=[]) (v:= .int .i64 (.ofNat mm.length)) (p:= .int .i64 (.ofNat mm.length)) (rd:=CX vy) hst (.inl ⟨_,rfl,hlen⟩) rfl rfl (fun j b hj=>by simp at hj) rfl,hk⟩
   have hsr:nV off (mm.map (RT.pv q)) (l.map (RT.pv q))=(jP l off mm).map (RT.pv q):=by
    rw [O9,AE _ _ _ (by simpa using c1')]
   cases mm with
   |nil=>cases hm
   |cons a mm=>
    simp only [bj] at hsr htake;simp only [bU,hro,hx,htake,hS.arr hst,bn,c2,cq,bk,if_true,hsr,htk,az,ba]
theorem aEQ (hE:eU s e pe) (hS:cZ s ps) {esz:Nat} {x yy:gW} (h:pO e s z (.copy esz x yy) k ρ w=some y):jD s ps (bU pe ps z (.copy esz x yy)) k ρ w y:=by
 simp only [pO] at h;have hx:=eQ hE x;have hyv:=eQ hE yy;unfold aNG at h;generalize cI e yy=vy at h hyv;generalize cI e x=v at h hx;cases v with
 |own t ex=>
  simp only [cN] at h;generalize hst:s[t]? =b at h;cases b with
  |none=>cases h
  |some b=>
   cases b with
   |arr r l=>
    obtain ⟨he,hk⟩:=dG h;have he:=aa he;subst he;obtain ⟨e',n',hx,hat⟩:=hx;obtain ⟨rfl,rfl⟩:=hat.inv hst;exact IF hS hst hx hyv hk
   |_=>cases h
 |pre t len cap ex=>
  simp only [cN] at h;generalize hst:s[t]? =b at h;cases b with
  |none=>cases h
  |some b=>
   cases b with
   |arr r l=>
    obtain ⟨he,hk⟩:=dG h;have he:=aa he;subst he;obtain ⟨e',hx,hat⟩:=hx
    have:=hat.inv hst
    subst this;exact IF hS hst hx hyv hk
   |_=>cases h
 |part t off len cap ex=>
  simp only [cN] at h;generalize hst:s[t]? =b at h;cases b with
  |none=>cases h
  |some b=>
   cases b with
   |arr r l=>
    obtain ⟨he,hk⟩:=dG h;have he:=aa he;subst he;obtain ⟨e',hx,hat⟩:=hx
    have:=hat.inv hst
    subst this;exact IF hS hst hx hyv hk
   |_=>cases h
 |_=>cases h
theorem aGQ (hE:eU s e pe) (hS:cZ s ps) {op:nX} (h:pO e s z op k ρ w=some y):jD s ps (bU pe ps z op) k ρ w y:=by
 cases op with
 |mov x=>exact jD.val hS h rfl (eQ hE x)
 |pick c a b=>exact aEK hE hS h
 |bin op a b=>exact aGF hE hS h
 |binb n a b=>exact aEF hE hS h
 |eqc n g a b=>exact aGG hE hS h
 |un op a=>exact aOa hE hS h
 |conv a x=>exact aEH hE hS h
 |len x=>exact aGH hE hS h
 |lenc n=>exact jD.val hS h rfl rfl
 |box x=>exact aGI hE hS h
 |alloc c=>exact aDh hS h
 |build z p=>exact aDg hE hS h
 |mkrow a b c d=>exact aDk hE hS h
 |load a p=>exact aEN hE hS h
 |store a p x=>exact aDj hE hS h
 |nilc x=>exact aEI hE hS h
 |fadr o x=>exact aEJ hE hS h
 |fld a o x=>exact aGJ hE hS h
 |iadr a x i=>exact aEL hE hS h
 |iadra n a x i=>exact aDi hE hS h
 |idx n a g x i=>exact aGN hE hS h
 |sidx x i=>exact aEM hE hS h
 |slc a x l h' m=>exact aGO hE hS h
 |mks a z l c=>exact aGP hE hS h
 |mkf f a b=>exact aGL hE hS h
 |mkm m=>exact aGM hS h
 |lookup n z o m q=>exact aAE hE hS h
 |mapu n m q x=>exact aEP hE hS h
 |ext i x=>exact aGK hE hS h
 |append a x b=>exact aAF hE hS h
 |copy a x b=>exact aEQ hE hS h
 |clear a z x=>exact aDl hE hS h
 |mm m x xs=>exact aOb hE hS h
 |call m f a=>cases h
 |callv x a=>cases h
 |bad=>cases h
mutual
theorem aT6 {bx:Nat->Option (List SV)} {pbx:Nat->Option (List PV)} (hS:cZ s ps) (hb: ∀t l,bx t=some l-> ∃q,pbx t=some q/\pvL l=some q): ∀{v u:SV} {p:PV},R s v p->SN s bx v=some u-> ∃q,KX ps pbx p=some q/\yE u=some q
 | .int k n,u,p,h,hx=>by injection hx with hx;subst hx;rw [show p=_ from h];exact ⟨_,rfl,rfl⟩
 | .bool b,u,p,h,hx=>by injection hx with hx;subst hx;rw [show p=_ from h];exact ⟨_,rfl,rfl⟩
 | .str x,u,p,h,hx=>by injection hx with hx;subst hx;rw [show p=_ from h];exact ⟨_,rfl,rfl⟩
 | .nilf,u,p,h,hx=>by injection hx with hx;subst hx;rw [show p=_ from h];exact ⟨_,rfl,rfl⟩
 | .agg cs,u,p,h,hx=>by
  obtain ⟨q,rfl,h⟩:=h;simp only [SN] at hx;split at hx
  · rename_i l hl
    injection hx with hx;subst hx;obtain ⟨q',h1,h2⟩:=exVL_R hS hb h hl;exact ⟨.agg q',by simp only [KX,h1];rfl,by simp only [yE,h2]⟩
  cases hx
 | .tup cs,u,p,h,hx=>by
  obtain ⟨q,rfl,h⟩:=h;simp only [SN] at hx;split at hx
  · rename_i l hl
    injection hx with hx;subst hx;obtain ⟨q',h1,h2⟩:=exVL_R hS hb h hl;exact ⟨.tup q',by simp only [KX,h1];rfl,by simp only [yE,h2]⟩
  cases hx
 | .sl r l,u,p,h,hx=>by injection hx with hx;subst hx;rw [show p=_ from h];exact ⟨_,rfl,rfl⟩
 | .nil e c,u,p,h,hx=>by injection hx with hx;subst hx;rw [show p=_ from h];exact ⟨_,rfl,rfl⟩
 | .own t ex,u,p,h,hx=>by
  simp only [SN,cN] at hx;split at hx
  · rename_i r l hst
    injection hx with hx;subst hx;obtain ⟨e,n,rfl,hat⟩:=h;obtain ⟨rfl,rfl⟩:=hat.inv hst;refine ⟨.sl r.length false (l.map (RT.pv r)),?_,rfl⟩;simp only [KX,hS.arr hst,ce];rw [cd (by simp)]
  cases hx
 | .pre t len cap ex,u,p,h,hx=>by
  simp only [SN,cN] at hx;split at hx
  · rename_i r l hst
    injection hx with hx;subst hx;obtain ⟨e,rfl,hat⟩:=h
    have:=hat.inv hst
    subst this;refine ⟨.sl r.length false ((l.take len).map (RT.pv r)),?_,rfl⟩;simp only [KX,hS.arr hst,ce,bz]
  cases hx
 | .part t off len cap ex,u,p,h,hx=>by
  simp only [SN,cN] at hx;split at hx
  · rename_i r l hst
    injection hx with hx;subst hx;obtain ⟨e,rfl,hat⟩:=h
    have:=hat.inv hst
    subst this;refine ⟨.sl r.length false (((l.drop off).take len).map (RT.pv r)),?_,rfl⟩;simp only [KX,hS.arr hst,bz,cz]
  cases hx
 | .pa t r i a off,u,p,h,hx=>by
  simp only [SN,cN] at hx;split at hx
  · rename_i q l hst
    injection hx with hx;subst hx;obtain ⟨rfl,hat⟩:=h;obtain ⟨rfl,hg⟩:=hat.inv hst;obtain ⟨m,rfl,hm⟩:=qU hg;refine ⟨.rptr (RT.pv r a) off,?_,by simp only [yE,RT.pv_sv]⟩
    have hm':(l.map (RT.pv r))[m]? =some (RT.pv r a):=by simp [hm]
    have e1:(cm m).toNat=m:=rfl;simp only [KX,hS.arr hst,e1,hm'];rfl
  cases hx
 | .bp t n off,u,p,h,hx=>by
  simp only [SN,cN] at hx;split at hx
  · rename_i cs hst
    split at hx
    · rename_i l hl
      injection hx with hx;subst hx;rw [show p=_ from h];obtain ⟨q,h1,h2⟩:=hb t l hl;obtain ⟨c,h3,_⟩:=hS.box hst;refine ⟨.rptr q off,?_,by simp only [yE,h2]⟩
      simp only [KX,h3,bn,if_true,h1];rfl
    cases hx
  cases hx
 | .rptr cs off,u,p,h,hx=>by
  obtain ⟨q,rfl,h⟩:=h;simp only [SN] at hx;split at hx
  · rename_i l hl
    injection hx with hx;subst hx;obtain ⟨q',h1,h2⟩:=exVL_R hS hb h hl;exact ⟨.rptr q' off,by simp only [KX,h1];rfl,by simp only [yE,h2]⟩
  cases hx
 | .clo f a b,u,p,h,hx=>by
  obtain ⟨pa,pb,rfl,h1,h2⟩:=h;simp only [SN] at hx;split at hx
  · rename_i x y' h3 h4
    injection hx with hx;subst hx;obtain ⟨qa,h5,h6⟩:=exVL_R hS hb h1 h3;obtain ⟨qb,h7,h8⟩:=exVL_R hS hb h2 h4;exact ⟨.clo f qa qb,by simp only [KX,h5,h7],by simp only [yE,h6,h8]⟩
  cases hx
 | .junk,_,_,_,hx| .undef,_,_,_,hx| .nul,_,_,_,hx| .pb _ _ _,_,_,_,hx| .mp _,_,_,_,hx=>by cases hx
theorem exVL_R {bx:Nat->Option (List SV)} {pbx:Nat->Option (List PV)} (hS:cZ s ps) (hb: ∀t l,bx t=some l-> ∃q,pbx t=some q/\pvL l=some q): ∀{v u:List SV} {p:List PV},RL s v p->exVL s bx v=some u-> ∃q,exL ps pbx p=some q/\pvL u=some q
 | [],u,p,h,hx=>by injection hx with hx;subst hx;rw [show p=_ from h];exact ⟨_,rfl,rfl⟩
 |x::xs,u,p,h,hx=>by
  obtain ⟨q,qs,rfl,h1,h2⟩:=h.cons_inv;simp only [exVL] at hx;split at hx
  · rename_i y' ys h3 h4
    injection hx with hx;subst hx;obtain ⟨a,h5,h6⟩:=aT6 hS hb h1 h3;obtain ⟨as,h7,h8⟩:=exVL_R hS hb h2 h4;exact ⟨a::as,by simp only [exL,h5,h7],fM.2 ⟨a,as,rfl,h6,h8⟩⟩
  cases hx
end
theorem NN (hS:cZ s ps): ∀(n t:Nat) (l:List SV),nF s n t=some l-> ∃q,EN ps n t=some q/\pvL l=some q
 |0,t,l,h=>by cases h
 |n+1,t,l,h=>by
  simp only [nF,cN] at h;split at h
  · rename_i cs hst
    obtain ⟨q,h1,h2⟩:=hS.box hst;obtain ⟨u,h3,h4⟩:=exVL_R hS (NN hS n) h2 h;exact ⟨u,by simp only [EN,h1,h3],h4⟩
  cases h
mutual
theorem aER {bx pbx:Nat->List Nat} (hb: ∀t,bx t=pbx t): ∀{v:SV} {p:PV},R s v p->v.sure=true->tkV bx v=kZ pbx p
 | .junk,_,_,h=>by cases h
 | .undef,p,h,_| .nul,p,h,_| .nilf,p,h,_| .int _ _,p,h,_| .bool _,p,h,_| .str _,p,h,_| .sl _ _,p,h,_| .nil _ _,p,h,_=>by rw [show p=_ from h];rfl
 | .agg cs,p,h,hs=>by obtain ⟨q,rfl,h⟩:=h;exact tkVL_R hb h hs
 | .tup cs,p,h,hs=>by obtain ⟨q,rfl,h⟩:=h;exact tkVL_R hb h hs
 | .own t ex,p,h,_=>by obtain ⟨e,n,rfl,_⟩:=h;rfl
 | .pre t a b c,p,h,_=>by obtain ⟨e,rfl,_⟩:=h;rfl
 | .part t o a b c,p,h,_=>by obtain ⟨e,rfl,_⟩:=h;rfl
 | .pa t r i a o,p,h,_=>by obtain ⟨rfl,_⟩:=h;simp only [tkV,kZ,hb]
 | .pb t i o,p,h,_=>by obtain ⟨e,rfl,_⟩:=h;simp only [tkV,kZ,hb]
 | .bp t n o,p,h,_=>by rw [show p=_ from h];simp only [tkV,kZ,hb]
 | .rptr cs o,p,h,hs=>by obtain ⟨q,rfl,h⟩:=h;exact tkVL_R hb h hs
 | .mp t,p,h,_=>by rw [show p=_ from h];rfl
 | .clo f a b,p,h,hs=>by
  obtain ⟨pa,pb,rfl,h1,h2⟩:=h;simp only [SV.sure,ac] at hs;simp only [tkV,kZ,tkVL_R hb h1 hs.1,tkVL_R hb h2 hs.2]
theorem tkVL_R {bx pbx:Nat->List Nat} (hb: ∀t,bx t=pbx t): ∀{v:List SV} {p:List PV},RL s v p->sureL v=true->tkVL bx v=toksL pbx p
 | [],p,h,_=>by rw [show p=_ from h];rfl
 |x::xs,p,h,hs=>by
  obtain ⟨q,qs,rfl,h1,h2⟩:=h.cons_inv;simp only [sureL,ac] at hs;simp only [tkVL,toksL,aER hb h1 hs.1,tkVL_R hb h2 hs.2]
end
end
end Go.Vm
/- The head of a loop: what the typed machine keeps there, the logical machine keeps there. -/
namespace Go.Vm
section
variable {s : List SB} {ps : cX}
mutual
theorem aT7 {n:Nat} (hS:cZ s ps) (hB: ∀t l,nF s n t=some l->EL s n t=dT ps n t): ∀{v u:SV} {p:PV},R s v p->SN s (nF s n) v=some u->tkV (EL s n) v=kZ (dT ps n) p
 | .int _ _,_,p,h,_| .bool _,_,p,h,_| .str _,_,p,h,_| .nilf,_,p,h,_| .sl _ _,_,p,h,_| .nil _ _,_,p,h,_=>by rw [show p=_ from h];rfl
 | .agg cs,u,p,h,hx=>by
  obtain ⟨q,rfl,h⟩:=h;simp only [SN] at hx;split at hx
  · rename_i l hl;exact tkExL hS hB h hl
  cases hx
 | .tup cs,u,p,h,hx=>by
  obtain ⟨q,rfl,h⟩:=h;simp only [SN] at hx;split at hx
  · rename_i l hl;exact tkExL hS hB h hl
  cases hx
 | .own t ex,_,p,h,_=>by obtain ⟨e,n,rfl,_⟩:=h;rfl
 | .pre t a b c,_,p,h,_=>by obtain ⟨e,rfl,_⟩:=h;rfl
 | .part t o a b c,_,p,h,_=>by obtain ⟨e,rfl,_⟩:=h;rfl
 | .pa t r i a o,_,p,h,hx=>by
  obtain ⟨rfl,hat⟩:=h;simp only [SN,cN] at hx;split at hx
  · rename_i q l hst
    simp only [tkV,kZ];cases n with
    |zero=>rfl
    |succ n=>simp only [EL,dT,cN,hst,hS.arr hst]
  cases hx
 | .bp t m o,u,p,h,hx=>by
  rw [show p=_ from h];simp only [SN,cN] at hx;split at hx
  · split at hx
    · rename_i l hl
      simp only [tkV,kZ,hB t l hl]
    cases hx
  cases hx
 | .rptr cs o,u,p,h,hx=>by
  obtain ⟨q,rfl,h⟩:=h;simp only [SN] at hx;split at hx
  · rename_i l hl;exact tkExL hS hB h hl
  cases hx
 | .clo f a b,u,p,h,hx=>by
  obtain ⟨pa,pb,rfl,h1,h2⟩:=h;simp only [SN] at hx;split at hx
  · rename_i x y h3 h4
    simp only [tkV,kZ,tkExL hS hB h1 h3,tkExL hS hB h2 h4]
  cases hx
 | .junk,_,_,_,hx| .undef,_,_,_,hx| .nul,_,_,_,hx| .pb _ _ _,_,_,_,hx| .mp _,_,_,_,hx=>by cases hx
theorem tkExL {n:Nat} (hS:cZ s ps) (hB: ∀t l,nF s n t=some l->EL s n t=dT ps n t): ∀{v u:List SV} {p:List PV},RL s v p->exVL s (nF s n) v=some u->tkVL (EL s n) v=toksL (dT ps n) p
 | [],_,p,h,_=>by rw [show p=_ from h];rfl
 |x::xs,u,p,h,hx=>by
  obtain ⟨q,qs,rfl,h1,h2⟩:=h.cons_inv;simp only [exVL] at hx;split at hx
  · rename_i a b h3 h4
    simp only [tkVL,toksL,aT7 hS hB h1 h3,tkExL hS hB h2 h4]
  cases hx
end
theorem aES {n:Nat} (hS:cZ s ps) (hB: ∀t l,nF s n t=some l->EL s n t=dT ps n t): ∀{v:List SV} {p:List PV},RL s v p->aAu s (nF s n) v=true->tkVL (EL s n) v=toksL (dT ps n) p
 | [],p,h,_=>by rw [show p=[] from h];rfl
 |x::xs,p,h,hx=>by
  obtain ⟨a,as,rfl,h1,h2⟩:=h.cons_inv;have other: ∀u,SN s (nF s n) x=some u->aAu s (nF s n) xs=true->tkVL (EL s n) (x::xs)=toksL (dT ps n) (a::as):=fun u h3 h4=>by
   simp only [tkVL,toksL,aT7 hS hB h1 h3,aES hS hB h2 h4]
  unfold aAu at hx;split at hx
  · rename_i t
    rw [show a= .mp t from h1];simp only [tkVL,toksL,tkV,kZ,aES hS hB h2 hx]
  split at hx
  · rename_i u h3
    exact other u h3 hx
  cases hx
theorem PA (hS:cZ s ps): ∀(n t:Nat) (l:List SV),nF s n t=some l->EL s n t=dT ps n t
 |0,t,l,h=>rfl
 |n+1,t,l,h=>by
  simp only [nF,cN] at h;split at h
  · rename_i cs hst
    obtain ⟨q,h1,h2⟩:=hS.box hst;simp only [EL,dT,cN,hst,h1];exact tkExL hS (PA hS n) h2 h
  cases h
theorem UQ {b:SB} {q:mJ} (h:RB s b q) (hs:GD b=true):OT b=xE q:=by
 cases b with
 |box cs=>obtain ⟨c,rfl,h⟩:=h;exact tkVL_R (fun _=>rfl) h hs
 |arr r l=>rw [show q=_ from h];rfl
 |set l=>rw [show q=_ from h];rfl
 |tab p l=>rw [show q=_ from h];rfl
 |dead=>rw [show q=_ from h];rfl
theorem PB (hS:cZ s ps): ∀(n:Nat) (ts seen m:List Nat),LE s n ts seen=some m->I7 ps n ts seen=some m
 |n,[],seen,m,h=>by
  cases n<;>(simp only [LE] at h;exact h)
 |0,_::_,_,_,h=>by cases h
 |n+1,t::ts,seen,m,h=>by
  simp only [LE,cN] at h;simp only [I7];cases hh:has seen t with
  |true=>rw [hh] at h;simp only [cond_true] at h;simp only [if_true];exact PB hS n ts seen m h
  |false=>
   rw [hh] at h;simp only [cond_false] at h;simp only [ar,if_false];split at h
   · rename_i b hst
     obtain ⟨q,h1,h2⟩:=hS.at_ t b hst;cases hb:GD b with
     |false=>rw [hb] at h;cases h
     |true=>
      rw [hb] at h;simp only [cond_true] at h;rw [h1,UQ h2 hb] at*;exact PB hS n _ _ m h
   cases h
theorem PC: ∀{t u:Nat} {m:List Nat},vD t m=some u->m[u]? =some t
 |t,u,[],h=>by cases h
 |t,u,x::m,h=>by
  simp only [vD] at h;cases hb:bw x t with
  |true=>rw [hb] at h;simp at h;subst h;simp [aa hb]
  |false=>
   rw [hb] at h;simp only [ar,if_false,bi] at h;obtain ⟨v,hv,rfl⟩:=h;simpa using PC hv
def PD (m:List Nat) (s s':List SB):Prop:= ∀(t u:Nat) (b:SB),vD t m=some u->s[t]? =some b->match b with
 | .arr r l=>s'[u]? =some (.arr r l)
 | .dead=>s'[u]? =some .dead
 |_=>True
mutual
theorem aET {m:List Nat} {s':List SB} (hr:PD m s s'): ∀{v u:SV} {p:PV},R s v p->vM m v=some u-> ∃q,ren m p=some q/\R s' u q
 | .junk,_,_,_,hx=>by cases hx
 | .undef,u,p,h,hx| .nul,u,p,h,hx| .nilf,u,p,h,hx| .int _ _,u,p,h,hx| .bool _,u,p,h,hx| .str _,u,p,h,hx| .sl _ _,u,p,h,hx| .nil _ _,u,p,h,hx=>by
  injection hx with hx;subst hx;rw [show p=_ from h];exact ⟨_,rfl,rfl⟩
 | .agg cs,u,p,h,hx=>by
  obtain ⟨q,rfl,h⟩:=h;simp only [vM] at hx;split at hx
  · rename_i l hl
    injection hx with hx;subst hx;obtain ⟨q',h1,h2⟩:=renVL_R hr h hl;exact ⟨.agg q',by simp only [ren,h1];rfl,q',rfl,h2⟩
  cases hx
 | .tup cs,u,p,h,hx=>by
  obtain ⟨q,rfl,h⟩:=h;simp only [vM] at hx;split at hx
  · rename_i l hl
    injection hx with hx;subst hx;obtain ⟨q',h1,h2⟩:=renVL_R hr h hl;exact ⟨.tup q',by simp only [ren,h1];rfl,q',rfl,h2⟩
  cases hx
 | .own t ex,u,p,h,hx=>by
  obtain ⟨e,n,rfl,hat⟩:=h;simp only [vM] at hx;split at hx
  · rename_i v hv
    injection hx with hx;subst hx;refine ⟨.own v e 0 n n ex,by simp only [ren,hv];rfl,e,n,rfl,?_⟩
    rcases hat with ⟨r,l,h1,h2,h3⟩|h1
    · exact .inl ⟨r,l,hr t v _ hv h1,h2,h3⟩
    exact .inr (hr t v _ hv h1)
  cases hx
 | .pre t len cap ex,u,p,h,hx=>by
  obtain ⟨e,rfl,hat⟩:=h;simp only [vM] at hx;split at hx
  · rename_i v hv
    injection hx with hx;subst hx;refine ⟨.own v e 0 len cap ex,by simp only [ren,hv];rfl,e,rfl,?_⟩
    rcases hat with ⟨r,l,h1,h2⟩|h1
    · exact .inl ⟨r,l,hr t v _ hv h1,h2⟩
    exact .inr (hr t v _ hv h1)
  cases hx
 | .part t off len cap ex,u,p,h,hx=>by
  obtain ⟨e,rfl,hat⟩:=h;simp only [vM] at hx;split at hx
  · rename_i v hv
    injection hx with hx;subst hx;refine ⟨.own v e off len cap ex,by simp only [ren,hv];rfl,e,rfl,?_⟩
    rcases hat with ⟨r,l,h1,h2⟩|h1
    · exact .inl ⟨r,l,hr t v _ hv h1,h2⟩
    exact .inr (hr t v _ hv h1)
  cases hx
 | .pa t r i a off,u,p,h,hx=>by
  obtain ⟨rfl,hat⟩:=h;simp only [vM] at hx;split at hx
  · rename_i v hv
    injection hx with hx;subst hx;refine ⟨.ptr v r.length i.toNat off,by simp only [ren,hv];rfl,r.length,rfl,?_⟩
    rcases hat with ⟨l,h1,h2⟩|h1
    · exact .inl ⟨r,l,hr t v _ hv h1,by rw [h2];rfl⟩
    exact .inr (hr t v _ hv h1)
  cases hx
 | .pb t i off,u,p,h,hx=>by
  obtain ⟨e,rfl,hat⟩:=h;simp only [vM] at hx;split at hx
  · rename_i v hv
    injection hx with hx;subst hx;refine ⟨.ptr v e i.toNat off,by simp only [ren,hv];rfl,e,rfl,?_⟩
    rcases hat with ⟨r,l,h1,h2⟩|h1
    · exact .inl ⟨r,l,hr t v _ hv h1,h2⟩
    exact .inr (hr t v _ hv h1)
  cases hx
 | .bp t n off,u,p,h,hx=>by
  rw [show p=_ from h];simp only [vM] at hx;split at hx
  · rename_i v hv
    injection hx with hx;subst hx;exact ⟨.ptr v n 0 off,by simp only [ren,hv];rfl,rfl⟩
  cases hx
 | .rptr cs off,u,p,h,hx=>by
  obtain ⟨q,rfl,h⟩:=h;simp only [vM] at hx;split at hx
  · rename_i l hl
    injection hx with hx;subst hx;obtain ⟨q',h1,h2⟩:=renVL_R hr h hl;exact ⟨.rptr q' off,by simp only [ren,h1];rfl,q',rfl,h2⟩
  cases hx
 | .mp t,u,p,h,hx=>by
  rw [show p=_ from h];simp only [vM] at hx;split at hx
  · rename_i v hv
    injection hx with hx;subst hx;exact ⟨.mp v,by simp only [ren,hv];rfl,rfl⟩
  cases hx
 | .clo f a b,u,p,h,hx=>by
  obtain ⟨pa,pb,rfl,h1,h2⟩:=h;simp only [vM] at hx;split at hx
  · rename_i x y h3 h4
    injection hx with hx;subst hx;obtain ⟨qa,h5,h6⟩:=renVL_R hr h1 h3;obtain ⟨qb,h7,h8⟩:=renVL_R hr h2 h4;exact ⟨.clo f qa qb,by simp only [ren,h5,h7],qa,qb,rfl,h6,h8⟩
  cases hx
theorem renVL_R {m:List Nat} {s':List SB} (hr:PD m s s'): ∀{v u:List SV} {p:List PV},RL s v p->renVL m v=some u-> ∃q,renL m p=some q/\RL s' u q
 | [],u,p,h,hx=>by injection hx with hx;subst hx;rw [show p=_ from h];exact ⟨_,rfl,rfl⟩
 |x::xs,u,p,h,hx=>by
  obtain ⟨q,qs,rfl,h1,h2⟩:=h.cons_inv;simp only [renVL] at hx;split at hx
  · rename_i a b h3 h4
    injection hx with hx;subst hx;obtain ⟨a',h5,h6⟩:=aET hr h1 h3;obtain ⟨b',h7,h8⟩:=renVL_R hr h2 h4;exact ⟨a'::b',by simp only [renL,h5,h7],RL.cons h6 h8⟩
  cases hx
end
theorem aOc {m:List Nat} {s':List SB} (hr:PD m s s') {b c:SB} {q:mJ} (h:RB s b q) (hx:aEv m b=some c): ∃q',rL m q=some q'/\RB s' c q':=by
 cases b with
 |box cs=>
  obtain ⟨p,rfl,h⟩:=h;simp only [aEv] at hx;split at hx
  · rename_i l hl
    injection hx with hx;subst hx;obtain ⟨q',h1,h2⟩:=renVL_R hr h hl;exact ⟨.box q',by simp only [rL,h1];rfl,q',rfl,h2⟩
  cases hx
 |arr r l=>injection hx with hx;subst hx;rw [show q=_ from h];exact ⟨_,rfl,rfl⟩
 |set l=>injection hx with hx;subst hx;rw [show q=_ from h];exact ⟨_,rfl,rfl⟩
 |tab p l=>injection hx with hx;subst hx;rw [show q=_ from h];exact ⟨_,rfl,rfl⟩
 |dead=>injection hx with hx;subst hx;rw [show q=_ from h];exact ⟨_,rfl,rfl⟩
theorem E5 {m:List Nat}: ∀{ts:List Nat} {s1:List SB},RO s m ts=some s1->s1.length=ts.length/\ ∀(j t:Nat),ts[j]? =some t-> ∃b c,s[t]? =some b/\aEv m b=some c/\s1[j]? =some c
 | [],s1,h=>by injection h with h;subst h;exact ⟨rfl,fun j t h=>by simp at h⟩
 |t::ts,s1,h=>by
  simp only [RO,cN] at h;split at h
  · rename_i b hb
    split at h
    · rename_i c r hc hr
      injection h with h;subst h;obtain ⟨h1,h2⟩:=E5 hr;refine ⟨by simp [h1],fun j u hj=>?_⟩
      cases j with
      |zero=>simp at hj;subst hj;exact ⟨b,c,hb,hc,rfl⟩
      |succ j=>simpa using h2 j u (by simpa using hj)
    cases h
  cases h
theorem LK (hS:cZ s ps) {m:List Nat} {s':List SB} (hr:PD m s s'): ∀{ts:List Nat} {s1:List SB},RO s m ts=some s1-> ∃p1,EO ps m ts=some p1/\p1.length=s1.length/\ ∀(j:Nat) (b:SB),s1[j]? =some b-> ∃q,p1[j]? =some q/\RB s' b q
 | [],s1,h=>by injection h with h;subst h;exact ⟨[],rfl,rfl,fun j b h=>by simp at h⟩
 |t::ts,s1,h=>by
  simp only [RO,cN] at h;split at h
  · rename_i b hb
    split at h
    · rename_i c r hc hr'
      injection h with h;subst h;obtain ⟨q,h1,h2⟩:=hS.at_ t b hb;obtain ⟨q',h3,h4⟩:=aOc hr h2 hc;obtain ⟨p1,h5,h6,h7⟩:=LK hS hr hr';refine ⟨q'::p1,by simp only [EO,h1,h3,h5],by simp [h6],fun j x hj=>?_⟩
      cases j with
      |zero=>simp at hj;subst hj;exact ⟨q',rfl,h4⟩
      |succ j=>simpa using h7 j x (by simpa using hj)
    cases h
  cases h
theorem PD.of {m:List Nat} {s1 l:List SB} (h:RO s m m=some s1):PD m s (s1++l):=fun t u b hu hb=>by
 have hm:=PC hu;obtain ⟨h1,h2⟩:=E5 h;obtain ⟨b',c,h3,h4,h5⟩:=h2 u t hm;rw [hb] at h3;injection h3 with h3;subst h3;have hlt:=(ae.1 h5).1;cases b with
 |arr r l'=>injection h4 with h4;subst h4;rw [af hlt];exact h5
 |dead=>injection h4 with h4;subst h4;rw [af hlt];exact h5
 |_=>trivial
theorem B7: ∀(rk:List (Nat×List PT)) (n:Nat),(D9 rk n).length=n
 | [],n=>by simp [D9]
 |(m,r)::q,n=>by
  simp only [D9];cases hc:(bw m n&&bw r.length n) with
  |true=>simp only [ac] at hc;exact aa hc.2
  |false=>exact B7 q n
theorem LL {rk:List (Nat×List PT)} {e:SE} {m:List Nat}: ∀{live:List (Nat×Option Nat)} {nx:Nat} {e1:SE} {s2:List SB},EA rk e m nx live=some (e1,s2)-> ∀(j:Nat) (b:SB),s2[j]? =some b-> ∃r,b= .arr r []
 | [],nx,e1,s2,h,j,b,hj=>by
  simp only [EA,aq,bu] at h;rw [<- h.2] at hj;simp at hj
 |(t,k)::live,nx,e1,s2,h,j,b,hj=>by
  simp only [EA] at h;split at h
  · split at h
    · rename_i p hp
      simp only [aq,bu] at h;obtain ⟨rfl,rfl⟩:=h;cases j with
      |zero=>simp at hj;exact ⟨_,hj.symm⟩
      |succ j=>exact LL (e1:=p.1) (s2:=p.2) hp j b (by simpa using hj)
    cases h
  split at h
  · rename_i v' p hv hp
    simp only [aq,bu] at h;obtain ⟨rfl,rfl⟩:=h;exact LL (e1:=p.1) (s2:=p.2) hp j b hj
  cases h
mutual
theorem LM {m:List Nat}: ∀{v u:SV},vM m v=some u->u.sure=true
 | .junk,_,h=>by cases h
 | .undef,u,h| .nul,u,h| .nilf,u,h| .int _ _,u,h| .bool _,u,h| .str _,u,h| .sl _ _,u,h| .nil _ _,u,h=>by injection h with h;subst h;rfl
 | .agg cs,u,h=>by
  simp only [vM] at h;split at h
  · rename_i l hl;injection h with h;subst h;exact renVL_sure hl
  cases h
 | .tup cs,u,h=>by
  simp only [vM] at h;split at h
  · rename_i l hl;injection h with h;subst h;exact renVL_sure hl
  cases h
 | .rptr cs _,u,h=>by
  simp only [vM] at h;split at h
  · rename_i l hl;injection h with h;subst h;exact renVL_sure hl
  cases h
 | .own _ _,u,h=>by simp only [vM] at h;split at h<;>first|(injection h with h;subst h;rfl)|cases h
 | .pre _ _ _ _,u,h=>by simp only [vM] at h;split at h<;>first|(injection h with h;subst h;rfl)|cases h
 | .part _ _ _ _ _,u,h=>by simp only [vM] at h;split at h<;>first|(injection h with h;subst h;rfl)|cases h
 | .pa _ _ _ _ _,u,h=>by simp only [vM] at h;split at h<;>first|(injection h with h;subst h;rfl)|cases h
 | .pb _ _ _,u,h=>by simp only [vM] at h;split at h<;>first|(injection h with h;subst h;rfl)|cases h
 | .bp _ _ _,u,h=>by simp only [vM] at h;split at h<;>first|(injection h with h;subst h;rfl)|cases h
 | .mp _,u,h=>by simp only [vM] at h;split at h<;>first|(injection h with h;subst h;rfl)|cases h
 | .clo f a b,u,h=>by
  simp only [vM] at h;split at h
  · rename_i x y h1 h2
    injection h with h;subst h;simp only [SV.sure,renVL_sure h1,renVL_sure h2,bk]
  cases h
theorem renVL_sure {m:List Nat}: ∀{v u:List SV},renVL m v=some u->sureL u=true
 | [],u,h=>by injection h with h;subst h;rfl
 |x::xs,u,h=>by
  simp only [renVL] at h;split at h
  · rename_i a b h1 h2
    injection h with h;subst h;simp only [sureL,LM h1,renVL_sure h2,bk]
  cases h
end
theorem aGR {s:List SB} {v:SV} {p:PV} (h:R s v p): ∀k:Option Nat,v.sure=true->R s (UJ k v) (exOff k p)
 |none,_=>h
 |some _,hs=>by
  cases v with
  |own t ex=>obtain ⟨e,n,rfl,h⟩:=h;exact ⟨e,n,rfl,h⟩
  |pre t l c ex=>obtain ⟨e,rfl,h⟩:=h;exact ⟨e,rfl,h⟩
  |part t o l c ex=>obtain ⟨e,rfl,h⟩:=h;exact ⟨e,rfl,h⟩
  |junk=>cases hs
  |undef|nul|nilf|int _ _|bool _|str _|bp _ _ _|mp _|sl _ _|nil _ _=>rw [show p=_ from h];rfl
  |agg _|tup _|rptr _ _=>obtain ⟨q,rfl,h⟩:=h;exact ⟨q,rfl,h⟩
  |clo _ _ _=>obtain ⟨q,q2,rfl,h⟩:=h;exact ⟨q,q2,rfl,h⟩
  |pa _ _ _ _ _=>obtain ⟨rfl,h⟩:=h;exact ⟨rfl,h⟩
  |pb _ _ _=>obtain ⟨q,rfl,h⟩:=h;exact ⟨q,rfl,h⟩
theorem aAG {v:SV} (h:v.sure=true) (k:Option Nat):(UJ k v).sure=true:=by
 unfold UJ;split<;>first|rfl|exact h
theorem UR {rk:List (Nat×List PT)} {e:SE} {pe:zO} (hE:eU s e pe) {m:List Nat} {s':List SB} (hr:PD m s s'): ∀{live:List (Nat×Option Nat)} {nx:Nat} {e1:SE} {s2:List SB},EA rk e m nx live=some (e1,s2)->(∀(j:Nat) (b:SB),s2[j]? =some b->s'[nx+j]? =some b)->
 ∃p1 q2,xF pe m nx live=some (p1,q2)/\eU s' e1 p1/\q2.length=s2.length/\ ∀(j:Nat) (b:SB),s2[j]? =some b-> ∃q,q2[j]? =some q/\RB s' b q
 | [],nx,e1,s2,h,_=>by
  simp only [EA,aq,bu] at h;obtain ⟨rfl,rfl⟩:=h;exact ⟨[],[],rfl,rfl,rfl,fun j b h=>by simp at h⟩
 |(t,k)::live,nx,e1,s2,h,hs=>by
  have hlk:=hE.lk t;simp only [EA] at h;split at h
  · rename_i kk esz en hv
    split at h
    · rename_i p hp
      simp only [aq,bu] at h;obtain ⟨rfl,rfl⟩:=h;rw [hv] at hlk;obtain ⟨p1,q2,h1,h2,h3,h4⟩:=UR (live:=live) (nx:=nx+1) (e1:=p.1) (s2:=p.2) hE hr hp (fun j b hj=>by
       have:=hs (j+1) b (by simpa using hj)
       rw [show nx+1+j=nx+(j+1) by omega];exact this)
      refine ⟨(t,.own nx esz 0 0 0 false)::p1,.arr esz []::q2,?_,⟨_,_,rfl,⟨esz,0,rfl,.inl ⟨D9 rk esz,[],by simpa using hs 0 _ rfl,(B7 rk esz).symm,rfl⟩⟩,h2⟩,by simp [h3],fun j b hj=>?_⟩
      · have hlk':lk t pe= .sl en true []:=hlk
        simp only [xF,hlk',h1];rfl
      cases j with
      |zero=>simp at hj;subst hj;exact ⟨_,rfl,by show _=_;rw [B7];rfl⟩
      |succ j=>simpa using h4 j b (by simpa using hj)
    cases h
  rename_i hne
  split at h
  · rename_i v' p hv hp
    simp only [aq,bu] at h;obtain ⟨rfl,rfl⟩:=h;obtain ⟨q',h5,h6⟩:=aET hr hlk hv;obtain ⟨p1,q2,h1,h2,h3,h4⟩:=UR (live:=live) (e1:=p.1) (s2:=p.2) hE hr hp hs;refine ⟨(t,exOff _ q')::p1,q2,?_,⟨_,_,rfl,aGR h6 _ (LM hv),h2⟩,h3,h4⟩;simp only [xF];split
    · rename_i esz x hx
      exfalso;rw [hx] at hlk;generalize RJ t e=v0 at hlk hv hne;cases v0 with
      |junk=>cases hv
      |nil e' c=>
       have hlk':PV.sl x true []= .sl e' c []:=hlk;injection hlk' with h1 h2;subst h2;exact hne _ _ rfl rfl
      |undef|nul|nilf|int _ _|bool _|str _|bp _ _ _|mp _=>cases (show PV.sl x true []=_ from hlk)
      |sl r l=>cases (show PV.sl x true []=_ from hlk)
      |agg _|tup _|rptr _ _=>obtain ⟨q,hq,_⟩:=hlk;cases hq
      |clo _ _ _=>obtain ⟨q,q2,hq,_⟩:=hlk;cases hq
      |own _ _=>obtain ⟨q,q2,hq,_⟩:=hlk;cases hq
      |pre _ _ _ _=>obtain ⟨q,hq,_⟩:=hlk;cases hq
      |part _ _ _ _ _=>obtain ⟨q,hq,_⟩:=hlk;cases hq
      |pa _ _ _ _ _=>obtain ⟨hq,_⟩:=hlk;cases hq
      |pb _ _ _=>obtain ⟨q,hq,_⟩:=hlk;cases hq
    simp only [h5,h1]
  cases h
def aNM (s:List SB):Prop:= ∀(t:Nat) (cs:List SV),s[t]? =some (.box cs)->sureL cs=true
def SW:SE->Prop
 | []=>True
 |(_,v)::r=>v.sure=true/\SW r
theorem SW.lk: ∀{e:SE},SW e-> ∀t,(RJ t e).sure=true
 | [],_,t=>rfl
 |(u,v)::r,h,t=>by
  simp only [RJ];cases hb:bw u t with
  |true=>exact h.1
  |false=>exact SW.lk h.2 t
theorem IG {rk:List (Nat×List PT)} {e:SE} {m:List Nat}: ∀{live:List (Nat×Option Nat)} {nx:Nat} {e1:SE} {s2:List SB},EA rk e m nx live=some (e1,s2)->SW e1
 | [],nx,e1,s2,h=>by
  simp only [EA,aq,bu] at h;rw [<- h.1];trivial
 |(t,k)::live,nx,e1,s2,h=>by
  simp only [EA] at h;split at h
  · split at h
    · rename_i p hp
      simp only [aq,bu] at h;obtain ⟨rfl,rfl⟩:=h;exact ⟨rfl,IG (e1:=p.1) (s2:=p.2) hp⟩
    cases h
  split at h
  · rename_i v' p hv hp
    simp only [aq,bu] at h;obtain ⟨rfl,rfl⟩:=h;exact ⟨aAG (LM hv) _,IG (e1:=p.1) (s2:=p.2) hp⟩
  cases h
theorem SX: ∀{l:List SV},sureL l=true-> ∀{n:Nat} {v:SV},nth l n=some v->v.sure=true
 | [],_,_,_,h=>by cases h
 |x::xs,hs,0,v,h=>by injection h with h;subst h;simp only [sureL,ac] at hs;exact hs.1
 |x::xs,hs,n+1,v,h=>by simp only [sureL,ac] at hs;exact SX hs.2 (n:=n) h
theorem SY: ∀{l:List SV},sureL l=true-> ∀(n:Nat) {v:SV},v.sure=true->sureL (l.set n v)=true
 | [],_,n,v,_=>rfl
 |x::xs,hs,0,v,h=>by simp only [sureL,ac] at hs;simp [sureL,h,hs.2]
 |x::xs,hs,n+1,v,h=>by simp only [sureL,ac] at hs;simp [sureL,hs.1,SY hs.2 n h]
theorem RL.set {s:List SB}: ∀{xs:List SV} {ps:List PV},RL s xs ps-> ∀(n:Nat) {v:SV} {p:PV},R s v p->RL s (xs.set n v) (ps.set n p)
 | [],ps,h,n,v,p,_=>by rw [show ps=[] from h];exact RL.nil
 |x::xs,ps,h,0,v,p,hv=>by
  obtain ⟨a,q,rfl,h1,h2⟩:=h.cons_inv;exact RL.cons hv h2
 |x::xs,ps,h,n+1,v,p,hv=>by
  obtain ⟨a,q,rfl,h1,h2⟩:=h.cons_inv;exact RL.cons h1 (RL.set h2 n hv)
structure RSS (st:vL) (p:St):Prop where
 r:HB st p
 s:aNM st.sto
 e:SW st.env
theorem aAH {rk:List (Nat×List PT)} {st:vL} {p:St} (h:RSS st p) (t c esz:Nat):RSS (OU rk st t c esz) (xG p t c esz):=by
 unfold OU xG;rw [cN];cases hst:st.sto[t]? with
 |none=>
  have:p.sto[t]? =none:=by
   rw [cy] at hst ⊢;rw [h.r.sto.len];exact hst
  rw [this];exact h
 |some b=>
  obtain ⟨q,h1,h2⟩:=h.r.sto.at_ t b hst;rw [h1];cases b with
  |arr r l=>rw [show q=_ from h2];exact h
  |set l=>rw [show q=_ from h2];exact h
  |tab p l=>rw [show q=_ from h2];exact h
  |dead=>rw [show q=_ from h2];exact h
  |box cs=>
   obtain ⟨pc,rfl,h3⟩:=h2;dsimp only;cases hc:nth cs c with
   |none=>
    have:pc[c]? =none:=by
     rw [cN,cy] at hc;rw [cy,h3.length];exact hc
    rw [this];exact h
   |some v=>
    obtain ⟨pv,h4,h5⟩:=h3.nth hc;rw [h4];have hsure:=SX (h.s t cs hst) hc;have hcs:=h.s t cs hst;have other:(∀e,pv≠ .sl e true [])->(∀e,v≠ .nil e true)->RSS (match some v with
     |some (.nil _ true)=>{st with sto:=st.sto.set t (.box (cs.set c (.own st.sto.length false)))++[.arr (D9 rk esz) []]}
     |_=>st) (match some pv with
     |some (.sl _ true [])=>{p with sto:=p.sto.set t (.box (pc.set c (.own p.sto.length esz 0 0 0 false)))++[.arr esz []]}
     |_=>p):=by
     intro n1 n2;split
     · rename_i e he;injection he with he;exact absurd he (n2 e)
     split
     · rename_i e he;injection he with he;exact absurd he (n1 e)
     exact h
    cases v with
    |junk=>cases hsure
    |nil e' cl=>
     have h5':pv= .sl e' cl []:=h5;subst h5';cases cl with
     |false=>exact other (fun e he=>by cases he) (fun e he=>by cases he)
     |true=>
      dsimp only;have hlt:=(ae.1 hst).1;have hfr:Fr [] st.sto (st.sto.set t (.box (cs.set c (.own st.sto.length false)))++[.arr (D9 rk esz) []]):=fun u x hu=>by
       by_cases hut:t=u
       · subst hut;rw [hst] at hu;injection hu with hu;subst hu;trivial
       have hul:=(ae.1 hu).1
       have:(st.sto.set t (.box (cs.set c (.own st.sto.length false)))++[.arr (D9 rk esz) []])[u]? =some x:=by
        rw [af (by simpa using hul),ao];simp [hut,hu]
       cases x with
       |arr r l=>exact .inl ⟨l,this,rfl,fun _=>rfl⟩
       |dead=>exact this
       |_=>trivial
      have hlen:(st.sto.set t (.box (cs.set c (.own st.sto.length false)))).length=st.sto.length:=by simp
      have hown:R (st.sto.set t (.box (cs.set c (.own st.sto.length false)))++[.arr (D9 rk esz) []]) (.own st.sto.length false) (.own p.sto.length esz 0 0 0 false):=by
       refine ⟨esz,0,by rw [h.r.sto.len],.inl ⟨D9 rk esz,[],?_,(B7 rk esz).symm,rfl⟩⟩
       rw [ai (by simp)];simp
      refine ⟨⟨eU.ext hfr h.r.env,⟨by simp [h.r.sto.len],fun u x hu=>?_⟩,h.r.fz,h.r.kn⟩,fun u x hu=>?_,h.e⟩
      · rcases cw u st.sto.length with hul|hul
        · rw [af (by simpa using hul),ao] at hu
          by_cases hut:t=u
          · subst hut
            simp [hlt] at hu;subst hu;refine ⟨.box (pc.set c (.own p.sto.length esz 0 0 0 false)),?_,_,rfl,RL.set (RL.ext hfr h3) c hown⟩;rw [af (by simp [h.r.sto.len,hul]),ao]
            simp [h.r.sto.len,hul]
          simp [hut] at hu
          obtain ⟨q,h6,h7⟩:=h.r.sto.at_ u x hu;refine ⟨q,?_,h7.ext hfr⟩;rw [af (by simp [h.r.sto.len,hul]),ao]
          simp [hut,h6]
        rw [ai (by simpa using hul)] at hu
        simp only [hlen] at hu;have hu0:u-st.sto.length=0:=by
         rcases dp (u-st.sto.length) with h|h
         · exact h
         rw [List.getElem?_eq_none (by simp;omega)] at hu;cases hu
        rw [hu0] at hu;simp at hu;subst hu;refine ⟨.arr esz [],?_,by show _=_;rw [B7];rfl⟩
        rw [ai (by simp [h.r.sto.len];omega)]
        simp [h.r.sto.len,hu0]
      rcases cw u st.sto.length with hul|hul
      · rw [af (by simpa using hul),ao] at hu
        by_cases hut:t=u
        · subst hut
          simp [hlt] at hu;subst hu;exact SY hcs c rfl
        simp [hut] at hu;exact h.s u x hu
      rw [ai (by simpa using hul)] at hu
      cases hj:u- (st.sto.set t (.box (cs.set c (.own st.sto.length false)))).length with
      |zero=>rw [hj] at hu;simp at hu
      |succ j=>rw [hj] at hu;simp at hu
    |undef|nul|nilf|int _ _|bool _|str _|bp _ _ _|mp _=>exact other (fun e he=>by rw [show pv=_ from h5] at he;cases he) (fun e he=>by cases he)
    |sl r l=>exact other (fun e he=>by rw [show pv=_ from h5] at he;cases he) (fun e he=>by cases he)
    |agg _|tup _|rptr _ _=>exact other (fun e he=>by obtain ⟨q,hq,_⟩:=h5;rw [hq] at he;cases he) (fun e he=>by cases he)
    |clo _ _ _=>exact other (fun e he=>by obtain ⟨q,q2,hq,_⟩:=h5;rw [hq] at he;cases he) (fun e he=>by cases he)
    |own _ _=>exact other (fun e he=>by obtain ⟨q,q2,hq,_⟩:=h5;rw [hq] at he;cases he) (fun e he=>by cases he)
    |pre _ _ _ _|part _ _ _ _ _|pb _ _ _=>exact other (fun e he=>by obtain ⟨q,hq,_⟩:=h5;rw [hq] at he;cases he) (fun e he=>by cases he)
    |pa _ _ _ _ _=>exact other (fun e he=>by obtain ⟨hq,_⟩:=h5;rw [hq] at he;cases he) (fun e he=>by cases he)
theorem US {p:St} {t c esz:Nat} (h: ∀cs,p.sto[t]?≠some (.box cs)):xG p t c esz=p:=by
 unfold xG;split
 · rename_i cs hcs;exact absurd hcs (h cs)
 rfl
theorem aEU {st:vL} {p:St} (h:RSS st p) {v:SV} {q:PV} (hv:R st.sto v q) (hs:v≠ .junk):(∃t,aEw v=some t/\NY q=some t)\/(aEw v=none/\ ∀t,NY q=some t-> ∀cs,p.sto[t]?≠some (.box cs)):=by
 cases v with
 |junk=>exact absurd rfl hs
 |bp u m off=>
  have hq:q= .ptr u m 0 off:=hv;subst hq;cases off with
  |zero=>exact .inl ⟨u,rfl,rfl⟩
  |succ off=>exact .inr ⟨rfl,fun t ht=>by cases ht⟩
 |pb u i off=>
  obtain ⟨e',hq,hat⟩:=hv;subst hq;refine .inr ⟨rfl,fun t ht cs hcs=>?_⟩
  have:t=u:=by
   unfold NY at ht;split at ht
   · rename_i heq;injection heq with e1;injection ht with ht;rw [<- ht,e1]
   cases ht
  subst this;rcases hat with ⟨r,l,h1,_⟩|h1
  · rw [h.r.sto.arr h1] at hcs;cases hcs
  obtain ⟨q,h2,h3⟩:=h.r.sto.at_ t _ h1
  rw [hcs] at h2;injection h2 with h2;subst h2;cases (show mJ.box cs= .dead from h3)
 |pa u r i a off=>
  obtain ⟨hq,hat⟩:=hv;subst hq;refine .inr ⟨rfl,fun t ht cs hcs=>?_⟩
  have:t=u:=by
   unfold NY at ht;split at ht
   · rename_i heq;injection heq with e1;injection ht with ht;rw [<- ht,e1]
   cases ht
  subst this;rcases hat with ⟨l,h1,_⟩|h1
  · rw [h.r.sto.arr h1] at hcs;cases hcs
  obtain ⟨q,h2,h3⟩:=h.r.sto.at_ t _ h1
  rw [hcs] at h2;injection h2 with h2;subst h2;cases (show mJ.box cs= .dead from h3)
 |undef|nul|nilf|int _ _|bool _|str _|mp _|sl _ _|nil _ _=>exact .inr ⟨rfl,fun t ht=>by rw [show q=_ from hv] at ht;cases ht⟩
 |agg _|tup _|rptr _ _=>exact .inr ⟨rfl,fun t ht=>by obtain ⟨_,rfl,_⟩:=hv;cases ht⟩
 |clo _ _ _=>exact .inr ⟨rfl,fun t ht=>by obtain ⟨_,_,rfl,_⟩:=hv;cases ht⟩
 |own _ _=>exact .inr ⟨rfl,fun t ht=>by obtain ⟨_,_,rfl,_⟩:=hv;cases ht⟩
 |pre _ _ _ _|part _ _ _ _ _=>exact .inr ⟨rfl,fun t ht=>by obtain ⟨_,rfl,_⟩:=hv;cases ht⟩
theorem aOd {st:vL} {p:St} (h:RSS st p) {v:SV} {q:PV} (hv:R st.sto v q) (hs:v.sure=true):(∃t,aGz v=some t/\V8 q=some t)\/(aGz v=none/\ ∀t,V8 q=some t-> ∀cs,p.sto[t]?≠some (.box cs)):=by
 have hj:v≠ .junk:=fun e=>by subst e;cases hs
 by_cases hc: ∃f a b,v= .clo f a b
 · obtain ⟨f,a,b,rfl⟩:=hc
   obtain ⟨pa,pb,rfl,h1,h2⟩:=hv;cases b with
   |nil=>
    have:pb=[]:=h2
    subst this;exact .inr ⟨rfl,fun t ht=>by cases ht⟩
   |cons y ys=>
    obtain ⟨z,zs,rfl,g1,g2⟩:=h2;exact aEU h g1 (fun e=>by subst e;simp [SV.sure,sureL] at hs)
 have e1:aGz v=aEw v:=by
  cases v with
  |clo f a b=>exact absurd ⟨f,a,b,rfl⟩ hc
  |_=>rfl
 have e2:V8 q=NY q:=by
  cases q with
  |clo f a b=>
   exfalso;cases v with
   |junk=>exact hj rfl
   |clo f a b=>exact hc ⟨f,a,b,rfl⟩
   |bp _ _ _|undef|nul|nilf|int _ _|bool _|str _|mp _|sl _ _|nil _ _=>cases (show PV.clo f a b=_ from hv)
   |agg _|tup _|rptr _ _|pre _ _ _ _|part _ _ _ _ _|pb _ _ _=>obtain ⟨_,hq,_⟩:=hv;cases hq
   |own _ _=>obtain ⟨_,_,hq,_⟩:=hv;cases hq
   |pa _ _ _ _ _=>obtain ⟨hq,_⟩:=hv;cases hq
  |_=>rfl
 rw [e1,e2];exact aEU h hv hj
theorem qV {rk:List (Nat×List PT)}: ∀(live:List (Nat×Option Nat)) {st:vL} {p:St},RSS st p->RSS (oV rk live st) (nD live p)
 | [],st,p,h=>h
 |(t,k)::live,st,p,h=>by
  cases k with
  |none=>simp only [oV,nD];exact qV live h
  |some n=>
   simp only [oV,nD];cases hn:ay 1000 n with
   |false=>simp only [cond_false,ar,if_false];exact qV live h
   |true=>
    simp only [cond_true,if_true];have hlk:=h.r.env.lk t;have hsu:=h.e.lk t;rcases aOd h hlk hsu with ⟨u,e1,e2⟩|⟨e1,e2⟩
    · rw [e1,e2]
      exact qV live (aAH h u _ _)
    rw [e1]
    cases hb:V8 (lk t p.env) with
    |none=>exact qV live h
    |some u=>
     show RSS (oV rk live st) (nD live (xG p u (n / 1000-1) (n%1000)));rw [US (e2 u hb)];exact qV live h
theorem XH {e:SE} {pe:zO} (hE:eU s e pe): ∀{live:List (Nat×Option Nat)},JL e live=true->OV e live=live.flatMap fun p=>kZ zP (lk p.1 pe)
 | [],_=>rfl
 |(t,k)::live,h=>by
  simp only [JL,ac] at h;simp only [OV,fj,XH hE h.2];rw [aER (fun _=>rfl) (hE.lk t) h.1]
theorem aEV: ∀{s':List SB} {s:List SB} {ps:cX} (n:Nat),(ps.length=s.length/\ ∀(t:Nat) (b:SB),s[t]? =some b-> ∃q,ps[t]? =some q/\RB s' b q)->OW s n=true->aAw s n=(ps.take n).flatMap xE
 |s',[],ps,n,h,_=>by
  have:ps=[]:=cb.1 (by simpa using h.1)
  subst this;cases n<;>simp [aAw]
 |s',b::s,ps,0,h,_=>by simp [aAw]
 |s',b::s,ps,n+1,h,hk=>by
  cases ps with
  |nil=>have:=h.1;simp at this
  |cons q ps=>
   simp only [OW,ac] at hk;obtain ⟨q',h1,h2⟩:=h.2 0 b rfl;simp at h1;subst h1;simp only [aAw,List.take_succ_cons,fj,UQ h2 hk.1];rw [aEV (s':=s') (ps:=ps) n ⟨by simpa using h.1,fun t x hx=>by simpa using h.2 (t+1) x (by simpa using hx)⟩ hk.2]
theorem aBV {s:List SB} {v:SV} {p:PV} (h:R s v p):R s (SP s v) p:=by
 unfold SP;split
 · rename_i t ex
   rw [cN];split
   · rename_i r l hst
     obtain ⟨e,n,rfl,hat⟩:=h;obtain ⟨rfl,rfl⟩:=hat.inv hst;exact ⟨r.length,rfl,.inl ⟨r,l,hst,rfl⟩⟩
   exact h
 exact h
theorem aBW {s:List SB} (c:Nat): ∀{e:SE} {p:zO},eU s e p->eU s (aBM s c e) p
 | [],_,h=>h
 |(t,v)::r,_,h=>by
  obtain ⟨q,qs,rfl,h1,h2⟩:=h;simp only [aBM];cases hb:bw t c with
  |true=>exact ⟨q,qs,rfl,aBV h1,h2⟩
  |false=>exact ⟨q,qs,rfl,h1,aBW c h2⟩
theorem LN: ∀(live:List (Nat×Option Nat)) {st:vL} {p:St},HB st p->HB (JK live st) p
 | [],st,p,h=>h
 |(t,k)::r,st,p,h=>by
  simp only [JK];cases hn:ay 1000000 t with
  |true=>exact LN r ⟨aBW _ h.env,h.sto,h.fz,h.kn⟩
  |false=>exact LN r h
theorem XI {rk:List (Nat×List PT)} {live:List (Nat×Option Nat)} {st st1:vL} {p:St} (h:HB st p) (hn:OX rk live st=some st1): ∃p1,NZ live p=some p1/\HB st1 p1:=by
 unfold OX at hn;cases hc:(JL st.env live&&OW st.sto st.kn) with
 |false=>rw [hc] at hn;cases hn
 |true=>
  rw [hc] at hn;simp only [cond_true] at hn;simp only [ac] at hc;split at hn
  · cases hn
  rename_i m hm
  split at hn
  · rename_i s1 e1 s2 h1 h2
    injection hn with hn;subst hn;have ht:aAw st.sto st.kn++OV st.env live=(p.sto.take p.kn).flatMap xE++live.flatMap fun q=>kZ zP (lk q.1 p.env):=by
     rw [XH h.env hc.1,aEV (s':=st.sto) st.kn ⟨h.sto.len,h.sto.at_⟩ hc.2,h.kn]
    rw [ht] at hm;have hm':=PB h.sto _ _ _ _ hm;have hr:PD m st.sto (s1++s2):=PD.of h1;obtain ⟨p1,a1,a2,a3⟩:=LK h.sto hr h1;have hlen:s1.length=m.length:=(E5 h1).1;obtain ⟨pe1,q2,b1,b2,b3,b4⟩:=UR h.env hr h2 (fun j b hj=>by rw [<- hlen,ai (by omega)];simpa using hj)
    have hsto:cZ (s1++s2) (p1++q2):=⟨by simp [a2,b3],fun t b ht=>by
     rcases cw t s1.length with hl|hl
     · rw [af hl] at ht
       obtain ⟨q,c1,c2⟩:=a3 t b ht;exact ⟨q,by rw [af (by omega)];exact c1,c2⟩
     rw [ai hl] at ht
     obtain ⟨q,c1,c2⟩:=b4 _ b ht;exact ⟨q,by rw [ai (by omega),a2];exact c1,c2⟩⟩
    have hs:aNM (s1++s2):=fun t cs ht=>by
     rcases cw t s1.length with hl|hl
     · rw [af hl] at ht
       obtain ⟨b,c,d1,d2,d3⟩:=(E5 h1).2 t (m[t]'(by omega)) (aj (by omega))
       rw [ht] at d3;injection d3 with d3;subst d3;cases b with
       |box x=>
        simp only [aEv] at d2;split at d2
        · rename_i l hl';injection d2 with d2;injection d2 with d2;subst d2;exact renVL_sure hl'
        cases d2
       |arr _ _=>injection d2 with d2;cases d2
       |set _=>injection d2 with d2;cases d2
       |tab _ _=>injection d2 with d2;cases d2
       |dead=>injection d2 with d2;cases d2
     rw [ai hl] at ht
     obtain ⟨r,hr'⟩:=LL h2 _ _ ht;cases hr'
    have hR:RSS {env:=e1,sto:=s1++s2,fz:=EP st.fz 0 m,kn:=st.kn} {env:=pe1,sto:=p1++q2,fz:=EP p.fz 0 m,kn:=p.kn}:=
     ⟨⟨b2,hsto,by rw [h.fz],h.kn⟩,hs,IG h2⟩
    refine ⟨_,?_,LN live (qV live hR).r⟩;unfold NZ;rw [h.kn] at hm';rw [h.kn];rw [hm'];dsimp only;rw [a1,b1]
  cases hn
theorem aBX {rk:List (Nat×List PT)} {live:List (Nat×Option Nat)} {st st1:vL} {p:St} (h:HB st p) (hn:OY rk live st=some st1): ∃p1,M7 live p=some p1/\HB st1 p1:=by
 unfold OY at hn;cases h1:OX rk live st with
 |none=>rw [h1] at hn;cases hn
 |some s=>
  rw [h1] at hn;dsimp only at hn;obtain ⟨p1,h2,h3⟩:=XI h h1;unfold M7;rw [h2];dsimp only;cases ha:(live.any fun p=>p.2.isSome) with
  |true=>
   rw [ha] at hn;simp only [cond_true] at hn;rw [if_pos rfl];exact XI h3 hn
  |false=>
   rw [ha] at hn;injection hn with hn;subst hn;exact ⟨p1,by rw [if_neg (by simp)],h3⟩
mutual
theorem NO: ∀{a b:SV} (q:List EM),EC a b=true->zT a (LF b++q)=(b,q)
 | .undef,.undef,q,_=>rfl
 | .nul,.nul,q,_=>rfl
 | .nilf,.nilf,q,_=>rfl
 | .int k _,.int l n,q,h=>by rw [gC.1 h];rfl
 | .bool _,.bool _,q,_=>rfl
 | .agg a,.agg b,q,h=>by simp only [zT,LF,put_atsL q h]
 | .tup a,.tup b,q,h=>by simp only [zT,LF,put_atsL q h]
 | .sl r _,.sl r' l,q,h=>rfl
 | .nil e c,.nil f d,q,h=>by
  simp only [EC,ac,beq_iff_eq] at h;rw [aa h.1,h.2];rfl
 | .own t x,.own u y,q,h=>by
  simp only [EC,ac,beq_iff_eq] at h;rw [aa h.1,h.2];rfl
 | .pre t _ _ x,.pre u _ _ y,q,h=>by
  simp only [EC,ac,beq_iff_eq] at h;rw [aa h.1,h.2];rfl
 | .part t _ _ _ x,.part u _ _ _ y,q,h=>by
  simp only [EC,ac,beq_iff_eq] at h;rw [aa h.1,h.2];rfl
 | .pb t _ o,.pb u _ p,q,h=>by
  simp only [EC,ac] at h;rw [aa h.1,aa h.2];rfl
 | .bp t n o,.bp u m p,q,h=>by
  simp only [EC,ac] at h;rw [aa h.1.1,aa h.1.2,aa h.2];rfl
 | .rptr a o,.rptr b p,q,h=>by
  simp only [EC,ac] at h;simp only [zT,LF,put_atsL q h.1,aa h.2]
 | .clo f a b,.clo g c d,q,h=>by
  simp only [EC,ac] at h;simp only [zT,LF,bg,put_atsL _ h.1.2,put_atsL q h.2,aa h.1.1]
 | .mp t,.mp u,q,h=>by rw [aa h];rfl
theorem put_atsL: ∀{a b:List SV} (q:List EM),likeL a b=true->putL a (atsL b++q)=(b,q)
 | [],[],q,_=>rfl
 |x::xs,y::ys,q,h=>by
  simp only [likeL,ac] at h;simp only [putL,atsL,bg,NO _ h.1,put_atsL q h.2]
 | [],_::_,_,h=>by cases h
 |_::_,[],_,h=>by cases h
end
theorem aEW: ∀{a b:SB} (q:List EM),aNH a b=true->aAx a (aEx b++q)=(b,q)
 | .arr r _,.arr r' l,q,h=>rfl
 | .box a,.box b,q,h=>by simp only [aAx,aEx,put_atsL q h]
 | .set _,.set _,q,_=>rfl
 | .tab p _,.tab p' l,q,h=>by obtain rfl:p=p':=PT.same_eq h;rfl
 | .dead,.dead,q,_=>rfl
 | .arr _ _,.box _,_,h| .arr _ _,.set _,_,h| .arr _ _,.dead,_,h| .box _,.arr _ _,_,h| .box _,.set _,_,h| .box _,.dead,_,h| .set _,.arr _ _,_,h| .set _,.box _,_,h| .set _,.dead,_,h| .dead,.arr _ _,_,h| .dead,.box _,_,h| .dead,.set _,_,h
 | .tab _ _,.arr _ _,_,h| .tab _ _,.box _,_,h| .tab _ _,.set _,_,h| .tab _ _,.dead,_,h| .arr _ _,.tab _ _,_,h| .box _,.tab _ _,_,h| .set _,.tab _ _,_,h| .dead,.tab _ _,_,h=>by cases h
theorem JY: ∀{a b:List SB} (q:List EM),OZ a b=true->IA a (UK b++q)=(b,q)
 | [],[],q,_=>rfl
 |x::xs,y::ys,q,h=>by
  simp only [OZ,ac] at h;simp only [IA,UK,bg,aEW _ h.1,JY q h.2]
 | [],_::_,_,h=>by cases h
 |_::_,[],_,h=>by cases h
theorem XJ: ∀{a b:SE} (q:List EM),aBN a b=true->W8 a (aDe b++q)=(b,q)
 | [],[],q,_=>rfl
 |(t,x)::xs,(u,y)::ys,q,h=>by
  simp only [aBN,ac] at h;simp only [W8,aDe,bg,NO _ h.1.2,XJ q h.2,aa h.1.1]
 | [],_::_,_,h=>by cases h
 |_::_,[],_,h=>by cases h
theorem XK: ∀{a b:List Nat},aBO a b=true->a=b
 | [],[],_=>rfl
 |x::xs,y::ys,h=>by
  simp only [aBO,ac] at h;rw [aa h.1,XK h.2]
 | [],_::_,h=>by cases h
 |_::_,[],h=>by cases h
theorem aDm {a b:vL} (h:O0 a b=true):G8 a (EB b)=b:=by
 obtain ⟨e1,s1,z1,k1⟩:=a;obtain ⟨e2,s2,z2,k2⟩:=b;simp only [O0,ac] at h;obtain ⟨⟨⟨h1,h2⟩,h3⟩,h4⟩:=h;have hs:=JY [] h2;rw [bv] at hs;simp only [G8,EB,XJ _ h1,hs,XK h3,aa h4]
theorem AK.of_at: ∀{a:AK} {x:EM} {y:a.T},a.of x=some y->a.at y=x
 | .i,.i _,y,h=>by injection h with h;subst h;rfl
 | .b,.b _,y,h=>by injection h with h;subst h;rfl
 | .n,.n _,y,h=>by injection h with h;subst h;rfl
 | .l r,.l q x,y,h=>by obtain ⟨rfl,rfl⟩:=yF h;rfl
 | .s,.s _,y,h=>by injection h with h;subst h;rfl
 | .i,.b _,_,h| .i,.n _,_,h| .i,.l _ _,_,h| .i,.s _,_,h| .b,.i _,_,h| .b,.n _,_,h| .b,.l _ _,_,h| .b,.s _,_,h| .n,.i _,_,h| .n,.b _,_,h| .n,.l _ _,_,h| .n,.s _,_,h
 | .l _,.i _,_,h| .l _,.b _,_,h| .l _,.n _,_,h| .l _,.s _,_,h| .s,.i _,_,h| .s,.b _,_,h| .s,.n _,_,h| .s,.l _ _,_,h=>by cases h
theorem yG: ∀{ks:List AK} {l:List EM} {y:mN ks},wQ ks l=some y->pP ks y=l
 | [],[],y,_=>rfl
 | [a],[x],y,h=>by
  have:=AK.of_at (a:=a) h
  simp only [pP,this]
 |a::q::r,x::xs,y,h=>by
  simp only [wQ] at h;split at h
  · rename_i u v h1 h2
    injection h with h;subst h;simp only [pP,AK.of_at h1,yG h2]
  cases h
 | [],_::_,_,h=>by cases h
 | [_],[],_,h=>by cases h
 | [_],_::_::_,_,h=>by cases h
 |_::_::_,[],_,h=>by cases h
end
end Go.Vm
/- What is known of functions, and what a call of one comes to. -/
namespace Go.Vm
mutual
def PE:Nat->PV->Option (PV×cX)
 |_,.int k n=>some (.int k n,[])
 |_,.bool b=>some (.bool b,[])
 |nx,.agg cs=>match ownPL nx cs with|some r=>some (.agg r.1,r.2)|none=>none
 |nx,.tup cs=>match ownPL nx cs with|some r=>some (.tup r.1,r.2)|none=>none
 |nx,.sl e false rows=>some (.own nx e 0 rows.length rows.length false,[.arr e rows])
 |_,_=>none
def ownPL:Nat->List PV->Option (List PV×cX)
 |_,[]=>some ([],[])
 |nx,x::xs=>match PE nx x with
  |some a=>match ownPL (nx+a.2.length) xs with
   |some b=>some (a.1::b.1,a.2++b.2)
   |none=>none
  |none=>none
end
def C3 (s:List SB) (n:Nat) (l:List SB):Prop:= ∀(j:Nat) (b:SB),l[j]? =some b->s[n+j]? =some b
theorem C3.left {s:List SB} {n:Nat} {l m:List SB} (h:C3 s n (l++m)):C3 s n l:=fun j b hj=>h j b (by
 rw [af (ae.1 hj).1];exact hj)
theorem C3.right {s:List SB} {n:Nat} {l m:List SB} (h:C3 s n (l++m)):C3 s (n+l.length) m:=fun j b hj=>by
 have:=h (l.length+j) b (by rw [ai (by omega)];simpa using hj)
 rwa [Nat.add_assoc]
def RBs (s:List SB) (l:List SB) (q:cX):Prop:=q.length=l.length/\ ∀(j:Nat) (b:SB),l[j]? =some b-> ∃x,q[j]? =some x/\RB s b x
theorem RBs.append {s l m:List SB} {q r:cX} (h:RBs s l q) (k:RBs s m r):RBs s (l++m) (q++r):=by
 refine ⟨by simp [h.1,k.1],fun j b hj=>?_⟩
 rcases cw j l.length with hl|hl
 · rw [af hl] at hj
   obtain ⟨x,h1,h2⟩:=h.2 j b hj;exact ⟨x,by rw [af (by rw [h.1];exact hl)];exact h1,h2⟩
 rw [ai hl] at hj
 obtain ⟨x,h1,h2⟩:=k.2 _ b hj;exact ⟨x,by rw [ai (by rw [h.1];exact hl),h.1];exact h1,h2⟩
theorem RBs.nil {s:List SB}:RBs s [] []:=⟨rfl,fun j b h=>by simp at h⟩
theorem RBs.one {s:List SB} {b:SB} {x:mJ} (h:RB s b x):RBs s [b] [x]:=⟨rfl,fun j c hc=>by
 cases j with
 |zero=>simp at hc;subst hc;exact ⟨x,rfl,h⟩
 |succ j=>simp at hc⟩
mutual
theorem aBY: ∀{v:SV} {nx:Nat} {p0 p:PV} {q:cX},yE v=some p0->PE nx p0=some (p,q)-> ∀{s:List SB},C3 s nx (E2 nx v).2->R s (E2 nx v).1 p/\RBs s (E2 nx v).2 q
 | .int k n,nx,p0,p,q,h0,h,s,_=>by injection h0 with h0;subst h0;injection h with h;injection h with h1 h2;subst h1 h2;exact ⟨rfl,RBs.nil⟩
 | .bool b,nx,p0,p,q,h0,h,s,_=>by injection h0 with h0;subst h0;injection h with h;injection h with h1 h2;subst h1 h2;exact ⟨rfl,RBs.nil⟩
 | .agg cs,nx,p0,p,q,h0,h,s,hb=>by
  simp only [yE] at h0;split at h0
  · rename_i l hl
    injection h0 with h0;subst h0;simp only [PE] at h;split at h
    · rename_i r hr
      injection h with h;injection h with h1 h2;subst h1 h2;obtain ⟨h3,h4⟩:=ownOfL_R (p:=r.1) (q:=r.2) hl hr hb;exact ⟨⟨r.1,rfl,h3⟩,h4⟩
    cases h
  cases h0
 | .tup cs,nx,p0,p,q,h0,h,s,hb=>by
  simp only [yE] at h0;split at h0
  · rename_i l hl
    injection h0 with h0;subst h0;simp only [PE] at h;split at h
    · rename_i r hr
      injection h with h;injection h with h1 h2;subst h1 h2;obtain ⟨h3,h4⟩:=ownOfL_R (p:=r.1) (q:=r.2) hl hr hb;exact ⟨⟨r.1,rfl,h3⟩,h4⟩
    cases h
  cases h0
 | .sl r l,nx,p0,p,q,h0,h,s,hb=>by
  injection h0 with h0;subst h0;injection h with h;injection h with h1 h2;subst h1 h2;refine ⟨⟨r.length,l.length,by simp,.inl ⟨r,l,hb 0 _ rfl,rfl,rfl⟩⟩,RBs.one rfl⟩
 | .nil e c,nx,p0,p,q,h0,h,s,hb=>by
  injection h0 with h0;subst h0;cases c with
  |true=>simp [PE] at h
  |false=>
   injection h with h;injection h with h1 h2;subst h1 h2;exact ⟨⟨e,0,rfl,.inl ⟨_,[],hb 0 _ rfl,by simp,rfl⟩⟩,RBs.one (by show _=_;simp)⟩
 | .str _,nx,p0,p,q,h0,h,s,_=>by injection h0 with h0;subst h0;cases h
 | .nilf,nx,p0,p,q,h0,h,s,_=>by injection h0 with h0;subst h0;cases h
 | .rptr cs o,nx,p0,p,q,h0,h,s,_=>by
  simp only [yE] at h0;split at h0
  · injection h0 with h0;subst h0;cases h
  cases h0
 | .clo f a b,nx,p0,p,q,h0,h,s,_=>by
  simp only [yE] at h0;split at h0
  · injection h0 with h0;subst h0;cases h
  cases h0
 | .junk,_,_,_,_,h0,_,_,_| .undef,_,_,_,_,h0,_,_,_| .nul,_,_,_,_,h0,_,_,_| .own _ _,_,_,_,_,h0,_,_,_| .pre _ _ _ _,_,_,_,_,h0,_,_,_| .part _ _ _ _ _,_,_,_,_,h0,_,_,_
 | .pa _ _ _ _ _,_,_,_,_,h0,_,_,_| .pb _ _ _,_,_,_,_,h0,_,_,_| .bp _ _ _,_,_,_,_,h0,_,_,_| .mp _,_,_,_,_,h0,_,_,_=>by cases h0
theorem ownOfL_R: ∀{v:List SV} {nx:Nat} {p0 p:List PV} {q:cX},pvL v=some p0->ownPL nx p0=some (p,q)-> ∀{s:List SB},C3 s nx (ownOfL nx v).2->RL s (ownOfL nx v).1 p/\RBs s (ownOfL nx v).2 q
 | [],nx,p0,p,q,h0,h,s,_=>by injection h0 with h0;subst h0;injection h with h;injection h with h1 h2;subst h1 h2;exact ⟨rfl,RBs.nil⟩
 |x::xs,nx,p0,p,q,h0,h,s,hb=>by
  obtain ⟨a,as,rfl,h1,h2⟩:=fM.1 h0;simp only [ownPL] at h;split at h
  · rename_i ra hra
    split at h
    · rename_i rb hrb
      injection h with h;injection h with e1 e2;subst e1 e2;simp only [ownOfL] at hb ⊢;obtain ⟨k1,k2⟩:=aBY (p:=ra.1) (q:=ra.2) h1 hra hb.left;rw [k2.1] at hrb;obtain ⟨k3,k4⟩:=ownOfL_R (p:=rb.1) (q:=rb.2) h2 hrb hb.right;exact ⟨RL.cons k1 k3,k2.append k4⟩
    cases h
  cases h
end
mutual
theorem aEX {s:List SB} {ps:cX} {z:List Nat} (hS:cZ s ps): ∀{v v':SV} {p:PV} {seen seen':List Nat} (nx:Nat),R s v p->aDd s z seen v=some (v',seen')-> ∃p0 p' q,yE v'=some p0/\PE nx p0=some (p',q)/\G0 ps z nx seen p=some (p',q,seen')
 | .int k n,v',p,seen,seen',nx,h,hx=>by injection hx with hx;injection hx with h1 h2;subst h1 h2;rw [show p=_ from h];exact ⟨_,_,_,rfl,rfl,rfl⟩
 | .bool k,v',p,seen,seen',nx,h,hx=>by injection hx with hx;injection hx with h1 h2;subst h1 h2;rw [show p=_ from h];exact ⟨_,_,_,rfl,rfl,rfl⟩
 | .agg cs,v',p,seen,seen',nx,h,hx=>by
  obtain ⟨q,rfl,h⟩:=h;simp only [aDd] at hx;split at hx
  · rename_i r hr
    injection hx with hx;injection hx with h1 h2;subst h1 h2;obtain ⟨p0,p',q',h3,h4,h5⟩:=imOVL_R hS (v':=r.1) (seen':=r.2) nx h hr;exact ⟨.agg p0,.agg p',q',by simp only [yE,h3],by simp only [PE,h4],by simp only [G0,h5];rfl⟩
  cases hx
 | .tup cs,v',p,seen,seen',nx,h,hx=>by
  obtain ⟨q,rfl,h⟩:=h;simp only [aDd] at hx;split at hx
  · rename_i r hr
    injection hx with hx;injection hx with h1 h2;subst h1 h2;obtain ⟨p0,p',q',h3,h4,h5⟩:=imOVL_R hS (v':=r.1) (seen':=r.2) nx h hr;exact ⟨.tup p0,.tup p',q',by simp only [yE,h3],by simp only [PE,h4],by simp only [G0,h5];rfl⟩
  cases hx
 | .nil e c,v',p,seen,seen',nx,h,hx=>by
  cases c with
  |false=>cases hx
  |true=>injection hx with hx;injection hx with h1 h2;subst h1 h2;rw [show p=_ from h];exact ⟨_,_,_,rfl,rfl,rfl⟩
 | .own t ex,v',p,seen,seen',nx,h,hx=>by
  obtain ⟨e,n,rfl,hat⟩:=h;simp only [aDd,cN] at hx;split at hx
  · rename_i r l hst
    obtain ⟨rfl,rfl⟩:=hat.inv hst;cases hc:(has seen t||has z t) with
    |true=>rw [hc] at hx;cases hx
    |false=>
     rw [hc] at hx;injection hx with hx;injection hx with h1 h2;subst h1 h2;refine ⟨_,_,_,rfl,rfl,?_⟩;simp only [G0,hS.arr hst,hc];simp
  cases hx
 | .junk,_,_,_,_,_,_,hx| .undef,_,_,_,_,_,_,hx| .nul,_,_,_,_,_,_,hx| .nilf,_,_,_,_,_,_,hx| .str _,_,_,_,_,_,_,hx| .sl _ _,_,_,_,_,_,_,hx| .pre _ _ _ _,_,_,_,_,_,_,hx| .part _ _ _ _ _,_,_,_,_,_,_,hx
 | .pa _ _ _ _ _,_,_,_,_,_,_,hx| .pb _ _ _,_,_,_,_,_,_,hx| .bp _ _ _,_,_,_,_,_,_,hx| .rptr _ _,_,_,_,_,_,_,hx| .clo _ _ _,_,_,_,_,_,_,hx| .mp _,_,_,_,_,_,_,hx=>by cases hx
theorem imOVL_R {s:List SB} {ps:cX} {z:List Nat} (hS:cZ s ps): ∀{v v':List SV} {p:List PV} {seen seen':List Nat} (nx:Nat),RL s v p->imOVL s z seen v=some (v',seen')-> ∃p0 p' q,pvL v'=some p0/\ownPL nx p0=some (p',q)/\imOL ps z nx seen p=some (p',q,seen')
 | [],v',p,seen,seen',nx,h,hx=>by injection hx with hx;injection hx with h1 h2;subst h1 h2;rw [show p=_ from h];exact ⟨_,_,_,rfl,rfl,rfl⟩
 |x::xs,v',p,seen,seen',nx,h,hx=>by
  obtain ⟨a,as,rfl,h1,h2⟩:=h.cons_inv;simp only [imOVL] at hx;split at hx
  · rename_i r hr
    split at hx
    · rename_i r2 hr2
      injection hx with hx;injection hx with e1 e2;subst e1 e2;obtain ⟨p0,p',q,k1,k2,k3⟩:=aEX hS (v':=r.1) (seen':=r.2) nx h1 hr;obtain ⟨p02,p'2,q2,k4,k5,k6⟩:=imOVL_R hS (v':=r2.1) (seen':=r2.2) (nx+q.length) h2 hr2;exact ⟨p0::p02,p'::p'2,q++q2,fM.2 ⟨_,_,rfl,k1,k4⟩,by simp only [ownPL,k2,k5],by simp only [imOL,k3,k6]⟩
    cases hx
  cases hx
end
mutual
theorem XL {s:List SB}: ∀{v:SV} {p:PV},R s v p->HZ v=true->p.noref=true
 | .int _ _,p,h,_| .bool _,p,h,_| .str _,p,h,_=>by rw [show p=_ from h];rfl
 | .agg cs,p,h,hn=>by obtain ⟨q,rfl,h⟩:=h;exact norefSL_R h hn
 | .tup cs,p,h,hn=>by obtain ⟨q,rfl,h⟩:=h;exact norefSL_R h hn
 | .junk,_,_,h| .undef,_,_,h| .nul,_,_,h| .nilf,_,_,h| .sl _ _,_,_,h| .nil _ _,_,_,h| .own _ _,_,_,h| .pre _ _ _ _,_,_,h| .part _ _ _ _ _,_,_,h| .pa _ _ _ _ _,_,_,h| .pb _ _ _,_,_,h| .bp _ _ _,_,_,h| .rptr _ _,_,_,h| .clo _ _ _,_,_,h| .mp _,_,_,h=>by cases h
theorem norefSL_R {s:List SB}: ∀{v:List SV} {p:List PV},RL s v p->norefSL v=true->norefL p=true
 | [],p,h,_=>by rw [show p=_ from h];rfl
 |x::xs,p,h,hn=>by
  obtain ⟨a,as,rfl,h1,h2⟩:=h.cons_inv;simp only [norefSL,ac] at hn;simp only [norefL,XL h1 hn.1,norefSL_R h2 hn.2,bk]
end
mutual
theorem SZ {s:List SB} {u:SV}: ∀{v:SV} {p:PV},R s v p->HZ v=false->imV s v=some u->p.noref=false
 | .int _ _,p,h,hn,_| .bool _,p,h,hn,_| .str _,p,h,hn,_=>by cases hn
 | .agg cs,p,h,hn,hi=>by
  obtain ⟨q,rfl,h⟩:=h;simp only [imV] at hi;split at hi
  · rename_i l hl;exact yesrefSL_R h hn hl
  cases hi
 | .tup cs,p,h,hn,hi=>by
  obtain ⟨q,rfl,h⟩:=h;simp only [imV] at hi;split at hi
  · rename_i l hl;exact yesrefSL_R h hn hl
  cases hi
 | .sl _ _,p,h,_,_=>by rw [show p=_ from h];rfl
 | .nil _ _,p,h,_,_=>by rw [show p=_ from h];rfl
 | .own _ _,p,h,_,_=>by obtain ⟨e,n,rfl,_⟩:=h;rfl
 | .pre _ _ _ _,p,h,_,_=>by obtain ⟨e,rfl,_⟩:=h;rfl
 | .part _ _ _ _ _,p,h,_,_=>by obtain ⟨e,rfl,_⟩:=h;rfl
 | .junk,_,_,_,h| .undef,_,_,_,h| .nul,_,_,_,h| .nilf,_,_,_,h| .pa _ _ _ _ _,_,_,_,h| .pb _ _ _,_,_,_,h| .bp _ _ _,_,_,_,h| .rptr _ _,_,_,_,h| .clo _ _ _,_,_,_,h| .mp _,_,_,_,h=>by cases h
theorem yesrefSL_R {s:List SB}: ∀{v u:List SV} {p:List PV},RL s v p->norefSL v=false->imVL s v=some u->norefL p=false
 | [],u,p,h,hn,_=>by cases hn
 |x::xs,u,p,h,hn,hi=>by
  obtain ⟨a,as,rfl,h1,h2⟩:=h.cons_inv;simp only [imVL] at hi;split at hi
  · rename_i y ys h3 h4
    simp only [norefSL] at hn;simp only [norefL];cases hx:HZ x with
    |false=>rw [SZ h1 hx h3];rfl
    |true=>rw [hx] at hn;rw [yesrefSL_R h2 (by simpa using hn) h4];simp
  cases hi
end
mutual
theorem aNN {s:List SB} {ps:cX} (hS:cZ s ps): ∀{v u:SV} {p:PV},R s v p->imV s v=some u-> ∃q,F7 ps p=some q/\yE u=some q
 | .int k n,u,p,h,hx=>by injection hx with hx;subst hx;rw [show p=_ from h];exact ⟨_,rfl,rfl⟩
 | .bool b,u,p,h,hx=>by injection hx with hx;subst hx;rw [show p=_ from h];exact ⟨_,rfl,rfl⟩
 | .str x,u,p,h,hx=>by injection hx with hx;subst hx;rw [show p=_ from h];exact ⟨_,rfl,rfl⟩
 | .agg cs,u,p,h,hx=>by
  obtain ⟨q,rfl,h⟩:=h;simp only [imV] at hx;split at hx
  · rename_i l hl
    injection hx with hx;subst hx;obtain ⟨q',h1,h2⟩:=imVL_R hS h hl;exact ⟨.agg q',by simp only [F7,h1];rfl,by simp only [yE,h2]⟩
  cases hx
 | .tup cs,u,p,h,hx=>by
  obtain ⟨q,rfl,h⟩:=h;simp only [imV] at hx;split at hx
  · rename_i l hl
    injection hx with hx;subst hx;obtain ⟨q',h1,h2⟩:=imVL_R hS h hl;exact ⟨.tup q',by simp only [F7,h1];rfl,by simp only [yE,h2]⟩
  cases hx
 | .sl r l,u,p,h,hx=>by injection hx with hx;subst hx;rw [show p=_ from h];exact ⟨_,rfl,rfl⟩
 | .nil e c,u,p,h,hx=>by injection hx with hx;subst hx;rw [show p=_ from h];exact ⟨_,rfl,rfl⟩
 | .own t ex,u,p,h,hx=>by
  simp only [imV,cN] at hx;split at hx
  · rename_i r l hst
    injection hx with hx;subst hx;obtain ⟨e,n,rfl,hat⟩:=h;obtain ⟨rfl,rfl⟩:=hat.inv hst;refine ⟨.sl r.length false (l.map (RT.pv r)),?_,rfl⟩;simp only [F7,hS.arr hst,ce];rw [cd (by simp)]
  cases hx
 | .pre t len cap ex,u,p,h,hx=>by
  simp only [imV,cN] at hx;split at hx
  · rename_i r l hst
    injection hx with hx;subst hx;obtain ⟨e,rfl,hat⟩:=h
    have:=hat.inv hst
    subst this;refine ⟨.sl r.length false ((l.take len).map (RT.pv r)),?_,rfl⟩;simp only [F7,hS.arr hst,ce,bz]
  cases hx
 | .part t off len cap ex,u,p,h,hx=>by
  simp only [imV,cN] at hx;split at hx
  · rename_i r l hst
    injection hx with hx;subst hx;obtain ⟨e,rfl,hat⟩:=h
    have:=hat.inv hst
    subst this;refine ⟨.sl r.length false (((l.drop off).take len).map (RT.pv r)),?_,rfl⟩;simp only [F7,hS.arr hst,bz,cz]
  cases hx
 | .junk,_,_,_,hx| .undef,_,_,_,hx| .nul,_,_,_,hx| .nilf,_,_,_,hx| .pa _ _ _ _ _,_,_,_,hx| .pb _ _ _,_,_,_,hx| .bp _ _ _,_,_,_,hx| .rptr _ _,_,_,_,hx| .clo _ _ _,_,_,_,hx| .mp _,_,_,_,hx=>by cases hx
theorem imVL_R {s:List SB} {ps:cX} (hS:cZ s ps): ∀{v u:List SV} {p:List PV},RL s v p->imVL s v=some u-> ∃q,imFL ps p=some q/\pvL u=some q
 | [],u,p,h,hx=>by injection hx with hx;subst hx;rw [show p=_ from h];exact ⟨_,rfl,rfl⟩
 |x::xs,u,p,h,hx=>by
  obtain ⟨a,as,rfl,h1,h2⟩:=h.cons_inv;simp only [imVL] at hx;split at hx
  · rename_i y ys h3 h4
    injection hx with hx;subst hx;obtain ⟨q,h5,h6⟩:=aNN hS h1 h3;obtain ⟨qs,h7,h8⟩:=imVL_R hS h2 h4;exact ⟨q::qs,by simp only [imFL,h5,h7],fM.2 ⟨_,_,rfl,h6,h8⟩⟩
  cases hx
end
mutual
theorem aEY {s:List SB}: ∀{v:SV} {p:PV},yE v=some p->R s v p
 | .int _ _,p,h| .bool _,p,h| .str _,p,h| .nilf,p,h| .sl _ _,p,h| .nil _ _,p,h=>by injection h with h;exact h.symm
 | .agg cs,p,h=>by
  simp only [yE] at h;split at h
  · rename_i l hl;injection h with h;exact ⟨l,h.symm,pvL_R hl⟩
  cases h
 | .tup cs,p,h=>by
  simp only [yE] at h;split at h
  · rename_i l hl;injection h with h;exact ⟨l,h.symm,pvL_R hl⟩
  cases h
 | .rptr cs o,p,h=>by
  simp only [yE] at h;split at h
  · rename_i l hl;injection h with h;exact ⟨l,h.symm,pvL_R hl⟩
  cases h
 | .clo f a b,p,h=>by
  simp only [yE] at h;split at h
  · rename_i x y h1 h2;injection h with h;exact ⟨x,y,h.symm,pvL_R h1,pvL_R h2⟩
  cases h
 | .junk,_,h| .undef,_,h| .nul,_,h| .own _ _,_,h| .pre _ _ _ _,_,h| .part _ _ _ _ _,_,h| .pa _ _ _ _ _,_,h| .pb _ _ _,_,h| .bp _ _ _,_,h| .mp _,_,h=>by cases h
theorem pvL_R {s:List SB}: ∀{v:List SV} {p:List PV},pvL v=some p->RL s v p
 | [],p,h=>by injection h with h;exact h.symm
 |x::xs,p,h=>by
  obtain ⟨a,as,rfl,h1,h2⟩:=fM.1 h;exact RL.cons (aEY h1) (pvL_R h2)
end
def aNO (kd:Kd) (n:Nat) (tk:List Nat) (v:SV) (r:sU):Prop:=
 match kd with
 | .pure=> ∃p,yE v=some p/\r={v:=p,rd:=tk}
 | .frz=> ∃p,yE v=some p/\r={v:=p,rd:=tk,fr:=tk}
 | .own=> ∃p0 p q,yE v=some p0/\PE n p0=some (p,q)/\r={v:=p,news:=q,rd:=tk}
def aJ (F : qF) (f : FuncId) (c : bV) : Prop :=
  ∀ (a : c.α) (b : c.β) (as args : List PV) (sto : cX) (fz : List Nat), c.fn a = some b -> pvL (c.args.enc a) = some args -> exL sto (EN sto fP) as = some args ->
    ∃ n r, callPure F (run F n) c.ow f as sto fz = some r /\ aNO c.kd sto.length (toksL (dT sto fP) as) (c.res.enc b) r
def fV.va (c:fV) (a:mN c.ka):List SV:=(putL c.ta (pP c.ka a)).1
def fV.sa (c:fV) (a:mN c.ka):List SB:=(IA c.tb (putL c.ta (pP c.ka a)).2).1
def fV.vb (c:fV) (b:mN c.ko):SV:=(zT c.tv (pP c.ko b)).1
def fV.sb (c:fV) (b:mN c.ko):List SB:=(IA c.to (zT c.tv (pP c.ko b)).2).1
def aEZ:SB->SB->Prop
 | .arr r l,.arr q m=>r=q/\m.length=l.length
 | .box _,.box _=>True
 | .set _,.set _=>True
 | .tab _ _,.tab _ _=>True
 | .dead,.dead=>True
 |_,_=>False
def rG (F : qF) (f : FuncId) (c : fV) : Prop :=
  ∀ (a : mN c.ka) (b : mN c.ko) (pa : List PV) (ps : cX), c.fn a = some b -> RL (c.sa a) (c.va a) pa -> cZ (c.sa a) ps ->
    ∃ n v s, run F n (.func f pa ps []) = some (.func v s []) /\ jW (c.sa a).length v s = true /\ R (c.sb b) (c.vb b) v /\ cZ (c.sb b) (s.take (c.sa a).length) /\ (c.sb b).length = (c.sa a).length /\
      ∀ (t : Nat) (x y : SB), (c.sa a)[t]? = some x -> (c.sb b)[t]? = some y -> aEZ x y
def IH (F:qF):List (Nat×bV)->Prop
 | []=>True
 |(f,c)::r=>aJ F f c/\IH F r
def S0 (F:qF):List (Nat×fV)->Prop
 | []=>True
 |(f,c)::r=>rG F f c/\S0 F r
def JZ (F:qF):List (Nat×Cd)->Prop
 | []=>True
 |(f,x)::r=>F f=some x.ent/\JZ F r
structure nG (F:qF) (cx:Ctx):Prop where
 con: ∀f c,c∈cx.con f->aJ F f c
 fpc: ∀f c,c∈cx.fpc f->rG F f c
 code: ∀f x,cx.code f=some x->F f=some x.ent
theorem IH.mem {F:qF}: ∀{l:List (Nat×bV)},IH F l-> ∀f c,c∈XC l f->aJ F f c
 | [],_,f,c,h=>by cases h
 |(g,d)::r,hl,f,c,h=>by
  simp only [XC] at h;cases hb:bw g f with
  |true=>
   rw [hb] at h
   have:=aa hb
   subst this;simp only [cond_true] at h;rcases h with _|⟨_,h⟩
   · exact hl.1
   exact IH.mem hl.2 _ c h
  |false=>rw [hb] at h;exact IH.mem hl.2 f c h
theorem S0.mem {F:qF}: ∀{l:List (Nat×fV)},S0 F l-> ∀f c,c∈XD l f->rG F f c
 | [],_,f,c,h=>by cases h
 |(g,d)::r,hl,f,c,h=>by
  simp only [XD] at h;cases hb:bw g f with
  |true=>
   rw [hb] at h
   have:=aa hb
   subst this;simp only [cond_true] at h;rcases h with _|⟨_,h⟩
   · exact hl.1
   exact S0.mem hl.2 _ c h
  |false=>rw [hb] at h;exact S0.mem hl.2 f c h
theorem JZ.mem {F:qF}: ∀{l:List (Nat×Cd)},JZ F l-> ∀f x,UN l f=some x->F f=some x.ent
 | [],_,f,c,h=>by cases h
 |(g,d)::r,hl,f,c,h=>by
  simp only [UN] at h;cases hb:bw g f with
  |true=>
   rw [hb] at h
   have:=aa hb
   subst this;injection h with h;subst h;exact hl.1
  |false=>rw [hb] at h;exact JZ.mem hl.2 f c h
theorem nG.make {F:qF} {lp:Option Nat} {c:List (Nat×bV)} {p:List (Nat×fV)} {x:List (Nat×Cd)} {rk:List (Nat×List PT)} (h1:IH F c) (h2:S0 F p) (h3:JZ F x):nG F (qH lp c p x rk):=
 ⟨h1.mem,h2.mem,h3.mem⟩
section
variable {F : qF} {R' ρ : Type} {w : R' -> ρ} {y : ρ} {s : List SB} {ps : cX} {z : List Nat}
theorem E6 {f:FuncId} {m:Bool} {tk:List Nat} {vs:List SV} {k:XRS->jC R'} (hS:cZ s ps) {as args:List PV} (hx:exL ps (EN ps fP) as=some args) (hv:pvL vs=some args) (htk:tk=toksL (dT ps fP) as):
 ∀{l:List bV},(∀c∈l,aJ F f c)->aAz f m s tk vs k l ρ w=some y-> ∃sr pr,(∃n,callPure F (run F n) m f as ps z=some pr)/\jQ s ps sr pr/\k (.loc sr) ρ w=some y
 | [],_,h=>by cases h
 |c::l,hl,h=>by
  simp only [aAz] at h;cases hd:c.args.dec vs with
  |none=>rw [hd] at h;exact E6 hS hx hv htk (fun c hc=>hl c (dh _ hc)) h
  |some a=>
   rw [hd] at h;cases hmo:(m==c.ow) with
   |false=>
    rw [hmo] at h;exact E6 hS hx hv htk (fun c hc=>hl c (dh _ hc)) h
   |true=>
   rw [hmo] at h;obtain ⟨b,hb,h2⟩:=dJ h;have hm:m=c.ow:=by simpa using hmo
   subst hm;have henc:=c.args.law hd hv;obtain ⟨n,r,hr,hres⟩:=hl c (db ..) a b as args ps z hb henc hx;cases hkd:c.kd with
   |pure=>
    rw [hkd] at h2 hres;obtain ⟨p,h3,rfl⟩:=hres;exact ⟨_,_,⟨n,hr⟩,by rw [<- htk];exact jQ.val hS (aEY h3),h2⟩
   |frz=>
    rw [hkd] at h2 hres;obtain ⟨p,h3,rfl⟩:=hres;exact ⟨_,_,⟨n,hr⟩,by rw [<- htk];exact jQ.val hS (aEY h3),h2⟩
   |own=>
    rw [hkd] at h2 hres;obtain ⟨p0,p,q,h3,h4,rfl⟩:=hres;rw [hS.len] at h4;have hbh:C3 (s++(E2 s.length (c.res.enc b)).2) s.length (E2 s.length (c.res.enc b)).2:=fun j x hj=>by
     rw [ai (by omega)];simpa using hj
    obtain ⟨k1,k2⟩:=aBY h3 h4 hbh;exact ⟨_,_,⟨n,hr⟩,by rw [<- htk];exact jQ.news hS k2.1 k2.2 k1,h2⟩
end
end Go.Vm
/- A call of a function that works on the blocks that are lent to it. -/
namespace Go.Vm
def wS {α:Type}:List (Nat×α)->List α->List α
 | [],s=>s
 |(t,b)::r,s=>wS r (s.set t b)
theorem C4: ∀(l:List (Nat×SB)) (s:List SB),wR l s=wS l s
 | [],s=>rfl
 |(t,b)::r,s=>by simp only [wR,wS,JR,C4 r]
theorem MU: ∀(l:List (Nat×mJ)) (s:cX),iN l s=wS l s
 | [],s=>rfl
 |(t,b)::r,s=>by simp only [iN,wS,MU r]
theorem II {α:Type}: ∀(l:List (Nat×α)) (s:List α),(wS l s).length=s.length
 | [],s=>rfl
 |(t,b)::r,s=>by simp [wS,II r]
theorem C5 {α:Type}: ∀(l:List (Nat×α)) (s:List α) (t:Nat),t∉l.map (·.1)->(wS l s)[t]? =s[t]?
 | [],s,t,_=>rfl
 |(u,b)::r,s,t,h=>by
  simp only [bj,ez,not_or] at h;simp only [wS];rw [C5 r _ t h.2,ao];simp [Ne.symm h.1]
theorem LO {α:Type}: ∀(l:List (Nat×α)) (s:List α) (j t:Nat) (b:α),(l.map (·.1)).Nodup->l[j]? =some (t,b)->t<s.length->(wS l s)[t]? =some b
 | [],s,j,t,b,_,h,_=>by simp at h
 |(u,c)::r,s,0,t,b,hn,h,ht=>by
  simp at h;obtain ⟨rfl,rfl⟩:=h;simp only [bj,eg] at hn;simp only [wS];rw [C5 r _ u hn.1,ao];simp [ht]
 |(u,c)::r,s,j+1,t,b,hn,h,ht=>by
  simp only [bj,eg] at hn;simp only [wS];exact LO r _ j t b hn.2 (by simpa using h) (by simpa using ht)
theorem J0: ∀(l:List (Nat×SB)),E3 l=l.map (·.1)
 | []=>rfl
 |(t,b)::r=>by simp [E3,J0 r]
theorem S1 (g:Nat->Nat): ∀(tk:List Nat) (s:List SB),s.length=tk.length->(G9 g tk s).map (·.1)=tk/\ ∀(j t:Nat) (b:SB),tk[j]? =some t->s[j]? =some b->(G9 g tk s)[j]? =some (t,aEA g b)
 | [],s,h=>⟨by simp [G9],fun j t b hj=>by simp at hj⟩
 |t::tk,[],h=>by simp at h
 |t::tk,b::s,h=>by
  obtain ⟨h1,h2⟩:=S1 g tk s (by simpa using h)
  refine ⟨by simp [G9,h1],fun j u c hj hc=>?_⟩
  cases j with
  |zero=>simp at hj hc;subst hj hc;rfl
  |succ j=>simp only [G9,cf];exact h2 j u c (by simpa using hj) (by simpa using hc)
theorem PF (g:Nat->Nat): ∀(tk:List Nat) (s:cX),tk.length<=s.length->(tB g tk s).map (·.1)=tk/\ ∀(j t:Nat) (b:mJ),tk[j]? =some t->s[j]? =some b->(tB g tk s)[j]? =some (t,G1 g b)
 | [],s,h=>⟨by simp [tB],fun j t b hj=>by simp at hj⟩
 |t::tk,[],h=>by simp at h
 |t::tk,b::s,h=>by
  obtain ⟨h1,h2⟩:=PF g tk s (by simpa using h)
  refine ⟨by simp [tB,h1],fun j u c hj hc=>?_⟩
  cases j with
  |zero=>simp at hj hc;subst hj hc;rfl
  |succ j=>simp only [tB,cf];exact h2 j u c (by simpa using hj) (by simpa using hc)
theorem S2: ∀{l:List (Nat×mJ)},(l.map (·.1)).Nodup->CN l=true
 | [],_=>rfl
 |p::r,h=>by
  simp only [bj,eg] at h;simp only [CN,ac,ci,be];refine ⟨fun q hq=>?_,S2 h.2⟩
  cases hb:bw q.1 p.1 with
  |false=>rfl
  |true=>exact absurd (ga.2 ⟨q,hq,aa hb⟩) h.1
theorem UT: ∀(s:List SB),LG [] s=s
 | []=>rfl
 |b::r=>by
  simp only [LG,UT r];cases b<;>simp [dgB,dgL_nil]
theorem XM (s:List SB) (r:iA):r.stoOf s=LG (E3 r.wr) (wR r.wr s)++r.news:=by
 unfold iA.stoOf;split
 · rename_i h;rw [h];simp only [E3,wR,UT,pK]
 simp only [pK]
def aOe (g:Nat->Nat) (s s2:List SB):Prop:= ∀(u:Nat) (x:SB),s[u]? =some x->match x with
 | .arr r l=>s2[g u]? =some (.arr r l)
 | .dead=>s2[g u]? =some .dead
 |_=>True
mutual
theorem aBZ {g:Nat->Nat} {s s2:List SB} (hb:aOe g s s2): ∀{v:SV} {p:PV},R s v p->R s2 (W9 g v) (renF g p)
 | .junk,_,_=>trivial
 | .undef,p,h| .nul,p,h| .nilf,p,h| .int _ _,p,h| .bool _,p,h| .str _,p,h| .sl _ _,p,h| .nil _ _,p,h| .bp _ _ _,p,h| .mp _,p,h=>by rw [show p=_ from h];rfl
 | .agg cs,p,h=>by obtain ⟨q,rfl,h⟩:=h;exact ⟨_,rfl,backL_R hb h⟩
 | .tup cs,p,h=>by obtain ⟨q,rfl,h⟩:=h;exact ⟨_,rfl,backL_R hb h⟩
 | .rptr cs o,p,h=>by obtain ⟨q,rfl,h⟩:=h;exact ⟨_,rfl,backL_R hb h⟩
 | .clo f a b,p,h=>by obtain ⟨pa,pb,rfl,h1,h2⟩:=h;exact ⟨_,_,rfl,backL_R hb h1,backL_R hb h2⟩
 | .own t ex,p,h=>by
  obtain ⟨e,n,rfl,hat⟩:=h;refine ⟨e,n,rfl,?_⟩;rcases hat with ⟨r,l,h1,h2,h3⟩|h1
  · exact .inl ⟨r,l,hb t _ h1,h2,h3⟩
  exact .inr (hb t _ h1)
 | .pre t a b c,p,h=>by
  obtain ⟨e,rfl,hat⟩:=h;refine ⟨e,rfl,?_⟩;rcases hat with ⟨r,l,h1,h2⟩|h1
  · exact .inl ⟨r,l,hb t _ h1,h2⟩
  exact .inr (hb t _ h1)
 | .part t o a b c,p,h=>by
  obtain ⟨e,rfl,hat⟩:=h;refine ⟨e,rfl,?_⟩;rcases hat with ⟨r,l,h1,h2⟩|h1
  · exact .inl ⟨r,l,hb t _ h1,h2⟩
  exact .inr (hb t _ h1)
 | .pa t r i a o,p,h=>by
  obtain ⟨rfl,hat⟩:=h;refine ⟨_,rfl,?_⟩;rcases hat with ⟨l,h1,h2⟩|h1
  · exact .inl ⟨r,l,hb t _ h1,by rw [h2];rfl⟩
  exact .inr (hb t _ h1)
 | .pb t i o,p,h=>by
  obtain ⟨e,rfl,hat⟩:=h;refine ⟨e,rfl,?_⟩;rcases hat with ⟨r,l,h1,h2⟩|h1
  · exact .inl ⟨r,l,hb t _ h1,h2⟩
  exact .inr (hb t _ h1)
theorem backL_R {g:Nat->Nat} {s s2:List SB} (hb:aOe g s s2): ∀{v:List SV} {p:List PV},RL s v p->RL s2 (backL g v) (renFL g p)
 | [],p,h=>by rw [show p=_ from h];rfl
 |x::xs,p,h=>by
  obtain ⟨a,as,rfl,h1,h2⟩:=h.cons_inv;exact RL.cons (aBZ hb h1) (backL_R hb h2)
end
theorem PG: ∀{a b:cX},(∀(t:Nat) (x:mJ),a[t]? =some x-> ∃y,b[t]? =some y/\x.solid=y.solid)->CL a b=true
 | [],b,_=>by cases b<;>rfl
 |x::a,[],h=>by obtain ⟨y,hy,_⟩:=h 0 x rfl;simp at hy
 |x::a,y::b,h=>by
  obtain ⟨y',h1,h2⟩:=h 0 x rfl;simp at h1;subst h1
  have:=PG (a:=a) (b:=b) (fun t x hx=>by simpa using h (t+1) x (by simpa using hx))
  simp only [CL,this,df,h2];cases y.solid<;>rfl
section
variable {F : qF} {R' ρ : Type} {w : R' -> ρ} {y : ρ} {s : List SB} {ps : cX} {z : List Nat}
theorem aB0 {f:FuncId} {tk:List Nat} {vals vs:List SV} {s0:List SB} {k:XRS->jC R'} (hS:cZ s ps) {pas:List PV} (hv:RL s vals pas) (htk:tk=sW (toksL (dT ps fP) pas)) (hz:(tk.all fun t=>!has z t)=true)
 (h1:renVL tk vals=some vs) (h2:RO s tk tk=some s0):
 ∀{l:List fV},(∀c∈l,rG F f c)->fpS f s.length tk vs s0 k l ρ w=some y-> ∃sr pr,(∃n,AZ (run F n) f pas ps z=some pr)/\jQ s ps sr pr/\k (.loc sr) ρ w=some y
 | [],_,h=>by cases h
 |c::l,hl,h=>by
  have next:fpS f s.length tk vs s0 k l ρ w=some y-> ∃sr pr,(∃n,AZ (run F n) f pas ps z=some pr)/\jQ s ps sr pr/\k (.loc sr) ρ w=some y:=
   fun h=>aB0 hS hv htk hz h1 h2 (fun c hc=>hl c (dh _ hc)) h
  simp only [fpS] at h;cases hlk:(likeL c.ta vs&&OZ c.tb s0) with
  |false=>rw [hlk] at h;exact next h
  |true=>
   rw [hlk] at h;simp only [cond_true] at h;cases hpo:wQ c.ka (atsL vs++UK s0) with
   |none=>rw [hpo] at h;exact next h
   |some a=>
    rw [hpo] at h;obtain ⟨b,hb,h3⟩:=dJ h;simp only [ac] at hlk;have hats:=yG hpo;have hva:c.va a=vs:=by unfold fV.va;rw [hats,put_atsL _ hlk.1]
    have hsa:c.sa a=s0:=by
     unfold fV.sa;rw [hats,put_atsL _ hlk.1]
     have:=JY [] hlk.2
     rw [bv] at this;rw [this]
    have hren:PD tk s s0:=by have:=PD.of (l:=[]) h2;rwa [bv] at this
    obtain ⟨pa',a1,a2⟩:=renVL_R hren hv h1;obtain ⟨p0,b1,b2,b3⟩:=LK hS hren h2;have hs0:cZ s0 p0:=⟨b2,b3⟩;obtain ⟨hs0l,hs0g⟩:=E5 h2;obtain ⟨n,v,sr,r1,r2,r3,r4,r5,r6⟩:=hl c (db ..) a b pa' p0 hb (by rw [hva,hsa];exact a2) (by rw [hsa];exact hs0)
    rw [hsa] at r2 r4 r5 r6;have hnd:tk.Nodup:=by rw [htk];exact AA
    have htl: ∀t∈tk,t<s.length:=fun t ht=>by
     obtain ⟨j,hj,he⟩:=dj ht;obtain ⟨x,c',d1,_,_⟩:=hs0g j t (by rw [aj hj,he])
     exact (ae.1 d1).1
    have hsbl:(c.sb b).length=tk.length:=by rw [r5,hs0l]
    have hsrl:tk.length<=sr.length:=by
     have:=r4.len
     rw [bo,hsbl] at this;rw [hs0l] at this;omega
    have htake: ∀j,j<tk.length->(sr.take s0.length)[j]? =sr[j]?:=fun j hj=>am (by rw [hs0l];exact hj)
    have hfirm:CL p0 sr=true:=PG (fun t x hx=>by
     have htl':t<s0.length:=by have:=(ae.1 hx).1;rw [b2] at this;exact this
     obtain ⟨x0,hx0⟩: ∃x0,s0[t]? =some x0:=⟨s0[t],aj htl'⟩;obtain ⟨q,q1,q2⟩:=b3 t x0 hx0;rw [hx] at q1;injection q1 with q1;subst q1;obtain ⟨y0,hy0⟩: ∃y0,(c.sb b)[t]? =some y0:=⟨(c.sb b)[t]'(by omega),aj (by omega)⟩
     obtain ⟨q',q3,q4⟩:=r4.at_ t y0 hy0;rw [htake t (by omega)] at q3
     refine ⟨q',q3,?_⟩;have hfm:=r6 t x0 y0 hx0 hy0;cases x0 with
     |arr r l=>cases y0 with
      |arr r' l'=>
       obtain ⟨rfl,hll⟩:=hfm;rw [show x=_ from q2,show q'=_ from q4];cases l<;>cases l'<;>simp_all [mJ.solid]
      |_=>exact hfm.elim
     |box cs=>cases y0 with
      |box cs'=>obtain ⟨_,rfl,_⟩:=q2;obtain ⟨_,rfl,_⟩:=q4;rfl
      |_=>exact hfm.elim
     |set l=>cases y0 with
      |set l'=>rw [show x=_ from q2,show q'=_ from q4];rfl
      |_=>exact hfm.elim
     |tab p l=>cases y0 with
      |tab p' l'=>rw [show x=_ from q2,show q'=_ from q4];rfl
      |_=>exact hfm.elim
     |dead=>cases y0 with
      |dead=>rw [show x=_ from q2,show q'=_ from q4]
      |_=>exact hfm.elim)
    let g:=mT tk s.length
    have hg: ∀j t,tk[j]? =some t->g j=t:=fun j t hj=>by show mT tk s.length j=t;unfold mT;rw [hj]
    obtain ⟨w1,w2⟩:=S1 g tk (c.sb b) hsbl;obtain ⟨u1,u2⟩:=PF g tk sr hsrl
    let s2:=LG tk (wR (G9 g tk (c.sb b)) s)
    have hin: ∀(j t:Nat) (x:SB),tk[j]? =some t->(c.sb b)[j]? =some x->s2[t]? =some (dgB tk (aEA g x)):=fun j t x hj hx=>by
     show (LG tk _)[t]? =_;rw [CZ,C4,LO _ s j t _ (by rw [w1];exact hnd) (w2 j t x hj hx) (htl t (cu hj))]
     rfl
    have hout: ∀(t:Nat),t∉tk->s2[t]? =(s[t]?).map (dgB tk):=fun t ht=>by
     show (LG tk _)[t]? =_;rw [CZ,C4,C5 _ s t (by rw [w1];exact ht)]
    have hmem: ∀t∈tk,∃j,tk[j]? =some t:=fun t ht=>by
     obtain ⟨j,hj,he⟩:=dj ht;exact ⟨j,by rw [aj hj,he]⟩
    have hfr:Fr tk s s2:=fun t x hx=>by
     by_cases ht:t∈tk
     · obtain ⟨j,hj⟩:=hmem t ht
       have hjl:j<tk.length:=(ae.1 hj).1;obtain ⟨x',c',d1,d2,d3⟩:=hs0g j t hj;rw [hx] at d1;injection d1 with d1;subst d1;obtain ⟨y0,hy0⟩: ∃y0,(c.sb b)[j]? =some y0:=⟨(c.sb b)[j]'(by omega),aj (by omega)⟩
       have hfm:=r6 j c' y0 d3 hy0;have hs2:=hin j t y0 hj hy0;cases x with
       |arr r l=>
        injection d2 with d2;subst d2;cases y0 with
        |arr r' l'=>
         obtain ⟨rfl,hll⟩:=hfm;refine .inl ⟨l',hs2,hll,fun hb=>?_⟩
         exfalso
         have:has tk t=true:=by unfold has;rw [fq];exact ⟨t,ht,by simp⟩
         rw [this] at hb;cases hb
        |_=>exact hfm.elim
       |dead=>
        injection d2 with d2;subst d2;cases y0 with
        |dead=>exact hs2
        |_=>exact hfm.elim
       |_=>trivial
     have:=hout t ht
     rw [hx] at this;cases x with
     |arr r l=>exact .inl ⟨l,this,rfl,fun _=>rfl⟩
     |dead=>exact this
     |_=>trivial
    have hback:aOe g (c.sb b) s2:=fun u x hx=>by
     have hul:u<tk.length:=by have:=(ae.1 hx).1;omega
     have hj:tk[u]? =some tk[u]:=aj hul
     have:=hin u _ x hj hx
     rw [hg u _ hj];cases x with
     |arr r l=>exact this
     |dead=>exact this
     |_=>trivial
    have hRes:(∃n,AZ (run F n) f pas ps z=some {v:=renF g v,wr:=tB g tk sr}):=by
     refine ⟨n,?_⟩;unfold AZ aGp;rw [<- htk,if_pos hz,a1,b1];dsimp only;rw [r1];dsimp only;unfold N1;rw [if_pos hfirm,hS.len]
     have:jW tk.length v sr=true:=by rw [<- hs0l];exact r2
     rw [if_pos this]
    refine ⟨{v:=W9 g (c.vb b),wr:=G9 g tk (c.sb b)},_,hRes,?_,h3⟩;have hst:iA.stoOf s {v:=W9 g (c.vb b),wr:=G9 g tk (c.sb b)}=s2:=by
     rw [XM,bv,J0,w1]
    exact {
     rd:=rfl
     fr:=rfl
     wr:=by rw [J0,w1];exact u1
     nw:=S2 (by rw [u1];exact hnd)
     nl:=rfl
     sto:=by
      rw [hst];show cZ s2 (iN (tB g tk sr) ps);rw [MU];refine ⟨by rw [II,GG,C4,II,hS.len],fun t x hx=>?_⟩
      by_cases ht:t∈tk
      · obtain ⟨j,hj⟩:=hmem t ht
        have hjl:j<tk.length:=(ae.1 hj).1;obtain ⟨y0,hy0⟩: ∃y0,(c.sb b)[j]? =some y0:=⟨(c.sb b)[j]'(by omega),aj (by omega)⟩
        have hs2:=hin j t y0 hj hy0;rw [hx] at hs2;injection hs2 with hs2;subst hs2;obtain ⟨q',q3,q4⟩:=r4.at_ j y0 hy0;rw [htake j hjl] at q3;refine ⟨G1 g q',LO _ ps j t _ (by rw [u1];exact hnd) (u2 j t q' hj q3) (by rw [hS.len];exact htl t ht),?_⟩
        cases y0 with
        |box cs=>
         obtain ⟨pc,rfl,hpc⟩:=q4;exact ⟨_,rfl,RL.fr (Fr.refl tk s2) (backL_R hback hpc)⟩
        |arr r l=>rw [show q'=_ from q4];rfl
        |set l=>rw [show q'=_ from q4];rfl
        |tab p l=>rw [show q'=_ from q4];rfl
        |dead=>rw [show q'=_ from q4];rfl
      rw [hout t ht,bi] at hx
      obtain ⟨x0,hx0,rfl⟩:=hx;obtain ⟨q,q1,q2⟩:=hS.at_ t x0 hx0;exact ⟨q,by rw [C5 _ ps t (by rw [u1];exact ht)];exact q1,q2.fr hfr⟩
     v:=by rw [hst];exact aBZ hback r3
     fra:=by rw [hst,J0,w1];exact hfr}
end
end Go.Vm
/- What the typed machine makes of a function is what the logical machine runs. -/
namespace Go.Vm
section
variable {F : qF}
theorem WO.shrAny {o:cD} {r:List cD} {st:St} {tr:List Tr} {Q:St->List Tr->Prop} {f:FuncId} {args:List PV}
 (hw:wanted o.guard st.env=some true) (hop: ∀n,D1 F (run F n) st.env st.sto st.fz o.op=hM (run F n) f args st.sto st.fz)
 (h:I9 F f args st.sto st.fz fun v s z=>(ay st.sto.length s.length&&st.fz.all (has z))=true/\WO F r {st with env:=kI o.dst v st.env,sto:=s,fz:=z} (aEz::tr) Q):
 WO F (o::r) st tr Q:=by
 obtain ⟨n,v,s,z,hr,hc,hk⟩:=h;refine WO.call (.shr v s z) hw ⟨n,?_⟩ rfl hk;rw [hop];simp only [hM,hr];rw [if_pos hc]
theorem WP.again {live:List (Nat×Option Nat)} {b:mK} {st s1:St} {Q:jL->St->Prop} (h0:M7 live st=some s1) (h:WP F b s1 (NJ (fun s=>WP F (.loop live b) s Q) Q)):WP F (.loop live b) st Q:=by
 obtain ⟨m,e,s,he,hq⟩:=h;cases e with
 |normal=>
  obtain ⟨k,e',s',he',hq'⟩:=hq;refine ⟨max m k+1,e',s',?_,hq'⟩;simp only [zR] at he' ⊢;rw [pN];simp only [step,h0];rw [vF (vG F (Nat.le_max_left m k)) _ _ _ he];dsimp only;split at he'
  · rename_i e1 s1 hr1
    rw [vG F (Nat.le_max_right m k) _ _ hr1];exact he'
  cases he'
 |exit i=>exact ⟨m+1,.exit i,s,by simp only [zR];rw [pN];simp only [step,h0,he],hq⟩
 |ret=>exact ⟨m+1,.ret,s,by simp only [zR];rw [pN];simp only [step,h0,he],hq⟩
def XN (F : qF) (inl : Inl) : Prop :=
  ∀ (f : FuncId) (args : List SV) (s : List SB) (z : List Nat) (R' : Type) (k : SV -> List SB -> List Nat -> jC R') (ρ : Type) (w : R' -> ρ) (y : ρ) (pa : List PV) (ps : cX) (Q : R' -> PV -> cX -> List Nat -> Prop),
    RL s args pa -> cZ s ps -> inl f args s z R' k ρ w = some y ->
    (∀ v s' z' p ps' ρ' (w' : R' -> ρ') y', R s' v p -> cZ s' ps' -> k v s' z' ρ' w' = some y' -> ∃ r, y' = w' r /\ Q r p ps' z') ->
    ∃ r, y = w r /\ I9 F f pa ps z (fun p ps' z' => Q r p ps' z')
def aB1:SB->SB->Prop
 | .arr r l,b=>(∃l',b= .arr r l'/\l'.length=l.length)\/b= .dead
 | .dead,b=>b= .dead
 |_,_=>True
theorem J1 {R' ρ:Type} {w:R'->ρ} {y:ρ}: ∀{s s':List SB} {k:jC R'},AC s s' k ρ w=some y->k ρ w=some y/\s.length<=s'.length/\
 ∀(t:Nat) (b:SB),s[t]? =some b-> ∃b',s'[t]? =some b'/\aB1 b b'
 | [],s',k,h=>⟨by cases s'<;>exact h,Nat.zero_le _,fun t b ht=>by simp at ht⟩
 |x::xs,[],k,h=>by cases h
 |x::xs,y'::ys,k,h=>by
  have step: ∀(_:AC xs ys k ρ w=some y) (_:aB1 x y'),k ρ w=some y/\(x::xs).length<=(y'::ys).length/\ ∀(t:Nat) (b:SB),(x::xs)[t]? =some b-> ∃b',(y'::ys)[t]? =some b'/\aB1 b b':=by
   intro h hx;obtain ⟨h1,h2,h3⟩:=J1 h;refine ⟨h1,by simpa using h2,fun t b ht=>?_⟩
   cases t with
   |zero=>simp at ht;subst ht;exact ⟨y',rfl,hx⟩
   |succ t=>simpa using h3 t b (by simpa using ht)
  cases x with
  |arr r l=>
   cases y' with
   |arr q m=>
    obtain ⟨hr,h2⟩:=dG (a:=iR (m.length==l.length) (AC xs ys k) aQ) h;obtain ⟨hl,h3⟩:=jX h2
    have:=B5 hr
    subst this;exact step h3 (.inl ⟨m,rfl,by simpa using hl⟩)
   |dead=>exact step h (.inr rfl)
   |_=>cases h
  |dead=>
   cases y' with
   |dead=>exact step h rfl
   |_=>cases h
  |box cs=>exact step h trivial
  |set l=>exact step h trivial
  |tab p l=>exact step h trivial
theorem aE0 {n t:Nat} (h:t<n):has (BS n) t=true:=by
 induction n with
 |zero=>omega
 |succ n ih=>
  unfold has at ih ⊢;rw [fq] at*;simp only [BS,fv,dc];rcases cw t n with h1|h1
  · obtain ⟨x,h2,h3⟩:=ih h1
    exact ⟨x,.inl h2,h3⟩
  have:t=n:=by omega
  subst this;exact ⟨t,.inr rfl,by simp⟩
theorem aAJ {s s':List SB} (h: ∀(t:Nat) (b:SB),s[t]? =some b-> ∃b',s'[t]? =some b'/\aB1 b b'):Fr (BS s.length) s s':=fun t b hb=>by
 obtain ⟨b',h1,h2⟩:=h t b hb;have hlt:=(ae.1 hb).1;cases b with
 |arr r l=>
  rcases h2 with ⟨l',rfl,h3⟩|rfl
  · exact .inl ⟨l',h1,h3,fun hx=>by rw [aE0 hlt] at hx;cases hx⟩
  exact .inr h1
 |dead=>rw [show b'= .dead from h2] at h1;exact h1
 |_=>trivial
theorem aT8 {s:List SB} {ps:cX} {sr:iA} {pr:sU} (G:jQ s ps sr pr) (hS:cZ s ps):(XR.loc pr).tr ps.length=sr.tr s.length:=by
 simp only [XR.tr,iA.tr,G.rd,G.fr,hS.len,<- G.wr,G.nl,gb]
 have:pr.news.isEmpty=sr.news.isEmpty:=by
  have:=G.nl
  cases h1:pr.news<;>cases h2:sr.news<;>simp_all
 rw [this];rfl
theorem aOf {st:vL} {p:St} (h:HB st p) {sr:iA} {pr:sU} (G:jQ st.sto p.sto sr pr) (d:Option Nat):HB (sr.next d st) ((XR.loc pr).next d p):=by
 have hput: ∀{s:List SB} {e:SE} {pe:zO} {v:SV} {q:PV},eU s e pe->R s v q->eU s (UM d v e) (kI d q pe):=by
  intro s e pe v q he hv;cases d with
  |none=>exact he
  |some t=>exact ⟨q,pe,rfl,hv,he⟩
 have hs:=XM st.sto sr;unfold iA.next
 split
 · rename_i hw
   rw [hw] at hs;simp only [E3,wR,UT] at hs;have hsto:=G.sto;have hv:=G.v;have hfr:=G.fra;rw [hs] at hsto hv hfr;rw [hw] at hfr;exact ⟨by simp only [pK];exact hput (eU.ext hfr h.env) hv,by simp only [pK];exact hsto,by simp only [XR.next,G.fr,h.fz],h.kn⟩
 have hsto:=G.sto
 have hv:=G.v;have hfr:=G.fra;rw [hs] at hsto hv hfr;exact ⟨by simp only [pK];exact hput (eU.fr hfr h.env) hv,by simp only [pK];exact hsto,by simp only [XR.next,G.fr,h.fz],h.kn⟩
theorem aT9 {s:List SB} {ps:cX} {sr:iA} {pr:sU} (G:jQ s ps sr pr) {z:List Nat} (h:sr.ok z=true):(XR.loc pr).ok z=true:=by
 simp only [XR.ok,G.nw,df];unfold iA.ok at h;rw [<- G.wr,gb] at h;exact h
section
variable {cx : Ctx} {inl : Inl} {R' : Type}
def aWI (_F:qF) (k:vL->List Tr->jC R') (Q:R'->St->List Tr->Prop):Prop:=
 ∀st p tr ρ (w:R'->ρ) y,HB st p->k st tr ρ w=some y-> ∃r,y=w r/\Q r p tr
theorem C6 {o:cD} {l:List cD} {st:vL} {p:St} {tr:List Tr} {k:vL->List Tr->jC R'} {ρ:Type} {w:R'->ρ} {y:ρ} {Q:R'->St->List Tr->Prop}
 (hl: ∀st p tr ρ (w:R'->ρ) y,HB st p->k st tr ρ w=some y-> ∃r,y=w r/\WO F l p tr (Q r)) (h:HB st p) {sr:iA} {pr:sU} (hw:wanted o.guard p.env=some true)
 (hx: ∃n,D1 F (run F n) p.env p.sto p.fz o.op=some (.loc pr)) (G:jQ st.sto p.sto sr pr) (hg:goS o.dst st tr k (.loc sr) ρ w=some y): ∃r,y=w r/\WO F (o::l) p tr (Q r):=by
 unfold goS at hg;dsimp only at hg;obtain ⟨hok,hg⟩:=dG hg;rw [UH] at hg;have hR:=aOf h G o.dst;obtain ⟨r,hr,hwo⟩:=hl _ _ _ _ _ _ hR hg;refine ⟨r,hr,WO.call (.loc pr) hw hx (by rw [h.fz];exact aT9 G hok) ?_⟩
 rw [aT8 G h.sto];exact hwo
theorem XO (hcx:nG F cx) (hinl:XN F inl) {o:cD} {l:List cD} {st:vL} {p:St} {tr:List Tr} {k:vL->List Tr->jC R'} {ρ:Type} {w:R'->ρ} {y:ρ} {Q:R'->St->List Tr->Prop}
 (hl: ∀st p tr ρ (w:R'->ρ) y,HB st p->k st tr ρ w=some y-> ∃r,y=w r/\WO F l p tr (Q r)) (h:HB st p) (hw:wanted o.guard p.env=some true)
 (hg:SQ cx inl st.env st.sto st.fz o.op (goS o.dst st tr k) ρ w=some y): ∃r,y=w r/\WO F (o::l) p tr (Q r):=by
 have hS:=h.sto;have hE:=h.env;have shr: ∀(f:FuncId) (vals:List SV) (pas:List PV),RL st.sto vals pas->(∀n,D1 F (run F n) p.env p.sto p.fz o.op=hM (run F n) f pas p.sto p.fz)->
  inl f vals st.sto st.fz R' (fun v s' z'=>goS o.dst st tr k (.shr v s' z')) ρ w=some y-> ∃r,y=w r/\WO F (o::l) p tr (Q r):=by
  intro f vals pas hv hop hi;obtain ⟨r,hr,hd⟩:=hinl f vals st.sto st.fz R' _ ρ w y pas p.sto (fun r v s z=>(ay p.sto.length s.length&&p.fz.all (has z))=true/\WO F l {p with env:=kI o.dst v p.env,sto:=s,fz:=z} (aEz::tr) (Q r)) hv hS hi
   (fun v s' z' pv ps' ρ' w' y' hR hS' hk=>by
    unfold goS at hk;dsimp only at hk;rw [UH] at hk;obtain ⟨hk,hlen,hsame⟩:=J1 hk;obtain ⟨hz,hk⟩:=dG hk;have hfr:=aAJ hsame;have hput:eU s' (UM o.dst v (dgE (BS st.sto.length) st.env)) (kI o.dst pv p.env):=by
     cases o.dst with
     |none=>exact eU.fr hfr hE
     |some t=>exact ⟨pv,p.env,rfl,hR,eU.fr hfr hE⟩
    have hR':HB {env:=UM o.dst v (dgE (BS st.sto.length) st.env),sto:=s',fz:=z',kn:=st.kn} {p with env:=kI o.dst pv p.env,sto:=ps',fz:=z'}:=⟨hput,hS',rfl,h.kn⟩;obtain ⟨r,hr,hwo⟩:=hl _ _ _ _ _ _ hR' hk;refine ⟨r,hr,?_,hwo⟩;rw [h.fz,hz,df,hS.len,hS'.len];simpa using hlen)
  refine ⟨r,hr,WO.shrAny hw hop ?_⟩;rw [h.fz];rw [h.fz] at hd;exact hd
 have loc: ∀{k':iA->jC R'},pO st.env st.sto st.fz o.op k' ρ w=some y->LC o.op=false->(∀sr,k' sr=goS o.dst st tr k (.loc sr))-> ∃r,y=w r/\WO F (o::l) p tr (Q r):=by
  intro k' hv hc hk;obtain ⟨sr,pr,h1,G,h2⟩:=aGQ hE hS (pe:=p.env) hv;rw [hk] at h2;exact C6 hl h hw ⟨0,by rw [UE hc,h.fz,h1];rfl⟩ G h2
 generalize hop:o.op=op at hg;cases op with
 |call m f args=>
  have hargs:=GF hE args;simp only [SQ] at hg;cases m with
  |pur=>
   dsimp only at hg;cases hx:exVL st.sto (nF st.sto fP) (lU st.env args) with
   |none=>rw [hx] at hg;cases hg
   |some vs=>
    rw [hx] at hg;obtain ⟨q,h1,h2⟩:=exVL_R hS (NN hS fP) hargs hx;obtain ⟨sr,pr,⟨n,h3⟩,G,h4⟩:=E6 (f:=f) (z:=st.fz) hS h1 h2 (tkExL hS (PA hS fP) hargs hx) (fun c hc=>hcx.con f c hc) hg
    exact C6 hl h hw ⟨n,by rw [hop,h.fz];simp only [D1,h3];rfl⟩ G h4
  |own=>
   dsimp only at hg;cases hx:exVL st.sto (nF st.sto fP) (lU st.env args) with
   |none=>rw [hx] at hg;cases hg
   |some vs=>
    rw [hx] at hg;obtain ⟨q,h1,h2⟩:=exVL_R hS (NN hS fP) hargs hx;obtain ⟨sr,pr,⟨n,h3⟩,G,h4⟩:=E6 (f:=f) (z:=st.fz) hS h1 h2 (tkExL hS (PA hS fP) hargs hx) (fun c hc=>hcx.con f c hc) hg
    exact C6 hl h hw ⟨n,by rw [hop,h.fz];simp only [D1,h3];rfl⟩ G h4
  |shr=>exact shr f _ _ hargs (fun n=>by rw [hop];rfl) hg
  |fp=>
   dsimp only at hg;cases hx:aAu st.sto (nF st.sto fP) (lU st.env args) with
   |false=>rw [hx] at hg;cases hg
   |true=>
    rw [hx] at hg;dsimp only at hg;obtain ⟨hz,hg⟩:=dG hg;cases h1:renVL (sW (tkVL (EL st.sto fP) (lU st.env args))) (lU st.env args) with
    |none=>rw [h1] at hg;cases hg
    |some vs=>
     cases h2:RO st.sto (sW (tkVL (EL st.sto fP) (lU st.env args))) (sW (tkVL (EL st.sto fP) (lU st.env args))) with
     |none=>rw [h1,h2] at hg;cases hg
     |some s0=>
      rw [h1,h2] at hg;obtain ⟨sr,pr,⟨n,h3⟩,G,h4⟩:=aB0 (f:=f) (z:=st.fz) hS hargs (by rw [aES hS (PA hS fP) hargs hx]) hz h1 h2 (fun c hc=>hcx.fpc f c hc) hg
      exact C6 hl h hw ⟨n,by rw [hop,h.fz];simp only [D1,h3];rfl⟩ G h4
 |callv x args=>
  have hargs:=GF hE args;simp only [SQ] at hg;have hx:=eQ hE x;generalize cI st.env x=v at hg hx;cases v with
  |clo f a b=>
   dsimp only at hg;obtain ⟨pa,pb,hx,ha,hb⟩:=hx;have hany: ∀{vs:List SV} {q:List PV},RL st.sto vs q->(anyPtr vs=true->q.any N0=true):=by
    intro vs
    induction vs with
    |nil=>intro q _ h;cases h
    |cons v vs ih=>
     intro q hq hp;obtain ⟨a,as,rfl,h1,h2⟩:=hq.cons_inv;simp only [anyPtr,fw] at hp;simp only [fx,fw];rcases hp with hp|hp
     · left
       cases v with
       |own _ _=>obtain ⟨_,_,rfl,_⟩:=h1;rfl
       |pre _ _ _ _=>obtain ⟨_,rfl,_⟩:=h1;rfl
       |part _ _ _ _ _=>obtain ⟨_,rfl,_⟩:=h1;rfl
       |pa _ _ _ _ _=>obtain ⟨rfl,_⟩:=h1;rfl
       |pb _ _ _=>obtain ⟨_,rfl,_⟩:=h1;rfl
       |bp _ _ _=>rw [show a=_ from h1];rfl
       |mp _=>rw [show a=_ from h1];rfl
       |_=>cases hp
     right;exact ih h2 hp
   cases hp:anyPtr (lU st.env args++b) with
   |true=>
    rw [hp] at hg
    have:=hany (hargs.append hb) hp
    exact shr f _ _ ((ha.append hargs).append hb) (fun n=>by rw [hop];simp only [D1,hx,this,if_true]) hg
   |false=>
    rw [hp] at hg;simp only [cond_false] at hg;cases hxx:exVL st.sto (nF st.sto fP) (a++lU st.env args++b) with
    |none=>rw [hxx] at hg;cases hg
    |some vs=>
     rw [hxx] at hg;have hno: ∀{vs u:List SV} {q:List PV},RL st.sto vs q->anyPtr vs=false->exVL st.sto (nF st.sto fP) vs=some u->q.any N0=false:=by
      intro vs
      induction vs with
      |nil=>intro u q hq _ _;rw [show q=[] from hq];rfl
      |cons v vs ih=>
       intro u q hq hp hu;obtain ⟨a,as,rfl,h1,h2⟩:=hq.cons_inv;simp only [anyPtr,Bool.or_eq_false_iff] at hp;simp only [exVL] at hu;split at hu
       · rename_i y1 y2 e1 e2
         simp only [fx,ih h2 hp.2 e2,Bool.or_false];cases v with
         |agg _|tup _|rptr _ _=>obtain ⟨_,rfl,_⟩:=h1;rfl
         |clo _ _ _=>obtain ⟨_,_,rfl,_⟩:=h1;rfl
         |int _ _|bool _|str _|nilf|sl _ _|nil _ _|undef|nul=>rw [show a=_ from h1];rfl
         |junk=>cases e1
         |own _ _|pre _ _ _ _|part _ _ _ _ _|pa _ _ _ _ _|pb _ _ _|bp _ _ _|mp _=>cases hp.1
       cases hu
     have hsplit: ∃u2,exVL st.sto (nF st.sto fP) (lU st.env args++b)=some u2:=by
      have: ∀(l:List SV) {m u:List SV},exVL st.sto (nF st.sto fP) (l++m)=some u-> ∃u2,exVL st.sto (nF st.sto fP) m=some u2:=by
       intro l
       induction l with
       |nil=>intro m u h;exact ⟨u,h⟩
       |cons x l ih=>
        intro m u h;simp only [d9,exVL] at h;split at h
        · rename_i e1 e2;exact ih e2
        cases h
      rw [bg] at hxx;exact this a hxx
     obtain ⟨u2,hu2⟩:=hsplit;have hno':=hno (hargs.append hb) hp hu2;have hall:=(ha.append hargs).append hb;obtain ⟨q,h1,h2⟩:=exVL_R hS (NN hS fP) hall hxx;obtain ⟨sr,pr,⟨n,h3⟩,G,h4⟩:=E6 (f:=f) (z:=st.fz) hS h1 h2 (tkExL hS (PA hS fP) hall hxx) (fun c hc=>hcx.con f c hc) hg
     exact C6 hl h hw ⟨n,by rw [hop,h.fz];simp only [D1,hx,hno',ar,if_false,h3];rfl⟩ G h4
  |_=>cases hg
 |_=>exact loc (k':=fun r=>goS o.dst st tr k (.loc r)) (by rw [hop];exact hg) (by rw [hop];rfl) (fun _=>rfl)
theorem C7 (hcx:nG F cx) (hinl:XN F inl): ∀(ops:List cD) {st:vL} {p:St} {tr:List Tr} {k:vL->List Tr->jC R'} {ρ:Type} {w:R'->ρ} {y:ρ} {Q:R'->St->List Tr->Prop},
 aWI F k Q->HB st p->tG cx inl ops st tr k ρ w=some y-> ∃r,y=w r/\WO F ops p tr (Q r)
 | [],st,p,tr,k,ρ,w,y,Q,hk,h,he=>by
  obtain ⟨r,hr,hq⟩:=hk st p tr ρ w y h he;exact ⟨r,hr,WO.nil hq⟩
 |o::l,st,p,tr,k,ρ,w,y,Q,hk,h,he=>by
  have hl: ∀st p tr ρ (w:R'->ρ) y,HB st p->tG cx inl l st tr k ρ w=some y-> ∃r,y=w r/\WO F l p tr (Q r):=fun st p tr ρ w y h he=>C7 hcx hinl l hk h he
  have setR: ∀{st:vL} {c:Nat} {v:SV},HB st p->R st.sto v (lk c p.env)->HB {st with env:=setS c v st.env} p:=fun h hv=>⟨h.env.setS hv,h.sto,h.fz,h.kn⟩
  have run': ∀{st:vL},HB st p->wanted o.guard p.env=some true->(match o.op with
   | .pick (.t c) a b=>match RJ c st.env with
    | .bool x=>iR x (goS o.dst {st with env:=setS c (.bool true) st.env} tr (tG cx inl l · · k) (.loc {v:=cI st.env a}))
     (goS o.dst {st with env:=setS c (.bool false) st.env} tr (tG cx inl l · · k) (.loc {v:=cI st.env b}))
    |_=>aQ
   |op=>SQ cx inl st.env st.sto st.fz op (goS o.dst st tr (tG cx inl l · · k))) ρ w=some y-> ∃r,y=w r/\WO F (o::l) p tr (Q r):=by
   intro st h hw he;have plain:SQ cx inl st.env st.sto st.fz o.op (goS o.dst st tr (tG cx inl l · · k)) ρ w=some y-> ∃r,y=w r/\WO F (o::l) p tr (Q r):=fun he=>XO hcx hinl hl h hw he
   generalize hop:o.op=op at he;cases op with
   |pick c a b=>
    cases c with
    |c v=>exact plain (by rw [hop];exact he)
    |t c=>
     dsimp only at he;generalize hv:RJ c st.env=v at he;cases v with
     |bool x=>
      have hx:lk c p.env= .bool x:=by have:=h.env.lk c;rw [hv] at this;exact this
      rcases gD he with ⟨rfl,he⟩|⟨rfl,he⟩
      · have hR:=setR h (c:=c) (v:= .bool true) hx
        exact C6 (o:=o) hl hR hw ⟨0,by rw [hop];simp only [D1,bU,gW.ev,hx];rfl⟩ (jQ.val hR.sto (eQ h.env a)) he
      have hR:=setR h (c:=c) (v:= .bool false) hx
      exact C6 (o:=o) hl hR hw ⟨0,by rw [hop];simp only [D1,bU,gW.ev,hx];rfl⟩ (jQ.val hR.sto (eQ h.env b)) he
     |_=>cases he
   |_=>exact plain (by rw [hop];exact he)
  have skip': ∀{st:vL},HB st p->wanted o.guard p.env=some false->tG cx inl l {st with env:=UM o.dst .nul st.env} (Tr.idle::tr) k ρ w=some y-> ∃r,y=w r/\WO F (o::l) p tr (Q r):=by
   intro st h hw he;have hR:HB {st with env:=UM o.dst .nul st.env} {p with env:=kI o.dst .nul p.env}:=by
    refine ⟨?_,h.sto,h.fz,h.kn⟩;cases o.dst with
    |none=>exact h.env
    |some t=>exact ⟨.nul,p.env,rfl,rfl,h.env⟩
   obtain ⟨r,hr,hwo⟩:=hl _ _ _ _ _ _ hR he;exact ⟨r,hr,WO.skip hw hwo⟩
  simp only [tG] at he;cases hgd:o.guard with
  |none=>
   rw [hgd] at he;exact run' h (by rw [hgd];rfl) he
  |some g=>
   obtain ⟨c,want⟩:=g;rw [hgd] at he;dsimp only at he;generalize hv:RJ c st.env=v at he;cases v with
   |bool x=>
    have hx:lk c p.env= .bool x:=by have:=h.env.lk c;rw [hv] at this;exact this
    have hwx: ∀b,x=b->wanted o.guard p.env=some (b==want):=fun b hb=>by rw [hgd];simp only [wanted,hx,hb]
    cases want with
    |true=>
     simp only [cond_true] at he;rcases gD he with ⟨rfl,he⟩|⟨rfl,he⟩
     · exact run' (setR h (v:= .bool true) hx) (hwx true rfl) he
     exact skip' (setR h (v:= .bool false) hx) (hwx false rfl) he
    |false=>
     simp only [cond_false] at he;rcases gD he with ⟨rfl,he⟩|⟨rfl,he⟩
     · exact skip' (setR h (v:= .bool true) hx) (hwx true rfl) he
     exact run' (setR h (v:= .bool false) hx) (hwx false rfl) he
   |nul=>
    have hx:lk c p.env= .nul:=by have:=h.env.lk c;rw [hv] at this;exact this
    exact skip' h (by rw [hgd];simp only [wanted,hx]) he
   |_=>cases he
theorem PH {e:SE}: ∀{keep:List Nat} {k:SE->jC R'} {ρ:Type} {w:R'->ρ} {y:ρ},XA e keep k ρ w=some y->k (keep.map fun s=>(s,RJ s e)) ρ w=some y
 | [],k,ρ,w,y,h=>h
 |s::r,k,ρ,w,y,h=>by
  simp only [XA] at h;rw [UH] at h
  have:=PH h
  exact this
theorem aE1 {s:List SB} {e:SE} {pe:zO} (h:eU s e pe): ∀(keep:List Nat),eU s (keep.map fun t=>(t,RJ t e)) (keep.map fun t=>(t,lk t pe))
 | []=>rfl
 |t::r=>⟨_,_,rfl,h.lk t,aE1 h r⟩
end
mutual
theorem S3: ∀(v:SV) (q:List EM),zT v (LF v++q)=(v,q)
 | .junk,q| .undef,q| .nul,q| .nilf,q| .int _ _,q| .bool _,q| .str _,q| .sl _ _,q| .nil _ _,q| .own _ _,q| .pre _ _ _ _,q| .part _ _ _ _ _,q| .pa _ _ _ _ _,q| .pb _ _ _,q| .bp _ _ _,q| .mp _,q=>rfl
 | .agg cs,q=>by simp only [zT,LF,put_selfL]
 | .tup cs,q=>by simp only [zT,LF,put_selfL]
 | .rptr cs o,q=>by simp only [zT,LF,put_selfL]
 | .clo f a b,q=>by simp only [zT,LF,bg,put_selfL]
theorem put_selfL: ∀(v:List SV) (q:List EM),putL v (atsL v++q)=(v,q)
 | [],q=>rfl
 |x::xs,q=>by simp only [putL,atsL,bg,S3,put_selfL]
end
theorem S4: ∀(v:List SB) (q:List EM),IA v (UK v++q)=(v,q)
 | [],q=>rfl
 |x::xs,q=>by
  have: ∀q,aAx x (aEx x++q)=(x,q):=by
   intro q;cases x<;>first|rfl|simp only [aAx,aEx,put_selfL]
  simp only [IA,UK,bg,this,S4]
theorem S5: ∀(v:SE) (q:List EM),W8 v (aDe v++q)=(v,q)
 | [],q=>rfl
 |(t,x)::xs,q=>by simp only [W8,aDe,bg,S3,S5]
theorem aAK (st:vL):G8 st (EB st)=st:=by
 have hs:=S4 st.sto [];rw [bv] at hs;simp only [G8,EB,S5,hs]
theorem aDn {cx:Ctx} {inl:Inl} (hcx:nG F cx) (hinl:XN F inl): ∀(c:mK) (R':Type) {st:vL} {p:St} {k:jL->vL->jC R'} {ρ:Type} {w:R'->ρ} {y:ρ} {Q:R'->jL->St->Prop},
 (∀e st p ρ (w:R'->ρ) y,HB st p->k e st ρ w=some y-> ∃r,y=w r/\Q r e p)->HB st p->JN cx inl c R' st k ρ w=some y-> ∃r,y=w r/\WP F c p (Q r):=by
 intro c
 induction c with
 |skip=>
  intro R' st p k ρ w y Q hk h he;obtain ⟨r,hr,hq⟩:=hk _ _ _ _ _ _ h he;exact ⟨r,hr,WP.skip hq⟩
 |ret=>
  intro R' st p k ρ w y Q hk h he;obtain ⟨r,hr,hq⟩:=hk _ _ _ _ _ _ h he;exact ⟨r,hr,WP.ret hq⟩
 |exit id=>
  intro R' st p k ρ w y Q hk h he;obtain ⟨r,hr,hq⟩:=hk _ _ _ _ _ _ h he;exact ⟨r,hr,WP.exit hq⟩
 |region d ops keep=>
  intro R' st p k ρ w y Q hk h he;simp only [JN] at he;have fin: ∀st p ρ (w:R'->ρ) y,HB st p->XA st.env keep (fun e=>k .normal {st with env:=e}) ρ w=some y-> ∃r,y=w r/\Q r .normal (vH keep p):=by
   intro st p ρ w y h he
   have:=PH he
   have hR:HB {st with env:=keep.map fun t=>(t,RJ t st.env)} (vH keep p):=⟨aE1 h.env keep,h.sto,h.fz,h.kn⟩
   exact hk _ _ _ _ _ _ hR this
  cases d with
  |none=>
   obtain ⟨r,hr,hwo⟩:=C7 hcx hinl ops (Q:=fun r s _=>Q r .normal (vH keep s)) (fun st p tr ρ w y h he=>fin st p ρ w y h he) h he
   exact ⟨r,hr,WP.region hwo⟩
  |some bf=>
   obtain ⟨r,hr,hwo⟩:=C7 hcx hinl ops (Q:=fun r s t=>xI 0 (t.reverse.zip bf)=true/\Q r .normal (vH keep s)) (fun st p tr ρ w y h he=>by
    dsimp only at he;cases ho:xI 0 (tr.reverse.zip bf) with
    |false=>rw [ho] at he;cases he
    |true=>
     rw [ho] at he;obtain ⟨r,hr,hq⟩:=fin st p ρ w y h he;exact ⟨r,hr,ho,hq⟩) h he
   exact ⟨r,hr,WP.regionD hwo⟩
 |seq a b iha ihb=>
  intro R' st p k ρ w y Q hk h he;simp only [JN] at he;obtain ⟨r,hr,hwp⟩:=iha R' (Q:=fun r=>NJ (fun s=>WP F b s (Q r)) (Q r)) (fun e st p ρ w y h he=>by
   cases e with
   |normal=>exact ihb R' hk h he
   |exit i=>exact hk _ _ _ _ _ _ h he
   |ret=>exact hk _ _ _ _ _ _ h he) h he
  exact ⟨r,hr,WP.seq hwp⟩
 |cond c a b iha ihb=>
  intro R' st p k ρ w y Q hk h he;simp only [JN] at he;have hx:=eQ h.env c;generalize cI st.env c=v at he hx;cases v with
  |bool x=>
   rcases gD he with ⟨rfl,he⟩|⟨rfl,he⟩
   · obtain ⟨r,hr,hwp⟩:=iha R' hk h he
     exact ⟨r,hr,WP.condT hx hwp⟩
   obtain ⟨r,hr,hwp⟩:=ihb R' hk h he
   exact ⟨r,hr,WP.condF hx hwp⟩
  |_=>cases he
 |block id b ih=>
  intro R' st p k ρ w y Q hk h he;simp only [JN] at he;obtain ⟨r,hr,hwp⟩:=ih R' (Q:=fun r=>inBlock id (Q r)) (fun e st p ρ w y h he=>by
   cases e with
   |normal=>exact hk _ _ _ _ _ _ h he
   |ret=>exact hk _ _ _ _ _ _ h he
   |exit j=>
    dsimp only at he;cases hj:bw j id with
    |true=>
     rw [hj] at he;obtain ⟨r,hr,hq⟩:=hk _ _ _ _ _ _ h he;have hji:=aa hj;exact ⟨r,hr,by simpa [inBlock,hji] using hq⟩
    |false=>
     rw [hj] at he;obtain ⟨r,hr,hq⟩:=hk _ _ _ _ _ _ h he
     have:j≠id:=by intro e;subst e;simp at hj
     exact ⟨r,hr,by simpa [inBlock,this] using hq⟩) h he
  exact ⟨r,hr,WP.block hwp⟩
 |loop live b ih=>
  intro R' st p k ρ w y Q hk h he;simp only [JN] at he;cases hn:OY cx.rk live st with
  |none=>rw [hn] at he;cases he
  |some st1=>
   rw [hn] at he;dsimp only at he;have ksK_eq: ∀{β:Type 1} (l:List AK) (c:List AK->β),ksK l c=c l:=by
    intro β l;have rK_eq: ∀{β:Type 1} (l:List PT) (c:List PT->β),rK l c=c l:=by
     intro β l
     induction l with
     |nil=>intro c;rfl
     |cons p r ih=>intro c;cases p<;>simp only [rK,ptK,ih]
    induction l with
    |nil=>intro c;rfl
    |cons a r ih=>intro c;cases a<;>simp only [ksK,rK_eq,ih]
   rw [ksK_eq] at he;generalize aN4 (EB st1)=ks at he;cases hp:wQ ks (EB st1) with
   |none=>rw [hp] at he;cases he
   |some y0=>
    rw [hp] at he;dsimp only at he;obtain ⟨p1,hp1,hR1⟩:=aBX h hn;have hlike: ∀(st3:vL) (y':mN ks),O0 st1 st3=true->wQ ks (EB st3)=some y'->G8 st1 (pP ks y')=st3:=fun st3 y' h1 h2=>by
     rw [yG h2,aDm h1]
    obtain ⟨n,hit⟩:=aEp he;have h0:HB (G8 st1 (pP ks y0)) p1:=by rw [yG hp,aAK];exact hR1
    clear he hp hn h hR1
    induction n generalizing y0 p p1 with
    |zero=>cases hit
    |succ n ihn=>
     have body: ∀zr,JN cx inl b (bS (mN ks) ρ) (G8 st1 (pP ks y0)) (fun e st2=>match e with
      | .normal=>match OY cx.rk live st2 with
       |some st3=>bif O0 st1 st3 then (match wQ ks (EB st3) with
        |some y'=>SM (.next y')
        |none=>aQ) else aQ
       |none=>aQ
      |e=>fun ρ' w'=>k e st2 ρ' fun r=>w' (.done (w r))) (bS (mN ks) ρ) (fun z=>z)=some zr->
      WP F b p1 (fun e s=>match zr with
       | .next y'=>e= .normal/\ ∃p3,M7 live s=some p3/\HB (G8 st1 (pP ks y')) p3
       | .done x=>e≠ .normal/\ ∃r,x=w r/\Q r e s):=by
      intro zr hbody;obtain ⟨zr',hzr,hwp⟩:=ih (bS (mN ks) ρ) (Q:=fun zr e s=>match zr with
       | .next y'=>e= .normal/\ ∃p3,M7 live s=some p3/\HB (G8 st1 (pP ks y')) p3
       | .done x=>e≠ .normal/\ ∃r,x=w r/\Q r e s) (fun e st2 p2 ρ' w' y2 h2 he2=>by
       cases e with
       |normal=>
        dsimp only at he2;cases hn3:OY cx.rk live st2 with
        |none=>rw [hn3] at he2;cases he2
        |some st3=>
         rw [hn3] at he2;obtain ⟨hlk,he2⟩:=dG he2;cases hp3:wQ ks (EB st3) with
         |none=>rw [hp3] at he2;cases he2
         |some y3=>
          rw [hp3] at he2;injection he2 with he2;obtain ⟨p3,hp3',hR3⟩:=aBX h2 hn3;exact ⟨.next y3,he2.symm,rfl,p3,hp3',by rw [hlike st3 y3 hlk hp3];exact hR3⟩
       |exit i=>
        obtain ⟨r,hr,hq⟩:=hk _ _ _ _ _ _ h2 he2;exact ⟨.done (w r),hr,(by intro e;cases e),r,rfl,hq⟩
       |ret=>
        obtain ⟨r,hr,hq⟩:=hk _ _ _ _ _ _ h2 he2;exact ⟨.done (w r),hr,(by intro e;cases e),r,rfl,hq⟩) h0 hbody
      subst hzr;exact hwp
     simp only [vJ] at hit;split at hit
     · rename_i y' hbody
       obtain ⟨m,e,s,hrun,rfl,p3,hp3,hR3⟩:=body _ hbody;obtain ⟨r,hr,hwp⟩:=ihn y' p3 hp3 hit hR3;exact ⟨r,hr,WP.again hp1 ⟨m,.normal,s,hrun,hwp⟩⟩
     · rename_i x hbody
       injection hit with hit;obtain ⟨m,e,s,hrun,hne,r,hr,hq⟩:=body _ hbody;refine ⟨r,by rw [<- hit];exact hr,WP.again hp1 ⟨m,e,s,hrun,?_⟩⟩
       cases e with
       |normal=>exact absurd rfl hne
       |exit i=>exact hq
       |ret=>exact hq
     cases hit
end
end Go.Vm
/- Contracts from the typed machine. -/
namespace Go.Vm
section
variable {F : qF} {cx : Ctx} {inl : Inl}
theorem XP {s:List SB}: ∀{l:List SV} {q:List PV} (i:Nat),RL s l q->eU s (aAB i l) (BT i q)
 | [],q,i,h=>by rw [show q=[] from h];rfl
 |x::xs,q,i,h=>by
  obtain ⟨a,as,rfl,h1,h2⟩:=h.cons_inv;exact ⟨a,BT (i+1) as,rfl,h1,XP (i+1) h2⟩
theorem aE2 {st:vL} {p:St} (h:HB st p) {r:RV} {v:SV} (hr:aAA st r=some v): ∃q,N2 p r=some q/\R st.sto v q:=by
 cases r with
 |tmp t=>injection hr with hr;subst hr;exact ⟨_,rfl,h.env.lk t⟩
 |cell t agg=>
  simp only [aAA] at hr;have hlk:=h.env.lk t;split at hr
  · rename_i u n off hv
    rw [hv] at hlk;rw [cN] at hr;split at hr
    · rename_i cs hst
      obtain ⟨q,h1,h2⟩:=h.sto.box hst;obtain ⟨x,h3,h4⟩:=AD h2 hr;refine ⟨x,?_,h4⟩;simp only [N2,show lk t p.env=_ from hlk,sV,h1,bn,if_true,h3];rfl
    cases hr
  · rename_i cs off hv
    rw [hv] at hlk;obtain ⟨q,h1,h2⟩:=hlk;obtain ⟨x,h3,h4⟩:=AD h2 hr;refine ⟨x,?_,h4⟩;simp only [N2,h1,sV,h3];rfl
  cases hr
theorem S6 {st:vL} {p:St} (h:HB st p): ∀{l:List RV} {vs:List SV},GE st l=some vs-> ∃q,rM p l=some q/\RL st.sto vs q
 | [],vs,hr=>by injection hr with hr;subst hr;exact ⟨[],rfl,rfl⟩
 |r::l,vs,hr=>by
  simp only [GE] at hr;split at hr
  · rename_i v vs' h1 h2
    injection hr with hr;subst hr;obtain ⟨q,h3,h4⟩:=aE2 h h1;obtain ⟨qs,h5,h6⟩:=S6 h h2;exact ⟨q::qs,by simp only [rM,h3,h5],RL.cons h4 h6⟩
  cases hr
theorem XQ {s:List SB} {vs:List SV} {q:List PV} (h:RL s vs q):R s (LH vs) (vE q):=by
 match vs,q,h with
 | [],q,h=>rw [show q=[] from h];exact ⟨[],rfl,rfl⟩
 | [v],q,h=>
  obtain ⟨a,as,rfl,h1,h2⟩:=h.cons_inv;rw [show as=[] from h2];exact h1
 |v::u::r,q,h=>
  have hall:=h;obtain ⟨a,as,rfl,h1,h2⟩:=h.cons_inv;obtain ⟨b,bs,rfl,h3,h4⟩:=h2.cons_inv;exact ⟨_,rfl,hall⟩
theorem E7 (hcx:nG F cx) (hinl:XN F inl) {f:FuncId} {x:aN} (hf:F f=some (.code x)) {R':Type} {args:List SV} {s:List SB} {z:List Nat} {k:SV->List SB->List Nat->jC R'} {ρ:Type} {w:R'->ρ} {y:ρ} {pa:List PV} {ps:cX}
 {Q:R'->PV->cX->List Nat->Prop} (ha:RL s args pa) (hS:cZ s ps) (he:XB cx inl x R' args s z k ρ w=some y)
 (hk: ∀v s' z' p ps' ρ' (w':R'->ρ') y',R s' v p->cZ s' ps'->k v s' z' ρ' w'=some y'-> ∃r,y'=w' r/\Q r p ps' z'): ∃r,y=w r/\I9 F f pa ps z (fun p ps' z'=>Q r p ps' z'):=by
 unfold XB at he;obtain ⟨hn,he⟩:=dG he;have fin: ∀st p ρ' (w':R'->ρ') y',HB st p->(match GE st x.res with
  |some vs=>k (LH vs) st.sto st.fz
  |none=>aQ) ρ' w'=some y'-> ∃r,y'=w' r/\ ∃vs,rM p x.res=some vs/\Q r (vE vs) p.sto p.fz:=by
  intro st p ρ' w' y' h he;cases hr:GE st x.res with
  |none=>rw [hr] at he;cases he
  |some vs=>
   rw [hr] at he;obtain ⟨q,h1,h2⟩:=S6 h hr;obtain ⟨r,h3,h4⟩:=hk _ _ _ _ _ _ _ _ (XQ h2) h.sto he;exact ⟨r,h3,q,h1,by rw [h.fz];exact h4⟩
 obtain ⟨r,hr,hwp⟩:=aDn hcx hinl x.code R' (Q:=fun r=>T1 x fun p ps' z'=>Q r p ps' z') (p:={env:=BT 0 pa,sto:=ps,fz:=z,kn:=ps.length}) (fun e st p ρ' w' y' h he=>by
  cases e with
  |normal=>exact fin st p ρ' w' y' h he
  |ret=>exact fin st p ρ' w' y' h he
  |exit i=>cases he) ⟨XP 0 ha,hS,rfl,hS.len⟩ he
 exact ⟨r,hr,I9.of hf (by rw [ha.length];exact hn) hwp⟩
theorem UU {α:Type} {l m r:List α} {i:Int} (h:UF l i m=some r):0<=i/\i.toNat<=l.length/\m.length=1/\l.length+1<=1048576/\r=l.take i.toNat++m++l.drop i.toNat:=by
 unfold UF at h;split at h
 · rename_i hc
   injection h with h;exact ⟨hc.1,hc.2.1,hc.2.2.1,hc.2.2.2,h.symm⟩
 cases h
theorem aDo {e:Nat} {args:List SV} {s:List SB} {z:List Nat} {a:aT5} (h:aGD e args s z=some a):
 ∃x u x2 m,args=[.own a.t x,.int .i64 a.i,.own u x2]/\nth s a.t=some (.arr a.r a.l)/\nth s u=some (.arr a.r m)/\a.m=m/\a.r.length=e/\bw a.t u=false/\has z a.t=false:=by
 unfold aGD at h;split at h
 case h_2=>cases h
 split at h
 case h_2=>cases h
 split at h
 case h_2=>cases h
 split at h
 case h_2=>cases h
 rename_i m' hm;cases hc:(bw _ e&&_&&_) with
 |false=>rw [hc] at h;cases h
 |true=>
  rw [hc] at h;injection h with h;subst h;simp only [ac,ed,be] at hc;obtain ⟨rfl,rfl⟩:=yF hm;exact ⟨_,_,_,_,rfl,by assumption,by assumption,rfl,hc.1.1,hc.1.2,hc.2⟩
theorem aAL {e:Nat} {f:FuncId} (hf:F f=some (.shp (aDX e))) {R':Type} {args:List SV} {s:List SB} {z:List Nat} {k:SV->List SB->List Nat->jC R'} {ρ:Type} {w:R'->ρ} {y:ρ} {pa:List PV} {ps:cX}
 {Q:R'->PV->cX->List Nat->Prop} (ha:RL s args pa) (hS:cZ s ps) (he:aN7 e args s z k ρ w=some y)
 (hk: ∀v s' z' p ps' ρ' (w':R'->ρ') y',R s' v p->cZ s' ps'->k v s' z' ρ' w'=some y'-> ∃r,y'=w' r/\Q r p ps' z'): ∃r,y=w r/\I9 F f pa ps z (fun p ps' z'=>Q r p ps' z'):=by
 unfold aN7 at he;cases hA:aGD e args s z with
 |none=>rw [hA] at he;cases he
 |some a=>
 rw [hA] at he;dsimp only at he;obtain ⟨l',hl,he⟩:=dJ he;obtain ⟨x,u,x2,m0,rfl,ht,hu,hm,he1,htu,hz⟩:=aDo hA;obtain ⟨t,q,l,i,m⟩:=a;dsimp only at*;subst hm he1;obtain ⟨i0,il,m1,hle,rfl⟩:=UU hl;obtain ⟨p0,pr0,rfl,h0,ha⟩:=ha;obtain ⟨p1,pr1,rfl,h1,ha⟩:=ha;obtain ⟨p2,pr2,rfl,h2,ha⟩:=ha;obtain rfl:pr2=[]:=ha;obtain rfl:p1= .int .i64 i:=h1
 have ht':s[t]? =some (.arr q l):=by rw [<- cN];exact ht
 have hu':s[u]? =some (.arr q m):=by rw [<- cN];exact hu
 obtain ⟨e0,n0,rfl,o0⟩:=h0;obtain ⟨e2,n2,rfl,o2⟩:=h2;obtain ⟨rfl,rfl⟩:e0=q.length/\n0=l.length:=by
  rcases o0 with ⟨r1,l1,a,b,c⟩|a
  · rw [ht'] at a;injection a with a;injection a with a1 a2;subst a1;subst a2;exact ⟨b,c⟩
  rw [ht'] at a;cases a
 obtain ⟨rfl,rfl⟩:e2=q.length/\n2=m.length:=by
  rcases o2 with ⟨r1,l1,a,b,c⟩|a
  · rw [hu'] at a;injection a with a;injection a with a1 a2;subst a1;subst a2;exact ⟨b,c⟩
  rw [hu'] at a;cases a
 obtain ⟨b1,hb1,hb1'⟩:=hS.at_ t _ ht';obtain ⟨b2,hb2,hb2'⟩:=hS.at_ u _ hu';have hb1':b1= .arr q.length (l.map (RT.pv q)):=hb1';have hb2':b2= .arr q.length (m.map (RT.pv q)):=hb2';subst hb1' hb2';have hlen:(LG [t] (s.set t .dead)).length=s.length:=by rw [GG];simp
 obtain ⟨L,hL⟩: ∃L,L=l.take i.toNat++m++l.drop i.toNat:=⟨_,rfl⟩;rw [<- hL] at he;have G:=jQ.put hS (b:= .dead) (q:= .dead) (l:=[.arr q L]) (ql:=[.arr q.length (L.map (RT.pv q))]) (v:= .own s.length false)
  (p:= .own s.length q.length 0 L.length L.length false) (rd:=[]) ht' (.inr rfl) rfl rfl
  (fun j b hj=>by
   cases j with
   |zero=>simp at hj;subst hj;exact ⟨_,rfl,rfl⟩
   |succ j=>simp at hj)
  ⟨q.length,L.length,rfl,.inl ⟨q,L,by rw [<- hlen];exact vN,rfl,rfl⟩⟩
 have hll:L.length=l.length+1:=by
  rw [hL];simp only [c8,bo,eb,m1];omega
 obtain ⟨rr,hr,hq⟩:=hk _ _ _ _ _ _ _ _ G.v G.sto he;refine ⟨rr,hr,1,_,_,_,?_,hq⟩;rw [pN];have hmost:ay (l.length+1) most=true:=by simp [most];omega
 have hbl:ay i.toNat l.length=true:=by simpa using il
 have hLm:L.map (RT.pv q)=(l.map (RT.pv q)).take i.toNat++m.map (RT.pv q)++(l.map (RT.pv q)).drop i.toNat:=by
  rw [hL,c6,c6,bz,cz]
 simp [step,hf,aDX,hb1,hb2,m1,htu,hz,i0,hmost,il,hll,hS.len,iN,Z9,hLm]
theorem XS: ∀(p:PT) (a:p.T),JM p (p.pv a)=some a
 | .i k,a=>by
  have:gG k k=true:=gC.2 rfl
  simp [JM,PT.pv,this]
 | .b,a=>rfl
theorem aB2: ∀(r:List PT) (a:RT r),RP r (RT.pv r a)=some a
 | [],a=>rfl
 | [p],a=>XS p a
 |p::q::r,a=>by
  show (match JM p (p.pv a.1),RP (q::r) (RT.pv (q::r) a.2) with
   |some a,some b=>some (a,b)
   |_,_=>none)=_
  rw [XS,aB2 (q::r)]
theorem XT (r:List PT): ∀l:List (RT r),MQ r (l.map (RT.pv r))=some l
 | []=>rfl
 |a::l=>by
  show (match RP r (RT.pv r a),MQ r (l.map (RT.pv r)) with
   |some a,some l=>some (a::l)
   |_,_=>none)=_
  rw [aB2,XT r l]
theorem aGT {s:List SB} {g:Option FuncId} {a:List SV} {p:List PV} (h:MR g a=true) (hr:RL s a p):aGA g p=true:=by
 unfold MR at h;split at h
 · obtain rfl:p=[]:=hr
   rfl
 · obtain ⟨p0,pr,rfl,h0,hr⟩:=hr
   obtain rfl:pr=[]:=hr;obtain ⟨x,y,rfl,hx,hy⟩:=h0;obtain rfl:x=[]:=hx;obtain rfl:y=[]:=hy;exact h
 cases h
theorem aDp {r:List PT} {g:Option FuncId} {args:List SV} {s:List SB} {z:List Nat} {t:Nat} {o:Option Nat} {l:List (RT r)} (h:aGE r g args s z=some (t,o,l)):
 ∃x a,args=x::a/\nth s t=some (.arr r l)/\has z t=false/\MR g a=true/\((o=none/\ ∃ex,x= .own t ex)\/ ∃len cap ex,o=some len/\x= .pre t len cap ex):=by
 unfold aGE at h;split at h
 · split at h
   · split at h
     · rename_i hm
       cases hc:(!has z _&&MR g _) with
       |false=>rw [hc] at h;cases h
       |true=>
        rw [hc] at h;simp only [cond_true,aq,bu] at h;obtain ⟨rfl,rfl,rfl⟩:=h;simp only [ac,be] at hc;obtain ⟨rfl,rfl⟩:=yF hm;exact ⟨_,_,rfl,by assumption,hc.1,hc.2,.inl ⟨rfl,_,rfl⟩⟩
     cases h
   cases h
 · split at h
   · split at h
     · rename_i hm
       cases hc:(!has z _&&MR g _) with
       |false=>rw [hc] at h;cases h
       |true=>
        rw [hc] at h;simp only [cond_true,aq,bu] at h;obtain ⟨rfl,rfl,rfl⟩:=h;simp only [ac,be] at hc;obtain ⟨rfl,rfl⟩:=yF hm;exact ⟨_,_,rfl,by assumption,hc.1,hc.2,.inr ⟨_,_,_,rfl,rfl⟩⟩
     cases h
   cases h
 cases h
theorem aAM {α:Type} {f:List α->Option (List α)} {l m:List α} (h:MO f l=some m):l.length<=1048576/\f l=some m/\m.length=l.length:=by
 unfold MO at h;split at h
 · rename_i hl
   split at h
   · rename_i m' hm
     split at h
     · rename_i he
       injection h with h;subst h;exact ⟨hl,hm,he⟩
     cases h
   cases h
 cases h
theorem UV {α:Type} {f:List α->Option (List α)} {n:Nat} {l m:List α} (h:GC f n l=some m):n<=l.length/\ ∃m',MO f (l.take n)=some m'/\m=m'++l.drop n:=by
 unfold GC at h;split at h
 · rename_i hn
   cases hm:MO f (l.take n) with
   |none=>rw [hm] at h;cases h
   |some m'=>
    rw [hm] at h;injection h with h;exact ⟨hn,m',rfl,h.symm⟩
 cases h
theorem aAN {q:Srt} {f:FuncId} (hf:F f=some (.shp (UL q))) {R':Type} {args:List SV} {s:List SB} {z:List Nat} {k:SV->List SB->List Nat->jC R'} {ρ:Type} {w:R'->ρ} {y:ρ} {pa:List PV} {ps:cX}
 {Q:R'->PV->cX->List Nat->Prop} (ha:RL s args pa) (hS:cZ s ps) (he:aN8 q args s z k ρ w=some y)
 (hk: ∀v s' z' p ps' ρ' (w':R'->ρ') y',R s' v p->cZ s' ps'->k v s' z' ρ' w'=some y'-> ∃r,y'=w' r/\Q r p ps' z'): ∃r,y=w r/\I9 F f pa ps z (fun p ps' z'=>Q r p ps' z'):=by
 have key: ∀(t len:Nat) (l m':List (RT q.r)) (ex:Bool) (cap:Nat) (pr:List PV) (a:List SV),s[t]? =some (.arr q.r l)->has z t=false->MR q.g a=true->RL s a pr->pa= .own t q.r.length 0 len cap ex::pr->len<=l.length->MO q.fn (l.take len)=some m'->
  k (.tup []) (iA.stoOf s {v:= .tup [],wr:=[(t,.arr q.r (m'++l.drop len))]}) z ρ w=some y-> ∃r,y=w r/\I9 F f pa ps z (fun p ps' z'=>Q r p ps' z'):=by
  intro t len l m' ex cap pr a ht hz hg har hpa hlen hso he;subst hpa;obtain ⟨s1,s2,s3⟩:=aAM hso;obtain ⟨b1,hb1,hb1'⟩:=hS.at_ t _ ht;have hb1':b1= .arr q.r.length (l.map (RT.pv q.r)):=hb1';subst hb1';have hll:(l.take len).length=len:=by rw [bo];omega
  have hml:(m'++l.drop len).length=l.length:=by rw [c8,eb,s3,hll];omega
  have G:=jQ.put hS (b:= .arr q.r (m'++l.drop len)) (q:= .arr q.r.length ((m'++l.drop len).map (RT.pv q.r))) (l:=[]) (ql:=[]) (v:= .tup []) (p:= .tup []) (rd:=[]) ht (.inl ⟨_,rfl,hml⟩) rfl rfl
   (fun j b hj=>by simp at hj) ⟨[],rfl,rfl⟩
  obtain ⟨rr,hr,hq⟩:=hk _ _ _ _ _ _ _ _ G.v G.sto he;refine ⟨rr,hr,1,_,_,_,?_,hq⟩;rw [pN];have hg':=aGT hg har;have hrt:MQ q.r ((l.map (RT.pv q.r)).take len)=some (l.take len):=by rw [<- bz];exact XT q.r _
  have hbl:ay len l.length=true:=by simpa using hlen
  have hmo:ay len most=true:=by simp [most];omega
  have hbe:bw m'.length (l.take len).length=true:=by rw [s3];exact bn _
  simp only [step,hf,UL,hb1,az,bn,hbl,hmo,hz,hg',hrt,s2,hbe,cq,df,if_true,eh,iN,Z9,c6,cz]
 unfold aN8 at he;cases hA:aGE q.r q.g args s z with
 |none=>rw [hA] at he;cases he
 |some u=>
  obtain ⟨t,o,l⟩:=u;rw [hA] at he;obtain ⟨x,a,rfl,ht,hz,hg,h⟩:=aDp hA;obtain ⟨p0,pr,rfl,h0,ha⟩:=ha;rw [cN] at ht;rcases h with ⟨rfl,ex,rfl⟩|⟨len,cap,ex,rfl,rfl⟩
  · obtain ⟨m,hm,he⟩:=dJ he
    obtain ⟨e0,n0,rfl,o0⟩:=h0;obtain ⟨rfl,rfl⟩:e0=q.r.length/\n0=l.length:=by
     rcases o0 with ⟨r1,l1,a,b,c⟩|a
     · rw [ht] at a;injection a with a;injection a with a1 a2;subst a1;cases a2;exact ⟨b,c⟩
     rw [ht] at a;cases a
    refine key t l.length l m ex l.length pr a ht hz hg ha rfl (dy _) (by rw [List.take_length];exact hm) ?_
    rw [List.drop_length,bv];exact he
  obtain ⟨m,hm,he⟩:=dJ he
  obtain ⟨e0,rfl,o0⟩:=h0;obtain rfl:e0=q.r.length:=by
   rcases o0 with ⟨r1,l1,a,b⟩|a
   · rw [ht] at a;injection a with a;injection a with a1 a2;subst a1;exact b
   rw [ht] at a;cases a
  obtain ⟨hn,m',hso,rfl⟩:=UV hm;exact key t len l m' ex cap pr a ht hz hg ha rfl hn hso he
theorem UW (hcx:nG F cx): ∀n,XN F (aEB cx n)
 |0=>fun f args s z R' k ρ w y pa ps Q _ _ h _=>by cases h
 |n+1=>fun f args s z R' k ρ w y pa ps Q ha hS h hk=>by
  simp only [aEB] at h;cases hx:cx.code f with
  |none=>rw [hx] at h;cases h
  |some x=>
   rw [hx] at h;cases x with
   |code x=>exact E7 hcx (UW hcx n) (hcx.code f _ hx) ha hS h hk
   |ins e=>exact aAL (hcx.code f _ hx) ha hS h hk
   |srt q=>exact aAN (hcx.code f _ hx) ha hS h hk
def aGU:Kd->Bool->Bool
 | .own,b=>b
 |_,b=>!b
def aE3 (kd:Kd) {β:Type} (res:aM β) (b:β) (p:PV) (ps:cX) (z:List Nat):Prop:=
 match kd with
 | .pure=>p.noref=true/\yE (res.enc b)=some p
 | .frz=>p.noref=false/\ ∃q,F7 ps p=some q/\yE (res.enc b)=some q
 | .own=> ∀nx,∃p0 p' q seen,G0 ps z nx [] p=some (p',q,seen)/\yE (res.enc b)=some p0/\PE nx p0=some (p',q)
mutual
theorem XU {s:List SB}: ∀{v:SV} {p:PV},R s v p->HZ v=true->yE v=some p
 | .int _ _,p,h,_| .bool _,p,h,_| .str _,p,h,_=>by rw [show p=_ from h];rfl
 | .agg cs,p,h,hn=>by obtain ⟨q,rfl,h⟩:=h;simp only [yE,pure_pvL h hn]
 | .tup cs,p,h,hn=>by obtain ⟨q,rfl,h⟩:=h;simp only [yE,pure_pvL h hn]
 | .junk,_,_,h| .undef,_,_,h| .nul,_,_,h| .nilf,_,_,h| .sl _ _,_,_,h| .nil _ _,_,_,h| .own _ _,_,_,h| .pre _ _ _ _,_,_,h| .part _ _ _ _ _,_,_,h| .pa _ _ _ _ _,_,_,h| .pb _ _ _,_,_,h| .bp _ _ _,_,_,h| .rptr _ _,_,_,h| .clo _ _ _,_,_,h| .mp _,_,_,h=>by cases h
theorem pure_pvL {s:List SB}: ∀{v:List SV} {p:List PV},RL s v p->norefSL v=true->pvL v=some p
 | [],p,h,_=>by rw [show p=_ from h];rfl
 |x::xs,p,h,hn=>by
  obtain ⟨a,as,rfl,h1,h2⟩:=h.cons_inv;simp only [norefSL,ac] at hn;exact fM.2 ⟨_,_,rfl,XU h1 hn.1,pure_pvL h2 hn.2⟩
end
theorem aAO {kd:Kd} {β:Type} {res:aM β} {v:SV} {s:List SB} {z:List Nat} {p:PV} {ps:cX} {ρ:Type} {w:β->ρ} {y:ρ} (hv:R s v p) (hS:cZ s ps) (h:aEC kd res v s z ρ w=some y):
 ∃b,y=w b/\aE3 kd res b p ps z:=by
 unfold aEC at h;cases kd with
 |pure=>
  dsimp only at h;obtain ⟨h1,h2⟩:=dG h;obtain ⟨b,h3,h4⟩:=bX h2;injection h4 with h4;exact ⟨b,h4.symm,XL hv h1,res.law h3 (XU hv h1)⟩
 |frz=>
  dsimp only at h;obtain ⟨h1,h2⟩:=xW h;obtain ⟨u,h3,h4⟩:=bX h2;obtain ⟨b,h5,h6⟩:=bX h4;injection h6 with h6;obtain ⟨q,h7,h8⟩:=aNN hS hv h3;exact ⟨b,h6.symm,SZ hv h1 h3,q,h7,res.law h5 h8⟩
 |own=>
  dsimp only at h;obtain ⟨u,h3,h4⟩:=bX h;obtain ⟨b,h5,h6⟩:=bX h4;injection h6 with h6;refine ⟨b,h6.symm,fun nx=>?_⟩
  obtain ⟨p0,p',q,h7,h8,h9⟩:=aEX hS (v':=u.1) (seen':=u.2) nx hv h3;exact ⟨p0,p',q,u.2,h9,res.law h5 h7,h8⟩
theorem cZ.nil:cZ [] []:=⟨rfl,fun t b h=>by simp at h⟩
theorem aJ.of {f:FuncId} {x:aN} {α β:Type} {args:aF α} {res:aM β} {kd:Kd} {fn:α->Option β} {ow:Bool} (hf:F f=some (.code x)) (ho:aGU kd ow=true) (hcx:nG F cx)
 (h: ∀a,aNK cx x args res kd a=fn a):aJ F f ⟨args,res,fn,kd,ow⟩:=by
 intro a b as pa sto fz hb hpa hex;have hb:fn a=some b:=hb;rw [<- h a] at hb;obtain ⟨r,hr,n,v,s,z,hrun,hl⟩:=E7 hcx (UW hcx 8) hf (Q:=fun r p ps z=>aE3 kd res r p ps z) (pvL_R hpa) cZ.nil hb (fun v s' z' p ps' ρ' w' y' hv hS hk=>aAO hv hS hk)
 have hr':b=r:=hr;subst hr';cases kd with
 |pure=>
  obtain ⟨h1,h2⟩:=hl;have how:ow=false:=by simpa [aGU] using ho
  subst how;refine ⟨n,{v:=v,rd:=toksL (dT sto fP) as},?_,v,h2,rfl⟩;simp only [callPure,hex,hf,hrun,ar,if_false,h1,if_true]
 |frz=>
  obtain ⟨h1,q,h2,h3⟩:=hl;have how:ow=false:=by simpa [aGU] using ho
  subst how;refine ⟨n,{v:=q,rd:=toksL (dT sto fP) as,fr:=toksL (dT sto fP) as},?_,q,h3,rfl⟩;simp only [callPure,hex,hf,hrun,ar,if_false,h1,h2]
 |own=>
  have how:ow=true:=ho;subst how;obtain ⟨p0,p',q,seen,h1,h2,h3⟩:=hl sto.length;refine ⟨n,{v:=p',news:=q,rd:=toksL (dT sto fP) as},?_,p0,p',q,h2,h3,rfl⟩;simp only [callPure,hex,hf,hrun,if_true,h1]
theorem XV: ∀(s:List SB) (q:List EM),(IA s q).1.length=s.length
 | [],q=>rfl
 |b::r,q=>by simp only [IA,ba,XV r]
mutual
theorem R.take {s:List SB} {k:Nat}: ∀{v:SV} {p:PV},R s v p->(∀t∈tkV zP v,t<k)->R (s.take k) v p
 | .junk,_,_,_=>trivial
 | .undef,_,h,_| .nul,_,h,_| .nilf,_,h,_| .int _ _,_,h,_| .bool _,_,h,_| .str _,_,h,_| .sl _ _,_,h,_| .nil _ _,_,h,_| .bp _ _ _,_,h,_| .mp _,_,h,_=>h
 | .agg cs,_,h,ht=>by obtain ⟨q,rfl,h⟩:=h;exact ⟨q,rfl,RL.takeS h ht⟩
 | .tup cs,_,h,ht=>by obtain ⟨q,rfl,h⟩:=h;exact ⟨q,rfl,RL.takeS h ht⟩
 | .rptr cs o,_,h,ht=>by obtain ⟨q,rfl,h⟩:=h;exact ⟨q,rfl,RL.takeS h ht⟩
 | .clo f a b,_,h,ht=>by
  obtain ⟨pa,pb,rfl,h1,h2⟩:=h;exact ⟨pa,pb,rfl,RL.takeS h1 (fun t h=>ht t (di _ h)),RL.takeS h2 (fun t h=>ht t (de _ h))⟩
 | .own t ex,_,h,ht=>by
  obtain ⟨e,n,rfl,hat⟩:=h;have hk:=ht t (dc.2 rfl);refine ⟨e,n,rfl,?_⟩;rcases hat with ⟨r,l,h1,h2,h3⟩|h1
  · exact .inl ⟨r,l,by rw [am hk];exact h1,h2,h3⟩
  exact .inr (by rw [am hk];exact h1)
 | .pre t a b c,_,h,ht=>by
  obtain ⟨e,rfl,hat⟩:=h;have hk:=ht t (dc.2 rfl);refine ⟨e,rfl,?_⟩;rcases hat with ⟨r,l,h1,h2⟩|h1
  · exact .inl ⟨r,l,by rw [am hk];exact h1,h2⟩
  exact .inr (by rw [am hk];exact h1)
 | .part t o a b c,_,h,ht=>by
  obtain ⟨e,rfl,hat⟩:=h;have hk:=ht t (dc.2 rfl);refine ⟨e,rfl,?_⟩;rcases hat with ⟨r,l,h1,h2⟩|h1
  · exact .inl ⟨r,l,by rw [am hk];exact h1,h2⟩
  exact .inr (by rw [am hk];exact h1)
 | .pa t r i a o,_,h,ht=>by
  obtain ⟨rfl,hat⟩:=h;have hk:=ht t (db ..);refine ⟨rfl,?_⟩;rcases hat with ⟨l,h1,h2⟩|h1
  · exact .inl ⟨l,by rw [am hk];exact h1,h2⟩
  exact .inr (by rw [am hk];exact h1)
 | .pb t i o,_,h,ht=>by
  obtain ⟨e,rfl,hat⟩:=h;have hk:=ht t (db ..);refine ⟨e,rfl,?_⟩;rcases hat with ⟨r,l,h1,h2⟩|h1
  · exact .inl ⟨r,l,by rw [am hk];exact h1,h2⟩
  exact .inr (by rw [am hk];exact h1)
theorem RL.takeS {s:List SB} {k:Nat}: ∀{v:List SV} {p:List PV},RL s v p->(∀t∈tkVL zP v,t<k)->RL (s.take k) v p
 | [],_,h,_=>h
 |x::xs,_,h,ht=>by
  obtain ⟨a,as,rfl,h1,h2⟩:=h.cons_inv;exact RL.cons (R.take h1 (fun t h=>ht t (di _ h))) (RL.takeS h2 (fun t h=>ht t (de _ h)))
end
theorem PI {R' ρ:Type} {w:R'->ρ} {y:ρ}: ∀{s s':List SB} {k:jC R'},JO s s' k ρ w=some y->k ρ w=some y/\s'.length=s.length/\ ∀(t:Nat) (x z:SB),s[t]? =some x->s'[t]? =some z->aEZ x z
 | [],[],k,h=>⟨h,rfl,fun t x z h=>by simp at h⟩
 | [],_::_,k,h=>by cases h
 |_::_,[],k,h=>by cases h
 |x::xs,y'::ys,k,h=>by
  have step: ∀(_:JO xs ys k ρ w=some y) (_:aEZ x y'),k ρ w=some y/\(y'::ys).length=(x::xs).length/\ ∀(t:Nat) (a b:SB),(x::xs)[t]? =some a->(y'::ys)[t]? =some b->aEZ a b:=by
   intro h hx;obtain ⟨h1,h2,h3⟩:=PI h;refine ⟨h1,by simpa using h2,fun t a b ha hb=>?_⟩
   cases t with
   |zero=>simp at ha hb;subst ha hb;exact hx
   |succ t=>exact h3 t a b (by simpa using ha) (by simpa using hb)
  cases x with
  |arr r l=>
   cases y' with
   |arr q m=>
    obtain ⟨hr,h2⟩:=dG (a:=iR (m.length==l.length) (JO xs ys k) aQ) h;obtain ⟨hl,h3⟩:=jX h2;exact step h3 ⟨B5 hr,by simpa using hl⟩
   |_=>cases h
  |dead=>cases y' with
   |dead=>exact step h trivial
   |_=>cases h
  |box cs=>cases y' with
   |box _=>exact step h trivial
   |_=>cases h
  |set l=>cases y' with
   |set _=>exact step h trivial
   |_=>cases h
  |tab p l=>cases y' with
   |tab _ _=>exact step h trivial
   |_=>cases h
theorem PJ: ∀{s:List SB},O1 s=true-> ∀(t:Nat) (b:SB),s[t]? =some b->GD b=true
 | [],_,t,b,h=>by simp at h
 |x::xs,hs,0,b,h=>by simp only [O1,ac] at hs;simp at h;subst h;exact hs.1
 |x::xs,hs,t+1,b,h=>by simp only [O1,ac] at hs;exact PJ hs.2 t b (by simpa using h)
theorem rG.of {f:FuncId} {x:aN} {wd:Bool} {ka ko:List AK} {ta:List SV} {tb to:List SB} {tv:SV} {fn:mN ka->Option (mN ko)} (hf:F f=some (.code x)) (hcx:nG F cx)
 (h: ∀a,aWH wd cx x ka ta tb ko tv to a=fn a):rG F f ⟨ka,ta,tb,ko,tv,to,fn⟩:=by
 intro a b pa ps hb ha hS;rw [show (⟨ka,ta,tb,ko,tv,to,fn⟩:fV).fn a=fn a from rfl,<- h a] at hb;have hlen:(fV.sa ⟨ka,ta,tb,ko,tv,to,fn⟩ a).length=tb.length:=XV _ _;obtain ⟨r,hr,n,v,s,z,hrun,hz,hq⟩:=E7 hcx (UW hcx 8) hf (Q:=fun (r:mN ko) p ps' z'=>z'=[]/\jW tb.length p ps'=true/\
  R (fV.sb ⟨ka,ta,tb,ko,tv,to,fn⟩ r) (fV.vb ⟨ka,ta,tb,ko,tv,to,fn⟩ r) p/\cZ (fV.sb ⟨ka,ta,tb,ko,tv,to,fn⟩ r) (ps'.take tb.length)/\
  (fV.sb ⟨ka,ta,tb,ko,tv,to,fn⟩ r).length=(fV.sa ⟨ka,ta,tb,ko,tv,to,fn⟩ a).length/\
  ∀(t:Nat) (x y:SB),(fV.sa ⟨ka,ta,tb,ko,tv,to,fn⟩ a)[t]? =some x->(fV.sb ⟨ka,ta,tb,ko,tv,to,fn⟩ r)[t]? =some y->aEZ x y) ha hS hb (fun v s' z' p ps' ρ' w' y' hv hS' hk=>by
  cases z' with
  |cons _ _=>cases hk
  |nil=>
   dsimp only at hk;obtain ⟨hc,hk⟩:=dG hk;simp only [ac] at hc;obtain ⟨⟨⟨⟨c1,c2⟩,c3⟩,c4⟩,c5⟩:=hc;obtain ⟨hk,f1,f2⟩:=PI hk;obtain ⟨r,hr,hk⟩:=bX hk;injection hk with hk;have hu:R s' (bif wd then SP s' v else v) p:=by
    cases wd with
    |true=>exact aBV hv
    |false=>exact hv
   generalize (bif wd then SP s' v else v)=u at c1 c3 c4 hr hu
   have hats:=yG hr;have hvb:fV.vb ⟨ka,ta,tb,ko,tv,to,fn⟩ r=u:=by
    show (zT tv (pP ko r)).1=u;rw [hats,NO _ c1]
   have hsb:fV.sb ⟨ka,ta,tb,ko,tv,to,fn⟩ r=s'.take tb.length:=by
    show (IA to (zT tv (pP ko r)).2).1=_;rw [hats,NO _ c1]
    have:=JY [] c2
    rw [bv] at this;rw [this]
   have hle:tb.length<=s'.length:=by
    have:=f1
    rw [bo] at this;have h2:(fV.sa ⟨ka,ta,tb,ko,tv,to,fn⟩ a).length=tb.length:=hlen;have h3:min tb.length s'.length=tb.length:=by rw [this];exact h2
    omega
   unfold aNJ at c3;rw [ci] at c3;have hkv: ∀t∈tkV zP u,t<tb.length:=fun t ht=>by simpa using c3 t (di _ ht)
   have hkb: ∀b∈s'.take tb.length,∀t∈OT b,t<tb.length:=fun b hb t ht=>by simpa using c3 t (de _ (ft.2 ⟨b,hb,ht⟩))
   have hsto:cZ (s'.take tb.length) (ps'.take tb.length):=⟨by simp [hS'.len],fun t x hx=>by
    have hlt:t<tb.length:=by
     have:=(ae.1 hx).1
     rw [bo] at this;omega
    have hx':=hx;rw [am hlt] at hx';obtain ⟨q,q1,q2⟩:=hS'.at_ t x hx';refine ⟨q,by rw [am hlt];exact q1,?_⟩
    cases x with
    |box cs=>
     obtain ⟨pc,rfl,hpc⟩:=q2;exact ⟨pc,rfl,RL.takeS hpc (hkb _ (cu hx))⟩
    |_=>exact q2⟩
   refine ⟨r,hk.symm,rfl,?_,by rw [hvb,hsb];exact R.take hu hkv,by rw [hsb];exact hsto,by rw [hsb];exact f1,by rw [hsb];exact f2⟩
   unfold jW;rw [ci];intro t ht;rw [fv] at ht;rcases ht with ht|ht
   · rw [<- aER (bx:=zP) (fun _=>rfl) hu c4] at ht
     simpa using hkv t ht
   rw [ft] at ht
   obtain ⟨q,hq,ht⟩:=ht;obtain ⟨j,hj,he⟩:=dj hq;have hjl:j<(s'.take tb.length).length:=by rw [<- hsto.len];exact hj
   obtain ⟨x,hx⟩: ∃x,(s'.take tb.length)[j]? =some x:=⟨_,aj hjl⟩;obtain ⟨q',q1,q2⟩:=hsto.at_ j x hx;rw [aj hj,he] at q1;injection q1 with q1;subst q1;rw [<- UQ q2 (PJ c5 j x hx)] at ht;simpa using hkb x (cu hx) t ht)
 have hr':b=r:=hr;subst hr';subst hz;refine ⟨n,v,s,hrun,?_⟩;rw [hlen];obtain ⟨h1,h2,h3,h4,h5⟩:=hq;exact ⟨h1,h2,h3,by rw [h4,hlen],h5⟩
theorem aAP {f:FuncId} {r:List PT} (hf:F f=some (.prim false (gK r.length))) (l:List (RT r)) (hl:l.length<=1048576) {as:List PV} {sto:cX} {fz:List Nat} (hex:exL sto (EN sto fP) as=some [.sl r.length false (l.map (RT.pv r))]):
 ∃n x,callPure F (run F n) false f as sto fz=some x/\aNO .own sto.length (toksL (dT sto fP) as) (.sl r l) x:=by
 refine ⟨0,{v:= .own sto.length r.length 0 l.length l.length false,news:=[.arr r.length (l.map (RT.pv r))],rd:=toksL (dT sto fP) as},?_,.sl r.length false (l.map (RT.pv r)),.own sto.length r.length 0 l.length l.length false,[.arr r.length (l.map (RT.pv r))],rfl,by simp only [PE,az],rfl⟩
 simp only [callPure,hex,hf];cases l with
 |nil=>rfl
 |cons a l=>
  have h2:ay ((l.map (RT.pv r)).length+1) most=true:=by simp [most] at hl ⊢;omega
  simp only [bj,gK,bn,h2,bk,if_true,G0];simp [has]
theorem aJ.clone {f:FuncId} {n:Nat} {r:List PT} (hf:F f=some (.prim false (gK n))) (hn:n=r.length):aJ F f (bV.clone r):=by
 intro (a:List (RT r)) (b:List (RT r)) as pa sto fz hb hpa hex;subst hn;have hb:cA a=some b:=hb;obtain ⟨rfl,hl⟩:=IE hb;have hpa':pa=[.sl r.length false (b.map (RT.pv r))]:=by
  have:some [PV.sl r.length false (b.map (RT.pv r))]=some pa:=hpa
  exact (cj this).symm
 subst hpa';exact aAP hf b hl hex
theorem aJ.add64 {f:FuncId} (hf:F f=some (.prim false HP)):aJ F f bV.add64:=by
 intro a b as pa sto fz hb hpa hex;obtain ⟨x,y,c⟩:=a;have hb':tH x y c=some b:=hb;unfold tH at hb';cases hc:(decide (0<=x)&&decide (0<=y)&&decide (0<=c)&&decide (c<=1)) with
 |false=>rw [hc] at hb';cases hb'
 |true=>
  rw [hc] at hb';injection hb' with hb';subst hb';simp only [ac,decide_eq_true_eq] at hc;obtain ⟨⟨⟨h1,h2⟩,h3⟩,h4⟩:=hc;obtain ⟨x,rfl⟩:=ax h1;obtain ⟨y,rfl⟩:=ax h2;obtain ⟨c,rfl⟩:=ax h3;have hpa':pa=[.int .u64 (.ofNat x),.int .u64 (.ofNat y),.int .u64 (.ofNat c)]:=by
   have:some [PV.int .u64 (x:Int),.int .u64 (y:Int),.int .u64 (c:Int)]=some pa:=hpa
   exact (cj this).symm
  subst hpa';have hcb:ay c 1=true:=by simp;omega
  refine ⟨0,{v:= .tup [.int .u64 (.ofNat ((x+y+c)%18446744073709551616)),.int .u64 (.ofNat ((x+y+c) / 18446744073709551616))],rd:=toksL (dT sto fP) as},?_,_,rfl,rfl⟩;show callPure F (run F 0) false f as sto fz=_;simp only [callPure,hex,hf,HP,hcb,if_true];rfl
theorem rG.zero {f:FuncId} {c:fV} (h: ∀a,c.fn a=none):rG F f c:=fun a b pa ps hb=>by rw [h a] at hb;cases hb
theorem aJ.zero {f:FuncId} {c:bV} (h: ∀a,c.fn a=none):aJ F f c:=fun a b as pa sto fz hb=>by rw [h a] at hb;cases hb
theorem aJ.at0 {f:FuncId} {fn:Unit->Option Bool} (h:aJ F f ⟨aF.nil,aM.bool,fn,.pure,false⟩) (hb:fn ()=some true):aJ F f ⟨aF.nil,aM.bool,fun _=>some true,.pure,false⟩:=by
 intro a b as args sto fz hr hp hx;obtain rfl:true=b:=cj hr;exact h () true as args sto fz hb hp hx
end
end Go.Vm
/- What comes in to a law, as typed values; a law from a contract. -/
namespace Go.Vm
open Go.ChangeShapes Go.WideShapes Go.ChangeAt Go.RowKit
def PT.wf:(p:PT)->p.T->Prop
 | .i k,n=>(Lit.int k n).wf=true
 | .b,_=>True
def RT.wf:(r:List PT)->RT r->Prop
 | [],_=>True
 | [p],a=>p.wf a
 |p::q::r,a=>p.wf a.1/\RT.wf (q::r) a.2
def jE (r:List PT) (vs:List SV):Prop:= ∃a:RT r,vs=RT.sv r a/\RT.wf r a
def XW (r:List PT) (vs:List SV):Prop:= ∃l:List (RT r),vs=[.sl r l]/\ ∀a∈l,RT.wf r a
def aGV:List (List SV->Prop)->List SV->Prop
 | [],vs=>vs=[]
 |K::Ks,vs=> ∃a b,vs=a++b/\K a/\aGV Ks b
theorem jE.cons {p:PT}: ∀{r:List PT} {a b:List SV},jE [p] a->jE r b->jE (p::r) (a++b)
 | [],a,b,⟨x,hx,wx⟩,⟨y,hy,_⟩=>⟨x,by rw [hx,hy];rfl,wx⟩
 |q::r,a,b,⟨x,hx,wx⟩,⟨y,hy,wy⟩=>⟨(x,y),by rw [hx,hy];rfl,wx,wy⟩
theorem jE.split {p q:PT} {r:List PT} {vs:List SV}:jE (p::q::r) vs-> ∃a b,vs=a++b/\jE [p] a/\jE (q::r) b
 |⟨x,hx,wx⟩=>⟨[p.sv x.1],RT.sv (q::r) x.2,hx,⟨x.1,rfl,wx.1⟩,⟨x.2,rfl,wx.2⟩⟩
theorem jE.app: ∀{r s:List PT} {a b:List SV},jE r a->jE s b->jE (r++s) (a++b)
 | [],s,a,b,⟨x,hx,_⟩,h=>by
  have:a=[]:=hx
  subst this;exact h
 | [p],s,a,b,h,k=>jE.cons h k
 |p::q::r,s,a,b,h,k=>by
  obtain ⟨a1,a2,rfl,h1,h2⟩:=jE.split h
  rw [bg];exact jE.cons h1 (jE.app h2 k)
theorem qW: ∀{rs:List (List PT)} {vs:List SV},aGV (rs.map jE) vs->jE rs.flatten vs
 | [],vs,h=>by
  have:vs=[]:=h
  subst this;exact ⟨(),rfl,trivial⟩
 |r::rs,vs,⟨a,b,h1,h2,h3⟩=>by
  subst h1;rw [List.flatten_cons];exact jE.app h2 (qW h3)
def cY (P : Program) (t : TypeId) (K : List SV -> Prop) : Prop :=
  ∀ (H : Type) (enc : TypeId × Value -> H) (w : World) (fuel : Nat) (cs : List Value) (x : DataW H × List MemPlace), DataW.trod enc P w 0 (fun _ => true) true fuel t cs = some x ->
    ∃ vs q, K vs /\ pvL vs = some q /\ VRL (RN w) iG q cs
section
variable {P : Program}
theorem cY.mono {t:TypeId} {K K':List SV->Prop} (h:cY P t K) (hk: ∀vs,K vs->K' vs):cY P t K':=fun H enc w fuel cs x hx=>by
 obtain ⟨vs,q,h1,h2,h3⟩:=h H enc w fuel cs x hx;exact ⟨vs,q,hk vs h1,h2,h3⟩
theorem cY.int {t:TypeId} {k:IntKind} (ht:P.underlying t=some (.int k)):cY P t (jE [.i k]):=fun H enc w fuel cs x h=>by
 obtain ⟨n,rfl,_,hw⟩:=DataW.trod_int ht h;exact ⟨[.int k n],[.int k n],⟨n,rfl,hw⟩,rfl,.cons _ _ _ _ (.int k n) .nil⟩
theorem cY.bool {t:TypeId} (ht:P.underlying t=some .bool):cY P t (jE [.b]):=fun H enc w fuel cs x h=>by
 obtain ⟨b,rfl,_⟩:=DataW.trod_bool ht h;exact ⟨[.bool b],[.bool b],⟨b,rfl,trivial⟩,rfl,.cons _ _ _ _ (.bool b) .nil⟩
def bJ (P:Program):List Field->List (List SV->Prop)->Nat->Prop
 | [],[],_=>True
 |f::fs,K::Ks,off=>f.offset=off/\cY P f.type K/\bJ P fs Ks (off+P.cellsOf f.type)
 |_,_,_=>False
theorem bJ.nil {off:Nat}:bJ P [] [] off:=trivial
theorem bJ.cons {f:Field} {fs:List Field} {K:List SV->Prop} {Ks:List (List SV->Prop)} {off:Nat} (h1:f.offset=off) (h2:cY P f.type K) (h3:bJ P fs Ks (off+P.cellsOf f.type)):bJ P (f::fs) (K::Ks) off:=⟨h1,h2,h3⟩
def E8 (P:Program):List Field->Nat
 | []=>0
 |f::fs=>P.cellsOf f.type+E8 P fs
theorem PK {im:Im} {loc:dU}: ∀{p:List PV} {vs:List Value} {q:List PV} {us:List Value},VRL im loc p vs->VRL im loc q us->VRL im loc (p++q) (vs++us)
 | [],[],_,_,.nil,h=>h
 |_::_,_::_,_,_,.cons x v xs ws h hs,k=> .cons x v _ _ h (PK hs k)
theorem PL {H:Type} {enc:TypeId×Value->H} {w:World} {n:Nat} {cs:List Value}: ∀{fs:List Field} {Ks:List (List SV->Prop)} {off:Nat},bJ P fs Ks off->cs.length=off+E8 P fs->
 (∀f∈fs,∃x,DataW.trod enc P w 0 (fun _=>true) true n f.type ((cs.drop f.offset).take (P.cellsOf f.type))=some x)-> ∃vs q,aGV Ks vs/\pvL vs=some q/\VRL (RN w) iG q (cs.drop off)
 | [],[],off,_,hl,_=>⟨[],[],rfl,rfl,by rw [List.drop_eq_nil_of_le (by simp [E8] at hl;omega)];exact .nil⟩
 |f::fs,K::Ks,off,⟨h1,h2,h3⟩,hl,hx=>by
  obtain ⟨x,hx1⟩:=hx f (by simp)
  obtain ⟨vs,q,k1,k2,k3⟩:=h2 H enc w n _ x hx1;obtain ⟨vs',q',k1',k2',k3'⟩:=PL (n:=n) h3 (by simp only [E8] at hl;omega) (fun g hg=>hx g (by simp [hg]))
  refine ⟨vs++vs',q++q',⟨vs,vs',rfl,k1,k1'⟩,IB k2 k2',?_⟩;rw [h1] at k3
  have:cs.drop off=(cs.drop off).take (P.cellsOf f.type)++cs.drop (off+P.cellsOf f.type):=by
   rw [<- List.drop_drop,List.take_append_drop]
  rw [this];exact PK k3 k3'
 | [],_::_,_,h,_,_=>h.elim
 |_::_,[],_,h,_,_=>h.elim
theorem cY.struct {t:TypeId} {fs:Array Field} {Ks:List (List SV->Prop)} (ht:P.underlying t=some (.struct fs)) (hF:bJ P fs.toList Ks 0) (hc:P.cellsOf t=E8 P fs.toList):cY P t (aGV Ks):=fun H enc w fuel cs x h=>by
 obtain ⟨xs,n,rfl,_,hl,hxl,hall⟩:=DataW.trod_struct ht h
 have:=PL (P:=P) (enc:=enc) (w:=w) (n:=n) (cs:=cs) hF (by omega) (fun f hf=>by
  obtain ⟨i,hi,he⟩:=List.mem_iff_getElem.1 hf;have hi':i<fs.size:=by simpa using hi
  have hg:fs[i]? =some f:=by rw [dw hi'];simpa using he
  have:=hall i f hg
  rw [aj (by omega)] at this
  exact ⟨_,this⟩)
 rwa [ce] at this
theorem RT.vrl {r:List PT} {a:RT r} {q:List PV} (h:pvL (RT.sv r a)=some q):q=RT.pv r a:=by
 rw [RT.pv_sv] at h;exact (cj h).symm
theorem VRL.nth {im:Im} {loc:dU}: ∀{p:List PV} {vs:List Value},VRL im loc p vs-> ∀(k:Nat) (c:PV),p[k]? =some c-> ∃v,vs[k]? =some v/\VR im loc c v
 |_::_,_::_,.cons x v xs ws h hs,0,c,hc=>by
  simp at hc;subst hc;exact ⟨v,by simp,h⟩
 |_::_,_::_,.cons x v xs ws h hs,k+1,c,hc=>by
  obtain ⟨u,h1,h2⟩:=VRL.nth hs k c (by simpa using hc)
  exact ⟨u,by simpa using h1,h2⟩
theorem cY.slice {t e:TypeId} {r:List PT} (ht:P.underlying t=some (.slice e)) (he:cY P e (jE r)) (hc:P.cellsOf e=r.length) (hr:0<r.length):cY P t (XW r):=fun H enc w fuel cs x h=>by
 rcases Go.Deep.open_slice ht h with ⟨rfl,_⟩|⟨a,len,cap,m,n,D,Pl,rfl,_,hl,hm,hmm,_,hx⟩
 · exact ⟨[.sl r []],[.sl r.length false []],⟨[],rfl,by simp⟩,rfl,.cons _ _ _ _ (.sl r.length false [] none 0 (dy _) (fun h=>by cases h) (fun h=>absurd rfl h)) .nil⟩
 have hm':len<=m:=by rw [hmm];split<;>omega
 have each: ∀i,i<len-> ∃A:RT r,RT.wf r A/\ ∃cs',w.cells? 0 (a.add (i*r.length)) r.length=some cs'/\VRL (RN w) iG (RT.pv r A) cs':=by
  intro i hi;obtain ⟨cs',h1,h2⟩:=hx i (by omega)
  obtain ⟨vs,q,⟨A,hA,wA⟩,k2,k3⟩:=he H enc w n cs' _ h2;subst hA;rw [RT.vrl k2] at k3;rw [hc] at h1;exact ⟨A,wA,cs',h1,k3⟩
 have ch: ∃A:Nat->RT r,∀i,i<len->RT.wf r (A i)/\ ∃cs',w.cells? 0 (a.add (i*r.length)) r.length=some cs'/\VRL (RN w) iG (RT.pv r (A i)) cs':=by
  classical
  refine ⟨fun i=>if h:i<len then (each i h).choose else RT.zero r,fun i hi=>?_⟩
  simp only [dif_pos hi];exact (each i hi).choose_spec
 obtain ⟨A,hA⟩:=ch;refine ⟨[.sl r ((fb len).map A)],[.sl r.length false (((fb len).map A).map (RT.pv r))],⟨_,rfl,fun x hx=>?_⟩,rfl,.cons _ _ _ _ ?_ .nil⟩
 · obtain ⟨i,hi,rfl⟩:=ga.1 hx
   exact (hA i (List.mem_range.1 hi)).1
 have hlen:(((fb len).map A).map (RT.pv r)).length=len:=by simp
 have:=VR.sl (im:=RN w) (loc:=iG) r.length false (((fb len).map A).map (RT.pv r)) (some a) cap (by rw [hlen];exact hl) (fun h=>by cases h) (fun hne=>by
  have hpos:0<len:=by
   rcases dp len with h|h
   · subst h;exact absurd rfl hne
   exact h
  obtain ⟨_,cs0,h0,_⟩:=hA 0 hpos;obtain ⟨_,hl0,hc0⟩:=fk h0;obtain ⟨b,off,spot⟩:=a;have hspot:spot=none:=by
   have h1:=hc0 0 hr;rw [aj (by omega)] at h1
   simpa [Addr.add] using World.cell?_spot h1
  subst hspot;refine ⟨b,off,rfl,fun i row hrow=>?_⟩
  simp only [List.map_map,d5,bi] at hrow;obtain ⟨j,hj,rfl⟩:=hrow;have hjl:=cU hj
  have:j=i:=by
   rw [List.getElem?_range (by simpa using hjl)] at hj
   exact (cj hj).symm
  subst this;have hjlen:j<len:=by simpa using hjl
  obtain ⟨_,cs',h1,h2⟩:=hA j hjlen;obtain ⟨_,hl1,hc1⟩:=fk h1;refine ⟨RT.pv_len r (A j),fun k c hk=>?_⟩
  obtain ⟨v,hv,hvr⟩:=VRL.nth h2 k c hk;have hkr:k<r.length:=by
   have:=cU hk
   rwa [Function.comp,RT.pv_len] at this
  have cc:=hc1 k hkr;rw [hv] at cc;rw [Go.WideShapes.add_plain,Go.WideShapes.add_plain] at cc;have hpl:c.plain=true:=ci.1 (RT.plain r (A j)) c (cu hk);exact ⟨v,hvr.plain hpl,aDa cc⟩)
 rw [hlen] at this;exact this
theorem cY.argS {t:TypeId} {fs:Array Field} {K:List SV->Prop} (h:cY P t K) (ht:P.underlying t=some (.struct fs)) {H:Type} {enc:TypeId×Value->H} {w:World} {base:Nat} {v:Value} {d:DataW H} {p:List MemPlace}
 (hv:Value.okWide P w .any base t v) (hd:DataW.Trod enc P w 0 (fun _=>true) true t v d p): ∃vs q,K vs/\pvL vs=some q/\VR (RN w) iG (.agg q) v:=by
 obtain ⟨cs,rfl,_⟩:=okWide_struct ht hv;obtain ⟨fuel,hf⟩:=hd;obtain ⟨vs,q,k1,k2,k3⟩:=h H enc w fuel _ _ hf;exact ⟨vs,q,k1,k2,.agg q _ k3⟩
theorem LQ {n:Int} (h:(Lit.int .i64 n).wf=true): -9223372036854775808<=n/\n<9223372036854775808:=by
 simp only [Lit.wf,ac,decide_eq_true_eq] at h;have e1:IntKind.i64.min= -9223372036854775808:=by decide
 have e2:IntKind.i64.max=9223372036854775807:=by decide
 rw [e1,e2] at h;omega
end
theorem aJ.runA {F:qF} {f:FuncId} {x:aN} {α:Type} {A:aF α} {fn:α->Option Bool} (h:aJ F f ⟨A,aM.bool,fn,.pure,false⟩) (hf:F f=some (.code x)) {a:α} (hb:fn a=some true) {ps:List PV} (hp:pvL (A.enc a)=some ps) (hx:exL [] (EN [] fP) ps=some ps):
 ∃n s z,run F n (.func f ps [] [])=some (.func (.bool true) s z):=by
 obtain ⟨n,r,h1,p,h2,rfl⟩:=h a true ps ps [] [] hb hp hx;have hp':p= .bool true:=(cj h2).symm;subst hp';refine ⟨n,?_⟩;simp only [callPure,hx,hf] at h1;split at h1
 · rename_i v s z hr
   simp only [ar,if_false] at h1;split at h1
   · injection h1 with h1
     injection h1 with h1;subst h1;exact ⟨s,z,hr⟩
   rename_i hn
   split at h1
   · rename_i v' hv
     injection h1 with h1;injection h1 with h1;subst h1;exfalso;cases v with
     |bool b=>exact hn rfl
     |int _ _|str _|sl _ _ _=>injection hv with hv;cases hv
     |agg cs=>simp only [F7,bi] at hv;obtain ⟨_,_,hv⟩:=hv;cases hv
     |tup cs=>simp only [F7,bi] at hv;obtain ⟨_,_,hv⟩:=hv;cases hv
     |own t e off len cap ex=>simp only [F7] at hv;split at hv<;>first|(injection hv with hv;cases hv)|cases hv
     |_=>cases hv
   cases h1
 cases h1
end Go.Vm
/- A function that puts the rows of a slice in order: what is asked of it in a program, and that the table's entry is then right. -/
namespace Go.Vm
theorem PM: ∀{p:PT} {x:PV} {a:p.T},JM p x=some a->x=p.pv a
 | .i k,.int l n,a,h=>by
  have h:(bif gG l k then some n else none)=some a:=h
  cases hk:gG l k with
  |false=>rw [hk] at h;cases h
  |true=>
   rw [hk] at h;obtain rfl:=gC.1 hk;injection h with h;subst h;rfl
 | .b,.bool x,a,h=>by
  have h:some x=some a:=h;injection h with h;subst h;rfl
theorem S7: ∀{r:List PT} {x:List PV} {a:RT r},RP r x=some a->x=RT.pv r a
 | [],[],a,h=>rfl
 | [],_::_,a,h=>by cases h
 | [p],[v],a,h=>by rw [PM (show JM p v=some a from h)];rfl
 | [p],[],a,h=>by cases h
 | [p],_::_::_,a,h=>by cases h
 |p::q::r,[],a,h=>by cases h
 |p::q::r,v::vs,a,h=>by
  have h:(match JM p v,RP (q::r) vs with
   |some a,some b=>some (a,b)
   |_,_=>none)=some a:=h
  cases h1:JM p v with
  |none=>rw [h1] at h;cases h
  |some x=>
   cases h2:RP (q::r) vs with
   |none=>rw [h1,h2] at h;cases h
   |some y=>
    rw [h1,h2] at h;injection h with h;subst h;rw [PM h1,S7 h2];rfl
theorem PN {r:List PT}: ∀{x:List (List PV)} {l:List (RT r)},MQ r x=some l->x=l.map (RT.pv r)
 | [],l,h=>by injection h with h;subst h;rfl
 |v::vs,l,h=>by
  have h:(match RP r v,MQ r vs with
   |some a,some l=>some (a::l)
   |_,_=>none)=some l:=h
  cases h1:RP r v with
  |none=>rw [h1] at h;cases h
  |some x=>
   cases h2:MQ r vs with
   |none=>rw [h1,h2] at h;cases h
   |some y=>
    rw [h1,h2] at h;injection h with h;subst h;rw [S7 h1,PN h2];rfl
def aOg:Option FuncId->List Value
 |none=>[]
 |some g=>[.func (.func g) ⟨[]⟩ ⟨[]⟩]
structure E9 (P:Program) (f:FuncId) (q:Srt):Prop where
 some_: ∀(b off c:Nat) (l m:List (RT q.r)) (arr:Array Value) (el:TypeId) (w:World),0<l.length->l.length<=c->l.length<=1048576->q.fn l=some m->m.length=l.length->w.heap[b]? =some (.cells arr el (0,0))->
  bY (fun k=>arr[k]?) off q.r.length (l.map (RT.pv q.r))->off+l.length*q.r.length<=arr.size->
  Calls P f ⟨.slice (some ⟨b,off,none⟩) l.length c::aOg q.g⟩ w fun x w'=>x= .returned (.tuple #[])/\(∃fin:Array Value,fin.size=arr.size/\w'.heap[b]? =some (.cells fin el (0,0))/\bY (fun k=>fin[k]?) off q.r.length (m.map (RT.pv q.r))/\
   ∀j:Nat,off+l.length*q.r.length<=j->fin[j]? =arr[j]?)/\(∀b':Nat,b'<w.heap.size->b'≠b->w'.heap[b']? =w.heap[b']?)/\w.heap.size<=w'.heap.size/\w'.os=w.os/\w'.tape=w.tape/\w'.output=w.output
 none_: ∀(a:Option Addr) (c:Nat) (w:World),Calls P f ⟨.slice a 0 c::aOg q.g⟩ w fun x w'=>x= .returned (.tuple #[])/\w'=w
theorem aOh {im:Im} {loc:dU} {g:Option FuncId} {r:List PV} {us:List Value} (h:aGA g r=true) (hu:VRL im loc r us):us=aOg g:=by
 unfold aGA at h;split at h
 · cases hu;rfl
 · rename_i g h'
   have:h'=g:=by simpa using h
   subst this;cases hu with
   |cons _ a _ b h1 h2=>
    cases h2;cases h1 with
    |clo _ _ _ as bs ha hb=>cases ha;cases hb;rfl
 cases h
theorem aDq {P:Program} {im:Im} {loc:dU} {sto:cX} {fz:List Nat} {w w':World} {t e:Nat} {li:LI} {rows rows':List rI} {arr fin:Array Value} {el:TypeId} (hsr:SR im loc sto fz w) (hl:loc t=some li) (hst:sto[t]? =some (.arr e rows)) (hne:rows≠[]) (hf:has fz t=false)
 (ha:w.heap[li.blk]? =some (.cells arr el (0,0))) (hw:w'.heap[li.blk]? =some (.cells fin el (0,0))) (hfr: ∀b':Nat,b'<w.heap.size->b'≠li.blk->w'.heap[b']? =w.heap[b']?) (hsz:w.heap.size<=w'.heap.size) (ho:w'.os=w.os) (ht:w'.tape=w.tape) (hp:w'.output=w.output)
 (he:li.esz=e) (hn:li.n=rows'.length) (hlen:rows'.length=rows.length) (hfs:fin.size=li.sz) (hfit:li.sh+rows'.length*e<=li.sz) (hr:bY (fun k=>fin[k]?) li.sh e rows'):
 BX im loc sto w (.tup []) (sto.set t (.arr e rows')) fz im loc w' (.tuple #[]):=by
 have htl:t<sto.length:=(ae.1 hst).1;have hne':rows'≠[]:=by intro h;subst h;rw [List.length_nil] at hlen;exact hne (cb.1 hlen.symm)
 have hs0:(mJ.arr e rows).solid=true:=qS hne;have hs1:(mJ.arr e rows').solid=true:=qS hne';have hfree:=hsr.free t li _ hl hst hs0 hf;have old: ∀{u:Nat} {k:mJ},(sto.set t (.arr e rows'))[u]? =some k->(u=t/\k= .arr e rows')\/(u≠t/\sto[u]? =some k):=by
  intro u k h;rw [ao] at h;split at h
  · rename_i e1;subst e1;first|(rw [if_pos htl] at h;injection h with h;exact .inl ⟨rfl,h.symm⟩)|(injection h with h;exact .inl ⟨rfl,h.symm⟩)
  rename_i hne;exact .inr ⟨fun e=>hne e.symm,h⟩
 have sol: ∀{u:Nat} {k:mJ},(sto.set t (.arr e rows'))[u]? =some k->k.solid=true-> ∃k0,sto[u]? =some k0/\k0.solid=true:=by
  intro u k h hs;rcases old h with ⟨rfl,rfl⟩|⟨_,h⟩
  · exact ⟨_,hst,hs0⟩
  exact ⟨k,h,hs⟩
 have lt: ∀{b:Nat} {o:Obj},w.heap[b]? =some o->b<w.heap.size:=fun h=>(dt.1 h).1
 exact {
  imle:= .refl _,locle:= .refl _
  vr:= .tup _ _ .nil
  sr:={
   im_ok:=fun b o hb=>by
    have h1:=hsr.im_ok b o hb;have h2:b≠li.blk:=fun h=>by rw [h,hfree] at hb;cases hb
    rw [hfr b (lt h1) h2];exact h1
   blk:=fun u lu hu=>by
    obtain ⟨k,hk,hb⟩:=hsr.blk u lu hu
    by_cases e1:u=t
    · subst e1
      rw [hl] at hu;injection hu with hu;subst hu;exact ⟨_,List.getElem?_set_self htl,he,hn,fun _=>⟨fin,el,hw,hfs,hfit,hr⟩⟩
    refine ⟨k,by rw [List.getElem?_set_ne (fun h=>e1 h.symm)];exact hk,hb.keep (.refl _) (.refl _) fun hs=>?_⟩
    exact hfr _ (hb.lt hs) fun h=>e1 (hsr.excl _ _ _ _ _ _ hu hl hk hst hs hs0 h)
   excl:=fun u v lu lv k k' hu hv hk hk' hs hs' h=>by
    obtain ⟨k0,a,b⟩:=sol hk hs;obtain ⟨k1,c,d⟩:=sol hk' hs';exact hsr.excl _ _ _ _ _ _ hu hv a c b d h
   free:=fun u lu k hu hk hs hz=>by
    obtain ⟨k0,a,b⟩:=sol hk hs;exact hsr.free _ _ _ hu a b hz}
  os:=ho,tape:=ht,output:=hp,size:=hsz
  frame:=fun b hb h=>hfr b hb fun h2=>h t li _ hl hst hs0 h2.symm
  imnew:=fun b o h=> .inl h
  locs:=fun u lu h=> .inl h
  own:=fun u lu k hu hk hs=>by
   obtain ⟨k0,a,b⟩:=sol hk hs;exact .inr ⟨u,lu,k0,hu,a,b,rfl⟩}
theorem aAQ {im:Im} {loc:dU} {sto:cX} {fz:List Nat} {w:World} (hsr:SR im loc sto fz w):BX im loc sto w (.tup []) sto fz im loc w (.tuple #[]) where
 imle:= .refl _
 locle:= .refl _
 vr:= .tup _ _ .nil
 sr:=hsr
 os:=rfl
 tape:=rfl
 output:=rfl
 size:=dy _
 frame:=fun _ _ _=>rfl
 imnew:=fun _ _ h=> .inl h
 locs:=fun _ _ h=> .inl h
 own:=fun t li k hl hk hs=> .inr ⟨t,li,k,hl,hk,hs,rfl⟩
theorem WT.srt {P:Program} {f:FuncId} {q:Srt} {fn:Func} {c:Code} (hf:P.funcs[f]? =some fn) (hname:(fn.name== "runtime.NumGoroutine")=false) (hb:fn.body=some c) (h0:q.fn []=some []) (H:E9 P f q):WT P f (UL q):=by
 refine ⟨fn,c,hf,hname,hb,?_⟩;intro args sto fz v sto' fz' hp im loc w us hsr hus;unfold UL at hp;split at hp
 case h_2=>cases hp
 rename_i t e1 off len cap ex r;split at hp
 case h_2=>cases hp
 rename_i e3 rows hst;split at hp
 case isFalse=>cases hp
 rename_i hc;simp only [ac,ed,be,Nat.ble_eq] at hc;obtain ⟨⟨⟨⟨⟨q1,rfl⟩,hlen⟩,hmost⟩,hfz⟩,hg⟩:=hc;subst q1;have hmost:len<=1048576:=hmost;split at hp
 case h_2=>cases hp
 rename_i l hl0;split at hp
 case h_2=>cases hp
 rename_i m hm;split at hp
 case isFalse=>cases hp
 rename_i hml;have hml:m.length=l.length:=by simpa using hml
 injection hp with hp;simp only [bu] at hp;obtain ⟨rfl,rfl,rfl⟩:=hp;have hrows:=PN hl0;have hll:l.length=len:=by
  have:=congrArg List.length hrows
  rw [bo,az] at this;omega
 obtain ⟨x0,us1,rfl,hx0,hus⟩: ∃x0 us1,us=x0::us1/\VR im loc (.own t q.r.length 0 len cap ex) x0/\VRL im loc r us1:=by cases hus with|cons _ a _ b h1 h2=>exact ⟨a,b,rfl,h1,h2⟩
 obtain rfl:=aOh hg hus;obtain ⟨li,a,cap',rfl,hl,he,hoff,hlc,hcc,_,hadr⟩:=hx0.own_inv;obtain ⟨k1,hk1,hbr⟩:=hsr.blk t li hl;rw [hst] at hk1;injection hk1 with hk1;subst hk1;obtain ⟨b1,b2,b3⟩:=hbr;obtain rfl:q.r.length=e3:=by rw [<- b1,he]
 refine .inr ⟨lT hf hname hb,?_⟩;rcases dp len with hz|hpos
 · subst hz
   obtain rfl:l=[]:=cb.1 hll;rw [h0] at hm;injection hm with hm;subst hm;refine (H.none_ a cap' w).mono fun x w' ⟨hx,hw⟩=>⟨_,hx,im,loc,?_⟩
   subst hw
   have:sto.set t (.arr q.r.length (([]:List (RT q.r)).map (RT.pv q.r)++rows.drop 0))=sto:=by
    apply dz;intro j;rw [ao];split
    · rename_i e;subst e;rw [if_pos (ae.1 hst).1,hst];rfl
    rfl
   rw [this];exact aAQ hsr
 have hrne:rows≠[]:=by intro h;subst h;simp at hlen;omega
 obtain ⟨arr,el,ha1,ha2,ha3,hat⟩:=b3 hrne;obtain ⟨hn0,rfl,hfit⟩:li.n≠0/\a=some ⟨li.blk,li.sh,none⟩/\li.sh+cap'*q.r.length<=li.sz:=by
  rcases hadr with h|⟨h1,h2,h3⟩
  · omega
  exact ⟨h1,by simpa using h2,by simpa using h3⟩
 have hle:len*q.r.length<=rows.length*q.r.length:=Nat.mul_le_mul_right _ hlen;subst hll;refine (H.some_ li.blk li.sh cap' l m arr el w hpos (by omega) (by omega) hm hml ha1 (by rw [<- hrows];exact hat.take _) (by omega)).mono fun x w' ⟨hx,⟨fin,f1,f2,f3,f4⟩,hfr,hsz,ho,htp,hpp⟩=>⟨_,hx,im,loc,?_⟩
 have hL:(m.map (RT.pv q.r)++rows.drop l.length).length=rows.length:=by simp only [c8,az,eb,hml];omega
 refine aDq (P:=P) hsr hl hst hrne hfz ha1 f2 hfr hsz ho htp hpp b1 (by rw [hL];exact b2) hL (by rw [f1];exact ha2) (by rw [hL];exact ha3) ?_
 refine f3.append ?_;rw [az,hml];intro i r hr;obtain ⟨g1,g2⟩:=(hat.drop l.length) i r hr;refine ⟨g1,fun j c hc=>?_⟩
 obtain ⟨v,v1,v2⟩:=g2 j c hc;refine ⟨v,v1,?_⟩;show fin[_]? =some v;rw [f4 _ (by omega)]
 exact v2
end Go.Vm
/- slices.Sort of numbers: the table's entry, by what the library's law says of the function. -/
namespace Go.Vm
theorem LR (a:Int): ∀l:List Int,(aAq a l).Perm (a::l)
 | []=> .refl _
 |b::r=>by
  unfold aAq;cases decide (a<=b)
  · exact ((LR a r).cons b).trans (.swap a b r)
  exact .refl _
theorem yH: ∀l:List Int,(oE l).Perm l
 | []=> .refl _
 |a::r=>(LR a _).trans ((yH r).cons a)
theorem MV (a:Int): ∀{l:List Int},l.Pairwise (· <= ·)->(aAq a l).Pairwise (· <= ·)
 | [],_=>by simp [aAq]
 |b::r,h=>by
  obtain ⟨h1,h2⟩:=dv.1 h;unfold aAq;cases hc:decide (a<=b)
  · have hc: ¬a<=b:=by simpa using hc
    refine dv.2 ⟨fun x hx=>?_,MV a h2⟩
    rcases ez.1 ((LR a r).mem_iff.1 hx) with rfl|hx
    · omega
    exact h1 x hx
  have hc:a<=b:=by simpa using hc
  refine dv.2 ⟨fun x hx=>?_,h⟩
  rcases ez.1 hx with rfl|hx
  · exact hc
  have:=h1 x hx;omega
theorem C8: ∀l:List Int,(oE l).Pairwise (· <= ·)
 | []=> .nil
 |a::r=>MV a (C8 r)
theorem xX (l:List Int):(oE l).length=l.length:=(yH l).length_eq
theorem XX (l:List Int):l.mergeSort (fun x y=>decide (x<=y))=oE l:=by
 refine List.Perm.eq_of_pairwise (le:=(· <= ·)) (fun a b _ _ h1 h2=>Int.le_antisymm h1 h2) ?_ (C8 l) ((List.mergeSort_perm _ _).trans (yH l).symm)
 have:=List.pairwise_mergeSort (le:=fun x y:Int=>decide (x<=y)) (fun a b c h1 h2=>by simp at*;omega) (fun a b=>by simp;omega) l
 exact this.imp fun h=>by simpa using h
theorem aAR {P:Program} {f:FuncId}
 (H1: ∀(blk off cap:Nat) (zs:List Int) (w:World),Sort.Holds (Value.int .i64) w blk off zs.toArray->blk<w.heap.size->zs.length<4611686018427387904->
  Calls P f #[.slice (some ⟨blk,off,none⟩) zs.length cap] w fun e w'=>e= .returned (.tuple #[])/\ ∃n os,w'=Sort.grow (Sort.putRow (Value.int .i64) (Sort.ahead w n) blk off (zs.mergeSort fun x y=>decide (x<=y)).toArray) os)
 (b off c:Nat) (l:List Int) (arr:Array Value) (el:TypeId) (w:World) (hmost:l.length<=1048576) (hw:w.heap[b]? =some (.cells arr el (0,0)))
 (hat:bY (fun k=>arr[k]?) off 1 (l.map (RT.pv [.i .i64]))) (hfit:off+l.length*1<=arr.size):
 Calls P f #[.slice (some ⟨b,off,none⟩) l.length c] w fun x w'=>x= .returned (.tuple #[])/\(∃fin:Array Value,fin.size=arr.size/\w'.heap[b]? =some (.cells fin el (0,0))/\bY (fun k=>fin[k]?) off 1 ((oE l).map (RT.pv [.i .i64]))/\
  ∀j:Nat,off+l.length*1<=j->fin[j]? =arr[j]?)/\(∀b':Nat,b'<w.heap.size->b'≠b->w'.heap[b']? =w.heap[b']?)/\w.heap.size<=w'.heap.size/\w'.os=w.os/\w'.tape=w.tape/\w'.output=w.output:=by
 have hblk:b<w.heap.size:=(dt.1 hw).1;have hfit:off+l.length<=arr.size:=by omega
 have cells: ∀(j:Nat),j<l.length->arr[off+j]? =some (.int .i64 (l.toArray)[j]!):=fun j hj=>by
  have h1:(l.map (RT.pv [.i .i64]))[j]? =some (RT.pv [.i .i64] l[j]):=by rw [d5,aj hj];rfl
  obtain ⟨_,h2⟩:=hat j _ h1;obtain ⟨v,v1,v2⟩:=h2 0 (.int .i64 l[j]) rfl;injection v1 with v1;subst v1;rw [show off+j*1+0=off+j by omega] at v2
  have:(l.toArray)[j]! =l[j]:=by rw [getElem!_pos _ j (by simpa using hj)];simp
  rw [this];exact v2
 have hH:Sort.Holds (Value.int .i64) w b off l.toArray:=fun j hj=>by
  have hj:j<l.length:=by simpa using hj
  refine ⟨?_,?_⟩
  · simp only [World.cell?,hw];exact cells j hj
  simp [World.frozen?,hw]
 refine (H1 b off c l w hH hblk (by omega)).mono fun x w' ⟨hx,n,os,hw'⟩=>⟨hx,?_⟩
 subst hw';rw [XX];have hml:(oE l).length=l.length:=xX l;have hp:(Sort.putRow (Value.int .i64) (Sort.ahead w n) b off (oE l).toArray).heap=w.heap.modify b (Sort.onCells (Sort.putCells (Value.int .i64) off (oE l).toArray)):=rfl;have hsz:(w.heap.modify b (Sort.onCells (Sort.putCells (Value.int .i64) off (oE l).toArray))).size=w.heap.size:=Array.size_modify
 have hget: ∀k:Nat,k<w.heap.size->(Sort.grow (Sort.putRow (Value.int .i64) (Sort.ahead w n) b off (oE l).toArray) os).heap[k]? =(w.heap.modify b (Sort.onCells (Sort.putCells (Value.int .i64) off (oE l).toArray)))[k]?:=fun k hk=>by
  show (_++os)[k]? =_;rw [hp,Array.getElem?_append,if_pos (by rw [hsz];exact hk)]
 refine ⟨⟨Sort.putCells (Value.int .i64) off (oE l).toArray arr,by simp [Sort.putCells],?_,?_,?_⟩,fun k hk hne=>?_,?_,rfl,rfl,rfl⟩
 · rw [hget b hblk,ei,if_pos rfl,hw];rfl
 · intro i r hr
   have hr:((oE l).map (RT.pv [.i .i64]))[i]? =some r:=hr;rw [d5,bi] at hr;obtain ⟨a,ha,rfl⟩:=hr;have hi:i<(oE l).length:=(ae.1 ha).1;refine ⟨rfl,fun j c hc=>?_⟩
   cases j with
   |succ j=>cases hc
   |zero=>
    injection hc with hc;subst hc;refine ⟨_,rfl,?_⟩;show (Sort.putCells _ _ _ _)[off+i*1+0]? =_;rw [show off+i*1+0=off+i by omega]
    unfold Sort.putCells;rw [ej,dw (by omega),eh,if_pos ⟨by omega,by simp;omega⟩,show off+i-off=i by omega]
    have:((oE l).toArray)[i]! =a:=by
     rw [getElem!_pos _ i (by simpa using hi)]
     have:=(ae.1 ha).2
     simpa using this
    rw [this]
 · intro j hj
   have hj:off+l.length<=j:=by omega
   unfold Sort.putCells;rw [ej];cases arr[j]? with
   |none=>rfl
   |some x=>
    rw [eh,if_neg];intro h
    have:=h.2
    simp [hml] at this;omega
 · rw [hget k hk,ei,if_neg (fun h=>hne h.symm)]
 show _<=(_++os).size
 rw [Array.size_append,hp,hsz];omega
theorem E9.int {P:Program} {f:FuncId}
 (H1: ∀(blk off cap:Nat) (zs:List Int) (w:World),Sort.Holds (Value.int .i64) w blk off zs.toArray->blk<w.heap.size->zs.length<4611686018427387904->
  Calls P f #[.slice (some ⟨blk,off,none⟩) zs.length cap] w fun e w'=>e= .returned (.tuple #[])/\ ∃n os,w'=Sort.grow (Sort.putRow (Value.int .i64) (Sort.ahead w n) blk off (zs.mergeSort fun x y=>decide (x<=y)).toArray) os)
 (H0: ∀(p:Option Addr) (cap:Nat) (w:World),Calls P f #[.slice p 0 cap] w fun e w'=>e= .returned (.tuple #[])/\w'=w):E9 P f aAy where
 none_ a c w:=H0 a c w
 some_ b off c l m arr el w _ _ hmost hfn _ hw hat hfit:=by
  obtain rfl:oE l=m:=by injection hfn
  exact aAR H1 b off c l arr el w hmost hw hat hfit
end Go.Vm
