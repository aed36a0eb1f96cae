/- The logical machine, part 3: SvRel, SvOps1, SvOps2, SvOps3, SvOps4, SvNorm, SvCall, SvFp, SvRun, SvCon, SvLaw, SvSort, SvSortI. -/
import Derived.Test.YtlnclppkepgdmaaGreatDVm2
import Derived.Sort.Grow
open Nat renaming eq_of_beq_eq_true->bn,le_of_ble_eq_true->ci,ble->cm,beq_refl->c9,beq->df,lt_or_ge->d5,zero_add->ef,eq_zero_or_pos->ew,le_refl->fg,beq_eq->fv,min_eq_left->fw,blt->gc,le_of_lt->gm,sub_self->g9
open Bool renaming and_eq_true->bo,false_eq_true->ce,not_eq_true'->cw,and_self->c8,not_false->dy,and_true->eh,not_true->gf,or_eq_true->gz
open List renaming getElem?_eq_some_iff->bq,getElem?_append_left->bu,getElem?_append_right->bv,getElem?_eq_getElem->bw,getElem?_take_of_lt->bz,getElem?_set->cb,length_map->cq,length_cons->cu,append_assoc->cy,map_cons->c7,length_take->db,replicate->dc,append_nil->de,map_take->dh,length_eq_zero_iff->di,take_of_length_le->dj,drop_zero->dm,getElem?_cons_succ->dp,all_eq_true->dt,mem_of_getElem?->dz,getElem?_eq_none_iff->d6,map_drop->d7,map_append->d8,length_append->d9,mem_cons_self->ec,mem_singleton->ed,mem_append_right->eg,mem_cons_of_mem->ei,mem_append_left->ej,getElem_of_mem->ek,pairwise_cons->fb,ext_getElem?->fh,getElem?_map->fj,getElem?_cons_zero->fo,cons_append->ft,length_drop->fu,nodup_cons->fx,all_cons->gd,mem_cons->gg,cons_beq_cons->gi,range->gj,map_set->gl,map_nil->gn,flatMap_cons->gp,any_eq_true->gt,mem_flatMap->gu,all_append->gx,mem_append->gy,any_cons->g8,mem_map->ia,all_map->ib
open Option.some renaming injEq->cd,inj->dv
open Int renaming eq_ofNat_of_zero_le->cj,ofNat->dw,le_trans->eu
open Option renaming map_eq_some_iff->cz,isSome_iff_exists->fk,getD_none->fq,map_some->fy,getD_some->gr
open Prod.mk renaming injEq->dd
open Array renaming getElem?_eq_some_iff->ez,getElem?_eq_getElem->ff,getElem?_modify->ga,getElem?_mapIdx->gb
open Go.World renaming cells?_some->gq
/- What a typed value says of a value of the logical machine. -/
namespace Go.Vm
def aFk (s:List SB) (t e n:Nat):Prop:=(∃r l,s[t]? =some (.arr r l)/\e=r.length/\n=l.length)\/s[t]? =some .dead
def HL (s:List SB) (t e:Nat):Prop:=(∃r l,s[t]? =some (.arr r l)/\e=r.length)\/s[t]? =some .dead
def aFl (s:List SB) (t:Nat) (r:List PT) (i:Int) (a:RT r):Prop:=(∃l,s[t]? =some (.arr r l)/\aN l i=some a)\/s[t]? =some .dead
def aPC (s:List SB) (t:Nat) (i:Int):Prop:=(∃r l,s[t]? =some (.arr r l)/\(aN l i).isSome=true)\/s[t]? =some .dead
mutual
def R (s:List SB):SV->PV->Prop
 | .junk,_=>True
 | .undef,v=>v= .undef
 | .nul,v=>v= .nul
 | .nilf,v=>v= .nilf
 | .int k n,v=>v= .int k n
 | .bool b,v=>v= .bool b
 | .str x,v=>v= .str x
 | .agg cs,v=> ∃ps,v= .agg ps/\RL s cs ps
 | .tup cs,v=> ∃ps,v= .tup ps/\RL s cs ps
 | .sl r l,v=>v= .sl r.length false (l.map (RT.pv r))
 | .nil e c,v=>v= .sl e c []
 | .own t ex,v=> ∃e n,v= .own t e 0 n n ex/\aFk s t e n
 | .pre t len cap ex,v=> ∃e,v= .own t e 0 len cap ex/\HL s t e
 | .part t off len cap ex,v=> ∃e,v= .own t e off len cap ex/\HL s t e
 | .pa t r i a off,v=>v= .ptr t r.length i.toNat off/\aFl s t r i a
 | .pb t i off,v=> ∃e,v= .ptr t e i.toNat off/\aPC s t i
 | .bp t n off,v=>v= .ptr t n 0 off
 | .rptr cs off,v=> ∃ps,v= .rptr ps off/\RL s cs ps
 | .clo f a b,v=> ∃pa pb,v= .clo f pa pb/\RL s a pa/\RL s b pb
 | .mp t,v=>v= .mp t
def RL (s:List SB):List SV->List PV->Prop
 | [],ps=>ps=[]
 |x::xs,ps=> ∃p q,ps=p::q/\R s x p/\RL s xs q
end
def zW:List Int->PV
 | [a]=> .int .i64 a
 |l=> .agg (l.map (.int .i64))
def J1 (k:List Int):PV×PV:=(zW k,.bool true)
def NO (p:PT) (a:RT [.i .i64,p]):PV×PV:=(.int .i64 a.1,p.pv a.2)
def RB (s:List SB):SB->mU->Prop
 | .arr r l,b=>b= .arr r.length (l.map (RT.pv r))
 | .box cs,b=> ∃ps,b= .box ps/\RL s cs ps
 | .set l,b=>b= .map (l.map J1)
 | .tab p l,b=>b= .map (l.map (NO p))
 | .dead,b=>b= .dead
structure dD (s:List SB) (p:dC):Prop where
 len:p.length=s.length
 at_: ∀(t:Nat) (b:SB),s[t]? =some b-> ∃q,p[t]? =some q/\RB s b q
def eZ (s:List SB):SE->zQ->Prop
 | [],e=>e=[]
 |(t,v)::r,e=> ∃p q,e=(t,p)::q/\R s v p/\eZ s r q
structure HM (st:vW) (p:St):Prop where
 env:eZ st.sto st.env p.env
 sto:dD st.sto p.sto
 fz:p.fz=st.fz
 kn:p.kn=st.kn
theorem pZ: ∀(s l:List SB),apS s l=s++l
 | [],_=>rfl
 |b::r,l=>by simp [apS,pZ r l]
theorem J2: ∀(s:List SB) (t:Nat) (b:SB),aFf s t b=s.set t b
 | [],_,_=>by simp [aFf]
 |_::_,0,_=>rfl
 |x::r,n+1,b=>by simp [aFf,J2 r n b]
theorem RL.nil {s:List SB}:RL s [] []:=rfl
theorem RL.cons {s:List SB} {x:SV} {xs:List SV} {p:PV} {q:List PV} (h:R s x p) (k:RL s xs q):RL s (x::xs) (p::q):=⟨p,q,rfl,h,k⟩
theorem RL.cons_inv {s:List SB} {x:SV} {xs:List SV} {ps:List PV} (h:RL s (x::xs) ps): ∃p q,ps=p::q/\R s x p/\RL s xs q:=h
theorem RL.length {s:List SB}: ∀{xs:List SV} {ps:List PV},RL s xs ps->ps.length=xs.length
 | [],ps,h=>by rw [show ps=[] from h];rfl
 |x::xs,ps,h=>by
  obtain ⟨p,q,rfl,_,h2⟩:=h.cons_inv;simp [h2.length]
theorem RL.append {s:List SB}: ∀{xs:List SV} {ps:List PV},RL s xs ps-> ∀{ys:List SV} {qs:List PV},RL s ys qs->RL s (xs++ys) (ps++qs)
 | [],ps,h,_,_,k=>by rw [show ps=[] from h];exact k
 |x::xs,ps,h,_,_,k=>by
  obtain ⟨p,q,rfl,h1,h2⟩:=h.cons_inv;exact RL.cons h1 (h2.append k)
theorem RL.take {s:List SB}: ∀{xs:List SV} {ps:List PV},RL s xs ps-> ∀n,RL s (xs.take n) (ps.take n)
 | [],ps,h,n=>by rw [show ps=[] from h];simp;exact RL.nil
 |x::xs,ps,h,0=>by simp;exact RL.nil
 |x::xs,ps,h,n+1=>by
  obtain ⟨p,q,rfl,h1,h2⟩:=h.cons_inv;exact RL.cons h1 (h2.take n)
theorem RL.drop {s:List SB}: ∀{xs:List SV} {ps:List PV},RL s xs ps-> ∀n,RL s (xs.drop n) (ps.drop n)
 | [],ps,h,n=>by rw [show ps=[] from h];simp;exact RL.nil
 |x::xs,ps,h,0=>h
 |x::xs,ps,h,n+1=>by
  obtain ⟨p,q,rfl,h1,h2⟩:=h.cons_inv;exact h2.drop n
theorem RL.nth {s:List SB}: ∀{xs:List SV} {ps:List PV},RL s xs ps-> ∀{n:Nat} {v:SV},Vm.nth xs n=some v-> ∃p,ps[n]? =some p/\R s v p
 | [],_,_,_,_,e=>by cases e
 |x::xs,ps,h,0,v,e=>by
  obtain ⟨p,q,rfl,h1,_⟩:=h.cons_inv;injection e with e;subst e;exact ⟨p,rfl,h1⟩
 |x::xs,ps,h,n+1,v,e=>by
  obtain ⟨p,q,rfl,_,h2⟩:=h.cons_inv;obtain ⟨p',h3,h4⟩:=h2.nth (n:=n) e;exact ⟨p',by simpa using h3,h4⟩
mutual
theorem aA1 (s:List SB): ∀v:PV,R s (aHn v) v
 | .undef=>rfl
 | .nul=>rfl
 | .nilf=>rfl
 | .int _ _=>rfl
 | .bool _=>rfl
 | .str _=>rfl
 | .agg cs=>⟨cs,rfl,ofPVL_R s cs⟩
 | .tup cs=>⟨cs,rfl,ofPVL_R s cs⟩
 | .sl e c rows=>by
  cases rows with
  |nil=>exact rfl
  |cons _ _=>trivial
 | .clo f a b=>⟨a,b,rfl,ofPVL_R s a,ofPVL_R s b⟩
 | .own .. =>trivial
 | .ptr .. =>trivial
 | .rptr .. =>trivial
 | .mp _=>trivial
theorem ofPVL_R (s:List SB): ∀l:List PV,RL s (ofPVL l) l
 | []=>rfl
 |x::xs=>RL.cons (aA1 s x) (ofPVL_R s xs)
end
theorem eZ.lk {s:List SB}: ∀{e:SE} {p:zQ},eZ s e p-> ∀t,R s (SC t e) (Vm.lk t p)
 | [],p,h,t=>by rw [show p=[] from h];rfl
 |(u,v)::r,p,h,t=>by
  obtain ⟨q,qs,rfl,h1,h2⟩:=h;simp only [SC,Vm.lk];cases hb:df u t with
  |true=>exact h1
  |false=>exact eZ.lk h2 t
theorem eZ.setS {s:List SB}: ∀{e:SE} {p:zQ},eZ s e p-> ∀{t:Nat} {v:SV},R s v (Vm.lk t p)->eZ s (Vm.setS t v e) p
 | [],p,h,t,v,_=>h
 |(u,x)::r,p,h,t,v,hv=>by
  obtain ⟨q,qs,rfl,h1,h2⟩:=h;simp only [Vm.setS];simp only [Vm.lk] at hv;cases hb:df u t with
  |true=>rw [hb] at hv;exact ⟨q,qs,rfl,hv,h2⟩
  |false=>rw [hb] at hv;exact ⟨q,qs,rfl,h1,eZ.setS h2 hv⟩
theorem eW {s:List SB} {e:SE} {p:zQ} (h:eZ s e p): ∀x:gX,R s (cK e x) (x.ev p)
 | .t n=>h.lk n
 | .c v=>aA1 s v
theorem GO {s:List SB} {e:SE} {p:zQ} (h:eZ s e p): ∀l:List gX,RL s (mF e l) (OH p l)
 | []=>rfl
 |x::xs=>RL.cons (eW h x) (GO h xs)
def Fr (bad:List Nat) (s s':List SB):Prop:= ∀(t:Nat) (b:SB),s[t]? =some b->match b with
 | .arr r l=>(∃l',s'[t]? =some (.arr r l')/\l'.length=l.length/\(has bad t=false->l'=l))\/s'[t]? =some .dead
 | .dead=>s'[t]? =some .dead
 |_=>True
theorem Fr.refl (bad:List Nat) (s:List SB):Fr bad s s:=fun t b h=>by
 cases b with
 |arr r l=>exact .inl ⟨l,h,rfl,fun _=>rfl⟩
 |dead=>exact h
 |_=>trivial
theorem Fr.app (bad:List Nat) (s l:List SB):Fr bad s (s++l):=fun t b h=>by
 have h':(s++l)[t]? =some b:=by
  have:=(bq.1 h).1
  rw [bu this];exact h
 cases b with
 |arr r l=>exact .inl ⟨l,h',rfl,fun _=>rfl⟩
 |dead=>exact h'
 |_=>trivial
theorem Fr.trans {bad:List Nat} {a b c:List SB} (h:Fr bad a b) (k:Fr bad b c):Fr bad a c:=fun t x hx=>by
 have h1:=h t x hx;cases x with
 |arr r l=>
  rcases h1 with ⟨l',h2,h3,h4⟩|h2
  · have k1:=k t _ h2
    rcases k1 with ⟨l2,k2,k3,k4⟩|k2
    · exact .inl ⟨l2,k2,k3.trans h3,fun hb=>(k4 hb).trans (h4 hb)⟩
    exact .inr k2
  exact .inr (k t _ h2)
 |dead=>exact k t _ h1
 |_=>trivial
theorem M7 {α:Type} {l m:List α} {i:Int} (h:(aN l i).isSome=true) (hl:m.length=l.length):(aN m i).isSome=true:=by
 cases i with
 |ofNat n=>
  simp only [aN] at h ⊢;rw [fk] at h;obtain ⟨a,ha⟩:=h
  have:=(bq.1 ha).1
  rw [bw (by omega)];rfl
 |negSucc n=>simp [aN] at h
mutual
theorem R.fr {bad:List Nat} {s s':List SB} (hf:Fr bad s s'): ∀{v:SV} {p:PV},R s v p->R s' (dgV bad v) p
 | .junk,_,_=>trivial
 | .undef,_,h=>h
 | .nul,_,h=>h
 | .nilf,_,h=>h
 | .int _ _,_,h=>h
 | .bool _,_,h=>h
 | .str _,_,h=>h
 | .agg cs,_,h=>by obtain ⟨ps,rfl,h⟩:=h;exact ⟨ps,rfl,RL.fr hf h⟩
 | .tup cs,_,h=>by obtain ⟨ps,rfl,h⟩:=h;exact ⟨ps,rfl,RL.fr hf h⟩
 | .sl _ _,_,h=>h
 | .nil _ _,_,h=>h
 | .own t ex,_,h=>by
  obtain ⟨e,n,rfl,h⟩:=h;refine ⟨e,n,rfl,?_⟩;rcases h with ⟨r,l,h1,h2,h3⟩|h1
  · rcases hf t _ h1 with ⟨l',k1,k2,_⟩|k1
    · exact .inl ⟨r,l',k1,h2,by rw [h3,k2]⟩
    exact .inr k1
  exact .inr (hf t _ h1)
 | .pre t len cap ex,_,h=>by
  obtain ⟨e,rfl,h⟩:=h;refine ⟨e,rfl,?_⟩;rcases h with ⟨r,l,h1,h2⟩|h1
  · rcases hf t _ h1 with ⟨l',k1,_,_⟩|k1
    · exact .inl ⟨r,l',k1,h2⟩
    exact .inr k1
  exact .inr (hf t _ h1)
 | .part t off len cap ex,_,h=>by
  obtain ⟨e,rfl,h⟩:=h;refine ⟨e,rfl,?_⟩;rcases h with ⟨r,l,h1,h2⟩|h1
  · rcases hf t _ h1 with ⟨l',k1,_,_⟩|k1
    · exact .inl ⟨r,l',k1,h2⟩
    exact .inr k1
  exact .inr (hf t _ h1)
 | .pa t r i a off,_,h=>by
  obtain ⟨rfl,h⟩:=h;simp only [dgV];cases hb:has bad t with
  |true=>
   refine ⟨_,rfl,?_⟩;rcases h with ⟨l,h1,h2⟩|h1
   · rcases hf t _ h1 with ⟨l',k1,k2,_⟩|k1
     · exact .inl ⟨r,l',k1,M7 (by rw [h2];rfl) k2⟩
     exact .inr k1
   exact .inr (hf t _ h1)
  |false=>
   refine ⟨rfl,?_⟩;rcases h with ⟨l,h1,h2⟩|h1
   · rcases hf t _ h1 with ⟨l',k1,_,k3⟩|k1
     · exact .inl ⟨l',k1,by rw [k3 hb];exact h2⟩
     exact .inr k1
   exact .inr (hf t _ h1)
 | .pb t i off,_,h=>by
  obtain ⟨e,rfl,h⟩:=h;refine ⟨e,rfl,?_⟩;rcases h with ⟨r,l,h1,h2⟩|h1
  · rcases hf t _ h1 with ⟨l',k1,k2,_⟩|k1
    · exact .inl ⟨r,l',k1,M7 h2 k2⟩
    exact .inr k1
  exact .inr (hf t _ h1)
 | .bp _ _ _,_,h=>h
 | .rptr cs off,_,h=>by obtain ⟨ps,rfl,h⟩:=h;exact ⟨ps,rfl,RL.fr hf h⟩
 | .clo f a b,_,h=>by obtain ⟨pa,pb,rfl,h1,h2⟩:=h;exact ⟨pa,pb,rfl,RL.fr hf h1,RL.fr hf h2⟩
 | .mp _,_,h=>h
theorem RL.fr {bad:List Nat} {s s':List SB} (hf:Fr bad s s'): ∀{v:List SV} {p:List PV},RL s v p->RL s' (dgL bad v) p
 | [],_,h=>h
 |x::xs,_,h=>by
  obtain ⟨p,q,rfl,h1,h2⟩:=h.cons_inv;exact RL.cons (R.fr hf h1) (RL.fr hf h2)
end
mutual
theorem aCl: ∀v:SV,dgV [] v=v
 | .junk| .undef| .nul| .nilf| .int _ _| .bool _| .str _| .sl _ _| .nil _ _| .own _ _| .pre _ _ _ _| .part _ _ _ _ _| .pb _ _ _| .bp _ _ _| .mp _=>rfl
 | .agg cs=>by simp only [dgV,dgL_nil cs]
 | .tup cs=>by simp only [dgV,dgL_nil cs]
 | .rptr cs _=>by simp only [dgV,dgL_nil cs]
 | .clo _ a b=>by simp only [dgV,dgL_nil a,dgL_nil b]
 | .pa t r i a off=>by simp [dgV,has]
theorem dgL_nil: ∀v:List SV,dgL [] v=v
 | []=>rfl
 |x::xs=>by simp only [dgL,aCl x,dgL_nil xs]
end
theorem R.ext {s s':List SB} (hf:Fr [] s s') {v:SV} {p:PV} (h:R s v p):R s' v p:=by
 have:=R.fr hf h
 rwa [aCl] at this
theorem RL.ext {s s':List SB} (hf:Fr [] s s') {v:List SV} {p:List PV} (h:RL s v p):RL s' v p:=by
 have:=RL.fr hf h
 rwa [dgL_nil] at this
theorem RB.fr {bad:List Nat} {s s':List SB} (hf:Fr bad s s') {b:SB} {p:mU} (h:RB s b p):RB s' (dgB bad b) p:=by
 cases b with
 |box cs=>obtain ⟨ps,rfl,h⟩:=h;exact ⟨ps,rfl,RL.fr hf h⟩
 |_=>exact h
theorem RB.ext {s s':List SB} (hf:Fr [] s s') {b:SB} {p:mU} (h:RB s b p):RB s' b p:=by
 cases b with
 |box cs=>obtain ⟨ps,rfl,h⟩:=h;exact ⟨ps,rfl,RL.ext hf h⟩
 |_=>exact h
theorem eZ.fr {bad:List Nat} {s s':List SB} (hf:Fr bad s s'): ∀{e:SE} {p:zQ},eZ s e p->eZ s' (dgE bad e) p
 | [],_,h=>h
 |(t,v)::r,_,h=>by
  obtain ⟨p,q,rfl,h1,h2⟩:=h;exact ⟨p,q,rfl,R.fr hf h1,eZ.fr hf h2⟩
theorem eZ.ext {s s':List SB} (hf:Fr [] s s'): ∀{e:SE} {p:zQ},eZ s e p->eZ s' e p
 | [],_,h=>h
 |(t,v)::r,_,h=>by
  obtain ⟨p,q,rfl,h1,h2⟩:=h;exact ⟨p,q,rfl,R.ext hf h1,eZ.ext hf h2⟩
theorem dD.app {s:List SB} {p:dC} (h:dD s p) {l:List SB} {q:dC} (hl:q.length=l.length) (hb: ∀(j:Nat) (b:SB),l[j]? =some b-> ∃x,q[j]? =some x/\RB (s++l) b x):dD (s++l) (p++q) where
 len:=by simp [h.len,hl]
 at_:=fun t b ht=>by
  rcases d5 t s.length with hlt|hge
  · rw [bu hlt] at ht
    obtain ⟨x,h1,h2⟩:=h.at_ t b ht;exact ⟨x,by rw [bu (by rw [h.len];exact hlt)];exact h1,h2.ext (Fr.app [] s l)⟩
  rw [bv hge] at ht
  obtain ⟨x,h1,h2⟩:=hb _ b ht;exact ⟨x,by rw [bv (by rw [h.len];exact hge),h.len];exact h1,h2⟩
theorem C4 (ts:List Nat): ∀(s:List SB) (t:Nat),(LY ts s)[t]? =(s[t]?).map (dgB ts)
 | [],t=>by simp [LY]
 |b::r,0=>by simp [LY]
 |b::r,t+1=>by simp [LY,C4 ts r t]
theorem GP (ts:List Nat): ∀(s:List SB),(LY ts s).length=s.length
 | []=>rfl
 |b::r=>by simp [LY,GP ts r]
theorem Fr.dg {bad ts:List Nat} {s s':List SB} (h:Fr bad s s'):Fr bad s (LY ts s'):=fun t b hb=>by
 have h1:=h t b hb;cases b with
 |arr r l=>
  rcases h1 with ⟨l',h2,h3,h4⟩|h2
  · exact .inl ⟨l',by rw [C4,h2];rfl,h3,h4⟩
  exact .inr (by rw [C4,h2];rfl)
 |dead=>show (LY ts s')[t]? =_;rw [C4,h1];rfl
 |_=>trivial
theorem TF {s:List SB}: ∀(r:List PT) (a:RT r),RL s (RT.sv r a) (RT.pv r a)
 | [],_=>rfl
 | [p],a=>by refine RL.cons ?_ RL.nil;cases p<;>rfl
 |p::q::r,a=>by refine RL.cons ?_ (TF (q::r) a.2);cases p<;>rfl
theorem GQ {s:List SB}: ∀(r:List PT) (a:RT r) {ps:List PV},RL s (RT.sv r a) ps->ps=RT.pv r a
 | [],_,ps,h=>h
 | [p],a,ps,h=>by
  obtain ⟨x,q,rfl,h1,h2⟩:=h.cons_inv;have h2':q=[]:=h2;subst h2';cases p<;>(have h1':=h1;simp only [PT.sv,R] at h1';rw [h1'];rfl)
 |p::q::r,a,ps,h=>by
  obtain ⟨x,qs,rfl,h1,h2⟩:=h.cons_inv;rw [GQ (q::r) a.2 h2];cases p<;>(have h1':=h1;simp only [PT.sv,R] at h1';rw [h1'];rfl)
theorem RT.plain: ∀(r:List PT) (a:RT r),(RT.pv r a).all PV.plain=true
 | [],_=>rfl
 | [p],a=>by cases p<;>rfl
 |p::q::r,a=>by
  have:=RT.plain (q::r) a.2
  cases p<;>(simp only [RT.pv,gd,this,eh];rfl)
theorem R.cells {s:List SB} {v:SV} {p:PV} (h:R s v p) (hj:v≠ .junk):RL s v.cells p.cells:=by
 cases v with
 |junk=>exact absurd rfl hj
 |agg cs=>obtain ⟨ps,rfl,h⟩:=h;exact h
 |undef=>rw [show p= .undef from h];exact RL.cons rfl RL.nil
 |nul=>rw [show p= .nul from h];exact RL.cons rfl RL.nil
 |nilf=>rw [show p= .nilf from h];exact RL.cons rfl RL.nil
 |int k n=>rw [show p= .int k n from h];exact RL.cons rfl RL.nil
 |bool b=>rw [show p= .bool b from h];exact RL.cons rfl RL.nil
 |str x=>rw [show p= .str x from h];exact RL.cons rfl RL.nil
 |sl r l=>rw [show p=_ from h];exact RL.cons rfl RL.nil
 |nil e c=>rw [show p=_ from h];exact RL.cons rfl RL.nil
 |bp t n o=>rw [show p=_ from h];exact RL.cons rfl RL.nil
 |mp t=>rw [show p=_ from h];exact RL.cons rfl RL.nil
 |tup cs=>obtain ⟨ps,rfl,h⟩:=h;exact RL.cons ⟨ps,rfl,h⟩ RL.nil
 |own t ex=>obtain ⟨e,n,rfl,h⟩:=h;exact RL.cons ⟨e,n,rfl,h⟩ RL.nil
 |pre t a b c=>obtain ⟨e,rfl,h⟩:=h;exact RL.cons ⟨e,rfl,h⟩ RL.nil
 |part t o a b c=>obtain ⟨e,rfl,h⟩:=h;exact RL.cons ⟨e,rfl,h⟩ RL.nil
 |pa t r i a o=>obtain ⟨rfl,h⟩:=h;exact RL.cons ⟨rfl,h⟩ RL.nil
 |pb t i o=>obtain ⟨e,rfl,h⟩:=h;exact RL.cons ⟨e,rfl,h⟩ RL.nil
 |rptr cs o=>obtain ⟨ps,rfl,h⟩:=h;exact RL.cons ⟨ps,rfl,h⟩ RL.nil
 |clo f a b=>obtain ⟨pa,pb,rfl,h⟩:=h;exact RL.cons ⟨pa,pb,rfl,h⟩ RL.nil
theorem R.isOne {s:List SB} {v:SV} {p:PV} (h:R s v p) (ho:v.isOne=true):p.isOne=true:=by
 cases v with
 |junk|undef|nul|agg _|tup _=>cases ho
 |nilf|int _ _|bool _|str _|sl _ _|nil _ _|bp _ _ _|mp _=>rw [show p=_ from h];rfl
 |own t ex=>obtain ⟨e,n,rfl,h⟩:=h;rfl
 |pre t a b c=>obtain ⟨e,rfl,h⟩:=h;rfl
 |part t o a b c=>obtain ⟨e,rfl,h⟩:=h;rfl
 |pa t r i a o=>obtain ⟨rfl,h⟩:=h;rfl
 |pb t i o=>obtain ⟨e,rfl,h⟩:=h;rfl
 |rptr cs o=>obtain ⟨ps,rfl,h⟩:=h;rfl
 |clo f a b=>obtain ⟨pa,pb,rfl,h⟩:=h;rfl
theorem RL.allOne {s:List SB}: ∀{cs:List SV} {ps:List PV},RL s cs ps->Vm.allOne cs=true->ps.all PV.isOne=true
 | [],ps,h,_=>by rw [show ps=[] from h];rfl
 |x::xs,ps,h,ho=>by
  obtain ⟨p,q,rfl,h1,h2⟩:=h.cons_inv;simp only [Vm.allOne,bo] at ho;simp only [gd,bo];exact ⟨h1.isOne ho.1,h2.allOne ho.2⟩
theorem R.stored {s:List SB} {v:SV} {p:PV} {w:List SV} (h:R s v p) (hs:v.stored=some w): ∃q,p.stored=some q/\RL s w q:=by
 unfold SV.stored at hs;cases ha:Vm.allOne v.cells with
 |false=>rw [ha] at hs;cases hs
 |true=>
  rw [ha] at hs;injection hs with hs;subst hs;have hj:v≠ .junk:=by intro e;subst e;cases ha
  have hc:=h.cells hj;exact ⟨p.cells,by unfold PV.stored;rw [if_pos (hc.allOne ha)],hc⟩
theorem R.ofRow {s:List SB} {v:SV} {p:PV} {r:List PT} {a:RT r} (h:R s v p) (hr:RT.of r v.cells=some a):p.storedPlain=some (RT.pv r a)/\v.cells.length=r.length:=by
 have hc:=RT.of_some hr;have hl:v.cells.length=r.length:=by rw [hc,RT.sv_len]
 refine ⟨?_,hl⟩;have hj:v≠ .junk:=by
  intro e;subst e;cases r with
  |nil=>simp [SV.cells,RT.of] at hr
  |cons p q=>cases q with
   |nil=>cases p<;>simp [SV.cells,RT.of,PT.of] at hr
   |cons _ _=>simp only [SV.cells,RT.of] at hr;split at hr<;>cases hr<;>(rename_i x y h1 h2;simp at h2)
 have h1:=h.cells hj;rw [hc] at h1;have h2:=GQ r a h1;unfold PV.storedPlain;rw [h2,if_pos (RT.plain r a)]
theorem AF {s:List SB} {agg:Option Nat} {off:Nat} {cs:List SV} {ps:List PV} {v:SV} (h:RL s cs ps) (hp:HH agg off cs=some v): ∃p,part agg off ps=some p/\R s v p:=by
 cases agg with
 |none=>
  obtain ⟨p,h1,h2⟩:=h.nth hp;exact ⟨p,h1,h2⟩
 |some n=>
  simp only [HH] at hp;cases hb:cm (off+n) cs.length with
  |false=>rw [hb] at hp;cases hp
  |true=>
   rw [hb] at hp;injection hp with hp;subst hp
   have:off+n<=ps.length:=by rw [h.length];exact ci hb
   exact ⟨.agg ((ps.drop off).take n),by simp only [part,if_pos this],_,rfl,(h.drop off).take n⟩
theorem GR {s:List SB} {off:Nat} {new old:List SV} {pn po:List PV} (h:RL s new pn) (k:RL s old po):RL s (uT off new old) (tM off pn po):=by
 unfold uT tM;rw [h.length];exact ((k.take off).append h).append (k.drop _)
theorem aCm {s:List SB} {ps:dC} {v:SV} {p:PV} {r:List PT} {l:List (RT r)} (hs:dD s ps) (h:R s v p) (hc:HI s v=some ⟨r,l⟩):
 rZ ps r.length p=some (l.map (RT.pv r))/\kX p=C2 v:=by
 cases v with
 |sl q m=>
  have hc':(⟨q,m⟩:Rows)=⟨r,l⟩:=by injection hc
  cases hc';rw [show p=_ from h];refine ⟨?_,rfl⟩;cases l with
  |nil=>rfl
  |cons a l=>simp [rZ]
 |own t ex=>
  simp only [HI,cT] at hc;split at hc
  · rename_i q m hst
    have hc':(⟨q,m⟩:Rows)=⟨r,l⟩:=by injection hc
    cases hc';obtain ⟨e,n,rfl,hat⟩:=h;rcases hat with ⟨q',m',h1,rfl,rfl⟩|h1
    · rw [hst] at h1
      injection h1 with h1;cases h1;obtain ⟨b,h2,h3⟩:=hs.at_ t _ hst;rw [show b=_ from h3] at h2;refine ⟨?_,rfl⟩;simp only [rZ,c9,if_true,h2,dm];rw [dj (by simp)]
    rw [hst] at h1;cases h1
  cases hc
 |pre t len cap ex=>
  simp only [HI,cT] at hc;split at hc
  · rename_i q m hst
    have hc':(⟨q,m.take len⟩:Rows)=⟨r,l⟩:=by injection hc
    cases hc';obtain ⟨e,rfl,hat⟩:=h;rcases hat with ⟨q',m',h1,rfl⟩|h1
    · rw [hst] at h1
      injection h1 with h1;cases h1;obtain ⟨b,h2,h3⟩:=hs.at_ t _ hst;rw [show b=_ from h3] at h2;refine ⟨?_,rfl⟩;simp only [rZ,c9,if_true,h2];simp
    rw [hst] at h1;cases h1
  cases hc
 |part t off len cap ex=>
  simp only [HI,cT] at hc;split at hc
  · rename_i q m hst
    have hc':(⟨q,(m.drop off).take len⟩:Rows)=⟨r,l⟩:=by injection hc
    cases hc';obtain ⟨e,rfl,hat⟩:=h;rcases hat with ⟨q',m',h1,rfl⟩|h1
    · rw [hst] at h1
      injection h1 with h1;cases h1;obtain ⟨b,h2,h3⟩:=hs.at_ t _ hst;rw [show b=_ from h3] at h2;refine ⟨?_,rfl⟩;simp only [rZ,c9,if_true,h2];simp
    rw [hst] at h1;cases h1
  cases hc
 |_=>cases hc
end Go.Vm
/- Operation by operation: what the typed machine does, the logical machine does; the easy ones. -/
namespace Go.Vm
structure jZ (s:List SB) (ps:dC) (sr:iD) (pr:tH):Prop where
 rd:pr.rd=sr.rd
 fr:pr.fr=sr.fr
 wr:pr.wr.map (·.1)=FD sr.wr
 nw:CS pr.wr=true
 nl:pr.news.length=sr.news.length
 sto:dD (sr.stoOf s) (aAy (iU pr.wr ps) pr.news)
 v:R (sr.stoOf s) sr.v pr.v
 fra:Fr (FD sr.wr) s (sr.stoOf s)
section
variable {s : List SB} {ps : dC}
theorem jZ.val (hS:dD s ps) {v:SV} {p:PV} {rd fr:List Nat} (hv:R s v p):jZ s ps {v,rd,fr} {v:=p,rd,fr} where
 rd:=rfl
 fr:=rfl
 wr:=rfl
 nw:=rfl
 nl:=rfl
 sto:=by simp only [iD.stoOf,pZ,de,iU,aAy];exact hS
 v:=by simp only [iD.stoOf,pZ,de];exact hv
 fra:=by simp only [iD.stoOf,pZ,de];exact Fr.refl _ _
theorem jZ.news (hS:dD s ps) {v:SV} {p:PV} {l:List SB} {q:dC} {rd:List Nat} (hl:q.length=l.length) (hb: ∀(j:Nat) (b:SB),l[j]? =some b-> ∃x,q[j]? =some x/\RB (s++l) b x) (hv:R (s++l) v p):
 jZ s ps {v,news:=l,rd} {v:=p,news:=q,rd} where
 rd:=rfl
 fr:=rfl
 wr:=rfl
 nw:=rfl
 nl:=hl
 sto:=by simp only [iD.stoOf,pZ,iU,xN];exact hS.app hl hb
 v:=by simp only [iD.stoOf,pZ];exact hv
 fra:=by simp only [iD.stoOf,pZ];exact Fr.app _ _ _
theorem jZ.new (hS:dD s ps) {v:SV} {p:PV} {b:SB} {q:mU} {rd:List Nat} (hb:RB (s++[b]) b q) (hv:R (s++[b]) v p):jZ s ps {v,news:=[b],rd} {v:=p,news:=[q],rd}:=
 jZ.news hS rfl (fun j x h=>by
  cases j with
  |zero=>simp at h;subst h;exact ⟨q,rfl,hb⟩
  |succ j=>simp at h) hv
def aCn (b0 b:SB):Prop:=
 match b0 with
 | .arr r l=>(∃l',b= .arr r l'/\l'.length=l.length)\/b= .dead
 | .dead=>b= .dead
 |_=>True
theorem Fr.set {t:Nat} {b0 b:SB} (h0:s[t]? =some b0) (hk:aCn b0 b):Fr [t] s (s.set t b):=fun u x hu=>by
 by_cases hut:t=u
 · subst hut
   rw [h0] at hu;injection hu with hu;subst hu;have hlt:=(bq.1 h0).1;have hb:(s.set t b)[t]? =some b:=by simp [hlt]
   cases b0 with
   |arr r l=>
    rcases hk with ⟨l',rfl,hl⟩|rfl
    · exact .inl ⟨l',hb,hl,fun h=>by simp [has] at h⟩
    exact .inr hb
   |dead=>rw [show b= .dead from hk] at hb ⊢;exact hb
   |_=>trivial
 have hb:(s.set t b)[u]? =some x:=by rw [cb];simp [hut,hu]
 cases x with
 |arr r l=>exact .inl ⟨l,hb,rfl,fun _=>rfl⟩
 |dead=>exact hb
 |_=>trivial
theorem dD.put (hS:dD s ps) {t:Nat} {b0 b:SB} {q:mU} (h0:s[t]? =some b0) (hk:aCn b0 b) (hq:RB (LY [t] (s.set t b)) (dgB [t] b) q):dD (LY [t] (s.set t b)) (ps.set t q) where
 len:=by simp [GP,hS.len]
 at_:=fun u x hu=>by
  have hlt:=(bq.1 h0).1;rw [C4] at hu
  by_cases hut:t=u
  · subst hut
    have hb:(s.set t b)[t]? =some b:=by simp [hlt]
    rw [hb] at hu;simp at hu;subst hu;exact ⟨q,by rw [cb];simp [hS.len,hlt],hq⟩
  rw [cb] at hu
  simp only [hut,if_false,cz] at hu;obtain ⟨y,hy,rfl⟩:=hu;obtain ⟨q',h1,h2⟩:=hS.at_ u y hy;exact ⟨q',by rw [cb];simp [hut,h1],h2.fr (Fr.dg (Fr.set h0 hk))⟩
theorem jZ.put (hS:dD s ps) {v:SV} {p:PV} {t:Nat} {b0 b:SB} {q:mU} {l:List SB} {ql:dC} {rd:List Nat} (h0:s[t]? =some b0) (hk:aCn b0 b) (hq:RB (LY [t] (s.set t b)) (dgB [t] b) q)
 (hl:ql.length=l.length) (hb: ∀(j:Nat) (x:SB),l[j]? =some x-> ∃y,ql[j]? =some y/\RB (LY [t] (s.set t b)++l) x y) (hv:R (LY [t] (s.set t b)++l) v p):
 jZ s ps {v,wr:=[(t,b)],news:=l,rd} {v:=p,wr:=[(t,q)],news:=ql,rd} where
 rd:=rfl
 fr:=rfl
 wr:=rfl
 nw:=rfl
 nl:=hl
 sto:=by
  simp only [iD.stoOf,pZ,iU,xN,FD,wY,J2];exact (hS.put h0 hk hq).app hl hb
 v:=by simp only [iD.stoOf,pZ,FD,wY,J2];exact hv
 fra:=by
  simp only [iD.stoOf,pZ,FD,wY,J2];exact (Fr.dg (Fr.set h0 hk)).trans (Fr.app _ _ _)
theorem jZ.put0 (hS:dD s ps) {t:Nat} {b0 b:SB} {q:mU} {rd:List Nat} (h0:s[t]? =some b0) (hk:aCn b0 b) (hq:RB (LY [t] (s.set t b)) (dgB [t] b) q):
 jZ s ps {v:= .undef,wr:=[(t,b)],rd} {v:= .undef,wr:=[(t,q)],rd}:=
 jZ.put hS h0 hk hq rfl (fun j x h=>by simp at h) rfl
end
section
variable {R' ρ : Type} {w : R' -> ρ} {y : ρ}
theorem bW {α:Type} {x:Option α} {k:α->jK R'} (h:oP x k ρ w=some y): ∃a,x=some a/\k a ρ w=some y:=by
 cases x with
 |none=>cases h
 |some a=>exact ⟨a,rfl,h⟩
theorem dN {α:Type} {x:Option α} {k:α->jK R'} (h:oO x k ρ w=some y): ∃a,x=some a/\k a ρ w=some y:=aAN h
theorem gB {c:Bool} {a b:jK R'} (h:iY c a b ρ w=some y):(c=true/\a ρ w=some y)\/(c=false/\b ρ w=some y):=aAO h
theorem dL {c:Bool} {a:jK R'} (h:(bif c then a else aQ) ρ w=some y):c=true/\a ρ w=some y:=by
 cases c
 · cases h
 exact ⟨rfl,h⟩
theorem yB {c:Bool} {a:jK R'} (h:(bif c then aQ else a) ρ w=some y):c=false/\a ρ w=some y:=by
 cases c
 · exact ⟨rfl,h⟩
 cases h
theorem kG {c:Bool} {a:jK R'} (h:iY c a aQ ρ w=some y):c=true/\a ρ w=some y:=by
 rcases gB h with ⟨h1,h2⟩|⟨_,h2⟩
 · exact ⟨h1,h2⟩
 cases h2
theorem C5 {c:Bool} {a:jK R'} (h:iY c aQ a ρ w=some y):c=false/\a ρ w=some y:=by
 rcases gB h with ⟨_,h2⟩|⟨h1,h2⟩
 · cases h2
 exact ⟨h1,h2⟩
end
def jL {R':Type} (s:List SB) (ps:dC) (po:Option tH) (k:iD->jK R') (ρ:Type) (w:R'->ρ) (y:ρ):Prop:=
 ∃sr pr,po=some pr/\jZ s ps sr pr/\k sr ρ w=some y
section
variable {R' ρ : Type} {w : R' -> ρ} {y : ρ} {s : List SB} {ps : dC} {e : SE} {pe : zQ} {z : List Nat} {k : iD -> jK R'}
theorem jL.val (hS:dD s ps) {po:Option tH} {v:SV} {p:PV} (h:k {v} ρ w=some y) (hp:po=some {v:=p}) (hv:R s v p):jL s ps po k ρ w y:=
 ⟨_,_,hp,jZ.val hS hv,h⟩
theorem jL.rd (hS:dD s ps) {po:Option tH} {v:SV} {p:PV} {rd:List Nat} (h:k {v,rd} ρ w=some y) (hp:po=some {v:=p,rd}) (hv:R s v p):jL s ps po k ρ w y:=
 ⟨_,_,hp,jZ.val hS hv,h⟩
theorem qV (hE:eZ s e pe) {x:gX} {a:IntKind} {n:Int} (h:cK e x= .int a n):x.ev pe= .int a n:=by
 have:=eW hE x;rw [h] at this;exact this
theorem J3 (hE:eZ s e pe) {x:gX} {b:Bool} (h:cK e x= .bool b):x.ev pe= .bool b:=by
 have:=eW hE x;rw [h] at this;exact this
theorem aDR (hE:eZ s e pe) {x:gX} {v:SV} (h:cK e x=v):R s v (x.ev pe):=by
 have:=eW hE x;rwa [h] at this
theorem X7 (k:IntKind):gH k k=true:=by cases k<;>rfl
theorem aA2 (hS:dD s ps) {op:BinOp} {a:IntKind} {m n:Int} (h:aAR op a m n (ofV k) ρ w=some y): ∃p,W5 op a m n=some p/\jL s ps (some {v:=p}) k ρ w y:=by
 cases op with
 |quo=>
  obtain ⟨h1,h2⟩:=C5 h;have hn:n≠0:=by intro e;subst e;cases h1
  exact ⟨_,by simp only [W5,if_neg hn],jL.val hS h2 rfl rfl⟩
 |rem=>
  obtain ⟨h1,h2⟩:=C5 h;have hn:n≠0:=by intro e;subst e;cases h1
  exact ⟨_,by simp only [W5,if_neg hn],jL.val hS h2 rfl rfl⟩
 |shl=>cases h
 |shr=>cases h
 |_=>exact ⟨_,rfl,jL.val hS h rfl rfl⟩
theorem aHw (hE:eZ s e pe) (hS:dD s ps) {op:BinOp} {a b:gX} (h:qC e s z (.bin op a b) k ρ w=some y):jL s ps (bS pe ps z (.bin op a b)) k ρ w y:=by
 simp only [qC] at h;generalize ha:cK e a=va at h;cases va with
 |int ka m=>
  generalize hb:cK e b=vb at h;cases vb with
  |int kb n=>
   have h1:=qV hE ha;have h2:=qV hE hb;have key:(op≠ .shl)->(op≠ .shr)->(bif gH ka kb then aAR op ka m n (ofV k) else aQ) ρ w=some y->jL s ps (bS pe ps z (.bin op a b)) k ρ w y:=by
    intro n1 n2 h;obtain ⟨hk,h⟩:=dL h;obtain ⟨p,hp,hs⟩:=aA2 hS h
    have:bS pe ps z (.bin op a b)=some {v:=p}:=by
     simp only [bS,h1,h2];cases op<;>first|exact absurd rfl n1|exact absurd rfl n2|(simp only [aDt,hk,if_true,hp];rfl)
    rw [this];exact hs
   cases op with
   |shl=>
    obtain ⟨hc,h⟩:=C5 h;have hc': ¬n<0:=by simpa using hc
    exact jL.val hS h (by simp only [bS,h1,h2,aDt,LC,if_neg hc'];rfl) rfl
   |shr=>
    obtain ⟨hc,h⟩:=C5 h;have hc': ¬n<0:=by simpa using hc
    exact jL.val hS h (by simp only [bS,h1,h2,aDt,LC,if_neg hc'];rfl) rfl
   |_=>exact key (by intro e;cases e) (by intro e;cases e) h
  |_=>cases h
 |_=>cases h
theorem aFm (hE:eZ s e pe) (hS:dD s ps) {neg:Bool} {a b:gX} (h:qC e s z (.binb neg a b) k ρ w=some y):jL s ps (bS pe ps z (.binb neg a b)) k ρ w y:=by
 simp only [qC] at h;generalize ha:cK e a=va at h;cases va with
 |bool x=>
  generalize hb:cK e b=vb at h;cases vb with
  |bool x'=>
   refine jL.val hS h ?_ rfl;simp only [bS,J3 hE ha,J3 hE hb];cases neg<;>rfl
  |_=>cases h
 |_=>cases h
theorem aFn: ∀{xs ys:List SV} {ps qs:List PV} {r:Bool},RL s xs ps->RL s ys qs->eqS xs ys=some r->eH ps qs=some r
 | [],[],ps,qs,r,h1,h2,h=>by rw [show ps=[] from h1,show qs=[] from h2];exact h
 |x::xs,b::ys,ps,qs,r,h1,h2,h=>by
  obtain ⟨p,ps,rfl,a1,a2⟩:=h1.cons_inv;obtain ⟨q,qs,rfl,b1,b2⟩:=h2.cons_inv;simp only [eqS] at h;split at h
  · rename_i ka m kb n
    have a1':p= .int ka m:=a1;have b1':q= .int kb n:=b1;subst a1' b1';cases hk:gH ka kb with
    |false=>rw [hk] at h;cases h
    |true=>
     rw [hk] at h;have hc:wU (.int ka m) (.int kb n)=some (m==n):=by simp only [wU,hk,if_true]
     simp only [eH,hc];cases xs with
     |nil=>
      cases ys with
      |nil=>
       simp only [cond_true,cd] at h;subst h;rw [show ps=[] from a2,show qs=[] from b2];cases m==n<;>rfl
      |cons _ _=>cases h
     |cons x2 xs2=>
      simp only [cond_true] at h;split at h
      · rename_i r' hr
        injection h with h;subst h;rw [aFn a2 b2 hr];cases m==n<;>rfl
      cases h
  cases h
 | [],_::_,ps,qs,r,h1,h2,h=>by cases h
 |_::_,[],ps,qs,r,h1,h2,h=>by cases h
theorem aHx (hE:eZ s e pe) (hS:dD s ps) {n:Nat} {neg:Bool} {a b:gX} (h:qC e s z (.eqc n neg a b) k ρ w=some y):jL s ps (bS pe ps z (.eqc n neg a b)) k ρ w y:=by
 simp only [qC] at h;generalize ha:cK e a=va at h;cases va with
 |agg xs=>
  generalize hb:cK e b=vb at h;cases vb with
  |agg ys=>
   obtain ⟨hl,h⟩:=dL h;obtain ⟨r,hr,h⟩:=bW h;obtain ⟨p,hp,h1⟩:=aDR hE ha;obtain ⟨q,hq,h2⟩:=aDR hE hb;refine jL.val hS h ?_ rfl;simp only [bS,hp,hq,h1.length,h2.length];rw [if_pos hl,aFn h1 h2 hr];cases neg<;>rfl
  |_=>cases h
 |_=>cases h
theorem aPD (hE:eZ s e pe) (hS:dD s ps) {op:UnOp} {a:gX} (h:qC e s z (.un op a) k ρ w=some y):jL s ps (bS pe ps z (.un op a)) k ρ w y:=by
 simp only [qC] at h;cases op with
 |neg=>
  dsimp only at h;generalize ha:cK e a=va at h;cases va with
  |int ka n=>exact jL.val hS h (by simp only [bS,qV hE ha];rfl) rfl
  |_=>cases h
 |not=>
  dsimp only at h;generalize ha:cK e a=va at h;cases va with
  |bool b=>exact jL.val hS h (by simp only [bS,J3 hE ha];rfl) rfl
  |_=>cases h
 |_=>cases h
theorem aFo (hE:eZ s e pe) (hS:dD s ps) {a:IntKind} {x:gX} (h:qC e s z (.conv a x) k ρ w=some y):jL s ps (bS pe ps z (.conv a x)) k ρ w y:=by
 simp only [qC] at h;generalize ha:cK e x=va at h;cases va with
 |int ka n=>exact jL.val hS h (by simp only [bS,qV hE ha]) rfl
 |_=>cases h
theorem aHy (hE:eZ s e pe) (hS:dD s ps) {x:gX} (h:qC e s z (.len x) k ρ w=some y):jL s ps (bS pe ps z (.len x)) k ρ w y:=by
 simp only [qC] at h;have hx:=eW hE x;generalize cK e x=v at h hx;cases v with
 |nil e' c=>exact jL.val hS h (by simp only [bS,show x.ev pe= .sl e' c [] from hx];rfl) rfl
 |pre t len cap ex=>
  obtain ⟨e',hx,_⟩:=hx;exact jL.val hS h (by simp only [bS,hx]) rfl
 |part t off len cap ex=>
  obtain ⟨e',hx,_⟩:=hx;exact jL.val hS h (by simp only [bS,hx]) rfl
 |sl q m=>
  exact jL.val hS h (by simp only [bS,show x.ev pe=_ from hx,cq]) rfl
 |own t ex=>
  obtain ⟨c,hc,h⟩:=bW h;simp only [HI,cT] at hc;split at hc
  · rename_i q m hst
    injection hc with hc;subst hc;obtain ⟨e',n,hx,hat⟩:=hx;rcases hat with ⟨q',m',h1,rfl,rfl⟩|h1
    · rw [hst] at h1;injection h1 with h1;cases h1
      exact jL.val hS h (by simp only [bS,hx]) rfl
    rw [hst] at h1;cases h1
  cases hc
 |_=>obtain ⟨c,hc,h⟩:=bW h;cases hc
theorem J4: ∀{l:List (Nat×Nat×SV)} {pl:List (Nat×Nat×PV)} {cs:List SV} {pc:List PV} {r:List SV},
 (pl.length=l.length/\ ∀(j:Nat) (a:Nat×Nat×SV),l[j]? =some a-> ∃b,pl[j]? =some (a.1,a.2.1,b)/\R s a.2.2 b)->RL s cs pc->C3 l cs=some r-> ∃q,rD pl pc=some q/\RL s r q
 | [],pl,cs,pc,r,hl,hc,h=>by
  have:pl=[]:=di.1 hl.1
  subst this;injection h with h;subst h;exact ⟨pc,rfl,hc⟩
 |(off,sz,v)::l,pl,cs,pc,r,hl,hc,h=>by
  cases pl with
  |nil=>simp at hl
  |cons p pl=>
   obtain ⟨b,h1,h2⟩:=hl.2 0 _ rfl;simp at h1;subst h1;simp only [C3] at h;split at h
   · rename_i w hw
     obtain ⟨q,hq,hqr⟩:=h2.stored hw;cases hcnd:(df w.length sz&&cm (off+sz) cs.length) with
     |false=>rw [hcnd] at h;cases h
     |true=>
      rw [hcnd] at h;simp only [cond_true] at h;obtain ⟨q2,h3,h4⟩:=J4 (pl:=pl) ⟨by simpa using hl.1,fun j a ha=>hl.2 (j+1) a (by simpa using ha)⟩ (GR hqr hc) h
      refine ⟨q2,?_,h4⟩;simp only [rD,hq,hqr.length,hc.length];rw [if_pos hcnd];exact h3
   cases h
theorem X8 (hE:eZ s e pe): ∀(l:List (Nat×Nat×gX)),((l.map fun p=>(p.1,p.2.1,p.2.2.ev pe)).length=(FB e l).length/\ ∀(j:Nat) (a:Nat×Nat×SV),(FB e l)[j]? =some a-> ∃b,(l.map fun p=>(p.1,p.2.1,p.2.2.ev pe))[j]? =some (a.1,a.2.1,b)/\R s a.2.2 b)
 | []=>⟨rfl,fun j a h=>by simp [FB] at h⟩
 |p::l=>by
  obtain ⟨h1,h2⟩:=X8 hE l;refine ⟨by simp [FB] at h1 ⊢;omega,fun j a h=>?_⟩
  cases j with
  |zero=>simp [FB] at h;subst h;exact ⟨_,rfl,eW hE _⟩
  |succ j=>simp only [FB,dp] at h;obtain ⟨b,h3,h4⟩:=h2 j a h;exact ⟨b,by simpa using h3,h4⟩
theorem aDS (hE:eZ s e pe) (hS:dD s ps) {zero:List PV} {parts:List (Nat×Nat×gX)} (h:qC e s z (.build zero parts) k ρ w=some y):jL s ps (bS pe ps z (.build zero parts)) k ρ w y:=by
 simp only [qC] at h;obtain ⟨cs,hc,h⟩:=bW h;obtain ⟨q,hq,hr⟩:=J4 (X8 hE parts) (ofPVL_R s zero) hc;exact jL.val hS h (by simp only [bS,hq];rfl) ⟨q,rfl,hr⟩
theorem aHz (hE:eZ s e pe) (hS:dD s ps) {x:gX} (h:qC e s z (.box x) k ρ w=some y):jL s ps (bS pe ps z (.box x)) k ρ w y:=by
 simp only [qC] at h;obtain ⟨cs,hc,h⟩:=bW h;obtain ⟨q,hq,hr⟩:=(eW hE x).stored hc;refine ⟨_,_,?_,jZ.new hS (b:= .box cs) (q:= .box q) (v:= .bp s.length cs.length 0) (p:= .ptr s.length cs.length 0 0) (rd:=[]) ⟨q,rfl,hr.ext (Fr.app _ _ _)⟩ rfl,h⟩;simp only [bS,hq,hS.len,hr.length]
theorem aDT (hS:dD s ps) {cells:List PV} (h:qC e s z (.alloc cells) k ρ w=some y):jL s ps (bS pe ps z (.alloc cells)) k ρ w y:=by
 simp only [qC] at h;refine ⟨_,_,?_,jZ.new hS (b:= .box (ofPVL cells)) (q:= .box cells) (v:= .bp s.length cells.length 0) (p:= .ptr s.length cells.length 0 0) (rd:=[]) ⟨cells,rfl,ofPVL_R _ _⟩ rfl,h⟩;simp only [bS,hS.len]
theorem aFp (hE:eZ s e pe) (hS:dD s ps) {x:gX} (h:qC e s z (.nilc x) k ρ w=some y):jL s ps (bS pe ps z (.nilc x)) k ρ w y:=by
 simp only [qC] at h;have hx:=eW hE x;generalize cK e x=v at h hx;cases v with
 |pa t r i a o=>exact jL.val hS h (by simp only [bS,hx.1]) ⟨rfl,hx.2⟩
 |pb t i o=>
  obtain ⟨e',h1,h2⟩:=hx;exact jL.val hS h (by simp only [bS,h1]) ⟨e',rfl,h2⟩
 |bp t n o=>exact jL.val hS h (by simp only [bS,show x.ev pe=_ from hx]) rfl
 |rptr c o=>
  obtain ⟨q,h1,h2⟩:=hx;exact jL.val hS h (by simp only [bS,h1]) ⟨q,rfl,h2⟩
 |clo f a b=>
  obtain ⟨pa,pb,h1,h2⟩:=hx;exact jL.val hS h (by simp only [bS,h1]) ⟨pa,pb,rfl,h2⟩
 |_=>cases h
theorem aFq (hE:eZ s e pe) (hS:dD s ps) {off:Nat} {x:gX} (h:qC e s z (.fadr off x) k ρ w=some y):jL s ps (bS pe ps z (.fadr off x)) k ρ w y:=by
 simp only [qC] at h;have hx:=eW hE x;generalize cK e x=v at h hx;cases v with
 |pa t r i a o=>exact jL.val hS h (by simp only [bS,hx.1]) ⟨rfl,hx.2⟩
 |pb t i o=>
  obtain ⟨e',h1,h2⟩:=hx;exact jL.val hS h (by simp only [bS,h1]) ⟨e',rfl,h2⟩
 |bp t n o=>exact jL.val hS h (by simp only [bS,show x.ev pe=_ from hx]) rfl
 |rptr c o=>
  obtain ⟨q,h1,h2⟩:=hx;exact jL.val hS h (by simp only [bS,h1]) ⟨q,rfl,h2⟩
 |_=>cases h
theorem aHA (hE:eZ s e pe) (hS:dD s ps) {agg:Option Nat} {off:Nat} {x:gX} (h:qC e s z (.fld agg off x) k ρ w=some y):jL s ps (bS pe ps z (.fld agg off x)) k ρ w y:=by
 simp only [qC] at h;generalize hv:cK e x=v at h;cases v with
 |agg cs=>
  obtain ⟨v,h1,h⟩:=bW h;obtain ⟨q,h2,h3⟩:=aDR hE hv;obtain ⟨p,h4,h5⟩:=AF h3 h1;exact jL.val hS h (by simp only [bS,h2,h4];rfl) h5
 |_=>cases h
theorem aHB (hE:eZ s e pe) (hS:dD s ps) {i:Nat} {x:gX} (h:qC e s z (.ext i x) k ρ w=some y):jL s ps (bS pe ps z (.ext i x)) k ρ w y:=by
 simp only [qC] at h;generalize hv:cK e x=v at h;cases v with
 |tup cs=>
  obtain ⟨v,h1,h⟩:=bW h;obtain ⟨q,h2,h3⟩:=aDR hE hv;obtain ⟨p,h4,h5⟩:=h3.nth h1;exact jL.val hS h (by simp only [bS,h2,h4];rfl) h5
 |_=>cases h
theorem aHC (hE:eZ s e pe) (hS:dD s ps) {f:FuncId} {a b:List gX} (h:qC e s z (.mkf f a b) k ρ w=some y):jL s ps (bS pe ps z (.mkf f a b)) k ρ w y:=by
 simp only [qC] at h;exact jL.val hS h rfl ⟨_,_,rfl,GO hE a,GO hE b⟩
theorem aHD (hS:dD s ps) {m:Option PV} (h:qC e s z (.mkm m) k ρ w=some y):jL s ps (bS pe ps z (.mkm m)) k ρ w y:=by
 simp only [qC] at h;cases m with
 |none=>
  refine ⟨_,_,?_,jZ.new hS (b:= .set []) (q:= .map []) (v:= .mp s.length) (p:= .mp s.length) (rd:=[]) rfl rfl,h⟩;simp only [bS,hS.len]
 |some m=>
  obtain ⟨p,_,h⟩:=bW h;refine ⟨_,_,?_,jZ.new hS (b:= .tab p []) (q:= .map []) (v:= .mp s.length) (p:= .mp s.length) (rd:=[]) rfl rfl,h⟩;simp only [bS,hS.len]
theorem aPd: ∀{l:List SV} {q:List PV} {m:Bool} {a:IntKind} {n:Int} {v:SV},RL s l q->mmS m a n l=some v-> ∃p,mmE m a n q=some p/\R s v p
 | [],q,m,a,n,v,hl,h=>by
  rw [show q=[] from hl];injection h with h;subst h;exact ⟨_,rfl,rfl⟩
 |x::l,q,m,a,n,v,hl,h=>by
  obtain ⟨p,q,rfl,h1,h2⟩:=hl.cons_inv;simp only [mmS] at h;split at h
  · rename_i b c
    have h1':p= .int b c:=h1;subst h1';cases hk:gH a b with
    |true=>
     rw [hk] at h;obtain ⟨p,h3,h4⟩:=aPd h2 h;refine ⟨p,?_,h4⟩;simp only [mmE,hk,if_true];rw [<- h3];cases m<;>rfl
    |false=>rw [hk] at h;cases h
  cases h
theorem aPE (hE:eZ s e pe) (hS:dD s ps) {m:Bool} {x:gX} {xs:List gX} (h:qC e s z (.mm m x xs) k ρ w=some y):jL s ps (bS pe ps z (.mm m x xs)) k ρ w y:=by
 simp only [qC] at h;generalize hv:cK e x=v at h;cases v with
 |int a n=>
  obtain ⟨v,h1,h⟩:=bW h;obtain ⟨p,h2,h3⟩:=aPd (GO hE xs) h1;exact jL.val hS h (by simp only [bS,qV hE hv,h2];rfl) h3
 |_=>cases h
theorem aFr (hE:eZ s e pe) (hS:dD s ps) {c a b:gX} (h:qC e s z (.pick c a b) k ρ w=some y):jL s ps (bS pe ps z (.pick c a b)) k ρ w y:=by
 simp only [qC] at h;generalize hv:cK e c=v at h;cases v with
 |bool x=>
  rcases gB h with ⟨rfl,h⟩|⟨rfl,h⟩
  · exact jL.val hS h (by simp only [bS,J3 hE hv]) (eW hE a)
  exact jL.val hS h (by simp only [bS,J3 hE hv]) (eW hE b)
 |_=>cases h
end
end Go.Vm
/- Operation by operation, second part: elements, blocks, slices, sets. -/
namespace Go.Vm
section
variable {R' ρ : Type} {w : R' -> ρ} {y : ρ} {s : List SB} {ps : dC} {e : SE} {pe : zQ} {z : List Nat} {k : iD -> jK R'}
theorem dD.arr (hS:dD s ps) {t:Nat} {r:List PT} {l:List (RT r)} (h:s[t]? =some (.arr r l)):ps[t]? =some (.arr r.length (l.map (RT.pv r))):=by
 obtain ⟨q,h1,h2⟩:=hS.at_ t _ h;rw [show q=_ from h2] at h1;exact h1
theorem dD.box (hS:dD s ps) {t:Nat} {cs:List SV} (h:s[t]? =some (.box cs)): ∃q,ps[t]? =some (.box q)/\RL s cs q:=by
 obtain ⟨q,h1,q',rfl,h2⟩:=hS.at_ t _ h;exact ⟨q',h1,h2⟩
theorem dD.set_ (hS:dD s ps) {t:Nat} {l:List (List Int)} (h:s[t]? =some (.set l)):ps[t]? =some (.map (l.map J1)):=by
 obtain ⟨q,h1,h2⟩:=hS.at_ t _ h;rw [show q=_ from h2] at h1;exact h1
theorem dD.tab_ (hS:dD s ps) {t:Nat} {p:PT} {l:List (RT [.i .i64,p])} (h:s[t]? =some (.tab p l)):ps[t]? =some (.map (l.map (NO p))):=by
 obtain ⟨q,h1,h2⟩:=hS.at_ t _ h;rw [show q=_ from h2] at h1;exact h1
theorem aFk.inv {t e n:Nat} {r:List PT} {l:List (RT r)} (h:aFk s t e n) (hs:s[t]? =some (.arr r l)):e=r.length/\n=l.length:=by
 rcases h with ⟨q,m,h1,rfl,rfl⟩|h1
 · rw [hs] at h1;injection h1 with h1;cases h1;exact ⟨rfl,rfl⟩
 rw [hs] at h1;cases h1
theorem HL.inv {t e:Nat} {r:List PT} {l:List (RT r)} (h:HL s t e) (hs:s[t]? =some (.arr r l)):e=r.length:=by
 rcases h with ⟨q,m,h1,rfl⟩|h1
 · rw [hs] at h1;injection h1 with h1;cases h1;rfl
 rw [hs] at h1;cases h1
theorem aFl.inv {t:Nat} {q r:List PT} {i:Int} {a:RT q} {l:List (RT r)} (h:aFl s t q i a) (hs:s[t]? =some (.arr r l)): ∃e:q=r,aN l i=some (e▸a):=by
 rcases h with ⟨m,h1,h2⟩|h1
 · rw [hs] at h1;injection h1 with h1;cases h1;exact ⟨rfl,h2⟩
 rw [hs] at h1;cases h1
theorem aPC.inv {t:Nat} {r:List PT} {i:Int} {l:List (RT r)} (h:aPC s t i) (hs:s[t]? =some (.arr r l)):(aN l i).isSome=true:=by
 rcases h with ⟨q,m,h1,h2⟩|h1
 · rw [hs] at h1;injection h1 with h1;cases h1;exact h2
 rw [hs] at h1;cases h1
theorem gY {α:Type} {l:List α} {n:Nat} {i:Int} {a:α} (h:aN (l.take n) i=some a): ∃m:Nat,i=dw m/\m<n/\l[m]? =some a:=by
 obtain ⟨m,rfl,hm⟩:=rI h;have hlt:=(bq.1 hm).1;rw [db] at hlt;have hmn:m<n:=by omega
 rw [bz hmn] at hm;exact ⟨m,rfl,hmn,hm⟩
theorem aFs (hE:eZ s e pe) (hS:dD s ps) {esz:Nat} {x i:gX} (h:qC e s z (.iadr esz x i) k ρ w=some y):jL s ps (bS pe ps z (.iadr esz x i)) k ρ w y:=by
 simp only [qC] at h;generalize hi:cK e i=vi at h;cases vi with
 |int ki n=>
  have hi:=qV hE hi;have hx:=eW hE x;dsimp only at h;unfold aO6 at h;generalize cK e x=v at h hx;cases v with
  |sl r l=>
   obtain ⟨he,h⟩:=dL h;obtain ⟨a,ha,hk⟩:=dN h;obtain ⟨m,rfl,hm⟩:=rI ha;refine jL.val hS (p:= .rptr (RT.pv r a) 0) hk ?_ ⟨_,rfl,TF r a⟩;have hr:(l.map (RT.pv r))[m]? =some (RT.pv r a):=by simp [hm]
   simp only [bS,hi,mW,show x.ev pe=_ from hx,hr,he,if_true]
  |own t ex=>
   simp only [cT] at h;generalize hst:s[t]? =b at h;cases b with
   |none=>cases h
   |some b=>
    cases b with
    |arr r l=>
     obtain ⟨he,h⟩:=dL h;obtain ⟨a,ha,hk⟩:=dN h;obtain ⟨m,rfl,hm⟩:=rI ha;obtain ⟨e',n',hx,hat⟩:=hx;obtain ⟨rfl,rfl⟩:=hat.inv hst;have hlt:=(bq.1 hm).1;have h1:gc m l.length=true:=by simpa using hlt
     refine jL.val hS (p:= .ptr t r.length m 0) hk ?_ ⟨rfl,.inl ⟨l,hst,ha⟩⟩;simp only [bS,hi,mW,hx,h1,he,c8,if_true,ef]
    |_=>cases h
  |pre t len cap ex=>
   simp only [cT] at h;generalize hst:s[t]? =b at h;cases b with
   |none=>cases h
   |some b=>
    cases b with
    |arr r l=>
     obtain ⟨he,h⟩:=dL h;obtain ⟨a,ha,hk⟩:=dN h;obtain ⟨m,rfl,hlt,hm⟩:=gY ha;obtain ⟨e',hx,hat⟩:=hx
     have:=hat.inv hst
     subst this;have h1:gc m len=true:=by simpa using hlt
     refine jL.val hS (p:= .ptr t r.length m 0) hk ?_ ⟨rfl,.inl ⟨l,hst,hm⟩⟩;simp only [bS,hi,mW,hx,h1,he,c8,if_true,ef]
    |_=>cases h
  |part t off len cap ex=>
   simp only [cT] at h;generalize hst:s[t]? =b at h;cases b with
   |none=>cases h
   |some b=>
    cases b with
    |arr r l=>
     obtain ⟨he,h⟩:=dL h;obtain ⟨a,ha,hk⟩:=dN h;obtain ⟨m,rfl,hlt,hm⟩:=gY ha;rw [List.getElem?_drop] at hm;obtain ⟨e',hx,hat⟩:=hx
     have:=hat.inv hst
     subst this;have h1:gc m len=true:=by simpa using hlt
     refine jL.val hS (p:= .ptr t r.length (off+m) 0) hk ?_ ⟨rfl,.inl ⟨l,hst,hm⟩⟩;simp only [bS,hi,mW,hx,h1,he,c8,if_true]
    |_=>cases h
  |_=>cases h
 |_=>cases h
theorem IQ {n:Nat} {i:Int} {j:Nat} {f:Nat->jK R'}:X0 n i j f ρ w=some y-> ∃m,i=dw m/\j<=m/\m<j+n/\f m ρ w=some y:=by
 induction n generalizing j with
 |zero=>intro h;cases h
 |succ n ih=>
  intro h;rcases gB h with ⟨h1,h2⟩|⟨_,h2⟩
  · exact ⟨j,by simpa using h1,fg _,by omega,h2⟩
  obtain ⟨m,h3,h4,h5,h6⟩:=ih h2
  exact ⟨m,h3,by omega,by omega,h6⟩
theorem aDU (hE:eZ s e pe) (hS:dD s ps) {n esz:Nat} {p i:gX} (h:qC e s z (.iadra n esz p i) k ρ w=some y):jL s ps (bS pe ps z (.iadra n esz p i)) k ρ w y:=by
 simp only [qC] at h;generalize hi:cK e i=vi at h;cases vi with
 |int ki j=>
  have hi:=qV hE hi;have hx:=eW hE p;generalize cK e p=v at h hx;cases v with
  |bp t m o=>
   obtain ⟨j',rfl,_,h2,h⟩:=IQ h;have h1:gc j' n=true:=by simp;omega
   exact jL.val hS h (by simp only [bS,hi,mW,h1,if_true,show p.ev pe=_ from hx]) rfl
  |rptr c o=>
   obtain ⟨j',rfl,_,h2,h⟩:=IQ h;have h1:gc j' n=true:=by simp;omega
   obtain ⟨q,hq,hr⟩:=hx;exact jL.val hS h (by simp only [bS,hi,mW,h1,if_true,hq]) ⟨q,rfl,hr⟩
  |_=>cases h
 |_=>cases h
theorem aHE (hE:eZ s e pe) (hS:dD s ps) {n esz:Nat} {agg:Option Nat} {x i:gX} (h:qC e s z (.idx n esz agg x i) k ρ w=some y):jL s ps (bS pe ps z (.idx n esz agg x i)) k ρ w y:=by
 simp only [qC] at h;generalize hi:cK e i=vi at h;cases vi with
 |int ki j=>
  have hi:=qV hE hi;generalize hx:cK e x=v at h;cases v with
  |agg cs=>
   obtain ⟨j',rfl,_,h2,h⟩:=IQ h;have h1:gc j' n=true:=by simp;omega
   obtain ⟨v,hv,h⟩:=bW h;obtain ⟨q,hq,hr⟩:=aDR hE hx;obtain ⟨p,hp,hpr⟩:=AF hr hv;exact jL.val hS h (by simp only [bS,hi,mW,h1,if_true,hq,hp];rfl) hpr
  |_=>cases h
 |_=>cases h
theorem aFt (hE:eZ s e pe) (hS:dD s ps) {x i:gX} (h:qC e s z (.sidx x i) k ρ w=some y):jL s ps (bS pe ps z (.sidx x i)) k ρ w y:=by
 simp only [qC] at h;generalize hi:cK e i=vi at h;cases vi with
 |int ki j=>
  have hi:=qV hE hi;generalize hx:cK e x=v at h;cases v with
  |str t=>
   obtain ⟨b,hb,h⟩:=dN h;have hx:=aDR hE hx;cases j with
   |negSucc _=>cases hb
   |ofNat m=>
    simp only [xI,cz] at hb;obtain ⟨c,hc,rfl⟩:=hb;exact jL.val hS h (by simp only [bS,hi,mW,show x.ev pe=_ from hx,hc]) rfl
  |_=>cases h
 |_=>cases h
theorem aFu (hE:eZ s e pe) (hS:dD s ps) {agg:Option Nat} {p:gX} (h:qC e s z (.load agg p) k ρ w=some y):jL s ps (bS pe ps z (.load agg p)) k ρ w y:=by
 simp only [qC] at h;have hx:=eW hE p;unfold aO7 at h;generalize cK e p=v at h hx;cases v with
 |bp t n off=>
  simp only [cT] at h;generalize hst:s[t]? =b at h;cases b with
  |none=>cases h
  |some b=>
   cases b with
   |box cs=>
    obtain ⟨v,hv,h⟩:=bW h;obtain ⟨q,h1,h2⟩:=hS.box hst;obtain ⟨u,h3,h4⟩:=AF h2 hv;refine jL.rd hS h ?_ h4;show tI ps agg (p.ev pe)=_;rw [show p.ev pe=_ from hx];simp only [tI,h1,c9,if_true,h3];rfl
   |_=>cases h
 |pa t r i a off=>
  simp only [cT] at h;generalize hst:s[t]? =b at h;cases b with
  |none=>cases h
  |some b=>
   cases b with
   |arr q l=>
    obtain ⟨v,hv,hk⟩:=bW h;obtain ⟨hx,hat⟩:=hx;obtain ⟨rfl,hg⟩:=hat.inv hst;obtain ⟨u,h3,h4⟩:=AF (TF r a) hv;obtain ⟨m,rfl,hm⟩:=rI hg;refine jL.rd hS hk ?_ h4;show tI ps agg (p.ev pe)=_;rw [hx];have hm':(l.map (RT.pv r))[m]? =some (RT.pv r a):=by simp [hm]
    have e1:(dw m).toNat=m:=rfl;simp only [tI,hS.arr hst,e1,hm',h3];rfl
   |_=>cases h
 |pb t i off=>
  simp only [cT] at h;generalize hst:s[t]? =b at h;cases b with
  |none=>cases h
  |some b=>
   cases b with
   |arr r l=>
    obtain ⟨a,ha,h⟩:=dN h;obtain ⟨v,hv,hk⟩:=bW h;obtain ⟨e',hx,hat⟩:=hx;obtain ⟨u,h3,h4⟩:=AF (TF r a) hv;obtain ⟨m,rfl,hm⟩:=rI ha;refine jL.rd hS hk ?_ h4;show tI ps agg (p.ev pe)=_;rw [hx];have hm':(l.map (RT.pv r))[m]? =some (RT.pv r a):=by simp [hm]
    have e1:(dw m).toNat=m:=rfl;simp only [tI,hS.arr hst,e1,hm',h3];rfl
   |_=>cases h
 |rptr cs off=>
  obtain ⟨v,hv,h⟩:=bW h;obtain ⟨q,hq,hr⟩:=hx;obtain ⟨u,h3,h4⟩:=AF hr hv;refine jL.val hS h ?_ h4;show tI ps agg (p.ev pe)=_;rw [hq];simp only [tI,h3];rfl
 |_=>cases h
theorem U8 (hS:dD s ps) {t:Nat} {r:List PT} {l:List (RT r)} (hst:s[t]? =some (.arr r l)) {i:Int} {b:RT r} {rd:List Nat}:
 jZ s ps {v:= .undef,wr:=[(t,.arr r (cM l i b))],rd} {v:= .undef,wr:=[(t,.arr r.length ((l.map (RT.pv r)).set i.toNat (RT.pv r b)))],rd}:=
 jZ.put0 hS hst (.inl ⟨_,rfl,by simp⟩) (by show _=_;simp [cM,gl])
theorem aDV (hE:eZ s e pe) (hS:dD s ps) {sz:Nat} {p x:gX} (h:qC e s z (.store sz p x) k ρ w=some y):jL s ps (bS pe ps z (.store sz p x)) k ρ w y:=by
 simp only [qC] at h;have hx:=eW hE p;have hv:=eW hE x;unfold aE7 at h;generalize cK e p=v at h hx;generalize cK e x=u at h hv;cases v with
 |bp t n off=>
  simp only [cT] at h;generalize hst:s[t]? =b at h;cases b with
  |none=>cases h
  |some b=>
   cases b with
   |box cs=>
    obtain ⟨w',hw,h⟩:=bW h;obtain ⟨hc,h⟩:=dL h;obtain ⟨q,h1,h2⟩:=hv.stored hw;obtain ⟨b,h3,h4⟩:=hS.box hst;have hfr:=Fr.dg (ts:=[t]) (Fr.set (b:= .box (uT off w' cs)) hst trivial);refine ⟨_,_,?_,jZ.put0 hS (b:= .box (uT off w' cs)) (q:= .box (tM off q b)) (rd:=[]) hst trivial ⟨_,rfl,RL.fr hfr (GR h2 h4)⟩,h⟩
    show yH ps z sz (x.ev pe) (p.ev pe)=_
    rw [show p.ev pe=_ from hx];simp only [yH,h3,h1,h2.length,h4.length];rw [if_pos (by simpa using hc)]
   |_=>cases h
 |pa t r i a off=>
  simp only [cT] at h;generalize hst:s[t]? =b at h;cases b with
  |none=>cases h
  |some b=>
   cases b with
   |arr q l=>
    obtain ⟨hc,h⟩:=dL h;obtain ⟨a',ha',hk⟩:=bW h;obtain ⟨hx,hat⟩:=hx;obtain ⟨rfl,hg⟩:=hat.inv hst;obtain ⟨m,rfl,hm⟩:=rI hg;refine ⟨_,_,?_,U8 hS hst (rd:=[]),hk⟩;show yH ps z sz (x.ev pe) (p.ev pe)=_;rw [hx];have hm':(l.map (RT.pv r))[m]? =some (RT.pv r a):=by simp [hm]
    have e1:(dw m).toNat=m:=rfl;simp only [bo,cw] at hc;obtain ⟨⟨c1,c2⟩,c3⟩:=hc;have hj:u≠ .junk:=by
     intro e;subst e
     have:=RT.of_some ha'
     have hq:=congrArg (fun l=>l[off]?) this
     have hle:=ci c2;have hsz:sz=1:=by have:=bn c1;simpa [SV.cells] using this.symm
     have hlt:off<r.length:=by omega
     have hl1:off<(RT.sv r a).length:=by rw [RT.sv_len];exact hlt
     simp only [uT,SV.cells] at hq;rw [bu (by simp;omega),bv (by simp;omega)] at hq
     simp only [db,fw (gm hl1),g9,fo] at hq
     have: ∀(r:List PT) (b:RT r) (n:Nat),(RT.sv r b)[n]?≠some .junk:=by
      intro r
      induction r with
      |nil=>intro b n h;simp [RT.sv] at h
      |cons p rest ih=>
       intro b n;cases rest with
       |nil=>cases n<;>cases p<;>simp [RT.sv,PT.sv]
       |cons p2 rest2=>cases n with
        |zero=>cases p<;>simp [RT.sv,PT.sv]
        |succ n=>simpa [RT.sv] using ih b.2 n
     exact this r a' off hq.symm
    have hcells:=hv.cells hj;have hrow:=RT.of_some ha';have h5:RL s (RT.sv r a') (tM off (x.ev pe).cells (RT.pv r a)):=by
     rw [<- hrow];exact GR hcells (TF r a)
    have h6:=GQ r a' h5;have hplain:(x.ev pe).storedPlain=some (x.ev pe).cells:=by
     unfold PV.storedPlain;rw [if_pos ?_];have hall:=RT.plain r a';rw [<- h6] at hall;unfold tM at hall;simp only [gx,bo] at hall;exact hall.1.2
    simp only [yH,hS.arr hst,e1,hm',hplain,hcells.length,RT.pv_len];rw [if_pos (by simp [c1,c2,c3])]
    simp only [h6]
   |_=>cases h
 |pb t i off=>
  simp only [cT] at h;generalize hst:s[t]? =b at h;cases b with
  |none=>cases h
  |some b=>
   cases b with
   |arr r l=>
    obtain ⟨hc,h⟩:=dL h;obtain ⟨e',hx,hat⟩:=hx;have hin:=hat.inv hst;rw [fk] at hin;obtain ⟨a0,hg⟩:=hin;obtain ⟨m,rfl,hm⟩:=rI hg;have hm':(l.map (RT.pv r))[m]? =some (RT.pv r a0):=by simp [hm]
    have e1:(dw m).toNat=m:=rfl;simp only [bo,cw] at hc;obtain ⟨⟨c1,c2⟩,c3⟩:=hc;cases hsz:df sz r.length with
    |true=>
     rw [hsz] at h;obtain ⟨a',ha',hk⟩:=bW h;obtain ⟨hp,hl⟩:=hv.ofRow ha';have hszr:=bn hsz;have hoff:off=0:=by have:=ci c2;omega
     subst hoff;refine ⟨_,_,?_,U8 hS hst (rd:=[]),hk⟩;show yH ps z sz (x.ev pe) (p.ev pe)=_;rw [hx];simp only [yH,hS.arr hst,e1,hm',hp,RT.pv_len];rw [if_pos (by rw [ef,hszr];simp [c3])]
     have:tM 0 (RT.pv r a') (RT.pv r a0)=RT.pv r a':=by
      unfold tM;rw [RT.pv_len,List.drop_of_length_le (by rw [RT.pv_len];omega)];simp
     rw [this]
    |false=>
     rw [hsz] at h;obtain ⟨a,ha,h⟩:=dN h;obtain ⟨a',ha',hk⟩:=bW h;rw [hg] at ha;injection ha with ha;subst ha;refine ⟨_,_,?_,U8 hS hst (rd:=[]),hk⟩;show yH ps z sz (x.ev pe) (p.ev pe)=_;rw [hx];have hj:u≠ .junk:=by
      intro e;subst e
      have:=RT.of_some ha'
      have hq:=congrArg (fun l=>l[off]?) this
      have hle:=ci c2;have hsz:sz=1:=by have:=bn c1;simpa [SV.cells] using this.symm
      have hlt:off<r.length:=by omega
      have hl1:off<(RT.sv r a0).length:=by rw [RT.sv_len];exact hlt
      simp only [uT,SV.cells] at hq;rw [bu (by simp;omega),bv (by simp;omega)] at hq
      simp only [db,fw (gm hl1),g9,fo] at hq
      have: ∀(r:List PT) (b:RT r) (n:Nat),(RT.sv r b)[n]?≠some .junk:=by
       intro r
       induction r with
       |nil=>intro b n h;simp [RT.sv] at h
       |cons p rest ih=>
        intro b n;cases rest with
        |nil=>cases n<;>cases p<;>simp [RT.sv,PT.sv]
        |cons p2 rest2=>cases n with
         |zero=>cases p<;>simp [RT.sv,PT.sv]
         |succ n=>simpa [RT.sv] using ih b.2 n
      exact this r a' off hq.symm
     have hcells:=hv.cells hj;have hrow:=RT.of_some ha';have h5:RL s (RT.sv r a') (tM off (x.ev pe).cells (RT.pv r a0)):=by
      rw [<- hrow];exact GR hcells (TF r a0)
     have h6:=GQ r a' h5;have hplain:(x.ev pe).storedPlain=some (x.ev pe).cells:=by
      unfold PV.storedPlain;rw [if_pos ?_];have hall:=RT.plain r a';rw [<- h6] at hall;unfold tM at hall;simp only [gx,bo] at hall;exact hall.1.2
     simp only [yH,hS.arr hst,e1,hm',hplain,hcells.length,RT.pv_len];rw [if_pos (by simp [c1,c2,c3])]
     simp only [h6]
   |_=>cases h
 |_=>cases h
end
end Go.Vm
/- Operation by operation, third part: slices, new blocks, append, sets; all of them together. -/
namespace Go.Vm
section
variable {R' ρ : Type} {w : R' -> ρ} {y : ρ} {s : List SB} {ps : dC} {e : SE} {pe : zQ} {z : List Nat} {k : iD -> jK R'}
def PN (pe:zQ) (o:Option gX):Option (Option Nat):=match o with|none=>some none|some a=>(mW (a.ev pe)).map some
theorem CA (hE:eZ s e pe) {o:Option gX} {d a:Int} {n:Nat} (h:LV e d o=some a) (hd:d=dw n) (h0:0<=a): ∃b,PN pe o=some b/\b.getD n=a.toNat:=by
 cases o with
 |none=>
  injection h with h;subst h hd;exact ⟨none,rfl,rfl⟩
 |some x=>
  simp only [LV] at h;split at h
  · rename_i ka m hx
    injection h with h;subst h;obtain ⟨b,rfl⟩:=cj h0;refine ⟨some b,?_,rfl⟩;simp only [PN,qV hE hx];rfl
  cases h
theorem IR {esz:Nat} {x:gX} {lo hi mx:Option gX} {l h m:Option Nat} {v:PV} (he:BV esz (x.ev pe)=true) (h1:PN pe lo=some l) (h2:PN pe hi=some h) (h3:PN pe mx=some m) (hv:wV (x.ev pe) l h m=some v):
 bS pe ps z (.slc esz x lo hi mx)=some {v:=v}:=by
 have e:bS pe ps z (.slc esz x lo hi mx)=(match PN pe lo,PN pe hi,PN pe mx with|some l,some h,some m=>(wV (x.ev pe) l h m).map fun v=>({v}:tH)|_,_,_=>none):=by
  simp only [bS,he,gf,ce,if_false];rfl
 rw [e,h1,h2,h3];simp only [hv];rfl
theorem PO {α:Type} {l r:List α} {lo hi:Int} (h:jS l lo hi=some r): ∃a b:Nat,lo=dw a/\hi=dw b/\a<=b/\b<=l.length/\r=(l.drop a).take (b-a):=by
 unfold jS at h;split at h
 · rename_i hc
   obtain ⟨a,rfl⟩:=cj hc.1;obtain ⟨b,rfl⟩:=cj (eu hc.1 hc.2.1);injection h with h;exact ⟨a,b,rfl,rfl,by omega,by omega,by rw [<- h];simp⟩
 cases h
theorem U9 (hE:eZ s e pe) (hS:dD s ps) {esz t off len cap:Nat} {ex:Bool} {x:gX} {lo hi mx:Option gX} (hx:x.ev pe= .own t esz off len cap ex) (hat:HL s t esz) (h:aAS e t off len cap ex lo hi mx k ρ w=some y):
 jL s ps (bS pe ps z (.slc esz x lo hi mx)) k ρ w y:=by
 unfold aAS at h;obtain ⟨a,ha,h⟩:=bW h;obtain ⟨b,hb,h⟩:=bW h;have he:BV esz (x.ev pe)=true:=by rw [hx];simp [BV]
 cases mx with
 |none=>
  obtain ⟨hc,h⟩:=kG h;simp only [bo,decide_eq_true_eq] at hc;obtain ⟨⟨c1,c2⟩,c3⟩:=hc;obtain ⟨l,h1,h2⟩:=CA hE (n:=0) ha rfl c1;obtain ⟨u,h3,h4⟩:=CA hE (n:=len) hb rfl (eu c1 c2);refine jL.val hS h (IR he h1 h3 (m:=none) rfl ?_) ⟨esz,rfl,hat⟩;rw [hx];have c4:(cm a.toNat b.toNat&&cm b.toNat cap)=true:=by
   have c3':b<=(cap:Int):=c3
   simp;omega
  simp only [wV,h2,h4,c4,if_true]
 |some mo=>
  dsimp only at h;generalize hm:cK e mo=vm at h;cases vm with
  |int km c=>
   obtain ⟨hc,h⟩:=kG h;simp only [bo,decide_eq_true_eq] at hc;obtain ⟨⟨⟨c1,c2⟩,c3⟩,c4⟩:=hc;obtain ⟨l,h1,h2⟩:=CA hE (n:=0) ha rfl c1;obtain ⟨u,h3,h4⟩:=CA hE (n:=len) hb rfl (eu c1 c2);have hc0:0<=c:=eu (eu c1 c2) c3;obtain ⟨c,rfl⟩:=cj hc0
   refine jL.val hS h (IR he h1 h3 (m:=some c) (by simp only [PN,qV hE hm];rfl) ?_) ⟨esz,rfl,hat⟩
   rw [hx];have c5:(cm a.toNat b.toNat&&cm b.toNat c&&cm c cap)=true:=by
    have c4':(c:Int)<=(cap:Int):=c4
    simp;omega
   simp only [wV,h2,h4,c5,if_true];rfl
  |_=>cases h
theorem aHF (hE:eZ s e pe) (hS:dD s ps) {esz:Nat} {x:gX} {lo hi mx:Option gX} (h:qC e s z (.slc esz x lo hi mx) k ρ w=some y):jL s ps (bS pe ps z (.slc esz x lo hi mx)) k ρ w y:=by
 simp only [qC] at h;have hx:=eW hE x;unfold aVM at h;generalize cK e x=v at h hx;cases v with
 |sl r l=>
  cases mx with
  |some _=>cases h
  |none=>
   dsimp only at h;obtain ⟨he,h⟩:=dL h;have he:=bn he;obtain ⟨a,ha,h⟩:=bW h;obtain ⟨b,hb,h⟩:=bW h;obtain ⟨m,hm,hk⟩:=dN h;obtain ⟨n1,n2,rfl,rfl,c1,c2,rfl⟩:=PO hm;obtain ⟨u1,h1,h2⟩:=CA hE (n:=0) ha rfl (by simp)
   obtain ⟨u2,h3,h4⟩:=CA hE (n:=l.length) hb rfl (by simp)
   have hx':x.ev pe= .sl r.length false (l.map (RT.pv r)):=hx;subst he;refine jL.val hS (p:= .sl r.length false ((((l.drop n1).take (n2-n1))).map (RT.pv r))) hk (IR (m:=none) (by rw [hx'];simp [BV]) h1 h3 rfl ?_) rfl
   rw [hx'];have h2':u1.getD 0=n1:=by rw [h2];rfl
   have h4':u2.getD (l.map (RT.pv r)).length=n2:=by rw [cq,h4];rfl
   have c3:(cm n1 n2&&cm n2 (l.map (RT.pv r)).length)=true:=by simp [c1,c2]
   simp only [wV,h2',h4',c3,if_true,Bool.false_and,dh,d7]
 |own t ex=>
  simp only [cT] at h;generalize hst:s[t]? =b at h;cases b with
  |none=>cases h
  |some b=>
   cases b with
   |arr r l=>
    dsimp only at h;obtain ⟨he,hk⟩:=dL h;have he:=bn he;obtain ⟨e',n',hx,hat⟩:=hx;obtain ⟨rfl,rfl⟩:=hat.inv hst;subst he;have hesz:HL s t r.length:= .inl ⟨r,l,hst,rfl⟩;have gen:aAS e t 0 l.length l.length ex lo hi mx k ρ w=some y->jL s ps (bS pe ps z (.slc r.length x lo hi mx)) k ρ w y:=fun h=>U9 hE hS hx hesz h
    have he:BV r.length (x.ev pe)=true:=by rw [hx];simp [BV]
    cases mx with
    |some m=>cases lo<;>cases hi<;>exact gen hk
    |none=>
     cases lo with
     |some _=>cases hi<;>exact gen hk
     |none=>
      cases hi with
      |none=>
       refine jL.val hS hk (IR (l:=none) (h:=none) (m:=none) he rfl rfl rfl ?_) ⟨r.length,l.length,rfl,hat⟩;rw [hx];simp [wV]
      |some ho=>
       dsimp only at hk;generalize hh:cK e ho=vh at hk;cases vh with
       |int kh b=>
        obtain ⟨m,hm,hk⟩:=dN hk;obtain ⟨n1,n2,h0,rfl,c1,c2,rfl⟩:=PO hm;refine jL.val hS hk (IR (l:=none) (h:=some n2) (m:=none) he rfl (by simp only [PN,qV hE hh];rfl) rfl ?_) ⟨r.length,rfl,hesz⟩
        rw [hx];have c3:(cm 0 n2&&cm n2 l.length)=true:=by simp [c2]
        simp only [wV,fq,gr,c3,if_true];rfl
       |_=>cases hk
   |_=>cases h
 |pre t len cap ex=>
  simp only [cT] at h;generalize hst:s[t]? =b at h;cases b with
  |none=>cases h
  |some b=>
   cases b with
   |arr r l=>
    dsimp only at h;obtain ⟨he,hk⟩:=dL h;have he:=bn he;obtain ⟨e',hx,hat⟩:=hx
    have:=hat.inv hst
    subst this;subst he;have gen:aAS e t 0 len cap ex lo hi mx k ρ w=some y->jL s ps (bS pe ps z (.slc r.length x lo hi mx)) k ρ w y:=fun h=>U9 hE hS hx hat h
    have he:BV r.length (x.ev pe)=true:=by rw [hx];simp [BV]
    cases mx with
    |some m=>cases lo<;>cases hi<;>exact gen hk
    |none=>
     cases lo with
     |some _=>cases hi<;>exact gen hk
     |none=>
      cases hi with
      |none=>
       obtain ⟨hlc,hk⟩:=kG hk;refine jL.val hS hk (IR (l:=none) (h:=none) (m:=none) he rfl rfl rfl ?_) ⟨r.length,rfl,hat⟩;rw [hx];have c3:(cm 0 len&&cm len cap)=true:=by simp [hlc]
       simp only [wV,fq,c3,if_true];simp
      |some ho=>
       dsimp only at hk;generalize hh:cK e ho=vh at hk;cases vh with
       |int kh b=>
        obtain ⟨hc,hk⟩:=kG hk;simp only [bo,decide_eq_true_eq] at hc;obtain ⟨c1,c2⟩:=hc;obtain ⟨b,rfl⟩:=cj c1;refine jL.val hS hk (IR (l:=none) (h:=some b) (m:=none) he rfl (by simp only [PN,qV hE hh];rfl) rfl ?_) ⟨r.length,rfl,hat⟩
        rw [hx];have c3:(cm 0 b&&cm b cap)=true:=by
         have c2':(b:Int)<=(cap:Int):=c2
         simp;omega
        simp only [wV,fq,gr,c3,if_true];rfl
       |_=>cases hk
   |_=>cases h
 |part t off len cap ex=>
  simp only [cT] at h;generalize hst:s[t]? =b at h;cases b with
  |none=>cases h
  |some b=>
   cases b with
   |arr r l=>
    dsimp only at h;obtain ⟨he,hk⟩:=dL h;have he:=bn he;obtain ⟨e',hx,hat⟩:=hx
    have:=hat.inv hst
    subst this;subst he;exact U9 hE hS hx hat hk
   |_=>cases h
 |_=>cases h
theorem vY {b:SB}:(s++[b])[s.length]? =some b:=by simp
theorem dG: ∀{v:PV} {p:PT},fU v=some p->p.pv p.zero=v
 | .int k n,p,h=>by
  simp only [fU] at h;split at h
  · injection h with h;subst h;rfl
  cases h
 | .bool b,p,h=>by
  simp only [fU] at h;split at h
  · injection h with h;subst h;rfl
  cases h
 | .undef,_,h| .nul,_,h| .str _,_,h| .agg _,_,h| .tup _,_,h| .sl _ _ _,_,h| .own _ _ _ _ _ _,_,h| .ptr _ _ _ _,_,h| .rptr _ _,_,h| .mp _,_,h| .clo _ _ _,_,h| .nilf,_,h=>by cases h
theorem J5 : ∀ {l : List PV} {r : List PT}, PC l = some r -> RT.pv r (RT.zero r) = l
  | [], r, h => by injection h with h; subst h; rfl
  | v :: vs, r, h => by
    simp only [PC] at h
    split at h
    · rename_i p q h1 h2
      injection h with h; subst h
      have e1 := dG h1
      have e2 := J5 h2
      cases q with
      | nil =>
        have : vs = [] := by
          cases vs with
          | nil => rfl
          | cons a b => simp only [RT.pv] at e2; cases e2
        subst this
        show [p.pv p.zero] = _
        rw [e1]
      | cons p2 q2 =>
        show p.pv p.zero :: RT.pv (p2 :: q2) (RT.zero (p2 :: q2)) = _
        rw [e1, e2]
    cases h
theorem aHG (hE:eZ s e pe) (hS:dD s ps) {esz:Nat} {zero:rY} {l c:gX} (h:qC e s z (.mks esz zero l c) k ρ w=some y):jL s ps (bS pe ps z (.mks esz zero l c)) k ρ w y:=by
 simp only [qC] at h;generalize hl:cK e l=vl at h;cases vl with
 |int kl n=>
  generalize hc:cK e c=vc at h;cases vc with
  |int kc m=>
   obtain ⟨hnm,h1⟩:=kG h;obtain ⟨r,hr,h2⟩:=bW h1;obtain ⟨he,h3⟩:=dL h2;obtain ⟨x,hx,hk⟩:=dN h3;have hnm:n=m:=by simpa using hnm
   subst hnm;have he:=bn he;subst he;unfold rJ at hx;split at hx
   · rename_i hc2
     injection hx with hx;subst hx;obtain ⟨a,rfl⟩:=cj hc2.1;have h1:(cm a a&&cm a most)=true:=by simp [most];omega
     refine ⟨_,_,?_,jZ.new hS (b:= .arr r (dc (dw a).toNat (RT.zero r))) (q:= .arr r.length (dc a zero)) (v:= .own s.length true) (p:= .own s.length r.length 0 a a true) (rd:=[]) ?_ ?_,hk⟩
     · have e1:mW (.int kl (a:Int))=some a:=rfl
       have e2:mW (.int kc (a:Int))=some a:=rfl;simp only [bS,qV hE hl,qV hE hc,e1,e2];rw [if_pos h1,hS.len]
     · show _=_
       simp [J5 hr]
     exact ⟨r.length,a,rfl,.inl ⟨r,_,vY,rfl,by simp⟩⟩
   cases hx
  |_=>cases h
 |_=>cases h
def C6 {α:Type}:List α->List (Nat×α)->List α
 |l,[]=>l
 |l,(i,a)::r=>C6 (l.set i a) r
theorem PP {α : Type} : ∀ (q : List (Nat × α)) (l : List α) (i : Nat), (C6 l q)[i]? = (l[i]?).map fun z => M4 i z q
  | [], l, i => by simp [C6, M4]
  | (j, a) :: q, l, i => by
    simp only [C6, M4]
    rw [PP q (l.set j a) i, cb]
    by_cases hji : j = i
    · subst hji
      cases hl : l[j]? with
      | none =>
        have : ¬ j < l.length := by intro h; rw [bw h] at hl; cases hl
        simp [this]
      | some z =>
        have : j < l.length := (bq.1 hl).1
        simp [this]
    have : df j i = false := by
      cases hb : df j i with
      | false => rfl
      | true => exact absurd (bn hb) hji
    simp [hji, this]
theorem X9 {α:Type} (f:Nat->α): ∀(n i j:Nat),(U2 f i n)[j]? =if j<n then some (f (i+j)) else none
 |0,i,j=>by simp [U2]
 |n+1,i,0=>by simp [U2]
 |n+1,i,j+1=>by
  simp only [U2,dp];rw [X9 f n (i+1) j,show i+1+j=i+(j+1) by omega]
  by_cases h:j<n
  · simp [h]
  simp [h]
theorem PQ {α:Type} (z:α) (n:Nat) (q:List (Nat×α)):C6 (dc n z) q=U2 (fun i=>M4 i z q) 0 n:=by
 apply fh;intro i;rw [PP,X9]
 by_cases h:i<n
 · simp [h]
 simp [h]
theorem PR (hE:eZ s e pe) {r:List PT} {n:Nat}: ∀{parts:List (Nat×gX)} {q:List (Nat×RT r)} {l:List (RT r)},aCb r e n parts=some q->l.length=n->
 vN (parts.map fun p=>(p.1,p.2.ev pe)) (l.map (RT.pv r)) r.length=some ((C6 l q).map (RT.pv r))
 | [],q,l,h,hl=>by injection h with h;subst h;rfl
 |p::parts,q,l,h,hl=>by
  simp only [aCb] at h;split at h
  · rename_i a q' h1 h2
    cases hb:gc p.1 n with
    |false=>rw [hb] at h;cases h
    |true=>
     rw [hb] at h;injection h with h;subst h;have hp:=((eW hE p.2).ofRow h1).1;simp only [c7,vN,hp,RT.pv_len,cq,hl,hb,c9,c8,if_true,C6];rw [<- gl];exact PR hE h2 (by simp [hl])
  cases h
theorem aDW (hE:eZ s e pe) (hS:dD s ps) {esz n:Nat} {zero:rY} {parts:List (Nat×gX)} (h:qC e s z (.mkrow esz n zero parts) k ρ w=some y):jL s ps (bS pe ps z (.mkrow esz n zero parts)) k ρ w y:=by
 simp only [qC] at h;obtain ⟨r,hr,h1⟩:=bW h;obtain ⟨he,h2⟩:=dL h1;obtain ⟨q,hq,hk⟩:=bW h2;have he:=bn he;subst he;have hf:=PR hE (l:=dc n (RT.zero r)) hq (by simp)
 rw [PQ] at hf;have hz:(dc n (RT.zero r)).map (RT.pv r)=dc n zero:=by simp [J5 hr]
 rw [hz] at hf;refine ⟨_,_,?_,jZ.new hS (b:= .arr r (U2 (fun i=>M4 i (RT.zero r) q) 0 n)) (q:= .arr r.length ((U2 (fun i=>M4 i (RT.zero r) q) 0 n).map (RT.pv r))) (v:= .own s.length true) (p:= .own s.length r.length 0 n n true) (rd:=[]) rfl ?_,hk⟩
 · simp only [bS,hf,hS.len]
   rfl
 refine ⟨r.length,n,rfl,.inl ⟨r,_,vY,rfl,?_⟩⟩
 rw [<- PQ]
 have: ∀(q:List (Nat×RT r)) (l:List (RT r)),(C6 l q).length=l.length:=by
  intro q
  induction q with
  |nil=>intro l;rfl
  |cons p q ih=>intro l;simp [C6,ih]
 rw [this];simp
theorem aCo: ∀{cs:List SV} {q:List PV} {l:List Int},RL s cs q->aCc cs=some l->q=l.map (.int .i64)
 | [],q,l,h,hi=>by injection hi with hi;subst hi;exact h
 |x::xs,q,l,h,hi=>by
  obtain ⟨p,q,rfl,h1,h2⟩:=h.cons_inv;simp only [aCc] at hi;split at hi
  · rename_i n l' hx
    injection hi with hi;subst hi;rw [show p= .int .i64 n from h1,aCo h2 hx];rfl
  cases hi
theorem aFv {v:SV} {p:PV} {n:Option Nat} {l:List Int} (h:R s v p) (hk:aHp n v=some l):p=zW l/\mA n (zW l)=true/\(zW l).storedPlain=some (zW l).cells/\(zW l).cells=l.map (.int .i64)/\(n=none->l.length=1)/\(∀m,n=some m->l.length=m/\m≠1):=by
 cases n with
 |none=>
  cases v with
  |int kk a=>
   cases kk with
   |i64=>
    injection hk with hk;subst hk;exact ⟨h,rfl,rfl,rfl,fun _=>rfl,fun m hm=>by cases hm⟩
   |_=>cases hk
  |_=>cases hk
 |some m=>
  cases v with
  |agg cs=>
   simp only [aHp] at hk;cases hc:(df cs.length m&&!Nat.beq m 1) with
   |false=>rw [hc] at hk;cases hk
   |true=>
    rw [hc] at hk;simp only [cond_true] at hk;simp only [bo,fv,cw] at hc;obtain ⟨c1,c2⟩:=hc;obtain ⟨q,rfl,hq⟩:=h;have hq':=aCo hq hk;have hlen:l.length=m:=by have:=hq.length;rw [hq'] at this;simp at this;omega
    have hm1:m≠1:=by intro e;subst e;cases c2
    have hkl:zW l= .agg (l.map (.int .i64)):=by
     unfold zW;split
     · simp at hlen;omega
     rfl
    refine ⟨by rw [hkl,hq'],by rw [hkl];simp [mA,hlen],?_,by rw [hkl];rfl,(fun h=>(by cases h)),fun m' hm=>by injection hm with hm;subst hm;exact ⟨hlen,hm1⟩⟩
    rw [hkl];unfold PV.storedPlain;rw [if_pos];simp [PV.cells,PV.plain]
  |_=>cases hk
theorem C7: ∀(a b:List Int),a.length=b.length->eH (a.map (.int .i64)) (b.map (.int .i64))=some (a==b)
 | [],[],_=>rfl
 |x::a,y::b,h=>by
  have ih:=C7 a b (by simpa using h)
  simp only [c7,eH,wU,X7,if_true];cases hxy:x==y with
  |true=>simp only [ih];simp [gi,hxy]
  |false=>simp [gi,hxy]
 | [],_::_,h=>by simp at h
 |_::_,[],h=>by simp at h
theorem L0 {n : Option Nat} {a : List Int} (ha : (zW a).cells = a.map (.int .i64)) (hn : (n = none -> a.length = 1) /\ (∀ m, n = some m -> a.length = m /\ m ≠ 1)) : ∀ (l : List (List Int)) (i : Nat), (∀ r, gG n (zW a) (l.map J1) i = some r -> (match r with | none => NN l a = false | some j => i <= j /\ NN l a = true /\ l[j - i]? = some a))
  | [], i, r, h => by
    simp only [gn, gG, cd] at h
    subst h; rfl
  | b :: l, i, r, h => by
    simp only [c7, J1, gG] at h
    split at h
    · rename_i hk
      have hb : (zW b).cells = b.map (.int .i64) /\ a.length = b.length := by
        cases n with
        | none =>
          have hl := hn.1 rfl
          unfold zW at hk ⊢
          split at hk
          · exact ⟨rfl, by simpa using hl⟩
          cases hk
        | some m =>
          obtain ⟨hl, hm⟩ := hn.2 m rfl
          unfold zW at hk ⊢
          split at hk
          · cases hk
          simp only [mA, cq, fv] at hk
          exact ⟨rfl, by omega⟩
      rw [ha, hb.1, C7 a b hb.2] at h
      cases hab : a == b with
      | true =>
        rw [hab] at h
        injection h with h; subst h
        have : a = b := by simpa using hab
        subst this
        exact ⟨fg _, by simp [NN], by simp⟩
      | false =>
        rw [hab] at h
        have := L0 ha hn l (i + 1) r h
        cases r with
        | none => simpa [NN, hab] using this
        | some j =>
          obtain ⟨h1, h2, h3⟩ := this
          refine ⟨by omega, by simp only [NN] at h2; simp [NN, h2], ?_⟩
          rw [show j - i = (j - (i + 1)) + 1 by omega]; simpa using h3
    cases h
theorem J6 {n:Option Nat} {a:List Int} (ha:(zW a).cells=a.map (.int .i64)) (hn:(n=none->a.length=1)/\(∀m,n=some m->a.length=m/\m≠1)) {l:List (List Int)} (hl:l.all (fun b=>mA n (zW b))=true): ∀i,∃r,gG n (zW a) (l.map J1) i=some r:=by
 induction l with
 |nil=>intro i;exact ⟨none,rfl⟩
 |cons b l ih=>
  intro i;simp only [gd,bo] at hl;obtain ⟨r,hr⟩:=ih hl.2 (i+1);simp only [c7,J1,gG,hl.1,if_true];have hb:(zW b).cells=b.map (.int .i64)/\a.length=b.length:=by
   have hk:=hl.1;cases n with
   |none=>
    have hl':=hn.1 rfl;unfold zW at hk ⊢;split at hk
    · exact ⟨rfl,by simpa using hl'⟩
    cases hk
   |some m=>
    obtain ⟨hl',hm⟩:=hn.2 m rfl;unfold zW at hk ⊢;split at hk
    · cases hk
    simp only [mA,cq,fv] at hk
    exact ⟨rfl,by omega⟩
  rw [ha,hb.1,C7 a b hb.2];cases hab:a==b with
  |true=>exact ⟨some i,rfl⟩
  |false=>exact ⟨r,hr⟩
theorem M8 {n:Option Nat} {a:List Int} (hn:(n=none->a.length=1)/\(∀m,n=some m->a.length=m/\m≠1)) {l:List (List Int)} (hl: ∀b∈l,b.length=a.length):l.all (fun b=>mA n (zW b))=true:=by
 rw [dt];intro b hb;have hlen:=hl b hb;cases n with
 |none=>
  have h1:=hn.1 rfl;rw [h1] at hlen
  match b,hlen with
  | [x],_=>rfl
 |some m=>
  obtain ⟨h1,h2⟩:=hn.2 m rfl;unfold zW;split
  · rename_i x;simp at hlen;omega
  simp [mA];omega
theorem J7 {a:List Int} {l:List (List Int)} (h:sF a l=true): ∀b∈l,b.length=a.length:=by
 intro b hb;exact bn (dt.1 h b hb)
theorem PT.of_R {s:List SB} {p:PT} {v:SV} {q:PV} {a:p.T} (h:R s v q) (ho:p.of v=some a):q=p.pv a:=by
 cases p with
 |i k=>
  cases v with
  |int l n=>
   simp only [PT.of] at ho;cases hk:gH l k with
   |false=>rw [hk] at ho;cases ho
   |true=>
    rw [hk] at ho;obtain rfl:=gA.1 hk;injection ho with ho;subst ho;exact h
  |_=>cases ho
 |b=>
  cases v with
  |bool x=>
   injection ho with ho;subst ho;exact h
  |_=>cases ho
theorem PS {β:Type} (g:Int×β->PV×PV) (hg: ∀x,(g x).1= .int .i64 x.1) (k:Int): ∀(l:List (Int×β)) (i:Nat),
 (∃j x,gG none (.int .i64 k) (l.map g) i=some (some (i+j))/\l[j]? =some x/\(∀z,vV z l k=x.2)/\ ∀a,tK l k a=l.set j (k,a))\/
 (gG none (.int .i64 k) (l.map g) i=some none/\(∀z,vV z l k=z)/\ ∀a,tK l k a=l++[(k,a)])
 | [],i=> .inr ⟨rfl,fun _=>rfl,fun _=>rfl⟩
 |x::l,i=>by
  have hk:mA none (g x).1=true:=by rw [hg];rfl
  have he:eH (PV.int .i64 k).cells (g x).1.cells=some (k==x.1):=by
   rw [hg];show eH [.int .i64 k] [.int .i64 x.1]=_;simp only [eH,wU,gH,if_true];cases k==x.1<;>rfl
  have hf:gG none (.int .i64 k) ((x::l).map g) i=(match some (k==x.1) with
   |some true=>some (some i)
   |some false=>gG none (.int .i64 k) (l.map g) (i+1)
   |none=>none):=by
   rw [c7];show (if mA none (g x).1 then _ else none)=_
   rw [if_pos hk,he];cases k==x.1<;>rfl
  cases hb:k==x.1 with
  |true=>
   rw [hb] at hf;exact .inl ⟨0,x,hf,rfl,fun z=>by simp only [vV,hb,cond_true],fun a=>by simp only [tK,hb,cond_true,List.set_cons_zero]⟩
  |false=>
   rw [hb] at hf;rcases PS g hg k l (i+1) with ⟨j,y,h1,h2,h3,h4⟩|⟨h1,h2,h3⟩
   · refine .inl ⟨j+1,y,?_,by simpa using h2,fun z=>?_,fun a=>?_⟩
     · rw [hf];show gG none (.int .i64 k) (l.map g) (i+1)=_
       rw [h1,show i+1+j=i+(j+1) by omega]
     · simp only [vV,hb,cond_false,h3]
     simp only [tK,hb,cond_false,h4,List.set_cons_succ]
   exact .inr ⟨hf.trans h1,fun z=>by simp only [vV,hb,cond_false,h2],fun a=>by simp only [tK,hb,cond_false,h3,ft]⟩
theorem PU (p:PT) (k:Int) (l:List (RT [.i .i64,p])):
 (∃(j:Nat) (x:RT [.i .i64,p]),gG none (.int .i64 k) (l.map (NO p)) 0=some (some j)/\l[j]? =some x/\(∀z,p.get z l k=x.2)/\ ∀a,p.put l k a=l.set j (k,a))\/
 (gG none (.int .i64 k) (l.map (NO p)) 0=some none/\(∀z,p.get z l k=z)/\ ∀a,p.put l k a=l++[(k,a)]):=by
 cases p with
 |i d=>
  rcases PS (β:=Int) (NO (.i d)) (fun _=>rfl) k l 0 with ⟨j,x,h1,h2,h3,h4⟩|h
  · exact .inl ⟨j,x,by rw [h1,ef],h2,h3,h4⟩
  exact .inr h
 |b=>
  rcases PS (β:=Bool) (NO .b) (fun _=>rfl) k l 0 with ⟨j,x,h1,h2,h3,h4⟩|h
  · exact .inl ⟨j,x,by rw [h1,ef],h2,h3,h4⟩
  exact .inr h
theorem PT.sv_R {s:List SB} (p:PT) (a:p.T):R s (p.sv a) (p.pv a):=by cases p<;>rfl
theorem PT.pv_plain (p:PT) (a:p.T):(p.pv a).storedPlain=some [p.pv a]:=by cases p<;>rfl
theorem aA3 (hE:eZ s e pe) (hS:dD s ps) {n:Option Nat} {zero:PV} {ok:Bool} {m q:gX} (h:qC e s z (.lookup n zero ok m q) k ρ w=some y):jL s ps (bS pe ps z (.lookup n zero ok m q)) k ρ w y:=by
 simp only [qC] at h;have hx:=eW hE m;generalize cK e m=v at h hx;cases v with
 |mp t=>
  simp only [cT] at h;generalize hst:s[t]? =b at h;cases b with
  |none=>cases h
  |some b=>
   cases b with
   |set l=>
    dsimp only at h;unfold aCe at h;cases zero with
    |bool b=>
     cases b with
     |true=>cases h
     |false=>
      cases ok with
      |true=>cases h
      |false=>
       obtain ⟨a,ha,h1⟩:=bW h;obtain ⟨b,hb,hk⟩:=dN h1;obtain ⟨k1,k2,k3,k4,k5⟩:=aFv (eW hE q) ha;unfold XY at hb;cases hlk:sF a l with
       |false=>rw [hlk] at hb;cases hb
       |true=>
        rw [hlk] at hb;injection hb with hb;subst hb;obtain ⟨r,hr⟩:=J6 k4 k5 (M8 k5 (J7 hlk)) 0;have hf:=L0 k4 k5 l 0 r hr;refine jL.rd hS hk ?_ rfl;show zX ps n (.bool false) false (m.ev pe) (q.ev pe)=_;rw [show m.ev pe=_ from hx,k1];simp only [zX,hS.set_ hst,k2,if_true,hr];cases r with
        |none=>simp only at hf;simp [hf]
        |some j=>
         obtain ⟨_,h2,h3⟩:=hf
         have:(l.map J1)[j]? =some (J1 a):=by simp at h3;simp [h3]
         simp [this,h2,J1]
    |_=>cases h
   |tab p l=>
    dsimp only at h;unfold aCf at h;cases n with
    |some _=>cases h
    |none=>
     cases ok with
     |true=>cases h
     |false=>
      have hq:=eW hE q;generalize cK e q=u at h hq;cases u with
      |int d a=>
       cases d with
       |i64=>
        obtain ⟨zv,hz,hk⟩:=bW h;have hzero:=PT.of_R (aA1 s zero) hz;refine jL.rd hS hk ?_ (PT.sv_R p _);show zX ps none zero false (m.ev pe) (q.ev pe)=_;rw [show m.ev pe=_ from hx,show q.ev pe=_ from hq];rcases PU p a l with ⟨j,x,h1,h2,h3,_⟩|⟨h1,h2,_⟩
        · have h5:(l.map (NO p))[j]? =some (NO p x):=by simp [h2]
          simp only [zX,hS.tab_ hst,mA,if_true,h1,h5,h3,NO,ce,if_false]
        simp only [zX,hS.tab_ hst,mA,if_true,h1,h2,hzero,ce,if_false]
       |_=>cases h
      |_=>cases h
   |_=>cases h
 |_=>cases h
theorem aFw (hE:eZ s e pe) (hS:dD s ps) {n:Option Nat} {m q x:gX} (h:qC e s z (.mapu n m q x) k ρ w=some y):jL s ps (bS pe ps z (.mapu n m q x)) k ρ w y:=by
 simp only [qC] at h;have hx:=eW hE m;generalize cK e m=v at h hx;cases v with
 |mp t=>
  simp only [cT] at h;generalize hst:s[t]? =b at h;cases b with
  |none=>cases h
  |some b=>
   cases b with
   |set l=>
    obtain ⟨hz,h0⟩:=yB h;unfold aE9 at h0;have hv:=eW hE x;generalize cK e x=u at h0 hv;cases u with
    |bool b=>
     cases b with
     |false=>cases h0
     |true=>
      obtain ⟨a,ha,h1⟩:=bW h0;obtain ⟨b,hb,hk⟩:=dN h1;obtain ⟨k1,k2,k3,k4,k5⟩:=aFv (eW hE q) ha;unfold XZ at hb;cases hlk:sF a l with
      |false=>rw [hlk] at hb;cases hb
      |true=>
       rw [hlk] at hb;injection hb with hb;subst hb;obtain ⟨r,hr⟩:=J6 k4 k5 (M8 k5 (J7 hlk)) 0;have hf:=L0 k4 k5 l 0 r hr;refine ⟨_,_,?_,jZ.put0 hS (b:= .set (aAQ l a)) (q:= .map ((aAQ l a).map J1)) (rd:=[]) hst trivial rfl,hk⟩;show MW ps z n (m.ev pe) (q.ev pe) (x.ev pe)=_;rw [show m.ev pe=_ from hx,k1,show x.ev pe= .bool true from hv]
       have p2:(PV.bool true).storedPlain=some [.bool true]:=rfl;simp only [MW,hS.set_ hst,k2,hz,dy,c8,if_true,k3,p2,hr];cases r with
       |none=>simp only at hf;simp [aAQ,hf,J1]
       |some j=>
        obtain ⟨_,h2,h3⟩:=hf;have h5:l[j]? =some a:=by simpa using h3
        have:(l.map J1).set j (zW a,.bool true)=l.map J1:=by
         apply fh;intro i;rw [cb];split
         · rename_i hij
           subst hij;have hlt:=(bq.1 h5).1;have h6:l[j]=a:=(bq.1 h5).2;simp [hlt,h6,J1]
         rfl
        simp [aAQ,h2,this]
    |_=>cases h0
   |tab p l=>
    obtain ⟨hz,h0⟩:=yB h;unfold aFa at h0;cases n with
    |some _=>cases h0
    |none=>
     have hq:=eW hE q;generalize cK e q=u at h0 hq;cases u with
     |int d a=>
      cases d with
      |i64=>
       obtain ⟨xv,hxv,hk⟩:=bW h0;have hval:=PT.of_R (eW hE x) hxv;refine ⟨_,_,?_,jZ.put0 hS (b:= .tab p (p.put l a xv)) (q:= .map ((p.put l a xv).map (NO p))) (rd:=[]) hst trivial rfl,hk⟩;show MW ps z none (m.ev pe) (q.ev pe) (x.ev pe)=_;rw [show m.ev pe=_ from hx,show q.ev pe=_ from hq,hval];have p1:(PV.int .i64 a).storedPlain=some [.int .i64 a]:=rfl
       rcases PU p a l with ⟨j,x,h1,_,_,h3⟩|⟨h1,_,h3⟩
       · simp only [MW,hS.tab_ hst,mA,hz,dy,c8,if_true,p1,PT.pv_plain,h1,h3,gl,NO]
       simp only [MW,hS.tab_ hst,mA,hz,dy,c8,if_true,p1,PT.pv_plain,h1,h3,d8,c7,gn,NO]
      |_=>cases h0
     |_=>cases h0
   |_=>cases h
 |_=>cases h
theorem HL.fr' {s s':List SB} {bad:List Nat} {t e:Nat} (h:HL s t e) (hf:Fr bad s s'):HL s' t e:=by
 rcases h with ⟨r,l,h1,h2⟩|h1
 · rcases hf t _ h1 with ⟨l',k1,_,_⟩|k1
   · exact .inl ⟨r,l',k1,h2⟩
   exact .inr k1
 exact .inr (hf t _ h1)
theorem IS {α:Type} {l r:List α} (h:cC l=some r):r=l/\l.length<=1048576:=by
 unfold cC at h;split at h
 · injection h with h;exact ⟨h.symm,by assumption⟩
 cases h
theorem FE {α:Type} {l m r:List α} (h:bV l m=some r):r=l++m/\l.length+m.length<=1048576:=by
 unfold bV at h;split at h
 · injection h with h;exact ⟨h.symm,by assumption⟩
 cases h
theorem AG: ∀(m l:List rY) (n:Nat),n+m.length<=l.length->oE n m l=jY l n m
 | [],l,n,h=>by simp [oE,jY]
 |a::m,l,n,h=>by
  simp only [cu] at h;rw [oE,AG m (l.set n a) (n+1) (by simp;omega)]
  unfold jY;rw [List.take_set,List.drop_set];have hn:n<l.length:=by omega
  have h1: ¬(n+1+m.length<=n):=by omega
  rw [if_pos (by omega)]
  have:(l.take (n+1)).set n a=l.take n++[a]:=by
   rw [List.take_succ_eq_append_getElem hn,List.set_append_right _ _ (by simp;omega)]
   simp [fw (gm hn)]
  rw [this];simp only [cy,ft,List.nil_append,cu];rw [show n+1+m.length=n+(m.length+1) by omega]
theorem PW {α β:Type} (f:α->β) (l m:List α) (n:Nat):(jY l n m).map f=jY (l.map f) n (m.map f):=by
 simp [jY,dh,d7]
theorem J8 {α:Type} (l m:List α) (n:Nat) (h:n+m.length<=l.length):(jY l n m).length=l.length:=by
 simp [jY];omega
theorem aA4 (hE:eZ s e pe) (hS:dD s ps) {esz:Nat} {x yy:gX} (h:qC e s z (.append esz x yy) k ρ w=some y):jL s ps (bS pe ps z (.append esz x yy)) k ρ w y:=by
 simp only [qC] at h;have hx:=eW hE x;have hyv:=eW hE yy;unfold aCd at h;generalize cK e yy=vy at h hyv;cases hc:HI s vy with
 |none=>rw [hc] at h;cases h
 |some cc=>
  obtain ⟨q,m⟩:=cc;rw [hc] at h;dsimp only at h;obtain ⟨he,h⟩:=dL h;have he:=bn he;obtain ⟨hro,htk⟩:=aCm hS hyv hc;rw [he] at hro;have pe_app:bS pe ps z (.append esz x yy)=kY ps z esz (x.ev pe) (yy.ev pe):=rfl;generalize cK e x=v at h hx;cases v with
  |nil e' c=>
   dsimp only at h;obtain ⟨hcl,h⟩:=dL h;obtain ⟨m',hm',hk⟩:=dN h;obtain ⟨rfl,hle⟩:=IS hm';refine ⟨_,_,?_,jZ.new hS (b:= .arr q m') (q:= .arr esz (m'.map (RT.pv q))) (v:= .own s.length false) (p:= .own s.length esz 0 m'.length m'.length false) (rd:=C2 vy) (by rw [<- he];rfl) ⟨esz,m'.length,rfl,.inl ⟨q,m',vY,he.symm,rfl⟩⟩,hk⟩
   rw [pe_app];have hcl':c=true:=hcl;subst hcl';rw [show x.ev pe= .sl e' true [] from hx];unfold kY;rw [hro];cases m' with
   |nil=>simp [hS.len,htk]
   |cons a m'=>
    have h2:cm ((a::m').length) most=true:=by simp [most] at hle ⊢;omega
    simp only [cu] at h2;simp [hS.len,htk,h2]
  |own t ex=>
   dsimp only at h;simp only [cT] at h;generalize hst:s[t]? =b at h;cases b with
   |none=>cases h
   |some b=>
    cases b with
    |arr r l=>
     dsimp only at h;cases hca:AD q r m with
     |none=>rw [hca] at h;cases h
     |some m2=>
      rw [hca] at h;dsimp only at h;obtain ⟨rfl,hmp,hml⟩:=J0 hca;obtain ⟨e',n',hx,hat⟩:=hx;obtain ⟨rfl,rfl⟩:=hat.inv hst;rw [<- hmp] at hro;have harr:=hS.arr hst;cases ex with
      |true=>
       dsimp only at h;rcases gB h with ⟨hl,h⟩|⟨hl,h⟩
       · obtain ⟨m',hm',hk⟩:=dN h
         obtain ⟨rfl,hle⟩:=IS hm';have hl:l=[]:=by simpa using hl
         subst hl;refine ⟨_,_,?_,jZ.new hS (b:= .arr q m') (q:= .arr q.length (m'.map (RT.pv q))) (v:= .own s.length false) (p:= .own s.length q.length 0 m'.length m'.length false) (rd:=t::C2 vy) rfl ⟨q.length,m'.length,rfl,.inl ⟨q,m',vY,rfl,rfl⟩⟩,hk⟩;rw [pe_app,hx];unfold kY;rw [hro];subst he;cases m' with
         |nil=>simp [hS.len,htk]
         |cons a m'=>
          have h2:cm ((a::m').length) most=true:=by simp [most] at hle ⊢;omega
          simp only [cu] at h2;simp [hS.len,htk,h2,harr]
       have hl:l≠[]:=by intro e;subst e;cases hl
       have hl0:l.length≠0:=by intro e;exact hl (di.1 e)
       have hb0:df l.length 0=false:=by
        cases hb:df l.length 0 with
        |false=>rfl
        |true=>exact absurd (bn hb) hl0
       rcases gB h with ⟨hm,h⟩|⟨hm,h⟩
       · have hm:m2=[]:=by simpa using hm
         subst hm;refine jL.rd hS h ?_ ⟨_,_,rfl,hat⟩;rw [pe_app,hx];unfold kY;rw [hro];simp [hb0,htk]
       obtain ⟨l',hl',hk⟩:=dN h
       obtain ⟨rfl,hle⟩:=FE hl';refine ⟨_,_,?_,jZ.new hS (b:= .arr q (l++m2)) (q:= .arr q.length ((l++m2).map (RT.pv q))) (v:= .own s.length false) (p:= .own s.length q.length 0 (l++m2).length (l++m2).length false) (rd:=t::C2 vy) rfl ⟨q.length,(l++m2).length,rfl,.inl ⟨q,l++m2,vY,rfl,rfl⟩⟩,hk⟩;rw [pe_app,hx];unfold kY;rw [hro];subst he;cases m2 with
       |nil=>cases hm
       |cons a m2=>
        have h2:cm (l.length+(a::m2).length) most=true:=by simp [most] at hle ⊢;omega
        have h3:cm (l.length+(m2.length+1)) l.length=false:=by
         cases hb:cm (l.length+(m2.length+1)) l.length with
         |false=>rfl
         |true=>have:=ci hb;omega
        simp only [cu] at h2;simp [hS.len,htk,h2,h3,harr,dj]
      |false=>
       dsimp only at h;rcases gB h with ⟨hm,h⟩|⟨hm,h⟩
       · have hm:m2=[]:=by simpa using hm
         subst hm;refine jL.rd hS h ?_ ⟨_,_,rfl,hat⟩;rw [pe_app,hx];unfold kY;rw [hro];simp [htk]
       obtain ⟨hz,h⟩:=yB h
       obtain ⟨l',hl',hk⟩:=dN h;obtain ⟨rfl,hle⟩:=FE hl';have hlen:(LY [t] (s.set t .dead)).length=s.length:=by rw [GP];simp
       refine ⟨_,_,?_,jZ.put hS (b:= .dead) (q:= .dead) (l:=[.arr q (l++m2)]) (ql:=[.arr q.length ((l++m2).map (RT.pv q))]) (v:= .own s.length false) (p:= .own s.length q.length 0 (l++m2).length (l++m2).length false) (rd:=C2 vy) hst (.inr rfl) rfl rfl
        (fun j b hj=>by
         cases j with
         |zero=>simp at hj;subst hj;exact ⟨_,rfl,rfl⟩
         |succ j=>simp at hj)
        ⟨q.length,(l++m2).length,rfl,.inl ⟨q,l++m2,by rw [<- hlen];exact vY,rfl,rfl⟩⟩,hk⟩
       rw [pe_app,hx];unfold kY;rw [hro];subst he;cases m2 with
       |nil=>cases hm
       |cons a m2=>
        have h2:cm (l.length+(a::m2).length) most=true:=by simp [most] at hle ⊢;omega
        have h3:cm (l.length+(m2.length+1)) l.length=false:=by
         cases hb:cm (l.length+(m2.length+1)) l.length with
         |false=>rfl
         |true=>have:=ci hb;omega
        simp only [cu] at h2;simp [hS.len,htk,h2,h3,harr,hz,dj]
    |_=>cases h
  |pre t len cap ex=>
   dsimp only at h;simp only [cT] at h;generalize hst:s[t]? =b at h;cases b with
   |none=>cases h
   |some b=>
    cases b with
    |arr r l=>
     dsimp only at h;cases hca:AD q r m with
     |none=>rw [hca] at h;cases h
     |some m2=>
      rw [hca] at h;dsimp only at h;obtain ⟨rfl,hmp,hml⟩:=J0 hca;obtain ⟨e',hx,hat⟩:=hx
      have:=hat.inv hst
      subst this;rw [<- hmp] at hro;have harr:=hS.arr hst;obtain ⟨hex,h⟩:=yB h;subst hex;rcases gB h with ⟨hm,h⟩|⟨hm,h⟩
      · have hm:m2=[]:=by simpa using hm
        subst hm;refine jL.rd hS h ?_ ⟨_,rfl,hat⟩;rw [pe_app,hx];unfold kY;rw [hro];simp [htk]
      rcases gB h with ⟨c1,h⟩|⟨c1,h⟩
      · obtain ⟨hc2,hk⟩:=kG h
        simp only [bo,cw] at hc2;obtain ⟨c2,c3⟩:=hc2;have c2':=ci c2
        refine ⟨_,_,?_,jZ.put hS (b:= .arr q (jY l len m2)) (q:= .arr q.length ((jY l len m2).map (RT.pv q))) (l:=[]) (ql:=[]) (v:= .pre t (len+m2.length) cap false) (p:= .own t q.length 0 (len+m2.length) cap false) (rd:=C2 vy) hst (.inl ⟨_,rfl,J8 _ _ _ c2'⟩) rfl rfl
         (fun j b hj=>by simp at hj) ⟨q.length,rfl,?_⟩,hk⟩
        · rw [pe_app,hx]
          unfold kY;rw [hro];subst he;have hsr:oE (0+len) (m2.map (RT.pv q)) (l.map (RT.pv q))=(jY l len m2).map (RT.pv q):=by
           rw [AG _ _ _ (by simp;omega),PW,ef]
          cases m2 with
          |nil=>cases hm
          |cons a m2=>
           simp only [cu] at c1;simp only [c7] at hsr ⊢;simp only [harr,c9,gf,ce,if_false,cu,cq,c1,if_true,c3,hsr,htk]
        have:=HL.fr' (s:=s) (s':=LY [t] (s.set t (.arr q (jY l len m2)))++[]) hat ((Fr.dg (ts:=[t]) (Fr.set hst (.inl ⟨_,rfl,J8 _ _ _ c2'⟩))).trans (Fr.app [t] _ []))
        exact this
      obtain ⟨hz0,h⟩:=yB h
      have hz:has z t=false:=by
       cases hh:has z t with
       |false=>rfl
       |true=>rw [hh] at hz0;cases hz0
      obtain ⟨l',hl',h⟩:=dN h;obtain ⟨hll,hk⟩:=kG h;obtain ⟨hl'e,hle⟩:=FE hl';subst hl'e;have hll':=ci hll;have htl:(l.take len).length=len:=by rw [db];omega
      rw [htl] at hle;have hlen:(LY [t] (s.set t .dead)).length=s.length:=by rw [GP];simp
      have hal:(l.take len++m2).length=len+m2.length:=by rw [d9,htl]
      refine ⟨_,_,?_,jZ.put hS (b:= .dead) (q:= .dead) (l:=[.arr q (l.take len++m2)]) (ql:=[.arr q.length ((l.take len++m2).map (RT.pv q))]) (v:= .own s.length false) (p:= .own s.length q.length 0 (l.take len++m2).length (l.take len++m2).length false) (rd:=C2 vy) hst (.inr rfl) rfl rfl
       (fun j b hj=>by
        cases j with
        |zero=>simp at hj;subst hj;exact ⟨_,rfl,rfl⟩
        |succ j=>simp at hj)
       ⟨q.length,(l.take len++m2).length,rfl,.inl ⟨q,l.take len++m2,by rw [<- hlen];exact vY,rfl,rfl⟩⟩,hk⟩
      rw [pe_app,hx];unfold kY;rw [hro];subst he;cases m2 with
      |nil=>cases hm
      |cons a m2=>
       have h2:cm (len+(m2.length+1)) most=true:=by simp [most] at hle ⊢;omega
       simp only [cu] at c1 hal;simp only [c7,cu,cq,harr,c9,gf,ce,if_false,c1,h2,hz,hS.len,htk,hal,dm,d8,dh]
    |_=>cases h
  |_=>cases h
end
end Go.Vm
/- Operation by operation: all of them. -/
namespace Go.Vm
section
variable {R' ρ : Type} {w : R' -> ρ} {y : ρ} {s : List SB} {ps : dC} {e : SE} {pe : zQ} {z : List Nat} {k : iD -> jK R'}
theorem aDX (hE:eZ s e pe) (hS:dD s ps) {esz:Nat} {zero:rY} {x:gX} (h:qC e s z (.clear esz zero x) k ρ w=some y):jL s ps (bS pe ps z (.clear esz zero x)) k ρ w y:=by
 simp only [qC] at h;have hx:=eW hE x;unfold aE8 at h;generalize cK e x=v at h hx;cases v with
 |part t off len cap ex=>
  simp only [cT] at h;generalize hst:s[t]? =b at h;cases b with
  |none=>cases h
  |some b=>
   cases b with
   |arr r l=>
    dsimp only at h;cases hq:PC zero with
    |none=>rw [hq] at h;cases h
    |some q=>
     rw [hq] at h;dsimp only at h;obtain ⟨hc,h1⟩:=dL h;simp only [bo] at hc;obtain ⟨hqr,he⟩:=hc;have hqr:=B9 hqr;have he:=bn he;obtain ⟨e',hx,hat⟩:=hx
     have:=hat.inv hst
     subst this;subst hqr;subst he;rcases gB h1 with ⟨hl,hk⟩|⟨hl,hk⟩
     · have hl:=bn hl
       subst hl;exact jL.val hS hk (by simp only [bS,hx]) rfl
     obtain ⟨hc2,hk⟩:=kG hk
     simp only [bo,cw] at hc2;obtain ⟨c1,c2⟩:=hc2;have c1':=ci c1;have hlen:=J8 l (dc len (RT.zero q)) off (by simpa using c1')
     refine ⟨_,_,?_,jZ.put0 hS (b:= .arr q (jY l off (dc len (RT.zero q)))) (q:= .arr q.length ((jY l off (dc len (RT.zero q))).map (RT.pv q))) (rd:=[]) hst (.inl ⟨_,rfl,hlen⟩) rfl,hk⟩;cases len with
     |zero=>cases hl
     |succ len=>
      have hsr:oE off (dc (len+1) zero) (l.map (RT.pv q))=(jY l off (dc (len+1) (RT.zero q))).map (RT.pv q):=by
       rw [PW,AG _ _ _ (by simpa using c1')]
       simp [J5 hq]
      simp only [bS,hx,hS.arr hst,c9,c2,dy,c8,if_true,hsr]
   |_=>cases h
 |_=>cases h
theorem IT (hS:dD s ps) {t off len cap:Nat} {ex:Bool} {r:List PT} {l:List (RT r)} {x yy:gX} {vy:SV} (hst:s[t]? =some (.arr r l)) (hx:x.ev pe= .own t r.length off len cap ex) (hyv:R s vy (yy.ev pe))
 (h:PD s z t r l off len vy k ρ w=some y):jL s ps (bS pe ps z (.copy r.length x yy)) k ρ w y:=by
 unfold PD at h;cases hc:HI s vy with
 |none=>rw [hc] at h;cases h
 |some cc=>
  obtain ⟨q,m⟩:=cc;rw [hc] at h;dsimp only at h;cases hca:AD q r m with
  |none=>rw [hca] at h;cases h
  |some m2=>
   rw [hca] at h;dsimp only at h;obtain ⟨hqr,hmp,hml⟩:=J0 hca;subst hqr;obtain ⟨hro,htk⟩:=aCm hS hyv hc;rw [<- hmp] at hro;have htake:(m2.map (RT.pv q)).take len=(m2.take len).map (RT.pv q):=by rw [dh]
   generalize m2.take len=mm at h htake;rcases gB h with ⟨hm,hk⟩|⟨hm,hk⟩
   · have hm:mm=[]:=by simpa using hm
     subst hm;refine jL.rd hS hk ?_ rfl;simp only [bS,hro,hx,htake,gn,htk]
   obtain ⟨hc2,hk⟩:=kG hk
   simp only [bo,cw] at hc2;obtain ⟨c1,c2⟩:=hc2;have c1':=ci c1;have hlen:=J8 l mm off c1'
   refine ⟨_,_,?_,jZ.put hS (b:= .arr q (jY l off mm)) (q:= .arr q.length ((jY l off mm).map (RT.pv q))) (l:=[]) (ql:=[]) (v:= .int .i64 (.ofNat mm.length)) (p:= .int .i64 (.ofNat mm.length)) (rd:=C2 vy) hst (.inl ⟨_,rfl,hlen⟩) rfl rfl (fun j b hj=>by simp at hj) rfl,hk⟩
   have hsr:oE off (mm.map (RT.pv q)) (l.map (RT.pv q))=(jY l off mm).map (RT.pv q):=by
    rw [PW,AG _ _ _ (by simpa using c1')]
   cases mm with
   |nil=>cases hm
   |cons a mm=>
    simp only [c7] at hsr htake;simp only [bS,hro,hx,htake,hS.arr hst,c9,c2,dy,c8,if_true,hsr,htk,cq,cu]
theorem aFx (hE:eZ s e pe) (hS:dD s ps) {esz:Nat} {x yy:gX} (h:qC e s z (.copy esz x yy) k ρ w=some y):jL s ps (bS pe ps z (.copy esz x yy)) k ρ w y:=by
 simp only [qC] at h;have hx:=eW hE x;have hyv:=eW hE yy;unfold aO8 at h;generalize cK e yy=vy at h hyv;generalize cK e x=v at h hx;cases v with
 |own t ex=>
  simp only [cT] at h;generalize hst:s[t]? =b at h;cases b with
  |none=>cases h
  |some b=>
   cases b with
   |arr r l=>
    obtain ⟨he,hk⟩:=dL h;have he:=bn he;subst he;obtain ⟨e',n',hx,hat⟩:=hx;obtain ⟨rfl,rfl⟩:=hat.inv hst;exact IT hS hst hx hyv hk
   |_=>cases h
 |pre t len cap ex=>
  simp only [cT] at h;generalize hst:s[t]? =b at h;cases b with
  |none=>cases h
  |some b=>
   cases b with
   |arr r l=>
    obtain ⟨he,hk⟩:=dL h;have he:=bn he;subst he;obtain ⟨e',hx,hat⟩:=hx
    have:=hat.inv hst
    subst this;exact IT hS hst hx hyv hk
   |_=>cases h
 |part t off len cap ex=>
  simp only [cT] at h;generalize hst:s[t]? =b at h;cases b with
  |none=>cases h
  |some b=>
   cases b with
   |arr r l=>
    obtain ⟨he,hk⟩:=dL h;have he:=bn he;subst he;obtain ⟨e',hx,hat⟩:=hx
    have:=hat.inv hst
    subst this;exact IT hS hst hx hyv hk
   |_=>cases h
 |_=>cases h
theorem aHH (hE:eZ s e pe) (hS:dD s ps) {op:oH} (h:qC e s z op k ρ w=some y):jL s ps (bS pe ps z op) k ρ w y:=by
 cases op with
 |mov x=>exact jL.val hS h rfl (eW hE x)
 |pick c a b=>exact aFr hE hS h
 |bin op a b=>exact aHw hE hS h
 |binb n a b=>exact aFm hE hS h
 |eqc n g a b=>exact aHx hE hS h
 |un op a=>exact aPD hE hS h
 |conv a x=>exact aFo hE hS h
 |len x=>exact aHy hE hS h
 |lenc n=>exact jL.val hS h rfl rfl
 |box x=>exact aHz hE hS h
 |alloc c=>exact aDT hS h
 |build z p=>exact aDS hE hS h
 |mkrow a b c d=>exact aDW hE hS h
 |load a p=>exact aFu hE hS h
 |store a p x=>exact aDV hE hS h
 |nilc x=>exact aFp hE hS h
 |fadr o x=>exact aFq hE hS h
 |fld a o x=>exact aHA hE hS h
 |iadr a x i=>exact aFs hE hS h
 |iadra n a x i=>exact aDU hE hS h
 |idx n a g x i=>exact aHE hE hS h
 |sidx x i=>exact aFt hE hS h
 |slc a x l h' m=>exact aHF hE hS h
 |mks a z l c=>exact aHG hE hS h
 |mkf f a b=>exact aHC hE hS h
 |mkm m=>exact aHD hS h
 |lookup n z o m q=>exact aA3 hE hS h
 |mapu n m q x=>exact aFw hE hS h
 |ext i x=>exact aHB hE hS h
 |append a x b=>exact aA4 hE hS h
 |copy a x b=>exact aFx hE hS h
 |clear a z x=>exact aDX hE hS h
 |mm m x xs=>exact aPE hE hS h
 |call m f a=>cases h
 |callv x a=>cases h
 |bad=>cases h
mutual
theorem aVP {bx:Nat->Option (List SV)} {pbx:Nat->Option (List PV)} (hS:dD s ps) (hb: ∀t l,bx t=some l-> ∃q,pbx t=some q/\pvL l=some q): ∀{v u:SV} {p:PV},R s v p->TA s bx v=some u-> ∃q,LD ps pbx p=some q/\yL u=some q
 | .int k n,u,p,h,hx=>by injection hx with hx;subst hx;rw [show p=_ from h];exact ⟨_,rfl,rfl⟩
 | .bool b,u,p,h,hx=>by injection hx with hx;subst hx;rw [show p=_ from h];exact ⟨_,rfl,rfl⟩
 | .str x,u,p,h,hx=>by injection hx with hx;subst hx;rw [show p=_ from h];exact ⟨_,rfl,rfl⟩
 | .nilf,u,p,h,hx=>by injection hx with hx;subst hx;rw [show p=_ from h];exact ⟨_,rfl,rfl⟩
 | .agg cs,u,p,h,hx=>by
  obtain ⟨q,rfl,h⟩:=h;simp only [TA] at hx;split at hx
  · rename_i l hl
    injection hx with hx;subst hx;obtain ⟨q',h1,h2⟩:=exVL_R hS hb h hl;exact ⟨.agg q',by simp only [LD,h1];rfl,by simp only [yL,h2]⟩
  cases hx
 | .tup cs,u,p,h,hx=>by
  obtain ⟨q,rfl,h⟩:=h;simp only [TA] at hx;split at hx
  · rename_i l hl
    injection hx with hx;subst hx;obtain ⟨q',h1,h2⟩:=exVL_R hS hb h hl;exact ⟨.tup q',by simp only [LD,h1];rfl,by simp only [yL,h2]⟩
  cases hx
 | .sl r l,u,p,h,hx=>by injection hx with hx;subst hx;rw [show p=_ from h];exact ⟨_,rfl,rfl⟩
 | .nil e c,u,p,h,hx=>by injection hx with hx;subst hx;rw [show p=_ from h];exact ⟨_,rfl,rfl⟩
 | .own t ex,u,p,h,hx=>by
  simp only [TA,cT] at hx;split at hx
  · rename_i r l hst
    injection hx with hx;subst hx;obtain ⟨e,n,rfl,hat⟩:=h;obtain ⟨rfl,rfl⟩:=hat.inv hst;refine ⟨.sl r.length false (l.map (RT.pv r)),?_,rfl⟩;simp only [LD,hS.arr hst,dm];rw [dj (by simp)]
  cases hx
 | .pre t len cap ex,u,p,h,hx=>by
  simp only [TA,cT] at hx;split at hx
  · rename_i r l hst
    injection hx with hx;subst hx;obtain ⟨e,rfl,hat⟩:=h
    have:=hat.inv hst
    subst this;refine ⟨.sl r.length false ((l.take len).map (RT.pv r)),?_,rfl⟩;simp only [LD,hS.arr hst,dm,dh]
  cases hx
 | .part t off len cap ex,u,p,h,hx=>by
  simp only [TA,cT] at hx;split at hx
  · rename_i r l hst
    injection hx with hx;subst hx;obtain ⟨e,rfl,hat⟩:=h
    have:=hat.inv hst
    subst this;refine ⟨.sl r.length false (((l.drop off).take len).map (RT.pv r)),?_,rfl⟩;simp only [LD,hS.arr hst,dh,d7]
  cases hx
 | .pa t r i a off,u,p,h,hx=>by
  simp only [TA,cT] at hx;split at hx
  · rename_i q l hst
    injection hx with hx;subst hx;obtain ⟨rfl,hat⟩:=h;obtain ⟨rfl,hg⟩:=hat.inv hst;obtain ⟨m,rfl,hm⟩:=rI hg;refine ⟨.rptr (RT.pv r a) off,?_,by simp only [yL,RT.pv_sv]⟩
    have hm':(l.map (RT.pv r))[m]? =some (RT.pv r a):=by simp [hm]
    have e1:(dw m).toNat=m:=rfl;simp only [LD,hS.arr hst,e1,hm'];rfl
  cases hx
 | .bp t n off,u,p,h,hx=>by
  simp only [TA,cT] at hx;split at hx
  · rename_i cs hst
    split at hx
    · rename_i l hl
      injection hx with hx;subst hx;rw [show p=_ from h];obtain ⟨q,h1,h2⟩:=hb t l hl;obtain ⟨c,h3,_⟩:=hS.box hst;refine ⟨.rptr q off,?_,by simp only [yL,h2]⟩
      simp only [LD,h3,c9,if_true,h1];rfl
    cases hx
  cases hx
 | .rptr cs off,u,p,h,hx=>by
  obtain ⟨q,rfl,h⟩:=h;simp only [TA] at hx;split at hx
  · rename_i l hl
    injection hx with hx;subst hx;obtain ⟨q',h1,h2⟩:=exVL_R hS hb h hl;exact ⟨.rptr q' off,by simp only [LD,h1];rfl,by simp only [yL,h2]⟩
  cases hx
 | .clo f a b,u,p,h,hx=>by
  obtain ⟨pa,pb,rfl,h1,h2⟩:=h;simp only [TA] at hx;split at hx
  · rename_i x y' h3 h4
    injection hx with hx;subst hx;obtain ⟨qa,h5,h6⟩:=exVL_R hS hb h1 h3;obtain ⟨qb,h7,h8⟩:=exVL_R hS hb h2 h4;exact ⟨.clo f qa qb,by simp only [LD,h5,h7],by simp only [yL,h6,h8]⟩
  cases hx
 | .junk,_,_,_,hx| .undef,_,_,_,hx| .nul,_,_,_,hx| .pb _ _ _,_,_,_,hx| .mp _,_,_,_,hx=>by cases hx
theorem exVL_R {bx:Nat->Option (List SV)} {pbx:Nat->Option (List PV)} (hS:dD s ps) (hb: ∀t l,bx t=some l-> ∃q,pbx t=some q/\pvL l=some q): ∀{v u:List SV} {p:List PV},RL s v p->exVL s bx v=some u-> ∃q,exL ps pbx p=some q/\pvL u=some q
 | [],u,p,h,hx=>by injection hx with hx;subst hx;rw [show p=_ from h];exact ⟨_,rfl,rfl⟩
 |x::xs,u,p,h,hx=>by
  obtain ⟨q,qs,rfl,h1,h2⟩:=h.cons_inv;simp only [exVL] at hx;split at hx
  · rename_i y' ys h3 h4
    injection hx with hx;subst hx;obtain ⟨a,h5,h6⟩:=aVP hS hb h1 h3;obtain ⟨as,h7,h8⟩:=exVL_R hS hb h2 h4;exact ⟨a::as,by simp only [exL,h5,h7],fR.2 ⟨a,as,rfl,h6,h8⟩⟩
  cases hx
end
theorem N2 (hS:dD s ps): ∀(n t:Nat) (l:List SV),nU s n t=some l-> ∃q,EY ps n t=some q/\pvL l=some q
 |0,t,l,h=>by cases h
 |n+1,t,l,h=>by
  simp only [nU,cT] at h;split at h
  · rename_i cs hst
    obtain ⟨q,h1,h2⟩:=hS.box hst;obtain ⟨u,h3,h4⟩:=exVL_R hS (N2 hS n) h2 h;exact ⟨u,by simp only [EY,h1,h3],h4⟩
  cases h
mutual
theorem aFy {bx pbx:Nat->List Nat} (hb: ∀t,bx t=pbx t): ∀{v:SV} {p:PV},R s v p->v.sure=true->tkV bx v=lI pbx p
 | .junk,_,_,h=>by cases h
 | .undef,p,h,_| .nul,p,h,_| .nilf,p,h,_| .int _ _,p,h,_| .bool _,p,h,_| .str _,p,h,_| .sl _ _,p,h,_| .nil _ _,p,h,_=>by rw [show p=_ from h];rfl
 | .agg cs,p,h,hs=>by obtain ⟨q,rfl,h⟩:=h;exact tkVL_R hb h hs
 | .tup cs,p,h,hs=>by obtain ⟨q,rfl,h⟩:=h;exact tkVL_R hb h hs
 | .own t ex,p,h,_=>by obtain ⟨e,n,rfl,_⟩:=h;rfl
 | .pre t a b c,p,h,_=>by obtain ⟨e,rfl,_⟩:=h;rfl
 | .part t o a b c,p,h,_=>by obtain ⟨e,rfl,_⟩:=h;rfl
 | .pa t r i a o,p,h,_=>by obtain ⟨rfl,_⟩:=h;simp only [tkV,lI,hb]
 | .pb t i o,p,h,_=>by obtain ⟨e,rfl,_⟩:=h;simp only [tkV,lI,hb]
 | .bp t n o,p,h,_=>by rw [show p=_ from h];simp only [tkV,lI,hb]
 | .rptr cs o,p,h,hs=>by obtain ⟨q,rfl,h⟩:=h;exact tkVL_R hb h hs
 | .mp t,p,h,_=>by rw [show p=_ from h];rfl
 | .clo f a b,p,h,hs=>by
  obtain ⟨pa,pb,rfl,h1,h2⟩:=h;simp only [SV.sure,bo] at hs;simp only [tkV,lI,tkVL_R hb h1 hs.1,tkVL_R hb h2 hs.2]
theorem tkVL_R {bx pbx:Nat->List Nat} (hb: ∀t,bx t=pbx t): ∀{v:List SV} {p:List PV},RL s v p->sureL v=true->tkVL bx v=toksL pbx p
 | [],p,h,_=>by rw [show p=_ from h];rfl
 |x::xs,p,h,hs=>by
  obtain ⟨q,qs,rfl,h1,h2⟩:=h.cons_inv;simp only [sureL,bo] at hs;simp only [tkVL,toksL,aFy hb h1 hs.1,tkVL_R hb h2 hs.2]
end
end
end Go.Vm
/- The head of a loop: what the typed machine keeps there, the logical machine keeps there. -/
namespace Go.Vm
section
variable {s : List SB} {ps : dC}
mutual
theorem aVQ {n:Nat} (hS:dD s ps) (hB: ∀t l,nU s n t=some l->EW s n t=dU ps n t): ∀{v u:SV} {p:PV},R s v p->TA s (nU s n) v=some u->tkV (EW s n) v=lI (dU ps n) p
 | .int _ _,_,p,h,_| .bool _,_,p,h,_| .str _,_,p,h,_| .nilf,_,p,h,_| .sl _ _,_,p,h,_| .nil _ _,_,p,h,_=>by rw [show p=_ from h];rfl
 | .agg cs,u,p,h,hx=>by
  obtain ⟨q,rfl,h⟩:=h;simp only [TA] at hx;split at hx
  · rename_i l hl;exact tkExL hS hB h hl
  cases hx
 | .tup cs,u,p,h,hx=>by
  obtain ⟨q,rfl,h⟩:=h;simp only [TA] at hx;split at hx
  · rename_i l hl;exact tkExL hS hB h hl
  cases hx
 | .own t ex,_,p,h,_=>by obtain ⟨e,n,rfl,_⟩:=h;rfl
 | .pre t a b c,_,p,h,_=>by obtain ⟨e,rfl,_⟩:=h;rfl
 | .part t o a b c,_,p,h,_=>by obtain ⟨e,rfl,_⟩:=h;rfl
 | .pa t r i a o,_,p,h,hx=>by
  obtain ⟨rfl,hat⟩:=h;simp only [TA,cT] at hx;split at hx
  · rename_i q l hst
    simp only [tkV,lI];cases n with
    |zero=>rfl
    |succ n=>simp only [EW,dU,cT,hst,hS.arr hst]
  cases hx
 | .bp t m o,u,p,h,hx=>by
  rw [show p=_ from h];simp only [TA,cT] at hx;split at hx
  · split at hx
    · rename_i l hl
      simp only [tkV,lI,hB t l hl]
    cases hx
  cases hx
 | .rptr cs o,u,p,h,hx=>by
  obtain ⟨q,rfl,h⟩:=h;simp only [TA] at hx;split at hx
  · rename_i l hl;exact tkExL hS hB h hl
  cases hx
 | .clo f a b,u,p,h,hx=>by
  obtain ⟨pa,pb,rfl,h1,h2⟩:=h;simp only [TA] at hx;split at hx
  · rename_i x y h3 h4
    simp only [tkV,lI,tkExL hS hB h1 h3,tkExL hS hB h2 h4]
  cases hx
 | .junk,_,_,_,hx| .undef,_,_,_,hx| .nul,_,_,_,hx| .pb _ _ _,_,_,_,hx| .mp _,_,_,_,hx=>by cases hx
theorem tkExL {n:Nat} (hS:dD s ps) (hB: ∀t l,nU s n t=some l->EW s n t=dU ps n t): ∀{v u:List SV} {p:List PV},RL s v p->exVL s (nU s n) v=some u->tkVL (EW s n) v=toksL (dU ps n) p
 | [],_,p,h,_=>by rw [show p=_ from h];rfl
 |x::xs,u,p,h,hx=>by
  obtain ⟨q,qs,rfl,h1,h2⟩:=h.cons_inv;simp only [exVL] at hx;split at hx
  · rename_i a b h3 h4
    simp only [tkVL,toksL,aVQ hS hB h1 h3,tkExL hS hB h2 h4]
  cases hx
end
theorem aFz {n:Nat} (hS:dD s ps) (hB: ∀t l,nU s n t=some l->EW s n t=dU ps n t): ∀{v:List SV} {p:List PV},RL s v p->aAT s (nU s n) v=true->tkVL (EW s n) v=toksL (dU ps n) p
 | [],p,h,_=>by rw [show p=[] from h];rfl
 |x::xs,p,h,hx=>by
  obtain ⟨a,as,rfl,h1,h2⟩:=h.cons_inv;have other: ∀u,TA s (nU s n) x=some u->aAT s (nU s n) xs=true->tkVL (EW s n) (x::xs)=toksL (dU ps n) (a::as):=fun u h3 h4=>by
   simp only [tkVL,toksL,aVQ hS hB h1 h3,aFz hS hB h2 h4]
  unfold aAT at hx;split at hx
  · rename_i t
    rw [show a= .mp t from h1];simp only [tkVL,toksL,tkV,lI,aFz hS hB h2 hx]
  split at hx
  · rename_i u h3
    exact other u h3 hx
  cases hx
theorem PX (hS:dD s ps): ∀(n t:Nat) (l:List SV),nU s n t=some l->EW s n t=dU ps n t
 |0,t,l,h=>rfl
 |n+1,t,l,h=>by
  simp only [nU,cT] at h;split at h
  · rename_i cs hst
    obtain ⟨q,h1,h2⟩:=hS.box hst;simp only [EW,dU,cT,hst,h1];exact tkExL hS (PX hS n) h2 h
  cases h
theorem VA {b:SB} {q:mU} (h:RB s b q) (hs:GM b=true):PE b=xK q:=by
 cases b with
 |box cs=>obtain ⟨c,rfl,h⟩:=h;exact tkVL_R (fun _=>rfl) h hs
 |arr r l=>rw [show q=_ from h];rfl
 |set l=>rw [show q=_ from h];rfl
 |tab p l=>rw [show q=_ from h];rfl
 |dead=>rw [show q=_ from h];rfl
theorem PY (hS:dD s ps): ∀(n:Nat) (ts seen m:List Nat),LW s n ts seen=some m->JI ps n ts seen=some m
 |n,[],seen,m,h=>by
  cases n<;>(simp only [LW] at h;exact h)
 |0,_::_,_,_,h=>by cases h
 |n+1,t::ts,seen,m,h=>by
  simp only [LW,cT] at h;simp only [JI];cases hh:has seen t with
  |true=>rw [hh] at h;simp only [cond_true] at h;simp only [if_true];exact PY hS n ts seen m h
  |false=>
   rw [hh] at h;simp only [cond_false] at h;simp only [ce,if_false];split at h
   · rename_i b hst
     obtain ⟨q,h1,h2⟩:=hS.at_ t b hst;cases hb:GM b with
     |false=>rw [hb] at h;cases h
     |true=>
      rw [hb] at h;simp only [cond_true] at h;rw [h1,VA h2 hb] at*;exact PY hS n _ _ m h
   cases h
theorem PZ: ∀{t u:Nat} {m:List Nat},vO t m=some u->m[u]? =some t
 |t,u,[],h=>by cases h
 |t,u,x::m,h=>by
  simp only [vO] at h;cases hb:df x t with
  |true=>rw [hb] at h;simp at h;subst h;simp [bn hb]
  |false=>
   rw [hb] at h;simp only [ce,if_false,cz] at h;obtain ⟨v,hv,rfl⟩:=h;simpa using PZ hv
def P0 (m:List Nat) (s s':List SB):Prop:= ∀(t u:Nat) (b:SB),vO t m=some u->s[t]? =some b->match b with
 | .arr r l=>s'[u]? =some (.arr r l)
 | .dead=>s'[u]? =some .dead
 |_=>True
mutual
theorem aFA {m:List Nat} {s':List SB} (hr:P0 m s s'): ∀{v u:SV} {p:PV},R s v p->vX m v=some u-> ∃q,ren m p=some q/\R s' u q
 | .junk,_,_,_,hx=>by cases hx
 | .undef,u,p,h,hx| .nul,u,p,h,hx| .nilf,u,p,h,hx| .int _ _,u,p,h,hx| .bool _,u,p,h,hx| .str _,u,p,h,hx| .sl _ _,u,p,h,hx| .nil _ _,u,p,h,hx=>by
  injection hx with hx;subst hx;rw [show p=_ from h];exact ⟨_,rfl,rfl⟩
 | .agg cs,u,p,h,hx=>by
  obtain ⟨q,rfl,h⟩:=h;simp only [vX] at hx;split at hx
  · rename_i l hl
    injection hx with hx;subst hx;obtain ⟨q',h1,h2⟩:=renVL_R hr h hl;exact ⟨.agg q',by simp only [ren,h1];rfl,q',rfl,h2⟩
  cases hx
 | .tup cs,u,p,h,hx=>by
  obtain ⟨q,rfl,h⟩:=h;simp only [vX] at hx;split at hx
  · rename_i l hl
    injection hx with hx;subst hx;obtain ⟨q',h1,h2⟩:=renVL_R hr h hl;exact ⟨.tup q',by simp only [ren,h1];rfl,q',rfl,h2⟩
  cases hx
 | .own t ex,u,p,h,hx=>by
  obtain ⟨e,n,rfl,hat⟩:=h;simp only [vX] at hx;split at hx
  · rename_i v hv
    injection hx with hx;subst hx;refine ⟨.own v e 0 n n ex,by simp only [ren,hv];rfl,e,n,rfl,?_⟩
    rcases hat with ⟨r,l,h1,h2,h3⟩|h1
    · exact .inl ⟨r,l,hr t v _ hv h1,h2,h3⟩
    exact .inr (hr t v _ hv h1)
  cases hx
 | .pre t len cap ex,u,p,h,hx=>by
  obtain ⟨e,rfl,hat⟩:=h;simp only [vX] at hx;split at hx
  · rename_i v hv
    injection hx with hx;subst hx;refine ⟨.own v e 0 len cap ex,by simp only [ren,hv];rfl,e,rfl,?_⟩
    rcases hat with ⟨r,l,h1,h2⟩|h1
    · exact .inl ⟨r,l,hr t v _ hv h1,h2⟩
    exact .inr (hr t v _ hv h1)
  cases hx
 | .part t off len cap ex,u,p,h,hx=>by
  obtain ⟨e,rfl,hat⟩:=h;simp only [vX] at hx;split at hx
  · rename_i v hv
    injection hx with hx;subst hx;refine ⟨.own v e off len cap ex,by simp only [ren,hv];rfl,e,rfl,?_⟩
    rcases hat with ⟨r,l,h1,h2⟩|h1
    · exact .inl ⟨r,l,hr t v _ hv h1,h2⟩
    exact .inr (hr t v _ hv h1)
  cases hx
 | .pa t r i a off,u,p,h,hx=>by
  obtain ⟨rfl,hat⟩:=h;simp only [vX] at hx;split at hx
  · rename_i v hv
    injection hx with hx;subst hx;refine ⟨.ptr v r.length i.toNat off,by simp only [ren,hv];rfl,r.length,rfl,?_⟩
    rcases hat with ⟨l,h1,h2⟩|h1
    · exact .inl ⟨r,l,hr t v _ hv h1,by rw [h2];rfl⟩
    exact .inr (hr t v _ hv h1)
  cases hx
 | .pb t i off,u,p,h,hx=>by
  obtain ⟨e,rfl,hat⟩:=h;simp only [vX] at hx;split at hx
  · rename_i v hv
    injection hx with hx;subst hx;refine ⟨.ptr v e i.toNat off,by simp only [ren,hv];rfl,e,rfl,?_⟩
    rcases hat with ⟨r,l,h1,h2⟩|h1
    · exact .inl ⟨r,l,hr t v _ hv h1,h2⟩
    exact .inr (hr t v _ hv h1)
  cases hx
 | .bp t n off,u,p,h,hx=>by
  rw [show p=_ from h];simp only [vX] at hx;split at hx
  · rename_i v hv
    injection hx with hx;subst hx;exact ⟨.ptr v n 0 off,by simp only [ren,hv];rfl,rfl⟩
  cases hx
 | .rptr cs off,u,p,h,hx=>by
  obtain ⟨q,rfl,h⟩:=h;simp only [vX] at hx;split at hx
  · rename_i l hl
    injection hx with hx;subst hx;obtain ⟨q',h1,h2⟩:=renVL_R hr h hl;exact ⟨.rptr q' off,by simp only [ren,h1];rfl,q',rfl,h2⟩
  cases hx
 | .mp t,u,p,h,hx=>by
  rw [show p=_ from h];simp only [vX] at hx;split at hx
  · rename_i v hv
    injection hx with hx;subst hx;exact ⟨.mp v,by simp only [ren,hv];rfl,rfl⟩
  cases hx
 | .clo f a b,u,p,h,hx=>by
  obtain ⟨pa,pb,rfl,h1,h2⟩:=h;simp only [vX] at hx;split at hx
  · rename_i x y h3 h4
    injection hx with hx;subst hx;obtain ⟨qa,h5,h6⟩:=renVL_R hr h1 h3;obtain ⟨qb,h7,h8⟩:=renVL_R hr h2 h4;exact ⟨.clo f qa qb,by simp only [ren,h5,h7],qa,qb,rfl,h6,h8⟩
  cases hx
theorem renVL_R {m:List Nat} {s':List SB} (hr:P0 m s s'): ∀{v u:List SV} {p:List PV},RL s v p->renVL m v=some u-> ∃q,renL m p=some q/\RL s' u q
 | [],u,p,h,hx=>by injection hx with hx;subst hx;rw [show p=_ from h];exact ⟨_,rfl,rfl⟩
 |x::xs,u,p,h,hx=>by
  obtain ⟨q,qs,rfl,h1,h2⟩:=h.cons_inv;simp only [renVL] at hx;split at hx
  · rename_i a b h3 h4
    injection hx with hx;subst hx;obtain ⟨a',h5,h6⟩:=aFA hr h1 h3;obtain ⟨b',h7,h8⟩:=renVL_R hr h2 h4;exact ⟨a'::b',by simp only [renL,h5,h7],RL.cons h6 h8⟩
  cases hx
end
theorem aPF {m:List Nat} {s':List SB} (hr:P0 m s s') {b c:SB} {q:mU} (h:RB s b q) (hx:aFc m b=some c): ∃q',sA m q=some q'/\RB s' c q':=by
 cases b with
 |box cs=>
  obtain ⟨p,rfl,h⟩:=h;simp only [aFc] at hx;split at hx
  · rename_i l hl
    injection hx with hx;subst hx;obtain ⟨q',h1,h2⟩:=renVL_R hr h hl;exact ⟨.box q',by simp only [sA,h1];rfl,q',rfl,h2⟩
  cases hx
 |arr r l=>injection hx with hx;subst hx;rw [show q=_ from h];exact ⟨_,rfl,rfl⟩
 |set l=>injection hx with hx;subst hx;rw [show q=_ from h];exact ⟨_,rfl,rfl⟩
 |tab p l=>injection hx with hx;subst hx;rw [show q=_ from h];exact ⟨_,rfl,rfl⟩
 |dead=>injection hx with hx;subst hx;rw [show q=_ from h];exact ⟨_,rfl,rfl⟩
theorem FF {m:List Nat}: ∀{ts:List Nat} {s1:List SB},SG s m ts=some s1->s1.length=ts.length/\ ∀(j t:Nat),ts[j]? =some t-> ∃b c,s[t]? =some b/\aFc m b=some c/\s1[j]? =some c
 | [],s1,h=>by injection h with h;subst h;exact ⟨rfl,fun j t h=>by simp at h⟩
 |t::ts,s1,h=>by
  simp only [SG,cT] at h;split at h
  · rename_i b hb
    split at h
    · rename_i c r hc hr
      injection h with h;subst h;obtain ⟨h1,h2⟩:=FF hr;refine ⟨by simp [h1],fun j u hj=>?_⟩
      cases j with
      |zero=>simp at hj;subst hj;exact ⟨b,c,hb,hc,rfl⟩
      |succ j=>simpa using h2 j u (by simpa using hj)
    cases h
  cases h
theorem L1 (hS:dD s ps) {m:List Nat} {s':List SB} (hr:P0 m s s'): ∀{ts:List Nat} {s1:List SB},SG s m ts=some s1-> ∃p1,EZ ps m ts=some p1/\p1.length=s1.length/\ ∀(j:Nat) (b:SB),s1[j]? =some b-> ∃q,p1[j]? =some q/\RB s' b q
 | [],s1,h=>by injection h with h;subst h;exact ⟨[],rfl,rfl,fun j b h=>by simp at h⟩
 |t::ts,s1,h=>by
  simp only [SG,cT] at h;split at h
  · rename_i b hb
    split at h
    · rename_i c r hc hr'
      injection h with h;subst h;obtain ⟨q,h1,h2⟩:=hS.at_ t b hb;obtain ⟨q',h3,h4⟩:=aPF hr h2 hc;obtain ⟨p1,h5,h6,h7⟩:=L1 hS hr hr';refine ⟨q'::p1,by simp only [EZ,h1,h3,h5],by simp [h6],fun j x hj=>?_⟩
      cases j with
      |zero=>simp at hj;subst hj;exact ⟨q',rfl,h4⟩
      |succ j=>simpa using h7 j x (by simpa using hj)
    cases h
  cases h
theorem P0.of {m:List Nat} {s1 l:List SB} (h:SG s m m=some s1):P0 m s (s1++l):=fun t u b hu hb=>by
 have hm:=PZ hu;obtain ⟨h1,h2⟩:=FF h;obtain ⟨b',c,h3,h4,h5⟩:=h2 u t hm;rw [hb] at h3;injection h3 with h3;subst h3;have hlt:=(bq.1 h5).1;cases b with
 |arr r l'=>injection h4 with h4;subst h4;rw [bu hlt];exact h5
 |dead=>injection h4 with h4;subst h4;rw [bu hlt];exact h5
 |_=>trivial
theorem CB: ∀(rk:List (Nat×List PT)) (n:Nat),(EJ rk n).length=n
 | [],n=>by simp [EJ]
 |(m,r)::q,n=>by
  simp only [EJ];cases hc:(df m n&&df r.length n) with
  |true=>simp only [bo] at hc;exact bn hc.2
  |false=>exact CB q n
theorem L2 {rk:List (Nat×List PT)} {e:SE} {m:List Nat}: ∀{live:List (Nat×Option Nat)} {nx:Nat} {e1:SE} {s2:List SB},EK rk e m nx live=some (e1,s2)-> ∀(j:Nat) (b:SB),s2[j]? =some b-> ∃r,b= .arr r []
 | [],nx,e1,s2,h,j,b,hj=>by
  simp only [EK,cd,dd] at h;rw [<- h.2] at hj;simp at hj
 |(t,k)::live,nx,e1,s2,h,j,b,hj=>by
  simp only [EK] at h;split at h
  · split at h
    · rename_i p hp
      simp only [cd,dd] at h;obtain ⟨rfl,rfl⟩:=h;cases j with
      |zero=>simp at hj;exact ⟨_,hj.symm⟩
      |succ j=>exact L2 (e1:=p.1) (s2:=p.2) hp j b (by simpa using hj)
    cases h
  split at h
  · rename_i v' p hv hp
    simp only [cd,dd] at h;obtain ⟨rfl,rfl⟩:=h;exact L2 (e1:=p.1) (s2:=p.2) hp j b hj
  cases h
mutual
theorem L3 {m:List Nat}: ∀{v u:SV},vX m v=some u->u.sure=true
 | .junk,_,h=>by cases h
 | .undef,u,h| .nul,u,h| .nilf,u,h| .int _ _,u,h| .bool _,u,h| .str _,u,h| .sl _ _,u,h| .nil _ _,u,h=>by injection h with h;subst h;rfl
 | .agg cs,u,h=>by
  simp only [vX] at h;split at h
  · rename_i l hl;injection h with h;subst h;exact renVL_sure hl
  cases h
 | .tup cs,u,h=>by
  simp only [vX] at h;split at h
  · rename_i l hl;injection h with h;subst h;exact renVL_sure hl
  cases h
 | .rptr cs _,u,h=>by
  simp only [vX] at h;split at h
  · rename_i l hl;injection h with h;subst h;exact renVL_sure hl
  cases h
 | .own _ _,u,h=>by simp only [vX] at h;split at h<;>first|(injection h with h;subst h;rfl)|cases h
 | .pre _ _ _ _,u,h=>by simp only [vX] at h;split at h<;>first|(injection h with h;subst h;rfl)|cases h
 | .part _ _ _ _ _,u,h=>by simp only [vX] at h;split at h<;>first|(injection h with h;subst h;rfl)|cases h
 | .pa _ _ _ _ _,u,h=>by simp only [vX] at h;split at h<;>first|(injection h with h;subst h;rfl)|cases h
 | .pb _ _ _,u,h=>by simp only [vX] at h;split at h<;>first|(injection h with h;subst h;rfl)|cases h
 | .bp _ _ _,u,h=>by simp only [vX] at h;split at h<;>first|(injection h with h;subst h;rfl)|cases h
 | .mp _,u,h=>by simp only [vX] at h;split at h<;>first|(injection h with h;subst h;rfl)|cases h
 | .clo f a b,u,h=>by
  simp only [vX] at h;split at h
  · rename_i x y h1 h2
    injection h with h;subst h;simp only [SV.sure,renVL_sure h1,renVL_sure h2,c8]
  cases h
theorem renVL_sure {m:List Nat}: ∀{v u:List SV},renVL m v=some u->sureL u=true
 | [],u,h=>by injection h with h;subst h;rfl
 |x::xs,u,h=>by
  simp only [renVL] at h;split at h
  · rename_i a b h1 h2
    injection h with h;subst h;simp only [sureL,L3 h1,renVL_sure h2,c8]
  cases h
end
theorem aHI {s:List SB} {v:SV} {p:PV} (h:R s v p): ∀k:Option Nat,v.sure=true->R s (U3 k v) (exOff k p)
 |none,_=>h
 |some _,hs=>by
  cases v with
  |own t ex=>obtain ⟨e,n,rfl,h⟩:=h;exact ⟨e,n,rfl,h⟩
  |pre t l c ex=>obtain ⟨e,rfl,h⟩:=h;exact ⟨e,rfl,h⟩
  |part t o l c ex=>obtain ⟨e,rfl,h⟩:=h;exact ⟨e,rfl,h⟩
  |junk=>cases hs
  |undef|nul|nilf|int _ _|bool _|str _|bp _ _ _|mp _|sl _ _|nil _ _=>rw [show p=_ from h];rfl
  |agg _|tup _|rptr _ _=>obtain ⟨q,rfl,h⟩:=h;exact ⟨q,rfl,h⟩
  |clo _ _ _=>obtain ⟨q,q2,rfl,h⟩:=h;exact ⟨q,q2,rfl,h⟩
  |pa _ _ _ _ _=>obtain ⟨rfl,h⟩:=h;exact ⟨rfl,h⟩
  |pb _ _ _=>obtain ⟨q,rfl,h⟩:=h;exact ⟨q,rfl,h⟩
theorem aA5 {v:SV} (h:v.sure=true) (k:Option Nat):(U3 k v).sure=true:=by
 unfold U3;split<;>first|rfl|exact h
theorem VB {rk:List (Nat×List PT)} {e:SE} {pe:zQ} (hE:eZ s e pe) {m:List Nat} {s':List SB} (hr:P0 m s s'): ∀{live:List (Nat×Option Nat)} {nx:Nat} {e1:SE} {s2:List SB},EK rk e m nx live=some (e1,s2)->(∀(j:Nat) (b:SB),s2[j]? =some b->s'[nx+j]? =some b)->
 ∃p1 q2,xL pe m nx live=some (p1,q2)/\eZ s' e1 p1/\q2.length=s2.length/\ ∀(j:Nat) (b:SB),s2[j]? =some b-> ∃q,q2[j]? =some q/\RB s' b q
 | [],nx,e1,s2,h,_=>by
  simp only [EK,cd,dd] at h;obtain ⟨rfl,rfl⟩:=h;exact ⟨[],[],rfl,rfl,rfl,fun j b h=>by simp at h⟩
 |(t,k)::live,nx,e1,s2,h,hs=>by
  have hlk:=hE.lk t;simp only [EK] at h;split at h
  · rename_i kk esz en hv
    split at h
    · rename_i p hp
      simp only [cd,dd] at h;obtain ⟨rfl,rfl⟩:=h;rw [hv] at hlk;obtain ⟨p1,q2,h1,h2,h3,h4⟩:=VB (live:=live) (nx:=nx+1) (e1:=p.1) (s2:=p.2) hE hr hp (fun j b hj=>by
       have:=hs (j+1) b (by simpa using hj)
       rw [show nx+1+j=nx+(j+1) by omega];exact this)
      refine ⟨(t,.own nx esz 0 0 0 false)::p1,.arr esz []::q2,?_,⟨_,_,rfl,⟨esz,0,rfl,.inl ⟨EJ rk esz,[],by simpa using hs 0 _ rfl,(CB rk esz).symm,rfl⟩⟩,h2⟩,by simp [h3],fun j b hj=>?_⟩
      · have hlk':lk t pe= .sl en true []:=hlk
        simp only [xL,hlk',h1];rfl
      cases j with
      |zero=>simp at hj;subst hj;exact ⟨_,rfl,by show _=_;rw [CB];rfl⟩
      |succ j=>simpa using h4 j b (by simpa using hj)
    cases h
  rename_i hne
  split at h
  · rename_i v' p hv hp
    simp only [cd,dd] at h;obtain ⟨rfl,rfl⟩:=h;obtain ⟨q',h5,h6⟩:=aFA hr hlk hv;obtain ⟨p1,q2,h1,h2,h3,h4⟩:=VB (live:=live) (e1:=p.1) (s2:=p.2) hE hr hp hs;refine ⟨(t,exOff _ q')::p1,q2,?_,⟨_,_,rfl,aHI h6 _ (L3 hv),h2⟩,h3,h4⟩;simp only [xL];split
    · rename_i esz x hx
      exfalso;rw [hx] at hlk;generalize SC t e=v0 at hlk hv hne;cases v0 with
      |junk=>cases hv
      |nil e' c=>
       have hlk':PV.sl x true []= .sl e' c []:=hlk;injection hlk' with h1 h2;subst h2;exact hne _ _ rfl rfl
      |undef|nul|nilf|int _ _|bool _|str _|bp _ _ _|mp _=>cases (show PV.sl x true []=_ from hlk)
      |sl r l=>cases (show PV.sl x true []=_ from hlk)
      |agg _|tup _|rptr _ _=>obtain ⟨q,hq,_⟩:=hlk;cases hq
      |clo _ _ _=>obtain ⟨q,q2,hq,_⟩:=hlk;cases hq
      |own _ _=>obtain ⟨q,q2,hq,_⟩:=hlk;cases hq
      |pre _ _ _ _=>obtain ⟨q,hq,_⟩:=hlk;cases hq
      |part _ _ _ _ _=>obtain ⟨q,hq,_⟩:=hlk;cases hq
      |pa _ _ _ _ _=>obtain ⟨hq,_⟩:=hlk;cases hq
      |pb _ _ _=>obtain ⟨q,hq,_⟩:=hlk;cases hq
    simp only [h5,h1]
  cases h
def aPe (s:List SB):Prop:= ∀(t:Nat) (cs:List SV),s[t]? =some (.box cs)->sureL cs=true
def TG:SE->Prop
 | []=>True
 |(_,v)::r=>v.sure=true/\TG r
theorem TG.lk: ∀{e:SE},TG e-> ∀t,(SC t e).sure=true
 | [],_,t=>rfl
 |(u,v)::r,h,t=>by
  simp only [SC];cases hb:df u t with
  |true=>exact h.1
  |false=>exact TG.lk h.2 t
theorem IU {rk:List (Nat×List PT)} {e:SE} {m:List Nat}: ∀{live:List (Nat×Option Nat)} {nx:Nat} {e1:SE} {s2:List SB},EK rk e m nx live=some (e1,s2)->TG e1
 | [],nx,e1,s2,h=>by
  simp only [EK,cd,dd] at h;rw [<- h.1];trivial
 |(t,k)::live,nx,e1,s2,h=>by
  simp only [EK] at h;split at h
  · split at h
    · rename_i p hp
      simp only [cd,dd] at h;obtain ⟨rfl,rfl⟩:=h;exact ⟨rfl,IU (e1:=p.1) (s2:=p.2) hp⟩
    cases h
  split at h
  · rename_i v' p hv hp
    simp only [cd,dd] at h;obtain ⟨rfl,rfl⟩:=h;exact ⟨aA5 (L3 hv) _,IU (e1:=p.1) (s2:=p.2) hp⟩
  cases h
theorem TH: ∀{l:List SV},sureL l=true-> ∀{n:Nat} {v:SV},nth l n=some v->v.sure=true
 | [],_,_,_,h=>by cases h
 |x::xs,hs,0,v,h=>by injection h with h;subst h;simp only [sureL,bo] at hs;exact hs.1
 |x::xs,hs,n+1,v,h=>by simp only [sureL,bo] at hs;exact TH hs.2 (n:=n) h
theorem TI: ∀{l:List SV},sureL l=true-> ∀(n:Nat) {v:SV},v.sure=true->sureL (l.set n v)=true
 | [],_,n,v,_=>rfl
 |x::xs,hs,0,v,h=>by simp only [sureL,bo] at hs;simp [sureL,h,hs.2]
 |x::xs,hs,n+1,v,h=>by simp only [sureL,bo] at hs;simp [sureL,hs.1,TI hs.2 n h]
theorem RL.set {s:List SB}: ∀{xs:List SV} {ps:List PV},RL s xs ps-> ∀(n:Nat) {v:SV} {p:PV},R s v p->RL s (xs.set n v) (ps.set n p)
 | [],ps,h,n,v,p,_=>by rw [show ps=[] from h];exact RL.nil
 |x::xs,ps,h,0,v,p,hv=>by
  obtain ⟨a,q,rfl,h1,h2⟩:=h.cons_inv;exact RL.cons hv h2
 |x::xs,ps,h,n+1,v,p,hv=>by
  obtain ⟨a,q,rfl,h1,h2⟩:=h.cons_inv;exact RL.cons h1 (RL.set h2 n hv)
structure RSS (st:vW) (p:St):Prop where
 r:HM st p
 s:aPe st.sto
 e:TG st.env
theorem aA6 {rk:List (Nat×List PT)} {st:vW} {p:St} (h:RSS st p) (t c esz:Nat):RSS (PF rk st t c esz) (xM p t c esz):=by
 unfold PF xM;rw [cT];cases hst:st.sto[t]? with
 |none=>
  have:p.sto[t]? =none:=by
   rw [d6] at hst ⊢;rw [h.r.sto.len];exact hst
  rw [this];exact h
 |some b=>
  obtain ⟨q,h1,h2⟩:=h.r.sto.at_ t b hst;rw [h1];cases b with
  |arr r l=>rw [show q=_ from h2];exact h
  |set l=>rw [show q=_ from h2];exact h
  |tab p l=>rw [show q=_ from h2];exact h
  |dead=>rw [show q=_ from h2];exact h
  |box cs=>
   obtain ⟨pc,rfl,h3⟩:=h2;dsimp only;cases hc:nth cs c with
   |none=>
    have:pc[c]? =none:=by
     rw [cT,d6] at hc;rw [d6,h3.length];exact hc
    rw [this];exact h
   |some v=>
    obtain ⟨pv,h4,h5⟩:=h3.nth hc;rw [h4];have hsure:=TH (h.s t cs hst) hc;have hcs:=h.s t cs hst;have other:(∀e,pv≠ .sl e true [])->(∀e,v≠ .nil e true)->RSS (match some v with
     |some (.nil _ true)=>{st with sto:=st.sto.set t (.box (cs.set c (.own st.sto.length false)))++[.arr (EJ rk esz) []]}
     |_=>st) (match some pv with
     |some (.sl _ true [])=>{p with sto:=p.sto.set t (.box (pc.set c (.own p.sto.length esz 0 0 0 false)))++[.arr esz []]}
     |_=>p):=by
     intro n1 n2;split
     · rename_i e he;injection he with he;exact absurd he (n2 e)
     split
     · rename_i e he;injection he with he;exact absurd he (n1 e)
     exact h
    cases v with
    |junk=>cases hsure
    |nil e' cl=>
     have h5':pv= .sl e' cl []:=h5;subst h5';cases cl with
     |false=>exact other (fun e he=>by cases he) (fun e he=>by cases he)
     |true=>
      dsimp only;have hlt:=(bq.1 hst).1;have hfr:Fr [] st.sto (st.sto.set t (.box (cs.set c (.own st.sto.length false)))++[.arr (EJ rk esz) []]):=fun u x hu=>by
       by_cases hut:t=u
       · subst hut;rw [hst] at hu;injection hu with hu;subst hu;trivial
       have hul:=(bq.1 hu).1
       have:(st.sto.set t (.box (cs.set c (.own st.sto.length false)))++[.arr (EJ rk esz) []])[u]? =some x:=by
        rw [bu (by simpa using hul),cb];simp [hut,hu]
       cases x with
       |arr r l=>exact .inl ⟨l,this,rfl,fun _=>rfl⟩
       |dead=>exact this
       |_=>trivial
      have hlen:(st.sto.set t (.box (cs.set c (.own st.sto.length false)))).length=st.sto.length:=by simp
      have hown:R (st.sto.set t (.box (cs.set c (.own st.sto.length false)))++[.arr (EJ rk esz) []]) (.own st.sto.length false) (.own p.sto.length esz 0 0 0 false):=by
       refine ⟨esz,0,by rw [h.r.sto.len],.inl ⟨EJ rk esz,[],?_,(CB rk esz).symm,rfl⟩⟩
       rw [bv (by simp)];simp
      refine ⟨⟨eZ.ext hfr h.r.env,⟨by simp [h.r.sto.len],fun u x hu=>?_⟩,h.r.fz,h.r.kn⟩,fun u x hu=>?_,h.e⟩
      · rcases d5 u st.sto.length with hul|hul
        · rw [bu (by simpa using hul),cb] at hu
          by_cases hut:t=u
          · subst hut
            simp [hlt] at hu;subst hu;refine ⟨.box (pc.set c (.own p.sto.length esz 0 0 0 false)),?_,_,rfl,RL.set (RL.ext hfr h3) c hown⟩;rw [bu (by simp [h.r.sto.len,hul]),cb]
            simp [h.r.sto.len,hul]
          simp [hut] at hu
          obtain ⟨q,h6,h7⟩:=h.r.sto.at_ u x hu;refine ⟨q,?_,h7.ext hfr⟩;rw [bu (by simp [h.r.sto.len,hul]),cb]
          simp [hut,h6]
        rw [bv (by simpa using hul)] at hu
        simp only [hlen] at hu;have hu0:u-st.sto.length=0:=by
         rcases ew (u-st.sto.length) with h|h
         · exact h
         rw [List.getElem?_eq_none (by simp;omega)] at hu;cases hu
        rw [hu0] at hu;simp at hu;subst hu;refine ⟨.arr esz [],?_,by show _=_;rw [CB];rfl⟩
        rw [bv (by simp [h.r.sto.len];omega)]
        simp [h.r.sto.len,hu0]
      rcases d5 u st.sto.length with hul|hul
      · rw [bu (by simpa using hul),cb] at hu
        by_cases hut:t=u
        · subst hut
          simp [hlt] at hu;subst hu;exact TI hcs c rfl
        simp [hut] at hu;exact h.s u x hu
      rw [bv (by simpa using hul)] at hu
      cases hj:u- (st.sto.set t (.box (cs.set c (.own st.sto.length false)))).length with
      |zero=>rw [hj] at hu;simp at hu
      |succ j=>rw [hj] at hu;simp at hu
    |undef|nul|nilf|int _ _|bool _|str _|bp _ _ _|mp _=>exact other (fun e he=>by rw [show pv=_ from h5] at he;cases he) (fun e he=>by cases he)
    |sl r l=>exact other (fun e he=>by rw [show pv=_ from h5] at he;cases he) (fun e he=>by cases he)
    |agg _|tup _|rptr _ _=>exact other (fun e he=>by obtain ⟨q,hq,_⟩:=h5;rw [hq] at he;cases he) (fun e he=>by cases he)
    |clo _ _ _=>exact other (fun e he=>by obtain ⟨q,q2,hq,_⟩:=h5;rw [hq] at he;cases he) (fun e he=>by cases he)
    |own _ _=>exact other (fun e he=>by obtain ⟨q,q2,hq,_⟩:=h5;rw [hq] at he;cases he) (fun e he=>by cases he)
    |pre _ _ _ _|part _ _ _ _ _|pb _ _ _=>exact other (fun e he=>by obtain ⟨q,hq,_⟩:=h5;rw [hq] at he;cases he) (fun e he=>by cases he)
    |pa _ _ _ _ _=>exact other (fun e he=>by obtain ⟨hq,_⟩:=h5;rw [hq] at he;cases he) (fun e he=>by cases he)
theorem VC {p:St} {t c esz:Nat} (h: ∀cs,p.sto[t]?≠some (.box cs)):xM p t c esz=p:=by
 unfold xM;split
 · rename_i cs hcs;exact absurd hcs (h cs)
 rfl
theorem aFB {st:vW} {p:St} (h:RSS st p) {v:SV} {q:PV} (hv:R st.sto v q) (hs:v≠ .junk):(∃t,aFd v=some t/\OI q=some t)\/(aFd v=none/\ ∀t,OI q=some t-> ∀cs,p.sto[t]?≠some (.box cs)):=by
 cases v with
 |junk=>exact absurd rfl hs
 |bp u m off=>
  have hq:q= .ptr u m 0 off:=hv;subst hq;cases off with
  |zero=>exact .inl ⟨u,rfl,rfl⟩
  |succ off=>exact .inr ⟨rfl,fun t ht=>by cases ht⟩
 |pb u i off=>
  obtain ⟨e',hq,hat⟩:=hv;subst hq;refine .inr ⟨rfl,fun t ht cs hcs=>?_⟩
  have:t=u:=by
   unfold OI at ht;split at ht
   · rename_i heq;injection heq with e1;injection ht with ht;rw [<- ht,e1]
   cases ht
  subst this;rcases hat with ⟨r,l,h1,_⟩|h1
  · rw [h.r.sto.arr h1] at hcs;cases hcs
  obtain ⟨q,h2,h3⟩:=h.r.sto.at_ t _ h1
  rw [hcs] at h2;injection h2 with h2;subst h2;cases (show mU.box cs= .dead from h3)
 |pa u r i a off=>
  obtain ⟨hq,hat⟩:=hv;subst hq;refine .inr ⟨rfl,fun t ht cs hcs=>?_⟩
  have:t=u:=by
   unfold OI at ht;split at ht
   · rename_i heq;injection heq with e1;injection ht with ht;rw [<- ht,e1]
   cases ht
  subst this;rcases hat with ⟨l,h1,_⟩|h1
  · rw [h.r.sto.arr h1] at hcs;cases hcs
  obtain ⟨q,h2,h3⟩:=h.r.sto.at_ t _ h1
  rw [hcs] at h2;injection h2 with h2;subst h2;cases (show mU.box cs= .dead from h3)
 |undef|nul|nilf|int _ _|bool _|str _|mp _|sl _ _|nil _ _=>exact .inr ⟨rfl,fun t ht=>by rw [show q=_ from hv] at ht;cases ht⟩
 |agg _|tup _|rptr _ _=>exact .inr ⟨rfl,fun t ht=>by obtain ⟨_,rfl,_⟩:=hv;cases ht⟩
 |clo _ _ _=>exact .inr ⟨rfl,fun t ht=>by obtain ⟨_,_,rfl,_⟩:=hv;cases ht⟩
 |own _ _=>exact .inr ⟨rfl,fun t ht=>by obtain ⟨_,_,rfl,_⟩:=hv;cases ht⟩
 |pre _ _ _ _|part _ _ _ _ _=>exact .inr ⟨rfl,fun t ht=>by obtain ⟨_,rfl,_⟩:=hv;cases ht⟩
theorem aPG {st:vW} {p:St} (h:RSS st p) {v:SV} {q:PV} (hv:R st.sto v q) (hs:v.sure=true):(∃t,aHq v=some t/\W6 q=some t)\/(aHq v=none/\ ∀t,W6 q=some t-> ∀cs,p.sto[t]?≠some (.box cs)):=by
 have hj:v≠ .junk:=fun e=>by subst e;cases hs
 by_cases hc: ∃f a b,v= .clo f a b
 · obtain ⟨f,a,b,rfl⟩:=hc
   obtain ⟨pa,pb,rfl,h1,h2⟩:=hv;cases b with
   |nil=>
    have:pb=[]:=h2
    subst this;exact .inr ⟨rfl,fun t ht=>by cases ht⟩
   |cons y ys=>
    obtain ⟨z,zs,rfl,g1,g2⟩:=h2;exact aFB h g1 (fun e=>by subst e;simp [SV.sure,sureL] at hs)
 have e1:aHq v=aFd v:=by
  cases v with
  |clo f a b=>exact absurd ⟨f,a,b,rfl⟩ hc
  |_=>rfl
 have e2:W6 q=OI q:=by
  cases q with
  |clo f a b=>
   exfalso;cases v with
   |junk=>exact hj rfl
   |clo f a b=>exact hc ⟨f,a,b,rfl⟩
   |bp _ _ _|undef|nul|nilf|int _ _|bool _|str _|mp _|sl _ _|nil _ _=>cases (show PV.clo f a b=_ from hv)
   |agg _|tup _|rptr _ _|pre _ _ _ _|part _ _ _ _ _|pb _ _ _=>obtain ⟨_,hq,_⟩:=hv;cases hq
   |own _ _=>obtain ⟨_,_,hq,_⟩:=hv;cases hq
   |pa _ _ _ _ _=>obtain ⟨hq,_⟩:=hv;cases hq
  |_=>rfl
 rw [e1,e2];exact aFB h hv hj
theorem rL {rk:List (Nat×List PT)}: ∀(live:List (Nat×Option Nat)) {st:vW} {p:St},RSS st p->RSS (pK rk live st) (nS live p)
 | [],st,p,h=>h
 |(t,k)::live,st,p,h=>by
  cases k with
  |none=>simp only [pK,nS];exact rL live h
  |some n=>
   simp only [pK,nS];cases hn:cm 1000 n with
   |false=>simp only [cond_false,ce,if_false];exact rL live h
   |true=>
    simp only [cond_true,if_true];have hlk:=h.r.env.lk t;have hsu:=h.e.lk t;rcases aPG h hlk hsu with ⟨u,e1,e2⟩|⟨e1,e2⟩
    · rw [e1,e2]
      exact rL live (aA6 h u _ _)
    rw [e1]
    cases hb:W6 (lk t p.env) with
    |none=>exact rL live h
    |some u=>
     show RSS (pK rk live st) (nS live (xM p u (n / 1000-1) (n%1000)));rw [VC (e2 u hb)];exact rL live h
theorem YA {e:SE} {pe:zQ} (hE:eZ s e pe): ∀{live:List (Nat×Option Nat)},JW e live=true->PG e live=live.flatMap fun p=>lI zR (lk p.1 pe)
 | [],_=>rfl
 |(t,k)::live,h=>by
  simp only [JW,bo] at h;simp only [PG,gp,YA hE h.2];rw [aFy (fun _=>rfl) (hE.lk t) h.1]
theorem aFC: ∀{s':List SB} {s:List SB} {ps:dC} (n:Nat),(ps.length=s.length/\ ∀(t:Nat) (b:SB),s[t]? =some b-> ∃q,ps[t]? =some q/\RB s' b q)->PH s n=true->aAV s n=(ps.take n).flatMap xK
 |s',[],ps,n,h,_=>by
  have:ps=[]:=di.1 (by simpa using h.1)
  subst this;cases n<;>simp [aAV]
 |s',b::s,ps,0,h,_=>by simp [aAV]
 |s',b::s,ps,n+1,h,hk=>by
  cases ps with
  |nil=>have:=h.1;simp at this
  |cons q ps=>
   simp only [PH,bo] at hk;obtain ⟨q',h1,h2⟩:=h.2 0 b rfl;simp at h1;subst h1;simp only [aAV,List.take_succ_cons,gp,VA h2 hk.1];rw [aFC (s':=s') (ps:=ps) n ⟨by simpa using h.1,fun t x hx=>by simpa using h.2 (t+1) x (by simpa using hx)⟩ hk.2]
theorem aCp {s:List SB} {v:SV} {p:PV} (h:R s v p):R s (TB s v) p:=by
 unfold TB;split
 · rename_i t ex
   rw [cT];split
   · rename_i r l hst
     obtain ⟨e,n,rfl,hat⟩:=h;obtain ⟨rfl,rfl⟩:=hat.inv hst;exact ⟨r.length,rfl,.inl ⟨r,l,hst,rfl⟩⟩
   exact h
 exact h
theorem aCq {s:List SB} (c:Nat): ∀{e:SE} {p:zQ},eZ s e p->eZ s (aCg s c e) p
 | [],_,h=>h
 |(t,v)::r,_,h=>by
  obtain ⟨q,qs,rfl,h1,h2⟩:=h;simp only [aCg];cases hb:df t c with
  |true=>exact ⟨q,qs,rfl,aCp h1,h2⟩
  |false=>exact ⟨q,qs,rfl,h1,aCq c h2⟩
theorem L4: ∀(live:List (Nat×Option Nat)) {st:vW} {p:St},HM st p->HM (JV live st) p
 | [],st,p,h=>h
 |(t,k)::r,st,p,h=>by
  simp only [JV];cases hn:cm 1000000 t with
  |true=>exact L4 r ⟨aCq _ h.env,h.sto,h.fz,h.kn⟩
  |false=>exact L4 r h
theorem YB {rk:List (Nat×List PT)} {live:List (Nat×Option Nat)} {st st1:vW} {p:St} (h:HM st p) (hn:PI rk live st=some st1): ∃p1,OJ live p=some p1/\HM st1 p1:=by
 unfold PI at hn;cases hc:(JW st.env live&&PH st.sto st.kn) with
 |false=>rw [hc] at hn;cases hn
 |true=>
  rw [hc] at hn;simp only [cond_true] at hn;simp only [bo] at hc;split at hn
  · cases hn
  rename_i m hm
  split at hn
  · rename_i s1 e1 s2 h1 h2
    injection hn with hn;subst hn;have ht:aAV st.sto st.kn++PG st.env live=(p.sto.take p.kn).flatMap xK++live.flatMap fun q=>lI zR (lk q.1 p.env):=by
     rw [YA h.env hc.1,aFC (s':=st.sto) st.kn ⟨h.sto.len,h.sto.at_⟩ hc.2,h.kn]
    rw [ht] at hm;have hm':=PY h.sto _ _ _ _ hm;have hr:P0 m st.sto (s1++s2):=P0.of h1;obtain ⟨p1,a1,a2,a3⟩:=L1 h.sto hr h1;have hlen:s1.length=m.length:=(FF h1).1;obtain ⟨pe1,q2,b1,b2,b3,b4⟩:=VB h.env hr h2 (fun j b hj=>by rw [<- hlen,bv (by omega)];simpa using hj)
    have hsto:dD (s1++s2) (p1++q2):=⟨by simp [a2,b3],fun t b ht=>by
     rcases d5 t s1.length with hl|hl
     · rw [bu hl] at ht
       obtain ⟨q,c1,c2⟩:=a3 t b ht;exact ⟨q,by rw [bu (by omega)];exact c1,c2⟩
     rw [bv hl] at ht
     obtain ⟨q,c1,c2⟩:=b4 _ b ht;exact ⟨q,by rw [bv (by omega),a2];exact c1,c2⟩⟩
    have hs:aPe (s1++s2):=fun t cs ht=>by
     rcases d5 t s1.length with hl|hl
     · rw [bu hl] at ht
       obtain ⟨b,c,d1,d2,d3⟩:=(FF h1).2 t (m[t]'(by omega)) (bw (by omega))
       rw [ht] at d3;injection d3 with d3;subst d3;cases b with
       |box x=>
        simp only [aFc] at d2;split at d2
        · rename_i l hl';injection d2 with d2;injection d2 with d2;subst d2;exact renVL_sure hl'
        cases d2
       |arr _ _=>injection d2 with d2;cases d2
       |set _=>injection d2 with d2;cases d2
       |tab _ _=>injection d2 with d2;cases d2
       |dead=>injection d2 with d2;cases d2
     rw [bv hl] at ht
     obtain ⟨r,hr'⟩:=L2 h2 _ _ ht;cases hr'
    have hR:RSS {env:=e1,sto:=s1++s2,fz:=E0 st.fz 0 m,kn:=st.kn} {env:=pe1,sto:=p1++q2,fz:=E0 p.fz 0 m,kn:=p.kn}:=
     ⟨⟨b2,hsto,by rw [h.fz],h.kn⟩,hs,IU h2⟩
    refine ⟨_,?_,L4 live (rL live hR).r⟩;unfold OJ;rw [h.kn] at hm';rw [h.kn];rw [hm'];dsimp only;rw [a1,b1]
  cases hn
theorem aCr {rk:List (Nat×List PT)} {live:List (Nat×Option Nat)} {st st1:vW} {p:St} (h:HM st p) (hn:PJ rk live st=some st1): ∃p1,NM live p=some p1/\HM st1 p1:=by
 unfold PJ at hn;cases h1:PI rk live st with
 |none=>rw [h1] at hn;cases hn
 |some s=>
  rw [h1] at hn;dsimp only at hn;obtain ⟨p1,h2,h3⟩:=YB h h1;unfold NM;rw [h2];dsimp only;cases ha:(live.any fun p=>p.2.isSome) with
  |true=>
   rw [ha] at hn;simp only [cond_true] at hn;rw [if_pos rfl];exact YB h3 hn
  |false=>
   rw [ha] at hn;injection hn with hn;subst hn;exact ⟨p1,by rw [if_neg (by simp)],h3⟩
mutual
theorem N3: ∀{a b:SV} (q:List EX),EM a b=true->zV a (LX b++q)=(b,q)
 | .undef,.undef,q,_=>rfl
 | .nul,.nul,q,_=>rfl
 | .nilf,.nilf,q,_=>rfl
 | .int k _,.int l n,q,h=>by rw [gA.1 h];rfl
 | .bool _,.bool _,q,_=>rfl
 | .agg a,.agg b,q,h=>by simp only [zV,LX,put_atsL q h]
 | .tup a,.tup b,q,h=>by simp only [zV,LX,put_atsL q h]
 | .sl r _,.sl r' l,q,h=>rfl
 | .nil e c,.nil f d,q,h=>by
  simp only [EM,bo,beq_iff_eq] at h;rw [bn h.1,h.2];rfl
 | .own t x,.own u y,q,h=>by
  simp only [EM,bo,beq_iff_eq] at h;rw [bn h.1,h.2];rfl
 | .pre t _ _ x,.pre u _ _ y,q,h=>by
  simp only [EM,bo,beq_iff_eq] at h;rw [bn h.1,h.2];rfl
 | .part t _ _ _ x,.part u _ _ _ y,q,h=>by
  simp only [EM,bo,beq_iff_eq] at h;rw [bn h.1,h.2];rfl
 | .pb t _ o,.pb u _ p,q,h=>by
  simp only [EM,bo] at h;rw [bn h.1,bn h.2];rfl
 | .bp t n o,.bp u m p,q,h=>by
  simp only [EM,bo] at h;rw [bn h.1.1,bn h.1.2,bn h.2];rfl
 | .rptr a o,.rptr b p,q,h=>by
  simp only [EM,bo] at h;simp only [zV,LX,put_atsL q h.1,bn h.2]
 | .clo f a b,.clo g c d,q,h=>by
  simp only [EM,bo] at h;simp only [zV,LX,cy,put_atsL _ h.1.2,put_atsL q h.2,bn h.1.1]
 | .mp t,.mp u,q,h=>by rw [bn h];rfl
theorem put_atsL: ∀{a b:List SV} (q:List EX),likeL a b=true->putL a (atsL b++q)=(b,q)
 | [],[],q,_=>rfl
 |x::xs,y::ys,q,h=>by
  simp only [likeL,bo] at h;simp only [putL,atsL,cy,N3 _ h.1,put_atsL q h.2]
 | [],_::_,_,h=>by cases h
 |_::_,[],_,h=>by cases h
end
theorem aFD: ∀{a b:SB} (q:List EX),aO9 a b=true->aAW a (aFe b++q)=(b,q)
 | .arr r _,.arr r' l,q,h=>rfl
 | .box a,.box b,q,h=>by simp only [aAW,aFe,put_atsL q h]
 | .set _,.set _,q,_=>rfl
 | .tab p _,.tab p' l,q,h=>by obtain rfl:p=p':=PT.same_eq h;rfl
 | .dead,.dead,q,_=>rfl
 | .arr _ _,.box _,_,h| .arr _ _,.set _,_,h| .arr _ _,.dead,_,h| .box _,.arr _ _,_,h| .box _,.set _,_,h| .box _,.dead,_,h| .set _,.arr _ _,_,h| .set _,.box _,_,h| .set _,.dead,_,h| .dead,.arr _ _,_,h| .dead,.box _,_,h| .dead,.set _,_,h
 | .tab _ _,.arr _ _,_,h| .tab _ _,.box _,_,h| .tab _ _,.set _,_,h| .tab _ _,.dead,_,h| .arr _ _,.tab _ _,_,h| .box _,.tab _ _,_,h| .set _,.tab _ _,_,h| .dead,.tab _ _,_,h=>by cases h
theorem J9: ∀{a b:List SB} (q:List EX),PK a b=true->IN a (U4 b++q)=(b,q)
 | [],[],q,_=>rfl
 |x::xs,y::ys,q,h=>by
  simp only [PK,bo] at h;simp only [IN,U4,cy,aFD _ h.1,J9 q h.2]
 | [],_::_,_,h=>by cases h
 |_::_,[],_,h=>by cases h
theorem YC: ∀{a b:SE} (q:List EX),aCh a b=true->X1 a (aDQ b++q)=(b,q)
 | [],[],q,_=>rfl
 |(t,x)::xs,(u,y)::ys,q,h=>by
  simp only [aCh,bo] at h;simp only [X1,aDQ,cy,N3 _ h.1.2,YC q h.2,bn h.1.1]
 | [],_::_,_,h=>by cases h
 |_::_,[],_,h=>by cases h
theorem YD: ∀{a b:List Nat},aCi a b=true->a=b
 | [],[],_=>rfl
 |x::xs,y::ys,h=>by
  simp only [aCi,bo] at h;rw [bn h.1,YD h.2]
 | [],_::_,h=>by cases h
 |_::_,[],h=>by cases h
theorem aDY {a b:vW} (h:PL a b=true):HJ a (EL b)=b:=by
 obtain ⟨e1,s1,z1,k1⟩:=a;obtain ⟨e2,s2,z2,k2⟩:=b;simp only [PL,bo] at h;obtain ⟨⟨⟨h1,h2⟩,h3⟩,h4⟩:=h;have hs:=J9 [] h2;rw [de] at hs;simp only [HJ,EL,YC _ h1,hs,YD h3,bn h4]
theorem AK.of_at: ∀{a:AK} {x:EX} {y:a.T},a.of x=some y->a.at y=x
 | .i,.i _,y,h=>by injection h with h;subst h;rfl
 | .b,.b _,y,h=>by injection h with h;subst h;rfl
 | .n,.n _,y,h=>by injection h with h;subst h;rfl
 | .l r,.l q x,y,h=>by obtain ⟨rfl,rfl⟩:=yM h;rfl
 | .s,.s _,y,h=>by injection h with h;subst h;rfl
 | .i,.b _,_,h| .i,.n _,_,h| .i,.l _ _,_,h| .i,.s _,_,h| .b,.i _,_,h| .b,.n _,_,h| .b,.l _ _,_,h| .b,.s _,_,h| .n,.i _,_,h| .n,.b _,_,h| .n,.l _ _,_,h| .n,.s _,_,h
 | .l _,.i _,_,h| .l _,.b _,_,h| .l _,.n _,_,h| .l _,.s _,_,h| .s,.i _,_,h| .s,.b _,_,h| .s,.n _,_,h| .s,.l _ _,_,h=>by cases h
theorem yN: ∀{ks:List AK} {l:List EX} {y:mY ks},wX ks l=some y->qD ks y=l
 | [],[],y,_=>rfl
 | [a],[x],y,h=>by
  have:=AK.of_at (a:=a) h
  simp only [qD,this]
 |a::q::r,x::xs,y,h=>by
  simp only [wX] at h;split at h
  · rename_i u v h1 h2
    injection h with h;subst h;simp only [qD,AK.of_at h1,yN h2]
  cases h
 | [],_::_,_,h=>by cases h
 | [_],[],_,h=>by cases h
 | [_],_::_::_,_,h=>by cases h
 |_::_::_,[],_,h=>by cases h
end
end Go.Vm
/- What is known of functions, and what a call of one comes to. -/
namespace Go.Vm
mutual
def P1:Nat->PV->Option (PV×dC)
 |_,.int k n=>some (.int k n,[])
 |_,.bool b=>some (.bool b,[])
 |nx,.agg cs=>match ownPL nx cs with|some r=>some (.agg r.1,r.2)|none=>none
 |nx,.tup cs=>match ownPL nx cs with|some r=>some (.tup r.1,r.2)|none=>none
 |nx,.sl e false rows=>some (.own nx e 0 rows.length rows.length false,[.arr e rows])
 |_,_=>none
def ownPL:Nat->List PV->Option (List PV×dC)
 |_,[]=>some ([],[])
 |nx,x::xs=>match P1 nx x with
  |some a=>match ownPL (nx+a.2.length) xs with
   |some b=>some (a.1::b.1,a.2++b.2)
   |none=>none
  |none=>none
end
def C8 (s:List SB) (n:Nat) (l:List SB):Prop:= ∀(j:Nat) (b:SB),l[j]? =some b->s[n+j]? =some b
theorem C8.left {s:List SB} {n:Nat} {l m:List SB} (h:C8 s n (l++m)):C8 s n l:=fun j b hj=>h j b (by
 rw [bu (bq.1 hj).1];exact hj)
theorem C8.right {s:List SB} {n:Nat} {l m:List SB} (h:C8 s n (l++m)):C8 s (n+l.length) m:=fun j b hj=>by
 have:=h (l.length+j) b (by rw [bv (by omega)];simpa using hj)
 rwa [Nat.add_assoc]
def RBs (s:List SB) (l:List SB) (q:dC):Prop:=q.length=l.length/\ ∀(j:Nat) (b:SB),l[j]? =some b-> ∃x,q[j]? =some x/\RB s b x
theorem RBs.append {s l m:List SB} {q r:dC} (h:RBs s l q) (k:RBs s m r):RBs s (l++m) (q++r):=by
 refine ⟨by simp [h.1,k.1],fun j b hj=>?_⟩
 rcases d5 j l.length with hl|hl
 · rw [bu hl] at hj
   obtain ⟨x,h1,h2⟩:=h.2 j b hj;exact ⟨x,by rw [bu (by rw [h.1];exact hl)];exact h1,h2⟩
 rw [bv hl] at hj
 obtain ⟨x,h1,h2⟩:=k.2 _ b hj;exact ⟨x,by rw [bv (by rw [h.1];exact hl),h.1];exact h1,h2⟩
theorem RBs.nil {s:List SB}:RBs s [] []:=⟨rfl,fun j b h=>by simp at h⟩
theorem RBs.one {s:List SB} {b:SB} {x:mU} (h:RB s b x):RBs s [b] [x]:=⟨rfl,fun j c hc=>by
 cases j with
 |zero=>simp at hc;subst hc;exact ⟨x,rfl,h⟩
 |succ j=>simp at hc⟩
mutual
theorem aCs: ∀{v:SV} {nx:Nat} {p0 p:PV} {q:dC},yL v=some p0->P1 nx p0=some (p,q)-> ∀{s:List SB},C8 s nx (FC nx v).2->R s (FC nx v).1 p/\RBs s (FC nx v).2 q
 | .int k n,nx,p0,p,q,h0,h,s,_=>by injection h0 with h0;subst h0;injection h with h;injection h with h1 h2;subst h1 h2;exact ⟨rfl,RBs.nil⟩
 | .bool b,nx,p0,p,q,h0,h,s,_=>by injection h0 with h0;subst h0;injection h with h;injection h with h1 h2;subst h1 h2;exact ⟨rfl,RBs.nil⟩
 | .agg cs,nx,p0,p,q,h0,h,s,hb=>by
  simp only [yL] at h0;split at h0
  · rename_i l hl
    injection h0 with h0;subst h0;simp only [P1] at h;split at h
    · rename_i r hr
      injection h with h;injection h with h1 h2;subst h1 h2;obtain ⟨h3,h4⟩:=ownOfL_R (p:=r.1) (q:=r.2) hl hr hb;exact ⟨⟨r.1,rfl,h3⟩,h4⟩
    cases h
  cases h0
 | .tup cs,nx,p0,p,q,h0,h,s,hb=>by
  simp only [yL] at h0;split at h0
  · rename_i l hl
    injection h0 with h0;subst h0;simp only [P1] at h;split at h
    · rename_i r hr
      injection h with h;injection h with h1 h2;subst h1 h2;obtain ⟨h3,h4⟩:=ownOfL_R (p:=r.1) (q:=r.2) hl hr hb;exact ⟨⟨r.1,rfl,h3⟩,h4⟩
    cases h
  cases h0
 | .sl r l,nx,p0,p,q,h0,h,s,hb=>by
  injection h0 with h0;subst h0;injection h with h;injection h with h1 h2;subst h1 h2;refine ⟨⟨r.length,l.length,by simp,.inl ⟨r,l,hb 0 _ rfl,rfl,rfl⟩⟩,RBs.one rfl⟩
 | .nil e c,nx,p0,p,q,h0,h,s,hb=>by
  injection h0 with h0;subst h0;cases c with
  |true=>simp [P1] at h
  |false=>
   injection h with h;injection h with h1 h2;subst h1 h2;exact ⟨⟨e,0,rfl,.inl ⟨_,[],hb 0 _ rfl,by simp,rfl⟩⟩,RBs.one (by show _=_;simp)⟩
 | .str _,nx,p0,p,q,h0,h,s,_=>by injection h0 with h0;subst h0;cases h
 | .nilf,nx,p0,p,q,h0,h,s,_=>by injection h0 with h0;subst h0;cases h
 | .rptr cs o,nx,p0,p,q,h0,h,s,_=>by
  simp only [yL] at h0;split at h0
  · injection h0 with h0;subst h0;cases h
  cases h0
 | .clo f a b,nx,p0,p,q,h0,h,s,_=>by
  simp only [yL] at h0;split at h0
  · injection h0 with h0;subst h0;cases h
  cases h0
 | .junk,_,_,_,_,h0,_,_,_| .undef,_,_,_,_,h0,_,_,_| .nul,_,_,_,_,h0,_,_,_| .own _ _,_,_,_,_,h0,_,_,_| .pre _ _ _ _,_,_,_,_,h0,_,_,_| .part _ _ _ _ _,_,_,_,_,h0,_,_,_
 | .pa _ _ _ _ _,_,_,_,_,h0,_,_,_| .pb _ _ _,_,_,_,_,h0,_,_,_| .bp _ _ _,_,_,_,_,h0,_,_,_| .mp _,_,_,_,_,h0,_,_,_=>by cases h0
theorem ownOfL_R: ∀{v:List SV} {nx:Nat} {p0 p:List PV} {q:dC},pvL v=some p0->ownPL nx p0=some (p,q)-> ∀{s:List SB},C8 s nx (ownOfL nx v).2->RL s (ownOfL nx v).1 p/\RBs s (ownOfL nx v).2 q
 | [],nx,p0,p,q,h0,h,s,_=>by injection h0 with h0;subst h0;injection h with h;injection h with h1 h2;subst h1 h2;exact ⟨rfl,RBs.nil⟩
 |x::xs,nx,p0,p,q,h0,h,s,hb=>by
  obtain ⟨a,as,rfl,h1,h2⟩:=fR.1 h0;simp only [ownPL] at h;split at h
  · rename_i ra hra
    split at h
    · rename_i rb hrb
      injection h with h;injection h with e1 e2;subst e1 e2;simp only [ownOfL] at hb ⊢;obtain ⟨k1,k2⟩:=aCs (p:=ra.1) (q:=ra.2) h1 hra hb.left;rw [k2.1] at hrb;obtain ⟨k3,k4⟩:=ownOfL_R (p:=rb.1) (q:=rb.2) h2 hrb hb.right;exact ⟨RL.cons k1 k3,k2.append k4⟩
    cases h
  cases h
end
mutual
theorem aFE {s:List SB} {ps:dC} {z:List Nat} (hS:dD s ps): ∀{v v':SV} {p:PV} {seen seen':List Nat} (nx:Nat),R s v p->aDP s z seen v=some (v',seen')-> ∃p0 p' q,yL v'=some p0/\P1 nx p0=some (p',q)/\HB ps z nx seen p=some (p',q,seen')
 | .int k n,v',p,seen,seen',nx,h,hx=>by injection hx with hx;injection hx with h1 h2;subst h1 h2;rw [show p=_ from h];exact ⟨_,_,_,rfl,rfl,rfl⟩
 | .bool k,v',p,seen,seen',nx,h,hx=>by injection hx with hx;injection hx with h1 h2;subst h1 h2;rw [show p=_ from h];exact ⟨_,_,_,rfl,rfl,rfl⟩
 | .agg cs,v',p,seen,seen',nx,h,hx=>by
  obtain ⟨q,rfl,h⟩:=h;simp only [aDP] at hx;split at hx
  · rename_i r hr
    injection hx with hx;injection hx with h1 h2;subst h1 h2;obtain ⟨p0,p',q',h3,h4,h5⟩:=imOVL_R hS (v':=r.1) (seen':=r.2) nx h hr;exact ⟨.agg p0,.agg p',q',by simp only [yL,h3],by simp only [P1,h4],by simp only [HB,h5];rfl⟩
  cases hx
 | .tup cs,v',p,seen,seen',nx,h,hx=>by
  obtain ⟨q,rfl,h⟩:=h;simp only [aDP] at hx;split at hx
  · rename_i r hr
    injection hx with hx;injection hx with h1 h2;subst h1 h2;obtain ⟨p0,p',q',h3,h4,h5⟩:=imOVL_R hS (v':=r.1) (seen':=r.2) nx h hr;exact ⟨.tup p0,.tup p',q',by simp only [yL,h3],by simp only [P1,h4],by simp only [HB,h5];rfl⟩
  cases hx
 | .nil e c,v',p,seen,seen',nx,h,hx=>by
  cases c with
  |false=>cases hx
  |true=>injection hx with hx;injection hx with h1 h2;subst h1 h2;rw [show p=_ from h];exact ⟨_,_,_,rfl,rfl,rfl⟩
 | .own t ex,v',p,seen,seen',nx,h,hx=>by
  obtain ⟨e,n,rfl,hat⟩:=h;simp only [aDP,cT] at hx;split at hx
  · rename_i r l hst
    obtain ⟨rfl,rfl⟩:=hat.inv hst;cases hc:(has seen t||has z t) with
    |true=>rw [hc] at hx;cases hx
    |false=>
     rw [hc] at hx;injection hx with hx;injection hx with h1 h2;subst h1 h2;refine ⟨_,_,_,rfl,rfl,?_⟩;simp only [HB,hS.arr hst,hc];simp
  cases hx
 | .junk,_,_,_,_,_,_,hx| .undef,_,_,_,_,_,_,hx| .nul,_,_,_,_,_,_,hx| .nilf,_,_,_,_,_,_,hx| .str _,_,_,_,_,_,_,hx| .sl _ _,_,_,_,_,_,_,hx| .pre _ _ _ _,_,_,_,_,_,_,hx| .part _ _ _ _ _,_,_,_,_,_,_,hx
 | .pa _ _ _ _ _,_,_,_,_,_,_,hx| .pb _ _ _,_,_,_,_,_,_,hx| .bp _ _ _,_,_,_,_,_,_,hx| .rptr _ _,_,_,_,_,_,_,hx| .clo _ _ _,_,_,_,_,_,_,hx| .mp _,_,_,_,_,_,_,hx=>by cases hx
theorem imOVL_R {s:List SB} {ps:dC} {z:List Nat} (hS:dD s ps): ∀{v v':List SV} {p:List PV} {seen seen':List Nat} (nx:Nat),RL s v p->imOVL s z seen v=some (v',seen')-> ∃p0 p' q,pvL v'=some p0/\ownPL nx p0=some (p',q)/\imOL ps z nx seen p=some (p',q,seen')
 | [],v',p,seen,seen',nx,h,hx=>by injection hx with hx;injection hx with h1 h2;subst h1 h2;rw [show p=_ from h];exact ⟨_,_,_,rfl,rfl,rfl⟩
 |x::xs,v',p,seen,seen',nx,h,hx=>by
  obtain ⟨a,as,rfl,h1,h2⟩:=h.cons_inv;simp only [imOVL] at hx;split at hx
  · rename_i r hr
    split at hx
    · rename_i r2 hr2
      injection hx with hx;injection hx with e1 e2;subst e1 e2;obtain ⟨p0,p',q,k1,k2,k3⟩:=aFE hS (v':=r.1) (seen':=r.2) nx h1 hr;obtain ⟨p02,p'2,q2,k4,k5,k6⟩:=imOVL_R hS (v':=r2.1) (seen':=r2.2) (nx+q.length) h2 hr2;exact ⟨p0::p02,p'::p'2,q++q2,fR.2 ⟨_,_,rfl,k1,k4⟩,by simp only [ownPL,k2,k5],by simp only [imOL,k3,k6]⟩
    cases hx
  cases hx
end
mutual
theorem YE {s:List SB}: ∀{v:SV} {p:PV},R s v p->IM v=true->p.noref=true
 | .int _ _,p,h,_| .bool _,p,h,_| .str _,p,h,_=>by rw [show p=_ from h];rfl
 | .agg cs,p,h,hn=>by obtain ⟨q,rfl,h⟩:=h;exact norefSL_R h hn
 | .tup cs,p,h,hn=>by obtain ⟨q,rfl,h⟩:=h;exact norefSL_R h hn
 | .junk,_,_,h| .undef,_,_,h| .nul,_,_,h| .nilf,_,_,h| .sl _ _,_,_,h| .nil _ _,_,_,h| .own _ _,_,_,h| .pre _ _ _ _,_,_,h| .part _ _ _ _ _,_,_,h| .pa _ _ _ _ _,_,_,h| .pb _ _ _,_,_,h| .bp _ _ _,_,_,h| .rptr _ _,_,_,h| .clo _ _ _,_,_,h| .mp _,_,_,h=>by cases h
theorem norefSL_R {s:List SB}: ∀{v:List SV} {p:List PV},RL s v p->norefSL v=true->norefL p=true
 | [],p,h,_=>by rw [show p=_ from h];rfl
 |x::xs,p,h,hn=>by
  obtain ⟨a,as,rfl,h1,h2⟩:=h.cons_inv;simp only [norefSL,bo] at hn;simp only [norefL,YE h1 hn.1,norefSL_R h2 hn.2,c8]
end
mutual
theorem TJ {s:List SB} {u:SV}: ∀{v:SV} {p:PV},R s v p->IM v=false->imV s v=some u->p.noref=false
 | .int _ _,p,h,hn,_| .bool _,p,h,hn,_| .str _,p,h,hn,_=>by cases hn
 | .agg cs,p,h,hn,hi=>by
  obtain ⟨q,rfl,h⟩:=h;simp only [imV] at hi;split at hi
  · rename_i l hl;exact yesrefSL_R h hn hl
  cases hi
 | .tup cs,p,h,hn,hi=>by
  obtain ⟨q,rfl,h⟩:=h;simp only [imV] at hi;split at hi
  · rename_i l hl;exact yesrefSL_R h hn hl
  cases hi
 | .sl _ _,p,h,_,_=>by rw [show p=_ from h];rfl
 | .nil _ _,p,h,_,_=>by rw [show p=_ from h];rfl
 | .own _ _,p,h,_,_=>by obtain ⟨e,n,rfl,_⟩:=h;rfl
 | .pre _ _ _ _,p,h,_,_=>by obtain ⟨e,rfl,_⟩:=h;rfl
 | .part _ _ _ _ _,p,h,_,_=>by obtain ⟨e,rfl,_⟩:=h;rfl
 | .junk,_,_,_,h| .undef,_,_,_,h| .nul,_,_,_,h| .nilf,_,_,_,h| .pa _ _ _ _ _,_,_,_,h| .pb _ _ _,_,_,_,h| .bp _ _ _,_,_,_,h| .rptr _ _,_,_,_,h| .clo _ _ _,_,_,_,h| .mp _,_,_,_,h=>by cases h
theorem yesrefSL_R {s:List SB}: ∀{v u:List SV} {p:List PV},RL s v p->norefSL v=false->imVL s v=some u->norefL p=false
 | [],u,p,h,hn,_=>by cases hn
 |x::xs,u,p,h,hn,hi=>by
  obtain ⟨a,as,rfl,h1,h2⟩:=h.cons_inv;simp only [imVL] at hi;split at hi
  · rename_i y ys h3 h4
    simp only [norefSL] at hn;simp only [norefL];cases hx:IM x with
    |false=>rw [TJ h1 hx h3];rfl
    |true=>rw [hx] at hn;rw [yesrefSL_R h2 (by simpa using hn) h4];simp
  cases hi
end
mutual
theorem aPf {s:List SB} {ps:dC} (hS:dD s ps): ∀{v u:SV} {p:PV},R s v p->imV s v=some u-> ∃q,GG ps p=some q/\yL u=some q
 | .int k n,u,p,h,hx=>by injection hx with hx;subst hx;rw [show p=_ from h];exact ⟨_,rfl,rfl⟩
 | .bool b,u,p,h,hx=>by injection hx with hx;subst hx;rw [show p=_ from h];exact ⟨_,rfl,rfl⟩
 | .str x,u,p,h,hx=>by injection hx with hx;subst hx;rw [show p=_ from h];exact ⟨_,rfl,rfl⟩
 | .agg cs,u,p,h,hx=>by
  obtain ⟨q,rfl,h⟩:=h;simp only [imV] at hx;split at hx
  · rename_i l hl
    injection hx with hx;subst hx;obtain ⟨q',h1,h2⟩:=imVL_R hS h hl;exact ⟨.agg q',by simp only [GG,h1];rfl,by simp only [yL,h2]⟩
  cases hx
 | .tup cs,u,p,h,hx=>by
  obtain ⟨q,rfl,h⟩:=h;simp only [imV] at hx;split at hx
  · rename_i l hl
    injection hx with hx;subst hx;obtain ⟨q',h1,h2⟩:=imVL_R hS h hl;exact ⟨.tup q',by simp only [GG,h1];rfl,by simp only [yL,h2]⟩
  cases hx
 | .sl r l,u,p,h,hx=>by injection hx with hx;subst hx;rw [show p=_ from h];exact ⟨_,rfl,rfl⟩
 | .nil e c,u,p,h,hx=>by injection hx with hx;subst hx;rw [show p=_ from h];exact ⟨_,rfl,rfl⟩
 | .own t ex,u,p,h,hx=>by
  simp only [imV,cT] at hx;split at hx
  · rename_i r l hst
    injection hx with hx;subst hx;obtain ⟨e,n,rfl,hat⟩:=h;obtain ⟨rfl,rfl⟩:=hat.inv hst;refine ⟨.sl r.length false (l.map (RT.pv r)),?_,rfl⟩;simp only [GG,hS.arr hst,dm];rw [dj (by simp)]
  cases hx
 | .pre t len cap ex,u,p,h,hx=>by
  simp only [imV,cT] at hx;split at hx
  · rename_i r l hst
    injection hx with hx;subst hx;obtain ⟨e,rfl,hat⟩:=h
    have:=hat.inv hst
    subst this;refine ⟨.sl r.length false ((l.take len).map (RT.pv r)),?_,rfl⟩;simp only [GG,hS.arr hst,dm,dh]
  cases hx
 | .part t off len cap ex,u,p,h,hx=>by
  simp only [imV,cT] at hx;split at hx
  · rename_i r l hst
    injection hx with hx;subst hx;obtain ⟨e,rfl,hat⟩:=h
    have:=hat.inv hst
    subst this;refine ⟨.sl r.length false (((l.drop off).take len).map (RT.pv r)),?_,rfl⟩;simp only [GG,hS.arr hst,dh,d7]
  cases hx
 | .junk,_,_,_,hx| .undef,_,_,_,hx| .nul,_,_,_,hx| .nilf,_,_,_,hx| .pa _ _ _ _ _,_,_,_,hx| .pb _ _ _,_,_,_,hx| .bp _ _ _,_,_,_,hx| .rptr _ _,_,_,_,hx| .clo _ _ _,_,_,_,hx| .mp _,_,_,_,hx=>by cases hx
theorem imVL_R {s:List SB} {ps:dC} (hS:dD s ps): ∀{v u:List SV} {p:List PV},RL s v p->imVL s v=some u-> ∃q,imFL ps p=some q/\pvL u=some q
 | [],u,p,h,hx=>by injection hx with hx;subst hx;rw [show p=_ from h];exact ⟨_,rfl,rfl⟩
 |x::xs,u,p,h,hx=>by
  obtain ⟨a,as,rfl,h1,h2⟩:=h.cons_inv;simp only [imVL] at hx;split at hx
  · rename_i y ys h3 h4
    injection hx with hx;subst hx;obtain ⟨q,h5,h6⟩:=aPf hS h1 h3;obtain ⟨qs,h7,h8⟩:=imVL_R hS h2 h4;exact ⟨q::qs,by simp only [imFL,h5,h7],fR.2 ⟨_,_,rfl,h6,h8⟩⟩
  cases hx
end
mutual
theorem aFF {s:List SB}: ∀{v:SV} {p:PV},yL v=some p->R s v p
 | .int _ _,p,h| .bool _,p,h| .str _,p,h| .nilf,p,h| .sl _ _,p,h| .nil _ _,p,h=>by injection h with h;exact h.symm
 | .agg cs,p,h=>by
  simp only [yL] at h;split at h
  · rename_i l hl;injection h with h;exact ⟨l,h.symm,pvL_R hl⟩
  cases h
 | .tup cs,p,h=>by
  simp only [yL] at h;split at h
  · rename_i l hl;injection h with h;exact ⟨l,h.symm,pvL_R hl⟩
  cases h
 | .rptr cs o,p,h=>by
  simp only [yL] at h;split at h
  · rename_i l hl;injection h with h;exact ⟨l,h.symm,pvL_R hl⟩
  cases h
 | .clo f a b,p,h=>by
  simp only [yL] at h;split at h
  · rename_i x y h1 h2;injection h with h;exact ⟨x,y,h.symm,pvL_R h1,pvL_R h2⟩
  cases h
 | .junk,_,h| .undef,_,h| .nul,_,h| .own _ _,_,h| .pre _ _ _ _,_,h| .part _ _ _ _ _,_,h| .pa _ _ _ _ _,_,h| .pb _ _ _,_,h| .bp _ _ _,_,h| .mp _,_,h=>by cases h
theorem pvL_R {s:List SB}: ∀{v:List SV} {p:List PV},pvL v=some p->RL s v p
 | [],p,h=>by injection h with h;exact h.symm
 |x::xs,p,h=>by
  obtain ⟨a,as,rfl,h1,h2⟩:=fR.1 h;exact RL.cons (aFF h1) (pvL_R h2)
end
def aPg (kd:Kd) (n:Nat) (tk:List Nat) (v:SV) (r:tH):Prop:=
 match kd with
 | .pure=> ∃p,yL v=some p/\r={v:=p,rd:=tk}
 | .frz=> ∃p,yL v=some p/\r={v:=p,rd:=tk,fr:=tk}
 | .own=> ∃p0 p q,yL v=some p0/\P1 n p0=some (p,q)/\r={v:=p,news:=q,rd:=tk}
def aI (F : qT) (f : FuncId) (c : bO) : Prop :=
  ∀ (a : c.α) (b : c.β) (as args : List PV) (sto : dC) (fz : List Nat), c.fn a = some b -> pvL (c.args.enc a) = some args -> exL sto (EY sto fS) as = some args ->
    ∃ n r, callPure F (run F n) c.ow f as sto fz = some r /\ aPg c.kd sto.length (toksL (dU sto fS) as) (c.res.enc b) r
def eM.va (c:eM) (a:mY c.ka):List SV:=(putL c.ta (qD c.ka a)).1
def eM.sa (c:eM) (a:mY c.ka):List SB:=(IN c.tb (putL c.ta (qD c.ka a)).2).1
def eM.vb (c:eM) (b:mY c.ko):SV:=(zV c.tv (qD c.ko b)).1
def eM.sb (c:eM) (b:mY c.ko):List SB:=(IN c.to (zV c.tv (qD c.ko b)).2).1
def aFG:SB->SB->Prop
 | .arr r l,.arr q m=>r=q/\m.length=l.length
 | .box _,.box _=>True
 | .set _,.set _=>True
 | .tab _ _,.tab _ _=>True
 | .dead,.dead=>True
 |_,_=>False
def kS (F : qT) (f : FuncId) (c : eM) : Prop :=
  ∀ (a : mY c.ka) (b : mY c.ko) (pa : List PV) (ps : dC), c.fn a = some b -> RL (c.sa a) (c.va a) pa -> dD (c.sa a) ps ->
    ∃ n v s, run F n (.func f pa ps []) = some (.func v s []) /\ kF (c.sa a).length v s = true /\ R (c.sb b) (c.vb b) v /\ dD (c.sb b) (s.take (c.sa a).length) /\ (c.sb b).length = (c.sa a).length /\
      ∀ (t : Nat) (x y : SB), (c.sa a)[t]? = some x -> (c.sb b)[t]? = some y -> aFG x y
def IV (F:qT):List (Nat×bO)->Prop
 | []=>True
 |(f,c)::r=>aI F f c/\IV F r
def TK (F:qT):List (Nat×eM)->Prop
 | []=>True
 |(f,c)::r=>kS F f c/\TK F r
def KA (F:qT):List (Nat×Cd)->Prop
 | []=>True
 |(f,x)::r=>F f=some x.ent/\KA F r
structure jT (F:qT) (cx:Ctx):Prop where
 con: ∀f c,c∈cx.con f->aI F f c
 fpc: ∀f c,c∈cx.fpc f->kS F f c
 code: ∀f x,cx.code f=some x->F f=some x.ent
theorem IV.mem {F:qT}: ∀{l:List (Nat×bO)},IV F l-> ∀f c,c∈X5 l f->aI F f c
 | [],_,f,c,h=>by cases h
 |(g,d)::r,hl,f,c,h=>by
  simp only [X5] at h;cases hb:df g f with
  |true=>
   rw [hb] at h
   have:=bn hb
   subst this;simp only [cond_true] at h;rcases h with _|⟨_,h⟩
   · exact hl.1
   exact IV.mem hl.2 _ c h
  |false=>rw [hb] at h;exact IV.mem hl.2 f c h
theorem TK.mem {F:qT}: ∀{l:List (Nat×eM)},TK F l-> ∀f c,c∈X6 l f->kS F f c
 | [],_,f,c,h=>by cases h
 |(g,d)::r,hl,f,c,h=>by
  simp only [X6] at h;cases hb:df g f with
  |true=>
   rw [hb] at h
   have:=bn hb
   subst this;simp only [cond_true] at h;rcases h with _|⟨_,h⟩
   · exact hl.1
   exact TK.mem hl.2 _ c h
  |false=>rw [hb] at h;exact TK.mem hl.2 f c h
theorem KA.mem {F:qT}: ∀{l:List (Nat×Cd)},KA F l-> ∀f x,U7 l f=some x->F f=some x.ent
 | [],_,f,c,h=>by cases h
 |(g,d)::r,hl,f,c,h=>by
  simp only [U7] at h;cases hb:df g f with
  |true=>
   rw [hb] at h
   have:=bn hb
   subst this;injection h with h;subst h;exact hl.1
  |false=>rw [hb] at h;exact KA.mem hl.2 f c h
theorem jT.make {F:qT} {lp:Option Nat} {c:List (Nat×bO)} {p:List (Nat×eM)} {x:List (Nat×Cd)} {rk:List (Nat×List PT)} (h1:IV F c) (h2:TK F p) (h3:KA F x):jT F (lT lp c p x rk):=
 ⟨h1.mem,h2.mem,h3.mem⟩
section
variable {F : qT} {R' ρ : Type} {w : R' -> ρ} {y : ρ} {s : List SB} {ps : dC} {z : List Nat}
theorem FG {f:FuncId} {m:Bool} {tk:List Nat} {vs:List SV} {k:XRS->jK R'} (hS:dD s ps) {as args:List PV} (hx:exL ps (EY ps fS) as=some args) (hv:pvL vs=some args) (htk:tk=toksL (dU ps fS) as):
 ∀{l:List bO},(∀c∈l,aI F f c)->aAY f m s tk vs k l ρ w=some y-> ∃sr pr,(∃n,callPure F (run F n) m f as ps z=some pr)/\jZ s ps sr pr/\k (.loc sr) ρ w=some y
 | [],_,h=>by cases h
 |c::l,hl,h=>by
  simp only [aAY] at h;cases hd:c.args.dec vs with
  |none=>rw [hd] at h;exact FG hS hx hv htk (fun c hc=>hl c (ei _ hc)) h
  |some a=>
   rw [hd] at h;cases hmo:(m==c.ow) with
   |false=>
    rw [hmo] at h;exact FG hS hx hv htk (fun c hc=>hl c (ei _ hc)) h
   |true=>
   rw [hmo] at h;obtain ⟨b,hb,h2⟩:=dN h;have hm:m=c.ow:=by simpa using hmo
   subst hm;have henc:=c.args.law hd hv;obtain ⟨n,r,hr,hres⟩:=hl c (ec ..) a b as args ps z hb henc hx;cases hkd:c.kd with
   |pure=>
    rw [hkd] at h2 hres;obtain ⟨p,h3,rfl⟩:=hres;exact ⟨_,_,⟨n,hr⟩,by rw [<- htk];exact jZ.val hS (aFF h3),h2⟩
   |frz=>
    rw [hkd] at h2 hres;obtain ⟨p,h3,rfl⟩:=hres;exact ⟨_,_,⟨n,hr⟩,by rw [<- htk];exact jZ.val hS (aFF h3),h2⟩
   |own=>
    rw [hkd] at h2 hres;obtain ⟨p0,p,q,h3,h4,rfl⟩:=hres;rw [hS.len] at h4;have hbh:C8 (s++(FC s.length (c.res.enc b)).2) s.length (FC s.length (c.res.enc b)).2:=fun j x hj=>by
     rw [bv (by omega)];simpa using hj
    obtain ⟨k1,k2⟩:=aCs h3 h4 hbh;exact ⟨_,_,⟨n,hr⟩,by rw [<- htk];exact jZ.news hS k2.1 k2.2 k1,h2⟩
end
end Go.Vm
/- A call of a function that works on the blocks that are lent to it. -/
namespace Go.Vm
def wZ {α:Type}:List (Nat×α)->List α->List α
 | [],s=>s
 |(t,b)::r,s=>wZ r (s.set t b)
theorem C9: ∀(l:List (Nat×SB)) (s:List SB),wY l s=wZ l s
 | [],s=>rfl
 |(t,b)::r,s=>by simp only [wY,wZ,J2,C9 r]
theorem M9: ∀(l:List (Nat×mU)) (s:dC),iU l s=wZ l s
 | [],s=>rfl
 |(t,b)::r,s=>by simp only [iU,wZ,M9 r]
theorem IW {α:Type}: ∀(l:List (Nat×α)) (s:List α),(wZ l s).length=s.length
 | [],s=>rfl
 |(t,b)::r,s=>by simp [wZ,IW r]
theorem DA {α:Type}: ∀(l:List (Nat×α)) (s:List α) (t:Nat),t∉l.map (·.1)->(wZ l s)[t]? =s[t]?
 | [],s,t,_=>rfl
 |(u,b)::r,s,t,h=>by
  simp only [c7,gg,not_or] at h;simp only [wZ];rw [DA r _ t h.2,cb];simp [Ne.symm h.1]
theorem L5 {α:Type}: ∀(l:List (Nat×α)) (s:List α) (j t:Nat) (b:α),(l.map (·.1)).Nodup->l[j]? =some (t,b)->t<s.length->(wZ l s)[t]? =some b
 | [],s,j,t,b,_,h,_=>by simp at h
 |(u,c)::r,s,0,t,b,hn,h,ht=>by
  simp at h;obtain ⟨rfl,rfl⟩:=h;simp only [c7,fx] at hn;simp only [wZ];rw [DA r _ u hn.1,cb];simp [ht]
 |(u,c)::r,s,j+1,t,b,hn,h,ht=>by
  simp only [c7,fx] at hn;simp only [wZ];exact L5 r _ j t b hn.2 (by simpa using h) (by simpa using ht)
theorem KB: ∀(l:List (Nat×SB)),FD l=l.map (·.1)
 | []=>rfl
 |(t,b)::r=>by simp [FD,KB r]
theorem TL (g:Nat->Nat): ∀(tk:List Nat) (s:List SB),s.length=tk.length->(HK g tk s).map (·.1)=tk/\ ∀(j t:Nat) (b:SB),tk[j]? =some t->s[j]? =some b->(HK g tk s)[j]? =some (t,aFh g b)
 | [],s,h=>⟨by simp [HK],fun j t b hj=>by simp at hj⟩
 |t::tk,[],h=>by simp at h
 |t::tk,b::s,h=>by
  obtain ⟨h1,h2⟩:=TL g tk s (by simpa using h)
  refine ⟨by simp [HK,h1],fun j u c hj hc=>?_⟩
  cases j with
  |zero=>simp at hj hc;subst hj hc;rfl
  |succ j=>simp only [HK,dp];exact h2 j u c (by simpa using hj) (by simpa using hc)
theorem P2 (g:Nat->Nat): ∀(tk:List Nat) (s:dC),tk.length<=s.length->(tN g tk s).map (·.1)=tk/\ ∀(j t:Nat) (b:mU),tk[j]? =some t->s[j]? =some b->(tN g tk s)[j]? =some (t,HC g b)
 | [],s,h=>⟨by simp [tN],fun j t b hj=>by simp at hj⟩
 |t::tk,[],h=>by simp at h
 |t::tk,b::s,h=>by
  obtain ⟨h1,h2⟩:=P2 g tk s (by simpa using h)
  refine ⟨by simp [tN,h1],fun j u c hj hc=>?_⟩
  cases j with
  |zero=>simp at hj hc;subst hj hc;rfl
  |succ j=>simp only [tN,dp];exact h2 j u c (by simpa using hj) (by simpa using hc)
theorem TM: ∀{l:List (Nat×mU)},(l.map (·.1)).Nodup->CS l=true
 | [],_=>rfl
 |p::r,h=>by
  simp only [c7,fx] at h;simp only [CS,bo,dt,cw];refine ⟨fun q hq=>?_,TM h.2⟩
  cases hb:df q.1 p.1 with
  |false=>rfl
  |true=>exact absurd (ia.2 ⟨q,hq,bn hb⟩) h.1
theorem VD: ∀(s:List SB),LY [] s=s
 | []=>rfl
 |b::r=>by
  simp only [LY,VD r];cases b<;>simp [dgB,dgL_nil]
theorem YF (s:List SB) (r:iD):r.stoOf s=LY (FD r.wr) (wY r.wr s)++r.news:=by
 unfold iD.stoOf;split
 · rename_i h;rw [h];simp only [FD,wY,VD,pZ]
 simp only [pZ]
def aPH (g:Nat->Nat) (s s2:List SB):Prop:= ∀(u:Nat) (x:SB),s[u]? =some x->match x with
 | .arr r l=>s2[g u]? =some (.arr r l)
 | .dead=>s2[g u]? =some .dead
 |_=>True
mutual
theorem aCt {g:Nat->Nat} {s s2:List SB} (hb:aPH g s s2): ∀{v:SV} {p:PV},R s v p->R s2 (X2 g v) (renF g p)
 | .junk,_,_=>trivial
 | .undef,p,h| .nul,p,h| .nilf,p,h| .int _ _,p,h| .bool _,p,h| .str _,p,h| .sl _ _,p,h| .nil _ _,p,h| .bp _ _ _,p,h| .mp _,p,h=>by rw [show p=_ from h];rfl
 | .agg cs,p,h=>by obtain ⟨q,rfl,h⟩:=h;exact ⟨_,rfl,backL_R hb h⟩
 | .tup cs,p,h=>by obtain ⟨q,rfl,h⟩:=h;exact ⟨_,rfl,backL_R hb h⟩
 | .rptr cs o,p,h=>by obtain ⟨q,rfl,h⟩:=h;exact ⟨_,rfl,backL_R hb h⟩
 | .clo f a b,p,h=>by obtain ⟨pa,pb,rfl,h1,h2⟩:=h;exact ⟨_,_,rfl,backL_R hb h1,backL_R hb h2⟩
 | .own t ex,p,h=>by
  obtain ⟨e,n,rfl,hat⟩:=h;refine ⟨e,n,rfl,?_⟩;rcases hat with ⟨r,l,h1,h2,h3⟩|h1
  · exact .inl ⟨r,l,hb t _ h1,h2,h3⟩
  exact .inr (hb t _ h1)
 | .pre t a b c,p,h=>by
  obtain ⟨e,rfl,hat⟩:=h;refine ⟨e,rfl,?_⟩;rcases hat with ⟨r,l,h1,h2⟩|h1
  · exact .inl ⟨r,l,hb t _ h1,h2⟩
  exact .inr (hb t _ h1)
 | .part t o a b c,p,h=>by
  obtain ⟨e,rfl,hat⟩:=h;refine ⟨e,rfl,?_⟩;rcases hat with ⟨r,l,h1,h2⟩|h1
  · exact .inl ⟨r,l,hb t _ h1,h2⟩
  exact .inr (hb t _ h1)
 | .pa t r i a o,p,h=>by
  obtain ⟨rfl,hat⟩:=h;refine ⟨_,rfl,?_⟩;rcases hat with ⟨l,h1,h2⟩|h1
  · exact .inl ⟨r,l,hb t _ h1,by rw [h2];rfl⟩
  exact .inr (hb t _ h1)
 | .pb t i o,p,h=>by
  obtain ⟨e,rfl,hat⟩:=h;refine ⟨e,rfl,?_⟩;rcases hat with ⟨r,l,h1,h2⟩|h1
  · exact .inl ⟨r,l,hb t _ h1,h2⟩
  exact .inr (hb t _ h1)
theorem backL_R {g:Nat->Nat} {s s2:List SB} (hb:aPH g s s2): ∀{v:List SV} {p:List PV},RL s v p->RL s2 (backL g v) (renFL g p)
 | [],p,h=>by rw [show p=_ from h];rfl
 |x::xs,p,h=>by
  obtain ⟨a,as,rfl,h1,h2⟩:=h.cons_inv;exact RL.cons (aCt hb h1) (backL_R hb h2)
end
theorem P3: ∀{a b:dC},(∀(t:Nat) (x:mU),a[t]? =some x-> ∃y,b[t]? =some y/\x.solid=y.solid)->CR a b=true
 | [],b,_=>by cases b<;>rfl
 |x::a,[],h=>by obtain ⟨y,hy,_⟩:=h 0 x rfl;simp at hy
 |x::a,y::b,h=>by
  obtain ⟨y',h1,h2⟩:=h 0 x rfl;simp at h1;subst h1
  have:=P3 (a:=a) (b:=b) (fun t x hx=>by simpa using h (t+1) x (by simpa using hx))
  simp only [CR,this,eh,h2];cases y.solid<;>rfl
section
variable {F : qT} {R' ρ : Type} {w : R' -> ρ} {y : ρ} {s : List SB} {ps : dC} {z : List Nat}
theorem aCu {f:FuncId} {tk:List Nat} {vals vs:List SV} {s0:List SB} {k:XRS->jK R'} (hS:dD s ps) {pas:List PV} (hv:RL s vals pas) (htk:tk=tJ (toksL (dU ps fS) pas)) (hz:(tk.all fun t=>!has z t)=true)
 (h1:renVL tk vals=some vs) (h2:SG s tk tk=some s0):
 ∀{l:List eM},(∀c∈l,kS F f c)->fpS f s.length tk vs s0 k l ρ w=some y-> ∃sr pr,(∃n,A4 (run F n) f pas ps z=some pr)/\jZ s ps sr pr/\k (.loc sr) ρ w=some y
 | [],_,h=>by cases h
 |c::l,hl,h=>by
  have next:fpS f s.length tk vs s0 k l ρ w=some y-> ∃sr pr,(∃n,A4 (run F n) f pas ps z=some pr)/\jZ s ps sr pr/\k (.loc sr) ρ w=some y:=
   fun h=>aCu hS hv htk hz h1 h2 (fun c hc=>hl c (ei _ hc)) h
  simp only [fpS] at h;cases hlk:(likeL c.ta vs&&PK c.tb s0) with
  |false=>rw [hlk] at h;exact next h
  |true=>
   rw [hlk] at h;simp only [cond_true] at h;cases hpo:wX c.ka (atsL vs++U4 s0) with
   |none=>rw [hpo] at h;exact next h
   |some a=>
    rw [hpo] at h;obtain ⟨b,hb,h3⟩:=dN h;simp only [bo] at hlk;have hats:=yN hpo;have hva:c.va a=vs:=by unfold eM.va;rw [hats,put_atsL _ hlk.1]
    have hsa:c.sa a=s0:=by
     unfold eM.sa;rw [hats,put_atsL _ hlk.1]
     have:=J9 [] hlk.2
     rw [de] at this;rw [this]
    have hren:P0 tk s s0:=by have:=P0.of (l:=[]) h2;rwa [de] at this
    obtain ⟨pa',a1,a2⟩:=renVL_R hren hv h1;obtain ⟨p0,b1,b2,b3⟩:=L1 hS hren h2;have hs0:dD s0 p0:=⟨b2,b3⟩;obtain ⟨hs0l,hs0g⟩:=FF h2;obtain ⟨n,v,sr,r1,r2,r3,r4,r5,r6⟩:=hl c (ec ..) a b pa' p0 hb (by rw [hva,hsa];exact a2) (by rw [hsa];exact hs0)
    rw [hsa] at r2 r4 r5 r6;have hnd:tk.Nodup:=by rw [htk];exact AC
    have htl: ∀t∈tk,t<s.length:=fun t ht=>by
     obtain ⟨j,hj,he⟩:=ek ht;obtain ⟨x,c',d1,_,_⟩:=hs0g j t (by rw [bw hj,he])
     exact (bq.1 d1).1
    have hsbl:(c.sb b).length=tk.length:=by rw [r5,hs0l]
    have hsrl:tk.length<=sr.length:=by
     have:=r4.len
     rw [db,hsbl] at this;rw [hs0l] at this;omega
    have htake: ∀j,j<tk.length->(sr.take s0.length)[j]? =sr[j]?:=fun j hj=>bz (by rw [hs0l];exact hj)
    have hfirm:CR p0 sr=true:=P3 (fun t x hx=>by
     have htl':t<s0.length:=by have:=(bq.1 hx).1;rw [b2] at this;exact this
     obtain ⟨x0,hx0⟩: ∃x0,s0[t]? =some x0:=⟨s0[t],bw htl'⟩;obtain ⟨q,q1,q2⟩:=b3 t x0 hx0;rw [hx] at q1;injection q1 with q1;subst q1;obtain ⟨y0,hy0⟩: ∃y0,(c.sb b)[t]? =some y0:=⟨(c.sb b)[t]'(by omega),bw (by omega)⟩
     obtain ⟨q',q3,q4⟩:=r4.at_ t y0 hy0;rw [htake t (by omega)] at q3
     refine ⟨q',q3,?_⟩;have hfm:=r6 t x0 y0 hx0 hy0;cases x0 with
     |arr r l=>cases y0 with
      |arr r' l'=>
       obtain ⟨rfl,hll⟩:=hfm;rw [show x=_ from q2,show q'=_ from q4];cases l<;>cases l'<;>simp_all [mU.solid]
      |_=>exact hfm.elim
     |box cs=>cases y0 with
      |box cs'=>obtain ⟨_,rfl,_⟩:=q2;obtain ⟨_,rfl,_⟩:=q4;rfl
      |_=>exact hfm.elim
     |set l=>cases y0 with
      |set l'=>rw [show x=_ from q2,show q'=_ from q4];rfl
      |_=>exact hfm.elim
     |tab p l=>cases y0 with
      |tab p' l'=>rw [show x=_ from q2,show q'=_ from q4];rfl
      |_=>exact hfm.elim
     |dead=>cases y0 with
      |dead=>rw [show x=_ from q2,show q'=_ from q4]
      |_=>exact hfm.elim)
    let g:=nF tk s.length
    have hg: ∀j t,tk[j]? =some t->g j=t:=fun j t hj=>by show nF tk s.length j=t;unfold nF;rw [hj]
    obtain ⟨w1,w2⟩:=TL g tk (c.sb b) hsbl;obtain ⟨u1,u2⟩:=P2 g tk sr hsrl
    let s2:=LY tk (wY (HK g tk (c.sb b)) s)
    have hin: ∀(j t:Nat) (x:SB),tk[j]? =some t->(c.sb b)[j]? =some x->s2[t]? =some (dgB tk (aFh g x)):=fun j t x hj hx=>by
     show (LY tk _)[t]? =_;rw [C4,C9,L5 _ s j t _ (by rw [w1];exact hnd) (w2 j t x hj hx) (htl t (dz hj))]
     rfl
    have hout: ∀(t:Nat),t∉tk->s2[t]? =(s[t]?).map (dgB tk):=fun t ht=>by
     show (LY tk _)[t]? =_;rw [C4,C9,DA _ s t (by rw [w1];exact ht)]
    have hmem: ∀t∈tk,∃j,tk[j]? =some t:=fun t ht=>by
     obtain ⟨j,hj,he⟩:=ek ht;exact ⟨j,by rw [bw hj,he]⟩
    have hfr:Fr tk s s2:=fun t x hx=>by
     by_cases ht:t∈tk
     · obtain ⟨j,hj⟩:=hmem t ht
       have hjl:j<tk.length:=(bq.1 hj).1;obtain ⟨x',c',d1,d2,d3⟩:=hs0g j t hj;rw [hx] at d1;injection d1 with d1;subst d1;obtain ⟨y0,hy0⟩: ∃y0,(c.sb b)[j]? =some y0:=⟨(c.sb b)[j]'(by omega),bw (by omega)⟩
       have hfm:=r6 j c' y0 d3 hy0;have hs2:=hin j t y0 hj hy0;cases x with
       |arr r l=>
        injection d2 with d2;subst d2;cases y0 with
        |arr r' l'=>
         obtain ⟨rfl,hll⟩:=hfm;refine .inl ⟨l',hs2,hll,fun hb=>?_⟩
         exfalso
         have:has tk t=true:=by unfold has;rw [gt];exact ⟨t,ht,by simp⟩
         rw [this] at hb;cases hb
        |_=>exact hfm.elim
       |dead=>
        injection d2 with d2;subst d2;cases y0 with
        |dead=>exact hs2
        |_=>exact hfm.elim
       |_=>trivial
     have:=hout t ht
     rw [hx] at this;cases x with
     |arr r l=>exact .inl ⟨l,this,rfl,fun _=>rfl⟩
     |dead=>exact this
     |_=>trivial
    have hback:aPH g (c.sb b) s2:=fun u x hx=>by
     have hul:u<tk.length:=by have:=(bq.1 hx).1;omega
     have hj:tk[u]? =some tk[u]:=bw hul
     have:=hin u _ x hj hx
     rw [hg u _ hj];cases x with
     |arr r l=>exact this
     |dead=>exact this
     |_=>trivial
    have hRes:(∃n,A4 (run F n) f pas ps z=some {v:=renF g v,wr:=tN g tk sr}):=by
     refine ⟨n,?_⟩;unfold A4 aHg;rw [<- htk,if_pos hz,a1,b1];dsimp only;rw [r1];dsimp only;unfold OL;rw [if_pos hfirm,hS.len]
     have:kF tk.length v sr=true:=by rw [<- hs0l];exact r2
     rw [if_pos this]
    refine ⟨{v:=X2 g (c.vb b),wr:=HK g tk (c.sb b)},_,hRes,?_,h3⟩;have hst:iD.stoOf s {v:=X2 g (c.vb b),wr:=HK g tk (c.sb b)}=s2:=by
     rw [YF,de,KB,w1]
    exact {
     rd:=rfl
     fr:=rfl
     wr:=by rw [KB,w1];exact u1
     nw:=TM (by rw [u1];exact hnd)
     nl:=rfl
     sto:=by
      rw [hst];show dD s2 (iU (tN g tk sr) ps);rw [M9];refine ⟨by rw [IW,GP,C9,IW,hS.len],fun t x hx=>?_⟩
      by_cases ht:t∈tk
      · obtain ⟨j,hj⟩:=hmem t ht
        have hjl:j<tk.length:=(bq.1 hj).1;obtain ⟨y0,hy0⟩: ∃y0,(c.sb b)[j]? =some y0:=⟨(c.sb b)[j]'(by omega),bw (by omega)⟩
        have hs2:=hin j t y0 hj hy0;rw [hx] at hs2;injection hs2 with hs2;subst hs2;obtain ⟨q',q3,q4⟩:=r4.at_ j y0 hy0;rw [htake j hjl] at q3;refine ⟨HC g q',L5 _ ps j t _ (by rw [u1];exact hnd) (u2 j t q' hj q3) (by rw [hS.len];exact htl t ht),?_⟩
        cases y0 with
        |box cs=>
         obtain ⟨pc,rfl,hpc⟩:=q4;exact ⟨_,rfl,RL.fr (Fr.refl tk s2) (backL_R hback hpc)⟩
        |arr r l=>rw [show q'=_ from q4];rfl
        |set l=>rw [show q'=_ from q4];rfl
        |tab p l=>rw [show q'=_ from q4];rfl
        |dead=>rw [show q'=_ from q4];rfl
      rw [hout t ht,cz] at hx
      obtain ⟨x0,hx0,rfl⟩:=hx;obtain ⟨q,q1,q2⟩:=hS.at_ t x0 hx0;exact ⟨q,by rw [DA _ ps t (by rw [u1];exact ht)];exact q1,q2.fr hfr⟩
     v:=by rw [hst];exact aCt hback r3
     fra:=by rw [hst,KB,w1];exact hfr}
end
end Go.Vm
/- What the typed machine makes of a function is what the logical machine runs. -/
namespace Go.Vm
section
variable {F : qT}
theorem WO.shrAny {o:cE} {r:List cE} {st:St} {tr:List Tr} {Q:St->List Tr->Prop} {f:FuncId} {args:List PV}
 (hw:wanted o.guard st.env=some true) (hop: ∀n,EB F (run F n) st.env st.sto st.fz o.op=hJ (run F n) f args st.sto st.fz)
 (h:JK F f args st.sto st.fz fun v s z=>(cm st.sto.length s.length&&st.fz.all (has z))=true/\WO F r {st with env:=kU o.dst v st.env,sto:=s,fz:=z} (aFg::tr) Q):
 WO F (o::r) st tr Q:=by
 obtain ⟨n,v,s,z,hr,hc,hk⟩:=h;refine WO.call (.shr v s z) hw ⟨n,?_⟩ rfl hk;rw [hop];simp only [hJ,hr];rw [if_pos hc]
theorem WP.again {live:List (Nat×Option Nat)} {b:mV} {st s1:St} {Q:jV->St->Prop} (h0:NM live st=some s1) (h:WP F b s1 (NY (fun s=>WP F (.loop live b) s Q) Q)):WP F (.loop live b) st Q:=by
 obtain ⟨m,e,s,he,hq⟩:=h;cases e with
 |normal=>
  obtain ⟨k,e',s',he',hq'⟩:=hq;refine ⟨max m k+1,e',s',?_,hq'⟩;simp only [zT] at he' ⊢;rw [qB];simp only [step,h0];rw [vQ (vR F (Nat.le_max_left m k)) _ _ _ he];dsimp only;split at he'
  · rename_i e1 s1 hr1
    rw [vR F (Nat.le_max_right m k) _ _ hr1];exact he'
  cases he'
 |exit i=>exact ⟨m+1,.exit i,s,by simp only [zT];rw [qB];simp only [step,h0,he],hq⟩
 |ret=>exact ⟨m+1,.ret,s,by simp only [zT];rw [qB];simp only [step,h0,he],hq⟩
def YG (F : qT) (inl : Inl) : Prop :=
  ∀ (f : FuncId) (args : List SV) (s : List SB) (z : List Nat) (R' : Type) (k : SV -> List SB -> List Nat -> jK R') (ρ : Type) (w : R' -> ρ) (y : ρ) (pa : List PV) (ps : dC) (Q : R' -> PV -> dC -> List Nat -> Prop),
    RL s args pa -> dD s ps -> inl f args s z R' k ρ w = some y ->
    (∀ v s' z' p ps' ρ' (w' : R' -> ρ') y', R s' v p -> dD s' ps' -> k v s' z' ρ' w' = some y' -> ∃ r, y' = w' r /\ Q r p ps' z') ->
    ∃ r, y = w r /\ JK F f pa ps z (fun p ps' z' => Q r p ps' z')
def aCv:SB->SB->Prop
 | .arr r l,b=>(∃l',b= .arr r l'/\l'.length=l.length)\/b= .dead
 | .dead,b=>b= .dead
 |_,_=>True
theorem KC {R' ρ:Type} {w:R'->ρ} {y:ρ}: ∀{s s':List SB} {k:jK R'},AE s s' k ρ w=some y->k ρ w=some y/\s.length<=s'.length/\
 ∀(t:Nat) (b:SB),s[t]? =some b-> ∃b',s'[t]? =some b'/\aCv b b'
 | [],s',k,h=>⟨by cases s'<;>exact h,Nat.zero_le _,fun t b ht=>by simp at ht⟩
 |x::xs,[],k,h=>by cases h
 |x::xs,y'::ys,k,h=>by
  have step: ∀(_:AE xs ys k ρ w=some y) (_:aCv x y'),k ρ w=some y/\(x::xs).length<=(y'::ys).length/\ ∀(t:Nat) (b:SB),(x::xs)[t]? =some b-> ∃b',(y'::ys)[t]? =some b'/\aCv b b':=by
   intro h hx;obtain ⟨h1,h2,h3⟩:=KC h;refine ⟨h1,by simpa using h2,fun t b ht=>?_⟩
   cases t with
   |zero=>simp at ht;subst ht;exact ⟨y',rfl,hx⟩
   |succ t=>simpa using h3 t b (by simpa using ht)
  cases x with
  |arr r l=>
   cases y' with
   |arr q m=>
    obtain ⟨hr,h2⟩:=dL (a:=iY (m.length==l.length) (AE xs ys k) aQ) h;obtain ⟨hl,h3⟩:=kG h2
    have:=B9 hr
    subst this;exact step h3 (.inl ⟨m,rfl,by simpa using hl⟩)
   |dead=>exact step h (.inr rfl)
   |_=>cases h
  |dead=>
   cases y' with
   |dead=>exact step h rfl
   |_=>cases h
  |box cs=>exact step h trivial
  |set l=>exact step h trivial
  |tab p l=>exact step h trivial
theorem aFH {n t:Nat} (h:t<n):has (BW n) t=true:=by
 induction n with
 |zero=>omega
 |succ n ih=>
  unfold has at ih ⊢;rw [gt] at*;simp only [BW,gy,ed];rcases d5 t n with h1|h1
  · obtain ⟨x,h2,h3⟩:=ih h1
    exact ⟨x,.inl h2,h3⟩
  have:t=n:=by omega
  subst this;exact ⟨t,.inr rfl,by simp⟩
theorem aA8 {s s':List SB} (h: ∀(t:Nat) (b:SB),s[t]? =some b-> ∃b',s'[t]? =some b'/\aCv b b'):Fr (BW s.length) s s':=fun t b hb=>by
 obtain ⟨b',h1,h2⟩:=h t b hb;have hlt:=(bq.1 hb).1;cases b with
 |arr r l=>
  rcases h2 with ⟨l',rfl,h3⟩|rfl
  · exact .inl ⟨l',h1,h3,fun hx=>by rw [aFH hlt] at hx;cases hx⟩
  exact .inr h1
 |dead=>rw [show b'= .dead from h2] at h1;exact h1
 |_=>trivial
theorem aVR {s:List SB} {ps:dC} {sr:iD} {pr:tH} (G:jZ s ps sr pr) (hS:dD s ps):(XR.loc pr).tr ps.length=sr.tr s.length:=by
 simp only [XR.tr,iD.tr,G.rd,G.fr,hS.len,<- G.wr,G.nl,ib]
 have:pr.news.isEmpty=sr.news.isEmpty:=by
  have:=G.nl
  cases h1:pr.news<;>cases h2:sr.news<;>simp_all
 rw [this];rfl
theorem aPI {st:vW} {p:St} (h:HM st p) {sr:iD} {pr:tH} (G:jZ st.sto p.sto sr pr) (d:Option Nat):HM (sr.next d st) ((XR.loc pr).next d p):=by
 have hput: ∀{s:List SB} {e:SE} {pe:zQ} {v:SV} {q:PV},eZ s e pe->R s v q->eZ s (U6 d v e) (kU d q pe):=by
  intro s e pe v q he hv;cases d with
  |none=>exact he
  |some t=>exact ⟨q,pe,rfl,hv,he⟩
 have hs:=YF st.sto sr;unfold iD.next
 split
 · rename_i hw
   rw [hw] at hs;simp only [FD,wY,VD] at hs;have hsto:=G.sto;have hv:=G.v;have hfr:=G.fra;rw [hs] at hsto hv hfr;rw [hw] at hfr;exact ⟨by simp only [pZ];exact hput (eZ.ext hfr h.env) hv,by simp only [pZ];exact hsto,by simp only [XR.next,G.fr,h.fz],h.kn⟩
 have hsto:=G.sto
 have hv:=G.v;have hfr:=G.fra;rw [hs] at hsto hv hfr;exact ⟨by simp only [pZ];exact hput (eZ.fr hfr h.env) hv,by simp only [pZ];exact hsto,by simp only [XR.next,G.fr,h.fz],h.kn⟩
theorem aVS {s:List SB} {ps:dC} {sr:iD} {pr:tH} (G:jZ s ps sr pr) {z:List Nat} (h:sr.ok z=true):(XR.loc pr).ok z=true:=by
 simp only [XR.ok,G.nw,eh];unfold iD.ok at h;rw [<- G.wr,ib] at h;exact h
section
variable {cx : Ctx} {inl : Inl} {R' : Type}
def aYu (_F:qT) (k:vW->List Tr->jK R') (Q:R'->St->List Tr->Prop):Prop:=
 ∀st p tr ρ (w:R'->ρ) y,HM st p->k st tr ρ w=some y-> ∃r,y=w r/\Q r p tr
theorem DB {o:cE} {l:List cE} {st:vW} {p:St} {tr:List Tr} {k:vW->List Tr->jK R'} {ρ:Type} {w:R'->ρ} {y:ρ} {Q:R'->St->List Tr->Prop}
 (hl: ∀st p tr ρ (w:R'->ρ) y,HM st p->k st tr ρ w=some y-> ∃r,y=w r/\WO F l p tr (Q r)) (h:HM st p) {sr:iD} {pr:tH} (hw:wanted o.guard p.env=some true)
 (hx: ∃n,EB F (run F n) p.env p.sto p.fz o.op=some (.loc pr)) (G:jZ st.sto p.sto sr pr) (hg:goS o.dst st tr k (.loc sr) ρ w=some y): ∃r,y=w r/\WO F (o::l) p tr (Q r):=by
 unfold goS at hg;dsimp only at hg;obtain ⟨hok,hg⟩:=dL hg;rw [U1] at hg;have hR:=aPI h G o.dst;obtain ⟨r,hr,hwo⟩:=hl _ _ _ _ _ _ hR hg;refine ⟨r,hr,WO.call (.loc pr) hw hx (by rw [h.fz];exact aVS G hok) ?_⟩
 rw [aVR G h.sto];exact hwo
theorem YH (hcx:jT F cx) (hinl:YG F inl) {o:cE} {l:List cE} {st:vW} {p:St} {tr:List Tr} {k:vW->List Tr->jK R'} {ρ:Type} {w:R'->ρ} {y:ρ} {Q:R'->St->List Tr->Prop}
 (hl: ∀st p tr ρ (w:R'->ρ) y,HM st p->k st tr ρ w=some y-> ∃r,y=w r/\WO F l p tr (Q r)) (h:HM st p) (hw:wanted o.guard p.env=some true)
 (hg:TC cx inl st.env st.sto st.fz o.op (goS o.dst st tr k) ρ w=some y): ∃r,y=w r/\WO F (o::l) p tr (Q r):=by
 have hS:=h.sto;have hE:=h.env;have shr: ∀(f:FuncId) (vals:List SV) (pas:List PV),RL st.sto vals pas->(∀n,EB F (run F n) p.env p.sto p.fz o.op=hJ (run F n) f pas p.sto p.fz)->
  inl f vals st.sto st.fz R' (fun v s' z'=>goS o.dst st tr k (.shr v s' z')) ρ w=some y-> ∃r,y=w r/\WO F (o::l) p tr (Q r):=by
  intro f vals pas hv hop hi;obtain ⟨r,hr,hd⟩:=hinl f vals st.sto st.fz R' _ ρ w y pas p.sto (fun r v s z=>(cm p.sto.length s.length&&p.fz.all (has z))=true/\WO F l {p with env:=kU o.dst v p.env,sto:=s,fz:=z} (aFg::tr) (Q r)) hv hS hi
   (fun v s' z' pv ps' ρ' w' y' hR hS' hk=>by
    unfold goS at hk;dsimp only at hk;rw [U1] at hk;obtain ⟨hk,hlen,hsame⟩:=KC hk;obtain ⟨hz,hk⟩:=dL hk;have hfr:=aA8 hsame;have hput:eZ s' (U6 o.dst v (dgE (BW st.sto.length) st.env)) (kU o.dst pv p.env):=by
     cases o.dst with
     |none=>exact eZ.fr hfr hE
     |some t=>exact ⟨pv,p.env,rfl,hR,eZ.fr hfr hE⟩
    have hR':HM {env:=U6 o.dst v (dgE (BW st.sto.length) st.env),sto:=s',fz:=z',kn:=st.kn} {p with env:=kU o.dst pv p.env,sto:=ps',fz:=z'}:=⟨hput,hS',rfl,h.kn⟩;obtain ⟨r,hr,hwo⟩:=hl _ _ _ _ _ _ hR' hk;refine ⟨r,hr,?_,hwo⟩;rw [h.fz,hz,eh,hS.len,hS'.len];simpa using hlen)
  refine ⟨r,hr,WO.shrAny hw hop ?_⟩;rw [h.fz];rw [h.fz] at hd;exact hd
 have loc: ∀{k':iD->jK R'},qC st.env st.sto st.fz o.op k' ρ w=some y->LU o.op=false->(∀sr,k' sr=goS o.dst st tr k (.loc sr))-> ∃r,y=w r/\WO F (o::l) p tr (Q r):=by
  intro k' hv hc hk;obtain ⟨sr,pr,h1,G,h2⟩:=aHH hE hS (pe:=p.env) hv;rw [hk] at h2;exact DB hl h hw ⟨0,by rw [UY hc,h.fz,h1];rfl⟩ G h2
 generalize hop:o.op=op at hg;cases op with
 |call m f args=>
  have hargs:=GO hE args;simp only [TC] at hg;cases m with
  |pur=>
   dsimp only at hg;cases hx:exVL st.sto (nU st.sto fS) (mF st.env args) with
   |none=>rw [hx] at hg;cases hg
   |some vs=>
    rw [hx] at hg;obtain ⟨q,h1,h2⟩:=exVL_R hS (N2 hS fS) hargs hx;obtain ⟨sr,pr,⟨n,h3⟩,G,h4⟩:=FG (f:=f) (z:=st.fz) hS h1 h2 (tkExL hS (PX hS fS) hargs hx) (fun c hc=>hcx.con f c hc) hg
    exact DB hl h hw ⟨n,by rw [hop,h.fz];simp only [EB,h3];rfl⟩ G h4
  |own=>
   dsimp only at hg;cases hx:exVL st.sto (nU st.sto fS) (mF st.env args) with
   |none=>rw [hx] at hg;cases hg
   |some vs=>
    rw [hx] at hg;obtain ⟨q,h1,h2⟩:=exVL_R hS (N2 hS fS) hargs hx;obtain ⟨sr,pr,⟨n,h3⟩,G,h4⟩:=FG (f:=f) (z:=st.fz) hS h1 h2 (tkExL hS (PX hS fS) hargs hx) (fun c hc=>hcx.con f c hc) hg
    exact DB hl h hw ⟨n,by rw [hop,h.fz];simp only [EB,h3];rfl⟩ G h4
  |shr=>exact shr f _ _ hargs (fun n=>by rw [hop];rfl) hg
  |fp=>
   dsimp only at hg;cases hx:aAT st.sto (nU st.sto fS) (mF st.env args) with
   |false=>rw [hx] at hg;cases hg
   |true=>
    rw [hx] at hg;dsimp only at hg;obtain ⟨hz,hg⟩:=dL hg;cases h1:renVL (tJ (tkVL (EW st.sto fS) (mF st.env args))) (mF st.env args) with
    |none=>rw [h1] at hg;cases hg
    |some vs=>
     cases h2:SG st.sto (tJ (tkVL (EW st.sto fS) (mF st.env args))) (tJ (tkVL (EW st.sto fS) (mF st.env args))) with
     |none=>rw [h1,h2] at hg;cases hg
     |some s0=>
      rw [h1,h2] at hg;obtain ⟨sr,pr,⟨n,h3⟩,G,h4⟩:=aCu (f:=f) (z:=st.fz) hS hargs (by rw [aFz hS (PX hS fS) hargs hx]) hz h1 h2 (fun c hc=>hcx.fpc f c hc) hg
      exact DB hl h hw ⟨n,by rw [hop,h.fz];simp only [EB,h3];rfl⟩ G h4
 |callv x args=>
  have hargs:=GO hE args;simp only [TC] at hg;have hx:=eW hE x;generalize cK st.env x=v at hg hx;cases v with
  |clo f a b=>
   dsimp only at hg;obtain ⟨pa,pb,hx,ha,hb⟩:=hx;have hany: ∀{vs:List SV} {q:List PV},RL st.sto vs q->(anyPtr vs=true->q.any OK=true):=by
    intro vs
    induction vs with
    |nil=>intro q _ h;cases h
    |cons v vs ih=>
     intro q hq hp;obtain ⟨a,as,rfl,h1,h2⟩:=hq.cons_inv;simp only [anyPtr,gz] at hp;simp only [g8,gz];rcases hp with hp|hp
     · left
       cases v with
       |own _ _=>obtain ⟨_,_,rfl,_⟩:=h1;rfl
       |pre _ _ _ _=>obtain ⟨_,rfl,_⟩:=h1;rfl
       |part _ _ _ _ _=>obtain ⟨_,rfl,_⟩:=h1;rfl
       |pa _ _ _ _ _=>obtain ⟨rfl,_⟩:=h1;rfl
       |pb _ _ _=>obtain ⟨_,rfl,_⟩:=h1;rfl
       |bp _ _ _=>rw [show a=_ from h1];rfl
       |mp _=>rw [show a=_ from h1];rfl
       |_=>cases hp
     right;exact ih h2 hp
   cases hp:anyPtr (mF st.env args++b) with
   |true=>
    rw [hp] at hg
    have:=hany (hargs.append hb) hp
    exact shr f _ _ ((ha.append hargs).append hb) (fun n=>by rw [hop];simp only [EB,hx,this,if_true]) hg
   |false=>
    rw [hp] at hg;simp only [cond_false] at hg;cases hxx:exVL st.sto (nU st.sto fS) (a++mF st.env args++b) with
    |none=>rw [hxx] at hg;cases hg
    |some vs=>
     rw [hxx] at hg;have hno: ∀{vs u:List SV} {q:List PV},RL st.sto vs q->anyPtr vs=false->exVL st.sto (nU st.sto fS) vs=some u->q.any OK=false:=by
      intro vs
      induction vs with
      |nil=>intro u q hq _ _;rw [show q=[] from hq];rfl
      |cons v vs ih=>
       intro u q hq hp hu;obtain ⟨a,as,rfl,h1,h2⟩:=hq.cons_inv;simp only [anyPtr,Bool.or_eq_false_iff] at hp;simp only [exVL] at hu;split at hu
       · rename_i y1 y2 e1 e2
         simp only [g8,ih h2 hp.2 e2,Bool.or_false];cases v with
         |agg _|tup _|rptr _ _=>obtain ⟨_,rfl,_⟩:=h1;rfl
         |clo _ _ _=>obtain ⟨_,_,rfl,_⟩:=h1;rfl
         |int _ _|bool _|str _|nilf|sl _ _|nil _ _|undef|nul=>rw [show a=_ from h1];rfl
         |junk=>cases e1
         |own _ _|pre _ _ _ _|part _ _ _ _ _|pa _ _ _ _ _|pb _ _ _|bp _ _ _|mp _=>cases hp.1
       cases hu
     have hsplit: ∃u2,exVL st.sto (nU st.sto fS) (mF st.env args++b)=some u2:=by
      have: ∀(l:List SV) {m u:List SV},exVL st.sto (nU st.sto fS) (l++m)=some u-> ∃u2,exVL st.sto (nU st.sto fS) m=some u2:=by
       intro l
       induction l with
       |nil=>intro m u h;exact ⟨u,h⟩
       |cons x l ih=>
        intro m u h;simp only [ft,exVL] at h;split at h
        · rename_i e1 e2;exact ih e2
        cases h
      rw [cy] at hxx;exact this a hxx
     obtain ⟨u2,hu2⟩:=hsplit;have hno':=hno (hargs.append hb) hp hu2;have hall:=(ha.append hargs).append hb;obtain ⟨q,h1,h2⟩:=exVL_R hS (N2 hS fS) hall hxx;obtain ⟨sr,pr,⟨n,h3⟩,G,h4⟩:=FG (f:=f) (z:=st.fz) hS h1 h2 (tkExL hS (PX hS fS) hall hxx) (fun c hc=>hcx.con f c hc) hg
     exact DB hl h hw ⟨n,by rw [hop,h.fz];simp only [EB,hx,hno',ce,if_false,h3];rfl⟩ G h4
  |_=>cases hg
 |_=>exact loc (k':=fun r=>goS o.dst st tr k (.loc r)) (by rw [hop];exact hg) (by rw [hop];rfl) (fun _=>rfl)
theorem DC (hcx:jT F cx) (hinl:YG F inl): ∀(ops:List cE) {st:vW} {p:St} {tr:List Tr} {k:vW->List Tr->jK R'} {ρ:Type} {w:R'->ρ} {y:ρ} {Q:R'->St->List Tr->Prop},
 aYu F k Q->HM st p->tU cx inl ops st tr k ρ w=some y-> ∃r,y=w r/\WO F ops p tr (Q r)
 | [],st,p,tr,k,ρ,w,y,Q,hk,h,he=>by
  obtain ⟨r,hr,hq⟩:=hk st p tr ρ w y h he;exact ⟨r,hr,WO.nil hq⟩
 |o::l,st,p,tr,k,ρ,w,y,Q,hk,h,he=>by
  have hl: ∀st p tr ρ (w:R'->ρ) y,HM st p->tU cx inl l st tr k ρ w=some y-> ∃r,y=w r/\WO F l p tr (Q r):=fun st p tr ρ w y h he=>DC hcx hinl l hk h he
  have setR: ∀{st:vW} {c:Nat} {v:SV},HM st p->R st.sto v (lk c p.env)->HM {st with env:=setS c v st.env} p:=fun h hv=>⟨h.env.setS hv,h.sto,h.fz,h.kn⟩
  have run': ∀{st:vW},HM st p->wanted o.guard p.env=some true->(match o.op with
   | .pick (.t c) a b=>match SC c st.env with
    | .bool x=>iY x (goS o.dst {st with env:=setS c (.bool true) st.env} tr (tU cx inl l · · k) (.loc {v:=cK st.env a}))
     (goS o.dst {st with env:=setS c (.bool false) st.env} tr (tU cx inl l · · k) (.loc {v:=cK st.env b}))
    |_=>aQ
   |op=>TC cx inl st.env st.sto st.fz op (goS o.dst st tr (tU cx inl l · · k))) ρ w=some y-> ∃r,y=w r/\WO F (o::l) p tr (Q r):=by
   intro st h hw he;have plain:TC cx inl st.env st.sto st.fz o.op (goS o.dst st tr (tU cx inl l · · k)) ρ w=some y-> ∃r,y=w r/\WO F (o::l) p tr (Q r):=fun he=>YH hcx hinl hl h hw he
   generalize hop:o.op=op at he;cases op with
   |pick c a b=>
    cases c with
    |c v=>exact plain (by rw [hop];exact he)
    |t c=>
     dsimp only at he;generalize hv:SC c st.env=v at he;cases v with
     |bool x=>
      have hx:lk c p.env= .bool x:=by have:=h.env.lk c;rw [hv] at this;exact this
      rcases gB he with ⟨rfl,he⟩|⟨rfl,he⟩
      · have hR:=setR h (c:=c) (v:= .bool true) hx
        exact DB (o:=o) hl hR hw ⟨0,by rw [hop];simp only [EB,bS,gX.ev,hx];rfl⟩ (jZ.val hR.sto (eW h.env a)) he
      have hR:=setR h (c:=c) (v:= .bool false) hx
      exact DB (o:=o) hl hR hw ⟨0,by rw [hop];simp only [EB,bS,gX.ev,hx];rfl⟩ (jZ.val hR.sto (eW h.env b)) he
     |_=>cases he
   |_=>exact plain (by rw [hop];exact he)
  have skip': ∀{st:vW},HM st p->wanted o.guard p.env=some false->tU cx inl l {st with env:=U6 o.dst .nul st.env} (Tr.idle::tr) k ρ w=some y-> ∃r,y=w r/\WO F (o::l) p tr (Q r):=by
   intro st h hw he;have hR:HM {st with env:=U6 o.dst .nul st.env} {p with env:=kU o.dst .nul p.env}:=by
    refine ⟨?_,h.sto,h.fz,h.kn⟩;cases o.dst with
    |none=>exact h.env
    |some t=>exact ⟨.nul,p.env,rfl,rfl,h.env⟩
   obtain ⟨r,hr,hwo⟩:=hl _ _ _ _ _ _ hR he;exact ⟨r,hr,WO.skip hw hwo⟩
  simp only [tU] at he;cases hgd:o.guard with
  |none=>
   rw [hgd] at he;exact run' h (by rw [hgd];rfl) he
  |some g=>
   obtain ⟨c,want⟩:=g;rw [hgd] at he;dsimp only at he;generalize hv:SC c st.env=v at he;cases v with
   |bool x=>
    have hx:lk c p.env= .bool x:=by have:=h.env.lk c;rw [hv] at this;exact this
    have hwx: ∀b,x=b->wanted o.guard p.env=some (b==want):=fun b hb=>by rw [hgd];simp only [wanted,hx,hb]
    cases want with
    |true=>
     simp only [cond_true] at he;rcases gB he with ⟨rfl,he⟩|⟨rfl,he⟩
     · exact run' (setR h (v:= .bool true) hx) (hwx true rfl) he
     exact skip' (setR h (v:= .bool false) hx) (hwx false rfl) he
    |false=>
     simp only [cond_false] at he;rcases gB he with ⟨rfl,he⟩|⟨rfl,he⟩
     · exact skip' (setR h (v:= .bool true) hx) (hwx true rfl) he
     exact run' (setR h (v:= .bool false) hx) (hwx false rfl) he
   |nul=>
    have hx:lk c p.env= .nul:=by have:=h.env.lk c;rw [hv] at this;exact this
    exact skip' h (by rw [hgd];simp only [wanted,hx]) he
   |_=>cases he
theorem P4 {e:SE}: ∀{keep:List Nat} {k:SE->jK R'} {ρ:Type} {w:R'->ρ} {y:ρ},X3 e keep k ρ w=some y->k (keep.map fun s=>(s,SC s e)) ρ w=some y
 | [],k,ρ,w,y,h=>h
 |s::r,k,ρ,w,y,h=>by
  simp only [X3] at h;rw [U1] at h
  have:=P4 h
  exact this
theorem aFI {s:List SB} {e:SE} {pe:zQ} (h:eZ s e pe): ∀(keep:List Nat),eZ s (keep.map fun t=>(t,SC t e)) (keep.map fun t=>(t,lk t pe))
 | []=>rfl
 |t::r=>⟨_,_,rfl,h.lk t,aFI h r⟩
end
mutual
theorem TN: ∀(v:SV) (q:List EX),zV v (LX v++q)=(v,q)
 | .junk,q| .undef,q| .nul,q| .nilf,q| .int _ _,q| .bool _,q| .str _,q| .sl _ _,q| .nil _ _,q| .own _ _,q| .pre _ _ _ _,q| .part _ _ _ _ _,q| .pa _ _ _ _ _,q| .pb _ _ _,q| .bp _ _ _,q| .mp _,q=>rfl
 | .agg cs,q=>by simp only [zV,LX,put_selfL]
 | .tup cs,q=>by simp only [zV,LX,put_selfL]
 | .rptr cs o,q=>by simp only [zV,LX,put_selfL]
 | .clo f a b,q=>by simp only [zV,LX,cy,put_selfL]
theorem put_selfL: ∀(v:List SV) (q:List EX),putL v (atsL v++q)=(v,q)
 | [],q=>rfl
 |x::xs,q=>by simp only [putL,atsL,cy,TN,put_selfL]
end
theorem TO: ∀(v:List SB) (q:List EX),IN v (U4 v++q)=(v,q)
 | [],q=>rfl
 |x::xs,q=>by
  have: ∀q,aAW x (aFe x++q)=(x,q):=by
   intro q;cases x<;>first|rfl|simp only [aAW,aFe,put_selfL]
  simp only [IN,U4,cy,this,TO]
theorem TP: ∀(v:SE) (q:List EX),X1 v (aDQ v++q)=(v,q)
 | [],q=>rfl
 |(t,x)::xs,q=>by simp only [X1,aDQ,cy,TN,TP]
theorem aA9 (st:vW):HJ st (EL st)=st:=by
 have hs:=TO st.sto [];rw [de] at hs;simp only [HJ,EL,TP,hs]
theorem aDZ {cx:Ctx} {inl:Inl} (hcx:jT F cx) (hinl:YG F inl): ∀(c:mV) (R':Type) {st:vW} {p:St} {k:jV->vW->jK R'} {ρ:Type} {w:R'->ρ} {y:ρ} {Q:R'->jV->St->Prop},
 (∀e st p ρ (w:R'->ρ) y,HM st p->k e st ρ w=some y-> ∃r,y=w r/\Q r e p)->HM st p->JY cx inl c R' st k ρ w=some y-> ∃r,y=w r/\WP F c p (Q r):=by
 intro c
 induction c with
 |skip=>
  intro R' st p k ρ w y Q hk h he;obtain ⟨r,hr,hq⟩:=hk _ _ _ _ _ _ h he;exact ⟨r,hr,WP.skip hq⟩
 |ret=>
  intro R' st p k ρ w y Q hk h he;obtain ⟨r,hr,hq⟩:=hk _ _ _ _ _ _ h he;exact ⟨r,hr,WP.ret hq⟩
 |exit id=>
  intro R' st p k ρ w y Q hk h he;obtain ⟨r,hr,hq⟩:=hk _ _ _ _ _ _ h he;exact ⟨r,hr,WP.exit hq⟩
 |region d ops keep=>
  intro R' st p k ρ w y Q hk h he;simp only [JY] at he;have fin: ∀st p ρ (w:R'->ρ) y,HM st p->X3 st.env keep (fun e=>k .normal {st with env:=e}) ρ w=some y-> ∃r,y=w r/\Q r .normal (vS keep p):=by
   intro st p ρ w y h he
   have:=P4 he
   have hR:HM {st with env:=keep.map fun t=>(t,SC t st.env)} (vS keep p):=⟨aFI h.env keep,h.sto,h.fz,h.kn⟩
   exact hk _ _ _ _ _ _ hR this
  cases d with
  |none=>
   obtain ⟨r,hr,hwo⟩:=DC hcx hinl ops (Q:=fun r s _=>Q r .normal (vS keep s)) (fun st p tr ρ w y h he=>fin st p ρ w y h he) h he
   exact ⟨r,hr,WP.region hwo⟩
  |some bf=>
   obtain ⟨r,hr,hwo⟩:=DC hcx hinl ops (Q:=fun r s t=>xO 0 (t.reverse.zip bf)=true/\Q r .normal (vS keep s)) (fun st p tr ρ w y h he=>by
    dsimp only at he;cases ho:xO 0 (tr.reverse.zip bf) with
    |false=>rw [ho] at he;cases he
    |true=>
     rw [ho] at he;obtain ⟨r,hr,hq⟩:=fin st p ρ w y h he;exact ⟨r,hr,ho,hq⟩) h he
   exact ⟨r,hr,WP.regionD hwo⟩
 |seq a b iha ihb=>
  intro R' st p k ρ w y Q hk h he;simp only [JY] at he;obtain ⟨r,hr,hwp⟩:=iha R' (Q:=fun r=>NY (fun s=>WP F b s (Q r)) (Q r)) (fun e st p ρ w y h he=>by
   cases e with
   |normal=>exact ihb R' hk h he
   |exit i=>exact hk _ _ _ _ _ _ h he
   |ret=>exact hk _ _ _ _ _ _ h he) h he
  exact ⟨r,hr,WP.seq hwp⟩
 |cond c a b iha ihb=>
  intro R' st p k ρ w y Q hk h he;simp only [JY] at he;have hx:=eW h.env c;generalize cK st.env c=v at he hx;cases v with
  |bool x=>
   rcases gB he with ⟨rfl,he⟩|⟨rfl,he⟩
   · obtain ⟨r,hr,hwp⟩:=iha R' hk h he
     exact ⟨r,hr,WP.condT hx hwp⟩
   obtain ⟨r,hr,hwp⟩:=ihb R' hk h he
   exact ⟨r,hr,WP.condF hx hwp⟩
  |_=>cases he
 |block id b ih=>
  intro R' st p k ρ w y Q hk h he;simp only [JY] at he;obtain ⟨r,hr,hwp⟩:=ih R' (Q:=fun r=>inBlock id (Q r)) (fun e st p ρ w y h he=>by
   cases e with
   |normal=>exact hk _ _ _ _ _ _ h he
   |ret=>exact hk _ _ _ _ _ _ h he
   |exit j=>
    dsimp only at he;cases hj:df j id with
    |true=>
     rw [hj] at he;obtain ⟨r,hr,hq⟩:=hk _ _ _ _ _ _ h he;have hji:=bn hj;exact ⟨r,hr,by simpa [inBlock,hji] using hq⟩
    |false=>
     rw [hj] at he;obtain ⟨r,hr,hq⟩:=hk _ _ _ _ _ _ h he
     have:j≠id:=by intro e;subst e;simp at hj
     exact ⟨r,hr,by simpa [inBlock,this] using hq⟩) h he
  exact ⟨r,hr,WP.block hwp⟩
 |loop live b ih=>
  intro R' st p k ρ w y Q hk h he;simp only [JY] at he;cases hn:PJ cx.rk live st with
  |none=>rw [hn] at he;cases he
  |some st1=>
   rw [hn] at he;dsimp only at he;have ksK_eq: ∀{β:Type 1} (l:List AK) (c:List AK->β),ksK l c=c l:=by
    intro β l;have rK_eq: ∀{β:Type 1} (l:List PT) (c:List PT->β),rK l c=c l:=by
     intro β l
     induction l with
     |nil=>intro c;rfl
     |cons p r ih=>intro c;cases p<;>simp only [rK,ptK,ih]
    induction l with
    |nil=>intro c;rfl
    |cons a r ih=>intro c;cases a<;>simp only [ksK,rK_eq,ih]
   rw [ksK_eq] at he;generalize aPx (EL st1)=ks at he;cases hp:wX ks (EL st1) with
   |none=>rw [hp] at he;cases he
   |some y0=>
    rw [hp] at he;dsimp only at he;obtain ⟨p1,hp1,hR1⟩:=aCr h hn;have hlike: ∀(st3:vW) (y':mY ks),PL st1 st3=true->wX ks (EL st3)=some y'->HJ st1 (qD ks y')=st3:=fun st3 y' h1 h2=>by
     rw [yN h2,aDY h1]
    obtain ⟨n,hit⟩:=aE6 he;have h0:HM (HJ st1 (qD ks y0)) p1:=by rw [yN hp,aA9];exact hR1
    clear he hp hn h hR1
    induction n generalizing y0 p p1 with
    |zero=>cases hit
    |succ n ihn=>
     have body: ∀zr,JY cx inl b (bT (mY ks) ρ) (HJ st1 (qD ks y0)) (fun e st2=>match e with
      | .normal=>match PJ cx.rk live st2 with
       |some st3=>bif PL st1 st3 then (match wX ks (EL st3) with
        |some y'=>S9 (.next y')
        |none=>aQ) else aQ
       |none=>aQ
      |e=>fun ρ' w'=>k e st2 ρ' fun r=>w' (.done (w r))) (bT (mY ks) ρ) (fun z=>z)=some zr->
      WP F b p1 (fun e s=>match zr with
       | .next y'=>e= .normal/\ ∃p3,NM live s=some p3/\HM (HJ st1 (qD ks y')) p3
       | .done x=>e≠ .normal/\ ∃r,x=w r/\Q r e s):=by
      intro zr hbody;obtain ⟨zr',hzr,hwp⟩:=ih (bT (mY ks) ρ) (Q:=fun zr e s=>match zr with
       | .next y'=>e= .normal/\ ∃p3,NM live s=some p3/\HM (HJ st1 (qD ks y')) p3
       | .done x=>e≠ .normal/\ ∃r,x=w r/\Q r e s) (fun e st2 p2 ρ' w' y2 h2 he2=>by
       cases e with
       |normal=>
        dsimp only at he2;cases hn3:PJ cx.rk live st2 with
        |none=>rw [hn3] at he2;cases he2
        |some st3=>
         rw [hn3] at he2;obtain ⟨hlk,he2⟩:=dL he2;cases hp3:wX ks (EL st3) with
         |none=>rw [hp3] at he2;cases he2
         |some y3=>
          rw [hp3] at he2;injection he2 with he2;obtain ⟨p3,hp3',hR3⟩:=aCr h2 hn3;exact ⟨.next y3,he2.symm,rfl,p3,hp3',by rw [hlike st3 y3 hlk hp3];exact hR3⟩
       |exit i=>
        obtain ⟨r,hr,hq⟩:=hk _ _ _ _ _ _ h2 he2;exact ⟨.done (w r),hr,(by intro e;cases e),r,rfl,hq⟩
       |ret=>
        obtain ⟨r,hr,hq⟩:=hk _ _ _ _ _ _ h2 he2;exact ⟨.done (w r),hr,(by intro e;cases e),r,rfl,hq⟩) h0 hbody
      subst hzr;exact hwp
     simp only [vU] at hit;split at hit
     · rename_i y' hbody
       obtain ⟨m,e,s,hrun,rfl,p3,hp3,hR3⟩:=body _ hbody;obtain ⟨r,hr,hwp⟩:=ihn y' p3 hp3 hit hR3;exact ⟨r,hr,WP.again hp1 ⟨m,.normal,s,hrun,hwp⟩⟩
     · rename_i x hbody
       injection hit with hit;obtain ⟨m,e,s,hrun,hne,r,hr,hq⟩:=body _ hbody;refine ⟨r,by rw [<- hit];exact hr,WP.again hp1 ⟨m,e,s,hrun,?_⟩⟩
       cases e with
       |normal=>exact absurd rfl hne
       |exit i=>exact hq
       |ret=>exact hq
     cases hit
end
end Go.Vm
/- Contracts from the typed machine. -/
namespace Go.Vm
section
variable {F : qT} {cx : Ctx} {inl : Inl}
theorem YI {s:List SB}: ∀{l:List SV} {q:List PV} (i:Nat),RL s l q->eZ s (aA0 i l) (BX i q)
 | [],q,i,h=>by rw [show q=[] from h];rfl
 |x::xs,q,i,h=>by
  obtain ⟨a,as,rfl,h1,h2⟩:=h.cons_inv;exact ⟨a,BX (i+1) as,rfl,h1,YI (i+1) h2⟩
theorem aFJ {st:vW} {p:St} (h:HM st p) {r:RV} {v:SV} (hr:aAZ st r=some v): ∃q,OM p r=some q/\R st.sto v q:=by
 cases r with
 |tmp t=>injection hr with hr;subst hr;exact ⟨_,rfl,h.env.lk t⟩
 |cell t agg=>
  simp only [aAZ] at hr;have hlk:=h.env.lk t;split at hr
  · rename_i u n off hv
    rw [hv] at hlk;rw [cT] at hr;split at hr
    · rename_i cs hst
      obtain ⟨q,h1,h2⟩:=h.sto.box hst;obtain ⟨x,h3,h4⟩:=AF h2 hr;refine ⟨x,?_,h4⟩;simp only [OM,show lk t p.env=_ from hlk,tI,h1,c9,if_true,h3];rfl
    cases hr
  · rename_i cs off hv
    rw [hv] at hlk;obtain ⟨q,h1,h2⟩:=hlk;obtain ⟨x,h3,h4⟩:=AF h2 hr;refine ⟨x,?_,h4⟩;simp only [OM,h1,tI,h3];rfl
  cases hr
theorem TQ {st:vW} {p:St} (h:HM st p): ∀{l:List RV} {vs:List SV},GN st l=some vs-> ∃q,sB p l=some q/\RL st.sto vs q
 | [],vs,hr=>by injection hr with hr;subst hr;exact ⟨[],rfl,rfl⟩
 |r::l,vs,hr=>by
  simp only [GN] at hr;split at hr
  · rename_i v vs' h1 h2
    injection hr with hr;subst hr;obtain ⟨q,h3,h4⟩:=aFJ h h1;obtain ⟨qs,h5,h6⟩:=TQ h h2;exact ⟨q::qs,by simp only [sB,h3,h5],RL.cons h4 h6⟩
  cases hr
theorem YJ {s:List SB} {vs:List SV} {q:List PV} (h:RL s vs q):R s (LZ vs) (vP q):=by
 match vs,q,h with
 | [],q,h=>rw [show q=[] from h];exact ⟨[],rfl,rfl⟩
 | [v],q,h=>
  obtain ⟨a,as,rfl,h1,h2⟩:=h.cons_inv;rw [show as=[] from h2];exact h1
 |v::u::r,q,h=>
  have hall:=h;obtain ⟨a,as,rfl,h1,h2⟩:=h.cons_inv;obtain ⟨b,bs,rfl,h3,h4⟩:=h2.cons_inv;exact ⟨_,rfl,hall⟩
theorem FH (hcx:jT F cx) (hinl:YG F inl) {f:FuncId} {x:aM} (hf:F f=some (.code x)) {R':Type} {args:List SV} {s:List SB} {z:List Nat} {k:SV->List SB->List Nat->jK R'} {ρ:Type} {w:R'->ρ} {y:ρ} {pa:List PV} {ps:dC}
 {Q:R'->PV->dC->List Nat->Prop} (ha:RL s args pa) (hS:dD s ps) (he:X4 cx inl x R' args s z k ρ w=some y)
 (hk: ∀v s' z' p ps' ρ' (w':R'->ρ') y',R s' v p->dD s' ps'->k v s' z' ρ' w'=some y'-> ∃r,y'=w' r/\Q r p ps' z'): ∃r,y=w r/\JK F f pa ps z (fun p ps' z'=>Q r p ps' z'):=by
 unfold X4 at he;obtain ⟨hn,he⟩:=dL he;have fin: ∀st p ρ' (w':R'->ρ') y',HM st p->(match GN st x.res with
  |some vs=>k (LZ vs) st.sto st.fz
  |none=>aQ) ρ' w'=some y'-> ∃r,y'=w' r/\ ∃vs,sB p x.res=some vs/\Q r (vP vs) p.sto p.fz:=by
  intro st p ρ' w' y' h he;cases hr:GN st x.res with
  |none=>rw [hr] at he;cases he
  |some vs=>
   rw [hr] at he;obtain ⟨q,h1,h2⟩:=TQ h hr;obtain ⟨r,h3,h4⟩:=hk _ _ _ _ _ _ _ _ (YJ h2) h.sto he;exact ⟨r,h3,q,h1,by rw [h.fz];exact h4⟩
 obtain ⟨r,hr,hwp⟩:=aDZ hcx hinl x.code R' (Q:=fun r=>UL x fun p ps' z'=>Q r p ps' z') (p:={env:=BX 0 pa,sto:=ps,fz:=z,kn:=ps.length}) (fun e st p ρ' w' y' h he=>by
  cases e with
  |normal=>exact fin st p ρ' w' y' h he
  |ret=>exact fin st p ρ' w' y' h he
  |exit i=>cases he) ⟨YI 0 ha,hS,rfl,hS.len⟩ he
 exact ⟨r,hr,JK.of hf (by rw [ha.length];exact hn) hwp⟩
theorem VE {α:Type} {l m r:List α} {i:Int} (h:UZ l i m=some r):0<=i/\i.toNat<=l.length/\m.length=1/\l.length+1<=1048576/\r=l.take i.toNat++m++l.drop i.toNat:=by
 unfold UZ at h;split at h
 · rename_i hc
   injection h with h;exact ⟨hc.1,hc.2.1,hc.2.2.1,hc.2.2.2,h.symm⟩
 cases h
theorem aD0 {e:Nat} {args:List SV} {s:List SB} {z:List Nat} {a:aVO} (h:aHu e args s z=some a):
 ∃x u x2 m,args=[.own a.t x,.int .i64 a.i,.own u x2]/\nth s a.t=some (.arr a.r a.l)/\nth s u=some (.arr a.r m)/\a.m=m/\a.r.length=e/\df a.t u=false/\has z a.t=false:=by
 unfold aHu at h;split at h
 case h_2=>cases h
 split at h
 case h_2=>cases h
 split at h
 case h_2=>cases h
 split at h
 case h_2=>cases h
 rename_i m' hm;cases hc:(df _ e&&_&&_) with
 |false=>rw [hc] at h;cases h
 |true=>
  rw [hc] at h;injection h with h;subst h;simp only [bo,fv,cw] at hc;obtain ⟨rfl,rfl⟩:=yM hm;exact ⟨_,_,_,_,rfl,by assumption,by assumption,rfl,hc.1.1,hc.1.2,hc.2⟩
theorem aBa {e:Nat} {f:FuncId} (hf:F f=some (.shp (aEE e))) {R':Type} {args:List SV} {s:List SB} {z:List Nat} {k:SV->List SB->List Nat->jK R'} {ρ:Type} {w:R'->ρ} {y:ρ} {pa:List PV} {ps:dC}
 {Q:R'->PV->dC->List Nat->Prop} (ha:RL s args pa) (hS:dD s ps) (he:aPA e args s z k ρ w=some y)
 (hk: ∀v s' z' p ps' ρ' (w':R'->ρ') y',R s' v p->dD s' ps'->k v s' z' ρ' w'=some y'-> ∃r,y'=w' r/\Q r p ps' z'): ∃r,y=w r/\JK F f pa ps z (fun p ps' z'=>Q r p ps' z'):=by
 unfold aPA at he;cases hA:aHu e args s z with
 |none=>rw [hA] at he;cases he
 |some a=>
 rw [hA] at he;dsimp only at he;obtain ⟨l',hl,he⟩:=dN he;obtain ⟨x,u,x2,m0,rfl,ht,hu,hm,he1,htu,hz⟩:=aD0 hA;obtain ⟨t,q,l,i,m⟩:=a;dsimp only at*;subst hm he1;obtain ⟨i0,il,m1,hle,rfl⟩:=VE hl;obtain ⟨p0,pr0,rfl,h0,ha⟩:=ha;obtain ⟨p1,pr1,rfl,h1,ha⟩:=ha;obtain ⟨p2,pr2,rfl,h2,ha⟩:=ha;obtain rfl:pr2=[]:=ha;obtain rfl:p1= .int .i64 i:=h1
 have ht':s[t]? =some (.arr q l):=by rw [<- cT];exact ht
 have hu':s[u]? =some (.arr q m):=by rw [<- cT];exact hu
 obtain ⟨e0,n0,rfl,o0⟩:=h0;obtain ⟨e2,n2,rfl,o2⟩:=h2;obtain ⟨rfl,rfl⟩:e0=q.length/\n0=l.length:=by
  rcases o0 with ⟨r1,l1,a,b,c⟩|a
  · rw [ht'] at a;injection a with a;injection a with a1 a2;subst a1;subst a2;exact ⟨b,c⟩
  rw [ht'] at a;cases a
 obtain ⟨rfl,rfl⟩:e2=q.length/\n2=m.length:=by
  rcases o2 with ⟨r1,l1,a,b,c⟩|a
  · rw [hu'] at a;injection a with a;injection a with a1 a2;subst a1;subst a2;exact ⟨b,c⟩
  rw [hu'] at a;cases a
 obtain ⟨b1,hb1,hb1'⟩:=hS.at_ t _ ht';obtain ⟨b2,hb2,hb2'⟩:=hS.at_ u _ hu';have hb1':b1= .arr q.length (l.map (RT.pv q)):=hb1';have hb2':b2= .arr q.length (m.map (RT.pv q)):=hb2';subst hb1' hb2';have hlen:(LY [t] (s.set t .dead)).length=s.length:=by rw [GP];simp
 obtain ⟨L,hL⟩: ∃L,L=l.take i.toNat++m++l.drop i.toNat:=⟨_,rfl⟩;rw [<- hL] at he;have G:=jZ.put hS (b:= .dead) (q:= .dead) (l:=[.arr q L]) (ql:=[.arr q.length (L.map (RT.pv q))]) (v:= .own s.length false)
  (p:= .own s.length q.length 0 L.length L.length false) (rd:=[]) ht' (.inr rfl) rfl rfl
  (fun j b hj=>by
   cases j with
   |zero=>simp at hj;subst hj;exact ⟨_,rfl,rfl⟩
   |succ j=>simp at hj)
  ⟨q.length,L.length,rfl,.inl ⟨q,L,by rw [<- hlen];exact vY,rfl,rfl⟩⟩
 have hll:L.length=l.length+1:=by
  rw [hL];simp only [d9,db,fu,m1];omega
 obtain ⟨rr,hr,hq⟩:=hk _ _ _ _ _ _ _ _ G.v G.sto he;refine ⟨rr,hr,1,_,_,_,?_,hq⟩;rw [qB];have hmost:cm (l.length+1) most=true:=by simp [most];omega
 have hbl:cm i.toNat l.length=true:=by simpa using il
 have hLm:L.map (RT.pv q)=(l.map (RT.pv q)).take i.toNat++m.map (RT.pv q)++(l.map (RT.pv q)).drop i.toNat:=by
  rw [hL,d8,d8,dh,d7]
 simp [step,hf,aEE,hb1,hb2,m1,htu,hz,i0,hmost,il,hll,hS.len,iU,aAy,hLm]
theorem YK: ∀(p:PT) (a:p.T),JX p (p.pv a)=some a
 | .i k,a=>by
  have:gH k k=true:=gA.2 rfl
  simp [JX,PT.pv,this]
 | .b,a=>rfl
theorem aCw: ∀(r:List PT) (a:RT r),SH r (RT.pv r a)=some a
 | [],a=>rfl
 | [p],a=>YK p a
 |p::q::r,a=>by
  show (match JX p (p.pv a.1),SH (q::r) (RT.pv (q::r) a.2) with
   |some a,some b=>some (a,b)
   |_,_=>none)=_
  rw [YK,aCw (q::r)]
theorem YL (r:List PT): ∀l:List (RT r),M5 r (l.map (RT.pv r))=some l
 | []=>rfl
 |a::l=>by
  show (match SH r (RT.pv r a),M5 r (l.map (RT.pv r)) with
   |some a,some l=>some (a::l)
   |_,_=>none)=_
  rw [aCw,YL r l]
theorem aHK {s:List SB} {g:Option FuncId} {a:List SV} {p:List PV} (h:M6 g a=true) (hr:RL s a p):aHr g p=true:=by
 unfold M6 at h;split at h
 · obtain rfl:p=[]:=hr
   rfl
 · obtain ⟨p0,pr,rfl,h0,hr⟩:=hr
   obtain rfl:pr=[]:=hr;obtain ⟨x,y,rfl,hx,hy⟩:=h0;obtain rfl:x=[]:=hx;obtain rfl:y=[]:=hy;exact h
 cases h
theorem aD1 {r:List PT} {g:Option FuncId} {args:List SV} {s:List SB} {z:List Nat} {t:Nat} {o:Option Nat} {l:List (RT r)} (h:aHv r g args s z=some (t,o,l)):
 ∃x a,args=x::a/\nth s t=some (.arr r l)/\has z t=false/\M6 g a=true/\((o=none/\ ∃ex,x= .own t ex)\/ ∃len cap ex,o=some len/\x= .pre t len cap ex):=by
 unfold aHv at h;split at h
 · split at h
   · split at h
     · rename_i hm
       cases hc:(!has z _&&M6 g _) with
       |false=>rw [hc] at h;cases h
       |true=>
        rw [hc] at h;simp only [cond_true,cd,dd] at h;obtain ⟨rfl,rfl,rfl⟩:=h;simp only [bo,cw] at hc;obtain ⟨rfl,rfl⟩:=yM hm;exact ⟨_,_,rfl,by assumption,hc.1,hc.2,.inl ⟨rfl,_,rfl⟩⟩
     cases h
   cases h
 · split at h
   · split at h
     · rename_i hm
       cases hc:(!has z _&&M6 g _) with
       |false=>rw [hc] at h;cases h
       |true=>
        rw [hc] at h;simp only [cond_true,cd,dd] at h;obtain ⟨rfl,rfl,rfl⟩:=h;simp only [bo,cw] at hc;obtain ⟨rfl,rfl⟩:=yM hm;exact ⟨_,_,rfl,by assumption,hc.1,hc.2,.inr ⟨_,_,_,rfl,rfl⟩⟩
     cases h
   cases h
 cases h
theorem aBb {α:Type} {f:List α->Option (List α)} {l m:List α} (h:M3 f l=some m):l.length<=1048576/\f l=some m/\m.length=l.length:=by
 unfold M3 at h;split at h
 · rename_i hl
   split at h
   · rename_i m' hm
     split at h
     · rename_i he
       injection h with h;subst h;exact ⟨hl,hm,he⟩
     cases h
   cases h
 cases h
theorem VF {α:Type} {f:List α->Option (List α)} {n:Nat} {l m:List α} (h:GL f n l=some m):n<=l.length/\ ∃m',M3 f (l.take n)=some m'/\m=m'++l.drop n:=by
 unfold GL at h;split at h
 · rename_i hn
   cases hm:M3 f (l.take n) with
   |none=>rw [hm] at h;cases h
   |some m'=>
    rw [hm] at h;injection h with h;exact ⟨hn,m',rfl,h.symm⟩
 cases h
theorem aBc {q:Srt} {f:FuncId} (hf:F f=some (.shp (U5 q))) {R':Type} {args:List SV} {s:List SB} {z:List Nat} {k:SV->List SB->List Nat->jK R'} {ρ:Type} {w:R'->ρ} {y:ρ} {pa:List PV} {ps:dC}
 {Q:R'->PV->dC->List Nat->Prop} (ha:RL s args pa) (hS:dD s ps) (he:aPB q args s z k ρ w=some y)
 (hk: ∀v s' z' p ps' ρ' (w':R'->ρ') y',R s' v p->dD s' ps'->k v s' z' ρ' w'=some y'-> ∃r,y'=w' r/\Q r p ps' z'): ∃r,y=w r/\JK F f pa ps z (fun p ps' z'=>Q r p ps' z'):=by
 have key: ∀(t len:Nat) (l m':List (RT q.r)) (ex:Bool) (cap:Nat) (pr:List PV) (a:List SV),s[t]? =some (.arr q.r l)->has z t=false->M6 q.g a=true->RL s a pr->pa= .own t q.r.length 0 len cap ex::pr->len<=l.length->M3 q.fn (l.take len)=some m'->
  k (.tup []) (iD.stoOf s {v:= .tup [],wr:=[(t,.arr q.r (m'++l.drop len))]}) z ρ w=some y-> ∃r,y=w r/\JK F f pa ps z (fun p ps' z'=>Q r p ps' z'):=by
  intro t len l m' ex cap pr a ht hz hg har hpa hlen hso he;subst hpa;obtain ⟨s1,s2,s3⟩:=aBb hso;obtain ⟨b1,hb1,hb1'⟩:=hS.at_ t _ ht;have hb1':b1= .arr q.r.length (l.map (RT.pv q.r)):=hb1';subst hb1';have hll:(l.take len).length=len:=by rw [db];omega
  have hml:(m'++l.drop len).length=l.length:=by rw [d9,fu,s3,hll];omega
  have G:=jZ.put hS (b:= .arr q.r (m'++l.drop len)) (q:= .arr q.r.length ((m'++l.drop len).map (RT.pv q.r))) (l:=[]) (ql:=[]) (v:= .tup []) (p:= .tup []) (rd:=[]) ht (.inl ⟨_,rfl,hml⟩) rfl rfl
   (fun j b hj=>by simp at hj) ⟨[],rfl,rfl⟩
  obtain ⟨rr,hr,hq⟩:=hk _ _ _ _ _ _ _ _ G.v G.sto he;refine ⟨rr,hr,1,_,_,_,?_,hq⟩;rw [qB];have hg':=aHK hg har;have hrt:M5 q.r ((l.map (RT.pv q.r)).take len)=some (l.take len):=by rw [<- dh];exact YL q.r _
  have hbl:cm len l.length=true:=by simpa using hlen
  have hmo:cm len most=true:=by simp [most];omega
  have hbe:df m'.length (l.take len).length=true:=by rw [s3];exact c9 _
  simp only [step,hf,U5,hb1,cq,c9,hbl,hmo,hz,hg',hrt,s2,hbe,dy,eh,if_true,fy,iU,aAy,d8,d7]
 unfold aPB at he;cases hA:aHv q.r q.g args s z with
 |none=>rw [hA] at he;cases he
 |some u=>
  obtain ⟨t,o,l⟩:=u;rw [hA] at he;obtain ⟨x,a,rfl,ht,hz,hg,h⟩:=aD1 hA;obtain ⟨p0,pr,rfl,h0,ha⟩:=ha;rw [cT] at ht;rcases h with ⟨rfl,ex,rfl⟩|⟨len,cap,ex,rfl,rfl⟩
  · obtain ⟨m,hm,he⟩:=dN he
    obtain ⟨e0,n0,rfl,o0⟩:=h0;obtain ⟨rfl,rfl⟩:e0=q.r.length/\n0=l.length:=by
     rcases o0 with ⟨r1,l1,a,b,c⟩|a
     · rw [ht] at a;injection a with a;injection a with a1 a2;subst a1;cases a2;exact ⟨b,c⟩
     rw [ht] at a;cases a
    refine key t l.length l m ex l.length pr a ht hz hg ha rfl (fg _) (by rw [List.take_length];exact hm) ?_
    rw [List.drop_length,de];exact he
  obtain ⟨m,hm,he⟩:=dN he
  obtain ⟨e0,rfl,o0⟩:=h0;obtain rfl:e0=q.r.length:=by
   rcases o0 with ⟨r1,l1,a,b⟩|a
   · rw [ht] at a;injection a with a;injection a with a1 a2;subst a1;exact b
   rw [ht] at a;cases a
  obtain ⟨hn,m',hso,rfl⟩:=VF hm;exact key t len l m' ex cap pr a ht hz hg ha rfl hn hso he
theorem VG (hcx:jT F cx): ∀n,YG F (aFi cx n)
 |0=>fun f args s z R' k ρ w y pa ps Q _ _ h _=>by cases h
 |n+1=>fun f args s z R' k ρ w y pa ps Q ha hS h hk=>by
  simp only [aFi] at h;cases hx:cx.code f with
  |none=>rw [hx] at h;cases h
  |some x=>
   rw [hx] at h;cases x with
   |code x=>exact FH hcx (VG hcx n) (hcx.code f _ hx) ha hS h hk
   |ins e=>exact aBa (hcx.code f _ hx) ha hS h hk
   |srt q=>exact aBc (hcx.code f _ hx) ha hS h hk
def aHL:Kd->Bool->Bool
 | .own,b=>b
 |_,b=>!b
def aFK (kd:Kd) {β:Type} (res:aJ β) (b:β) (p:PV) (ps:dC) (z:List Nat):Prop:=
 match kd with
 | .pure=>p.noref=true/\yL (res.enc b)=some p
 | .frz=>p.noref=false/\ ∃q,GG ps p=some q/\yL (res.enc b)=some q
 | .own=> ∀nx,∃p0 p' q seen,HB ps z nx [] p=some (p',q,seen)/\yL (res.enc b)=some p0/\P1 nx p0=some (p',q)
mutual
theorem YM {s:List SB}: ∀{v:SV} {p:PV},R s v p->IM v=true->yL v=some p
 | .int _ _,p,h,_| .bool _,p,h,_| .str _,p,h,_=>by rw [show p=_ from h];rfl
 | .agg cs,p,h,hn=>by obtain ⟨q,rfl,h⟩:=h;simp only [yL,pure_pvL h hn]
 | .tup cs,p,h,hn=>by obtain ⟨q,rfl,h⟩:=h;simp only [yL,pure_pvL h hn]
 | .junk,_,_,h| .undef,_,_,h| .nul,_,_,h| .nilf,_,_,h| .sl _ _,_,_,h| .nil _ _,_,_,h| .own _ _,_,_,h| .pre _ _ _ _,_,_,h| .part _ _ _ _ _,_,_,h| .pa _ _ _ _ _,_,_,h| .pb _ _ _,_,_,h| .bp _ _ _,_,_,h| .rptr _ _,_,_,h| .clo _ _ _,_,_,h| .mp _,_,_,h=>by cases h
theorem pure_pvL {s:List SB}: ∀{v:List SV} {p:List PV},RL s v p->norefSL v=true->pvL v=some p
 | [],p,h,_=>by rw [show p=_ from h];rfl
 |x::xs,p,h,hn=>by
  obtain ⟨a,as,rfl,h1,h2⟩:=h.cons_inv;simp only [norefSL,bo] at hn;exact fR.2 ⟨_,_,rfl,YM h1 hn.1,pure_pvL h2 hn.2⟩
end
theorem aBd {kd:Kd} {β:Type} {res:aJ β} {v:SV} {s:List SB} {z:List Nat} {p:PV} {ps:dC} {ρ:Type} {w:β->ρ} {y:ρ} (hv:R s v p) (hS:dD s ps) (h:aFj kd res v s z ρ w=some y):
 ∃b,y=w b/\aFK kd res b p ps z:=by
 unfold aFj at h;cases kd with
 |pure=>
  dsimp only at h;obtain ⟨h1,h2⟩:=dL h;obtain ⟨b,h3,h4⟩:=bW h2;injection h4 with h4;exact ⟨b,h4.symm,YE hv h1,res.law h3 (YM hv h1)⟩
 |frz=>
  dsimp only at h;obtain ⟨h1,h2⟩:=yB h;obtain ⟨u,h3,h4⟩:=bW h2;obtain ⟨b,h5,h6⟩:=bW h4;injection h6 with h6;obtain ⟨q,h7,h8⟩:=aPf hS hv h3;exact ⟨b,h6.symm,TJ hv h1 h3,q,h7,res.law h5 h8⟩
 |own=>
  dsimp only at h;obtain ⟨u,h3,h4⟩:=bW h;obtain ⟨b,h5,h6⟩:=bW h4;injection h6 with h6;refine ⟨b,h6.symm,fun nx=>?_⟩
  obtain ⟨p0,p',q,h7,h8,h9⟩:=aFE hS (v':=u.1) (seen':=u.2) nx hv h3;exact ⟨p0,p',q,u.2,h9,res.law h5 h7,h8⟩
theorem dD.nil:dD [] []:=⟨rfl,fun t b h=>by simp at h⟩
theorem aI.of {f:FuncId} {x:aM} {α β:Type} {args:aD α} {res:aJ β} {kd:Kd} {fn:α->Option β} {ow:Bool} (hf:F f=some (.code x)) (ho:aHL kd ow=true) (hcx:jT F cx)
 (h: ∀a,aPc cx x args res kd a=fn a):aI F f ⟨args,res,fn,kd,ow⟩:=by
 intro a b as pa sto fz hb hpa hex;have hb:fn a=some b:=hb;rw [<- h a] at hb;obtain ⟨r,hr,n,v,s,z,hrun,hl⟩:=FH hcx (VG hcx 8) hf (Q:=fun r p ps z=>aFK kd res r p ps z) (pvL_R hpa) dD.nil hb (fun v s' z' p ps' ρ' w' y' hv hS hk=>aBd hv hS hk)
 have hr':b=r:=hr;subst hr';cases kd with
 |pure=>
  obtain ⟨h1,h2⟩:=hl;have how:ow=false:=by simpa [aHL] using ho
  subst how;refine ⟨n,{v:=v,rd:=toksL (dU sto fS) as},?_,v,h2,rfl⟩;simp only [callPure,hex,hf,hrun,ce,if_false,h1,if_true]
 |frz=>
  obtain ⟨h1,q,h2,h3⟩:=hl;have how:ow=false:=by simpa [aHL] using ho
  subst how;refine ⟨n,{v:=q,rd:=toksL (dU sto fS) as,fr:=toksL (dU sto fS) as},?_,q,h3,rfl⟩;simp only [callPure,hex,hf,hrun,ce,if_false,h1,h2]
 |own=>
  have how:ow=true:=ho;subst how;obtain ⟨p0,p',q,seen,h1,h2,h3⟩:=hl sto.length;refine ⟨n,{v:=p',news:=q,rd:=toksL (dU sto fS) as},?_,p0,p',q,h2,h3,rfl⟩;simp only [callPure,hex,hf,hrun,if_true,h1]
theorem YN: ∀(s:List SB) (q:List EX),(IN s q).1.length=s.length
 | [],q=>rfl
 |b::r,q=>by simp only [IN,cu,YN r]
mutual
theorem R.take {s:List SB} {k:Nat}: ∀{v:SV} {p:PV},R s v p->(∀t∈tkV zR v,t<k)->R (s.take k) v p
 | .junk,_,_,_=>trivial
 | .undef,_,h,_| .nul,_,h,_| .nilf,_,h,_| .int _ _,_,h,_| .bool _,_,h,_| .str _,_,h,_| .sl _ _,_,h,_| .nil _ _,_,h,_| .bp _ _ _,_,h,_| .mp _,_,h,_=>h
 | .agg cs,_,h,ht=>by obtain ⟨q,rfl,h⟩:=h;exact ⟨q,rfl,RL.takeS h ht⟩
 | .tup cs,_,h,ht=>by obtain ⟨q,rfl,h⟩:=h;exact ⟨q,rfl,RL.takeS h ht⟩
 | .rptr cs o,_,h,ht=>by obtain ⟨q,rfl,h⟩:=h;exact ⟨q,rfl,RL.takeS h ht⟩
 | .clo f a b,_,h,ht=>by
  obtain ⟨pa,pb,rfl,h1,h2⟩:=h;exact ⟨pa,pb,rfl,RL.takeS h1 (fun t h=>ht t (ej _ h)),RL.takeS h2 (fun t h=>ht t (eg _ h))⟩
 | .own t ex,_,h,ht=>by
  obtain ⟨e,n,rfl,hat⟩:=h;have hk:=ht t (ed.2 rfl);refine ⟨e,n,rfl,?_⟩;rcases hat with ⟨r,l,h1,h2,h3⟩|h1
  · exact .inl ⟨r,l,by rw [bz hk];exact h1,h2,h3⟩
  exact .inr (by rw [bz hk];exact h1)
 | .pre t a b c,_,h,ht=>by
  obtain ⟨e,rfl,hat⟩:=h;have hk:=ht t (ed.2 rfl);refine ⟨e,rfl,?_⟩;rcases hat with ⟨r,l,h1,h2⟩|h1
  · exact .inl ⟨r,l,by rw [bz hk];exact h1,h2⟩
  exact .inr (by rw [bz hk];exact h1)
 | .part t o a b c,_,h,ht=>by
  obtain ⟨e,rfl,hat⟩:=h;have hk:=ht t (ed.2 rfl);refine ⟨e,rfl,?_⟩;rcases hat with ⟨r,l,h1,h2⟩|h1
  · exact .inl ⟨r,l,by rw [bz hk];exact h1,h2⟩
  exact .inr (by rw [bz hk];exact h1)
 | .pa t r i a o,_,h,ht=>by
  obtain ⟨rfl,hat⟩:=h;have hk:=ht t (ec ..);refine ⟨rfl,?_⟩;rcases hat with ⟨l,h1,h2⟩|h1
  · exact .inl ⟨l,by rw [bz hk];exact h1,h2⟩
  exact .inr (by rw [bz hk];exact h1)
 | .pb t i o,_,h,ht=>by
  obtain ⟨e,rfl,hat⟩:=h;have hk:=ht t (ec ..);refine ⟨e,rfl,?_⟩;rcases hat with ⟨r,l,h1,h2⟩|h1
  · exact .inl ⟨r,l,by rw [bz hk];exact h1,h2⟩
  exact .inr (by rw [bz hk];exact h1)
theorem RL.takeS {s:List SB} {k:Nat}: ∀{v:List SV} {p:List PV},RL s v p->(∀t∈tkVL zR v,t<k)->RL (s.take k) v p
 | [],_,h,_=>h
 |x::xs,_,h,ht=>by
  obtain ⟨a,as,rfl,h1,h2⟩:=h.cons_inv;exact RL.cons (R.take h1 (fun t h=>ht t (ej _ h))) (RL.takeS h2 (fun t h=>ht t (eg _ h)))
end
theorem P5 {R' ρ:Type} {w:R'->ρ} {y:ρ}: ∀{s s':List SB} {k:jK R'},JZ s s' k ρ w=some y->k ρ w=some y/\s'.length=s.length/\ ∀(t:Nat) (x z:SB),s[t]? =some x->s'[t]? =some z->aFG x z
 | [],[],k,h=>⟨h,rfl,fun t x z h=>by simp at h⟩
 | [],_::_,k,h=>by cases h
 |_::_,[],k,h=>by cases h
 |x::xs,y'::ys,k,h=>by
  have step: ∀(_:JZ xs ys k ρ w=some y) (_:aFG x y'),k ρ w=some y/\(y'::ys).length=(x::xs).length/\ ∀(t:Nat) (a b:SB),(x::xs)[t]? =some a->(y'::ys)[t]? =some b->aFG a b:=by
   intro h hx;obtain ⟨h1,h2,h3⟩:=P5 h;refine ⟨h1,by simpa using h2,fun t a b ha hb=>?_⟩
   cases t with
   |zero=>simp at ha hb;subst ha hb;exact hx
   |succ t=>exact h3 t a b (by simpa using ha) (by simpa using hb)
  cases x with
  |arr r l=>
   cases y' with
   |arr q m=>
    obtain ⟨hr,h2⟩:=dL (a:=iY (m.length==l.length) (JZ xs ys k) aQ) h;obtain ⟨hl,h3⟩:=kG h2;exact step h3 ⟨B9 hr,by simpa using hl⟩
   |_=>cases h
  |dead=>cases y' with
   |dead=>exact step h trivial
   |_=>cases h
  |box cs=>cases y' with
   |box _=>exact step h trivial
   |_=>cases h
  |set l=>cases y' with
   |set _=>exact step h trivial
   |_=>cases h
  |tab p l=>cases y' with
   |tab _ _=>exact step h trivial
   |_=>cases h
theorem P6: ∀{s:List SB},PM s=true-> ∀(t:Nat) (b:SB),s[t]? =some b->GM b=true
 | [],_,t,b,h=>by simp at h
 |x::xs,hs,0,b,h=>by simp only [PM,bo] at hs;simp at h;subst h;exact hs.1
 |x::xs,hs,t+1,b,h=>by simp only [PM,bo] at hs;exact P6 hs.2 t b (by simpa using h)
theorem kS.of {f:FuncId} {x:aM} {wd:Bool} {ka ko:List AK} {ta:List SV} {tb to:List SB} {tv:SV} {fn:mY ka->Option (mY ko)} (hf:F f=some (.code x)) (hcx:jT F cx)
 (h: ∀a,aYt wd cx x ka ta tb ko tv to a=fn a):kS F f ⟨ka,ta,tb,ko,tv,to,fn⟩:=by
 intro a b pa ps hb ha hS;rw [show (⟨ka,ta,tb,ko,tv,to,fn⟩:eM).fn a=fn a from rfl,<- h a] at hb;have hlen:(eM.sa ⟨ka,ta,tb,ko,tv,to,fn⟩ a).length=tb.length:=YN _ _;obtain ⟨r,hr,n,v,s,z,hrun,hz,hq⟩:=FH hcx (VG hcx 8) hf (Q:=fun (r:mY ko) p ps' z'=>z'=[]/\kF tb.length p ps'=true/\
  R (eM.sb ⟨ka,ta,tb,ko,tv,to,fn⟩ r) (eM.vb ⟨ka,ta,tb,ko,tv,to,fn⟩ r) p/\dD (eM.sb ⟨ka,ta,tb,ko,tv,to,fn⟩ r) (ps'.take tb.length)/\
  (eM.sb ⟨ka,ta,tb,ko,tv,to,fn⟩ r).length=(eM.sa ⟨ka,ta,tb,ko,tv,to,fn⟩ a).length/\
  ∀(t:Nat) (x y:SB),(eM.sa ⟨ka,ta,tb,ko,tv,to,fn⟩ a)[t]? =some x->(eM.sb ⟨ka,ta,tb,ko,tv,to,fn⟩ r)[t]? =some y->aFG x y) ha hS hb (fun v s' z' p ps' ρ' w' y' hv hS' hk=>by
  cases z' with
  |cons _ _=>cases hk
  |nil=>
   dsimp only at hk;obtain ⟨hc,hk⟩:=dL hk;simp only [bo] at hc;obtain ⟨⟨⟨⟨c1,c2⟩,c3⟩,c4⟩,c5⟩:=hc;obtain ⟨hk,f1,f2⟩:=P5 hk;obtain ⟨r,hr,hk⟩:=bW hk;injection hk with hk;have hu:R s' (bif wd then TB s' v else v) p:=by
    cases wd with
    |true=>exact aCp hv
    |false=>exact hv
   generalize (bif wd then TB s' v else v)=u at c1 c3 c4 hr hu
   have hats:=yN hr;have hvb:eM.vb ⟨ka,ta,tb,ko,tv,to,fn⟩ r=u:=by
    show (zV tv (qD ko r)).1=u;rw [hats,N3 _ c1]
   have hsb:eM.sb ⟨ka,ta,tb,ko,tv,to,fn⟩ r=s'.take tb.length:=by
    show (IN to (zV tv (qD ko r)).2).1=_;rw [hats,N3 _ c1]
    have:=J9 [] c2
    rw [de] at this;rw [this]
   have hle:tb.length<=s'.length:=by
    have:=f1
    rw [db] at this;have h2:(eM.sa ⟨ka,ta,tb,ko,tv,to,fn⟩ a).length=tb.length:=hlen;have h3:min tb.length s'.length=tb.length:=by rw [this];exact h2
    omega
   unfold aPb at c3;rw [dt] at c3;have hkv: ∀t∈tkV zR u,t<tb.length:=fun t ht=>by simpa using c3 t (ej _ ht)
   have hkb: ∀b∈s'.take tb.length,∀t∈PE b,t<tb.length:=fun b hb t ht=>by simpa using c3 t (eg _ (gu.2 ⟨b,hb,ht⟩))
   have hsto:dD (s'.take tb.length) (ps'.take tb.length):=⟨by simp [hS'.len],fun t x hx=>by
    have hlt:t<tb.length:=by
     have:=(bq.1 hx).1
     rw [db] at this;omega
    have hx':=hx;rw [bz hlt] at hx';obtain ⟨q,q1,q2⟩:=hS'.at_ t x hx';refine ⟨q,by rw [bz hlt];exact q1,?_⟩
    cases x with
    |box cs=>
     obtain ⟨pc,rfl,hpc⟩:=q2;exact ⟨pc,rfl,RL.takeS hpc (hkb _ (dz hx))⟩
    |_=>exact q2⟩
   refine ⟨r,hk.symm,rfl,?_,by rw [hvb,hsb];exact R.take hu hkv,by rw [hsb];exact hsto,by rw [hsb];exact f1,by rw [hsb];exact f2⟩
   unfold kF;rw [dt];intro t ht;rw [gy] at ht;rcases ht with ht|ht
   · rw [<- aFy (bx:=zR) (fun _=>rfl) hu c4] at ht
     simpa using hkv t ht
   rw [gu] at ht
   obtain ⟨q,hq,ht⟩:=ht;obtain ⟨j,hj,he⟩:=ek hq;have hjl:j<(s'.take tb.length).length:=by rw [<- hsto.len];exact hj
   obtain ⟨x,hx⟩: ∃x,(s'.take tb.length)[j]? =some x:=⟨_,bw hjl⟩;obtain ⟨q',q1,q2⟩:=hsto.at_ j x hx;rw [bw hj,he] at q1;injection q1 with q1;subst q1;rw [<- VA q2 (P6 c5 j x hx)] at ht;simpa using hkb x (dz hx) t ht)
 have hr':b=r:=hr;subst hr';subst hz;refine ⟨n,v,s,hrun,?_⟩;rw [hlen];obtain ⟨h1,h2,h3,h4,h5⟩:=hq;exact ⟨h1,h2,h3,by rw [h4,hlen],h5⟩
theorem aBe {f:FuncId} {r:List PT} (hf:F f=some (.prim false (gL r.length))) (l:List (RT r)) (hl:l.length<=1048576) {as:List PV} {sto:dC} {fz:List Nat} (hex:exL sto (EY sto fS) as=some [.sl r.length false (l.map (RT.pv r))]):
 ∃n x,callPure F (run F n) false f as sto fz=some x/\aPg .own sto.length (toksL (dU sto fS) as) (.sl r l) x:=by
 refine ⟨0,{v:= .own sto.length r.length 0 l.length l.length false,news:=[.arr r.length (l.map (RT.pv r))],rd:=toksL (dU sto fS) as},?_,.sl r.length false (l.map (RT.pv r)),.own sto.length r.length 0 l.length l.length false,[.arr r.length (l.map (RT.pv r))],rfl,by simp only [P1,cq],rfl⟩
 simp only [callPure,hex,hf];cases l with
 |nil=>rfl
 |cons a l=>
  have h2:cm ((l.map (RT.pv r)).length+1) most=true:=by simp [most] at hl ⊢;omega
  simp only [c7,gL,c9,h2,c8,if_true,HB];simp [has]
theorem aI.clone {f:FuncId} {n:Nat} {r:List PT} (hf:F f=some (.prim false (gL n))) (hn:n=r.length):aI F f (bO.clone r):=by
 intro (a:List (RT r)) (b:List (RT r)) as pa sto fz hb hpa hex;subst hn;have hb:cC a=some b:=hb;obtain ⟨rfl,hl⟩:=IS hb;have hpa':pa=[.sl r.length false (b.map (RT.pv r))]:=by
  have:some [PV.sl r.length false (b.map (RT.pv r))]=some pa:=hpa
  exact (dv this).symm
 subst hpa';exact aBe hf b hl hex
theorem aI.add64 {f:FuncId} (hf:F f=some (.prim false IC)):aI F f bO.add64:=by
 intro a b as pa sto fz hb hpa hex;obtain ⟨x,y,c⟩:=a;have hb':tV x y c=some b:=hb;unfold tV at hb';cases hc:(decide (0<=x)&&decide (0<=y)&&decide (0<=c)&&decide (c<=1)) with
 |false=>rw [hc] at hb';cases hb'
 |true=>
  rw [hc] at hb';injection hb' with hb';subst hb';simp only [bo,decide_eq_true_eq] at hc;obtain ⟨⟨⟨h1,h2⟩,h3⟩,h4⟩:=hc;obtain ⟨x,rfl⟩:=cj h1;obtain ⟨y,rfl⟩:=cj h2;obtain ⟨c,rfl⟩:=cj h3;have hpa':pa=[.int .u64 (.ofNat x),.int .u64 (.ofNat y),.int .u64 (.ofNat c)]:=by
   have:some [PV.int .u64 (x:Int),.int .u64 (y:Int),.int .u64 (c:Int)]=some pa:=hpa
   exact (dv this).symm
  subst hpa';have hcb:cm c 1=true:=by simp;omega
  refine ⟨0,{v:= .tup [.int .u64 (.ofNat ((x+y+c)%18446744073709551616)),.int .u64 (.ofNat ((x+y+c) / 18446744073709551616))],rd:=toksL (dU sto fS) as},?_,_,rfl,rfl⟩;show callPure F (run F 0) false f as sto fz=_;simp only [callPure,hex,hf,IC,hcb,if_true];rfl
theorem kS.zero {f:FuncId} {c:eM} (h: ∀a,c.fn a=none):kS F f c:=fun a b pa ps hb=>by rw [h a] at hb;cases hb
theorem aI.zero {f:FuncId} {c:bO} (h: ∀a,c.fn a=none):aI F f c:=fun a b as pa sto fz hb=>by rw [h a] at hb;cases hb
theorem aI.at0 {f:FuncId} {fn:Unit->Option Bool} (h:aI F f ⟨aD.nil,aJ.bool,fn,.pure,false⟩) (hb:fn ()=some true):aI F f ⟨aD.nil,aJ.bool,fun _=>some true,.pure,false⟩:=by
 intro a b as args sto fz hr hp hx;obtain rfl:true=b:=dv hr;exact h () true as args sto fz hb hp hx
end
end Go.Vm
/- What comes in to a law, as typed values; a law from a contract. -/
namespace Go.Vm
open Go.ChangeShapes Go.WideShapes Go.ChangeAt Go.RowKit
def PT.wf:(p:PT)->p.T->Prop
 | .i k,n=>(Lit.int k n).wf=true
 | .b,_=>True
def RT.wf:(r:List PT)->RT r->Prop
 | [],_=>True
 | [p],a=>p.wf a
 |p::q::r,a=>p.wf a.1/\RT.wf (q::r) a.2
def qW (r:List PT) (vs:List SV):Prop:= ∃a:RT r,vs=RT.sv r a/\RT.wf r a
def KSl (r:List PT) (vs:List SV):Prop:= ∃l:List (RT r),vs=[.sl r l]/\ ∀a∈l,RT.wf r a
def aHM:List (List SV->Prop)->List SV->Prop
 | [],vs=>vs=[]
 |K::Ks,vs=> ∃a b,vs=a++b/\K a/\aHM Ks b
theorem qW.cons {p:PT}: ∀{r:List PT} {a b:List SV},qW [p] a->qW r b->qW (p::r) (a++b)
 | [],a,b,⟨x,hx,wx⟩,⟨y,hy,_⟩=>⟨x,by rw [hx,hy];rfl,wx⟩
 |q::r,a,b,⟨x,hx,wx⟩,⟨y,hy,wy⟩=>⟨(x,y),by rw [hx,hy];rfl,wx,wy⟩
theorem qW.split {p q:PT} {r:List PT} {vs:List SV}:qW (p::q::r) vs-> ∃a b,vs=a++b/\qW [p] a/\qW (q::r) b
 |⟨x,hx,wx⟩=>⟨[p.sv x.1],RT.sv (q::r) x.2,hx,⟨x.1,rfl,wx.1⟩,⟨x.2,rfl,wx.2⟩⟩
theorem qW.app: ∀{r s:List PT} {a b:List SV},qW r a->qW s b->qW (r++s) (a++b)
 | [],s,a,b,⟨x,hx,_⟩,h=>by
  have:a=[]:=hx
  subst this;exact h
 | [p],s,a,b,h,k=>qW.cons h k
 |p::q::r,s,a,b,h,k=>by
  obtain ⟨a1,a2,rfl,h1,h2⟩:=qW.split h
  rw [cy];exact qW.cons h1 (qW.app h2 k)
theorem L6: ∀{rs:List (List PT)} {vs:List SV},aHM (rs.map qW) vs->qW rs.flatten vs
 | [],vs,h=>by
  have:vs=[]:=h
  subst this;exact ⟨(),rfl,trivial⟩
 |r::rs,vs,⟨a,b,h1,h2,h3⟩=>by
  subst h1;rw [List.flatten_cons];exact qW.app h2 (L6 h3)
def jM (P : Program) (t : TypeId) (K : List SV -> Prop) : Prop :=
  ∀ (H : Type) (enc : TypeId × Value -> H) (w : World) (fuel : Nat) (cs : List Value) (x : DataW H × List MemPlace), DataW.trod enc P w 0 (fun _ => true) true fuel t cs = some x ->
    ∃ vs q, K vs /\ pvL vs = some q /\ VRL (PB w) hZ q cs
section
variable {P : Program}
theorem jM.mono {t:TypeId} {K K':List SV->Prop} (h:jM P t K) (hk: ∀vs,K vs->K' vs):jM P t K':=fun H enc w fuel cs x hx=>by
 obtain ⟨vs,q,h1,h2,h3⟩:=h H enc w fuel cs x hx;exact ⟨vs,q,hk vs h1,h2,h3⟩
theorem jM.int {t:TypeId} {k:IntKind} (ht:P.underlying t=some (.int k)):jM P t (qW [.i k]):=fun H enc w fuel cs x h=>by
 obtain ⟨n,rfl,_,hw⟩:=DataW.trod_int ht h;exact ⟨[.int k n],[.int k n],⟨n,rfl,hw⟩,rfl,.cons _ _ _ _ (.int k n) .nil⟩
theorem jM.bool {t:TypeId} (ht:P.underlying t=some .bool):jM P t (qW [.b]):=fun H enc w fuel cs x h=>by
 obtain ⟨b,rfl,_⟩:=DataW.trod_bool ht h;exact ⟨[.bool b],[.bool b],⟨b,rfl,trivial⟩,rfl,.cons _ _ _ _ (.bool b) .nil⟩
def iJ (P:Program):List Field->List (List SV->Prop)->Nat->Prop
 | [],[],_=>True
 |f::fs,K::Ks,off=>f.offset=off/\jM P f.type K/\iJ P fs Ks (off+P.cellsOf f.type)
 |_,_,_=>False
theorem iJ.nil {off:Nat}:iJ P [] [] off:=trivial
theorem iJ.cons {f:Field} {fs:List Field} {K:List SV->Prop} {Ks:List (List SV->Prop)} {off:Nat} (h1:f.offset=off) (h2:jM P f.type K) (h3:iJ P fs Ks (off+P.cellsOf f.type)):iJ P (f::fs) (K::Ks) off:=⟨h1,h2,h3⟩
def FI (P:Program):List Field->Nat
 | []=>0
 |f::fs=>P.cellsOf f.type+FI P fs
theorem P7 {im:Im} {loc:dV}: ∀{p:List PV} {vs:List Value} {q:List PV} {us:List Value},VRL im loc p vs->VRL im loc q us->VRL im loc (p++q) (vs++us)
 | [],[],_,_,.nil,h=>h
 |_::_,_::_,_,_,.cons x v xs ws h hs,k=> .cons x v _ _ h (P7 hs k)
theorem P8 {H:Type} {enc:TypeId×Value->H} {w:World} {n:Nat} {cs:List Value}: ∀{fs:List Field} {Ks:List (List SV->Prop)} {off:Nat},iJ P fs Ks off->cs.length=off+FI P fs->
 (∀f∈fs,∃x,DataW.trod enc P w 0 (fun _=>true) true n f.type ((cs.drop f.offset).take (P.cellsOf f.type))=some x)-> ∃vs q,aHM Ks vs/\pvL vs=some q/\VRL (PB w) hZ q (cs.drop off)
 | [],[],off,_,hl,_=>⟨[],[],rfl,rfl,by rw [List.drop_eq_nil_of_le (by simp [FI] at hl;omega)];exact .nil⟩
 |f::fs,K::Ks,off,⟨h1,h2,h3⟩,hl,hx=>by
  obtain ⟨x,hx1⟩:=hx f (by simp)
  obtain ⟨vs,q,k1,k2,k3⟩:=h2 H enc w n _ x hx1;obtain ⟨vs',q',k1',k2',k3'⟩:=P8 (n:=n) h3 (by simp only [FI] at hl;omega) (fun g hg=>hx g (by simp [hg]))
  refine ⟨vs++vs',q++q',⟨vs,vs',rfl,k1,k1'⟩,IP k2 k2',?_⟩;rw [h1] at k3
  have:cs.drop off=(cs.drop off).take (P.cellsOf f.type)++cs.drop (off+P.cellsOf f.type):=by
   rw [<- List.drop_drop,List.take_append_drop]
  rw [this];exact P7 k3 k3'
 | [],_::_,_,h,_,_=>h.elim
 |_::_,[],_,h,_,_=>h.elim
theorem jM.struct {t:TypeId} {fs:Array Field} {Ks:List (List SV->Prop)} (ht:P.underlying t=some (.struct fs)) (hF:iJ P fs.toList Ks 0) (hc:P.cellsOf t=FI P fs.toList):jM P t (aHM Ks):=fun H enc w fuel cs x h=>by
 obtain ⟨xs,n,rfl,_,hl,hxl,hall⟩:=DataW.trod_struct ht h
 have:=P8 (P:=P) (enc:=enc) (w:=w) (n:=n) (cs:=cs) hF (by omega) (fun f hf=>by
  obtain ⟨i,hi,he⟩:=List.mem_iff_getElem.1 hf;have hi':i<fs.size:=by simpa using hi
  have hg:fs[i]? =some f:=by rw [ff hi'];simpa using he
  have:=hall i f hg
  rw [bw (by omega)] at this
  exact ⟨_,this⟩)
 rwa [dm] at this
theorem RT.vrl {r:List PT} {a:RT r} {q:List PV} (h:pvL (RT.sv r a)=some q):q=RT.pv r a:=by
 rw [RT.pv_sv] at h;exact (dv h).symm
theorem VRL.nth {im:Im} {loc:dV}: ∀{p:List PV} {vs:List Value},VRL im loc p vs-> ∀(k:Nat) (c:PV),p[k]? =some c-> ∃v,vs[k]? =some v/\VR im loc c v
 |_::_,_::_,.cons x v xs ws h hs,0,c,hc=>by
  simp at hc;subst hc;exact ⟨v,by simp,h⟩
 |_::_,_::_,.cons x v xs ws h hs,k+1,c,hc=>by
  obtain ⟨u,h1,h2⟩:=VRL.nth hs k c (by simpa using hc)
  exact ⟨u,by simpa using h1,h2⟩
theorem jM.slice {t e:TypeId} {r:List PT} (ht:P.underlying t=some (.slice e)) (he:jM P e (qW r)) (hc:P.cellsOf e=r.length) (hr:0<r.length):jM P t (KSl r):=fun H enc w fuel cs x h=>by
 rcases Go.Deep.open_slice ht h with ⟨rfl,_⟩|⟨a,len,cap,m,n,D,Pl,rfl,_,hl,hm,hmm,_,hx⟩
 · exact ⟨[.sl r []],[.sl r.length false []],⟨[],rfl,by simp⟩,rfl,.cons _ _ _ _ (.sl r.length false [] none 0 (fg _) (fun h=>by cases h) (fun h=>absurd rfl h)) .nil⟩
 have hm':len<=m:=by rw [hmm];split<;>omega
 have each: ∀i,i<len-> ∃A:RT r,RT.wf r A/\ ∃cs',w.cells? 0 (a.add (i*r.length)) r.length=some cs'/\VRL (PB w) hZ (RT.pv r A) cs':=by
  intro i hi;obtain ⟨cs',h1,h2⟩:=hx i (by omega)
  obtain ⟨vs,q,⟨A,hA,wA⟩,k2,k3⟩:=he H enc w n cs' _ h2;subst hA;rw [RT.vrl k2] at k3;rw [hc] at h1;exact ⟨A,wA,cs',h1,k3⟩
 have ch: ∃A:Nat->RT r,∀i,i<len->RT.wf r (A i)/\ ∃cs',w.cells? 0 (a.add (i*r.length)) r.length=some cs'/\VRL (PB w) hZ (RT.pv r (A i)) cs':=by
  classical
  refine ⟨fun i=>if h:i<len then (each i h).choose else RT.zero r,fun i hi=>?_⟩
  simp only [dif_pos hi];exact (each i hi).choose_spec
 obtain ⟨A,hA⟩:=ch;refine ⟨[.sl r ((gj len).map A)],[.sl r.length false (((gj len).map A).map (RT.pv r))],⟨_,rfl,fun x hx=>?_⟩,rfl,.cons _ _ _ _ ?_ .nil⟩
 · obtain ⟨i,hi,rfl⟩:=ia.1 hx
   exact (hA i (List.mem_range.1 hi)).1
 have hlen:(((gj len).map A).map (RT.pv r)).length=len:=by simp
 have:=VR.sl (im:=PB w) (loc:=hZ) r.length false (((gj len).map A).map (RT.pv r)) (some a) cap (by rw [hlen];exact hl) (fun h=>by cases h) (fun hne=>by
  have hpos:0<len:=by
   rcases ew len with h|h
   · subst h;exact absurd rfl hne
   exact h
  obtain ⟨_,cs0,h0,_⟩:=hA 0 hpos;obtain ⟨_,hl0,hc0⟩:=gq h0;obtain ⟨b,off,spot⟩:=a;have hspot:spot=none:=by
   have h1:=hc0 0 hr;rw [bw (by omega)] at h1
   simpa [Addr.add] using World.cell?_spot h1
  subst hspot;refine ⟨b,off,rfl,fun i row hrow=>?_⟩
  simp only [List.map_map,fj,cz] at hrow;obtain ⟨j,hj,rfl⟩:=hrow;have hjl:=cZ hj
  have:j=i:=by
   rw [List.getElem?_range (by simpa using hjl)] at hj
   exact (dv hj).symm
  subst this;have hjlen:j<len:=by simpa using hjl
  obtain ⟨_,cs',h1,h2⟩:=hA j hjlen;obtain ⟨_,hl1,hc1⟩:=gq h1;refine ⟨RT.pv_len r (A j),fun k c hk=>?_⟩
  obtain ⟨v,hv,hvr⟩:=VRL.nth h2 k c hk;have hkr:k<r.length:=by
   have:=cZ hk
   rwa [Function.comp,RT.pv_len] at this
  have cc:=hc1 k hkr;rw [hv] at cc;rw [Go.WideShapes.add_plain,Go.WideShapes.add_plain] at cc;have hpl:c.plain=true:=dt.1 (RT.plain r (A j)) c (dz hk);exact ⟨v,hvr.plain hpl,aDM cc⟩)
 rw [hlen] at this;exact this
theorem jM.argS {t:TypeId} {fs:Array Field} {K:List SV->Prop} (h:jM P t K) (ht:P.underlying t=some (.struct fs)) {H:Type} {enc:TypeId×Value->H} {w:World} {base:Nat} {v:Value} {d:DataW H} {p:List MemPlace}
 (hv:Value.okWide P w .any base t v) (hd:DataW.Trod enc P w 0 (fun _=>true) true t v d p): ∃vs q,K vs/\pvL vs=some q/\VR (PB w) hZ (.agg q) v:=by
 obtain ⟨cs,rfl,_⟩:=okWide_struct ht hv;obtain ⟨fuel,hf⟩:=hd;obtain ⟨vs,q,k1,k2,k3⟩:=h H enc w fuel _ _ hf;exact ⟨vs,q,k1,k2,.agg q _ k3⟩
theorem jM.argI {t:TypeId} {k:IntKind} (ht:P.underlying t=some (.int k)) {H:Type} {enc:TypeId×Value->H} {w:World} {base:Nat} {v:Value} {d:DataW H} {p:List MemPlace}
 (hv:Value.okWide P w .any base t v) (hd:DataW.Trod enc P w 0 (fun _=>true) true t v d p): ∃n,(Lit.int k n).wf=true/\VR (PB w) hZ (.int k n) v:=by
 obtain ⟨n,rfl,_,_,hw⟩:=open_int ht hv hd;exact ⟨n,hw,.int k n⟩
theorem DD {n:Int} (h:(Lit.int .i64 n).wf=true): -9223372036854775808<=n/\n<9223372036854775808:=by
 simp only [Lit.wf,bo,decide_eq_true_eq] at h;have e1:IntKind.i64.min= -9223372036854775808:=by decide
 have e2:IntKind.i64.max=9223372036854775807:=by decide
 rw [e1,e2] at h;omega
end
theorem aI.runA {F:qT} {f:FuncId} {x:aM} {α:Type} {A:aD α} {fn:α->Option Bool} (h:aI F f ⟨A,aJ.bool,fn,.pure,false⟩) (hf:F f=some (.code x)) {a:α} (hb:fn a=some true) {ps:List PV} (hp:pvL (A.enc a)=some ps) (hx:exL [] (EY [] fS) ps=some ps):
 ∃n s z,run F n (.func f ps [] [])=some (.func (.bool true) s z):=by
 obtain ⟨n,r,h1,p,h2,rfl⟩:=h a true ps ps [] [] hb hp hx;have hp':p= .bool true:=(dv h2).symm;subst hp';refine ⟨n,?_⟩;simp only [callPure,hx,hf] at h1;split at h1
 · rename_i v s z hr
   simp only [ce,if_false] at h1;split at h1
   · injection h1 with h1
     injection h1 with h1;subst h1;exact ⟨s,z,hr⟩
   rename_i hn
   split at h1
   · rename_i v' hv
     injection h1 with h1;injection h1 with h1;subst h1;exfalso;cases v with
     |bool b=>exact hn rfl
     |int _ _|str _|sl _ _ _=>injection hv with hv;cases hv
     |agg cs=>simp only [GG,cz] at hv;obtain ⟨_,_,hv⟩:=hv;cases hv
     |tup cs=>simp only [GG,cz] at hv;obtain ⟨_,_,hv⟩:=hv;cases hv
     |own t e off len cap ex=>simp only [GG] at hv;split at hv<;>first|(injection hv with hv;cases hv)|cases hv
     |_=>cases hv
   cases h1
 cases h1
end Go.Vm
/- A function that puts the rows of a slice in order: what is asked of it in a program, and that the table's entry is then right. -/
namespace Go.Vm
theorem P9: ∀{p:PT} {x:PV} {a:p.T},JX p x=some a->x=p.pv a
 | .i k,.int l n,a,h=>by
  have h:(bif gH l k then some n else none)=some a:=h
  cases hk:gH l k with
  |false=>rw [hk] at h;cases h
  |true=>
   rw [hk] at h;obtain rfl:=gA.1 hk;injection h with h;subst h;rfl
 | .b,.bool x,a,h=>by
  have h:some x=some a:=h;injection h with h;subst h;rfl
theorem TR: ∀{r:List PT} {x:List PV} {a:RT r},SH r x=some a->x=RT.pv r a
 | [],[],a,h=>rfl
 | [],_::_,a,h=>by cases h
 | [p],[v],a,h=>by rw [P9 (show JX p v=some a from h)];rfl
 | [p],[],a,h=>by cases h
 | [p],_::_::_,a,h=>by cases h
 |p::q::r,[],a,h=>by cases h
 |p::q::r,v::vs,a,h=>by
  have h:(match JX p v,SH (q::r) vs with
   |some a,some b=>some (a,b)
   |_,_=>none)=some a:=h
  cases h1:JX p v with
  |none=>rw [h1] at h;cases h
  |some x=>
   cases h2:SH (q::r) vs with
   |none=>rw [h1,h2] at h;cases h
   |some y=>
    rw [h1,h2] at h;injection h with h;subst h;rw [P9 h1,TR h2];rfl
theorem QA {r:List PT}: ∀{x:List (List PV)} {l:List (RT r)},M5 r x=some l->x=l.map (RT.pv r)
 | [],l,h=>by injection h with h;subst h;rfl
 |v::vs,l,h=>by
  have h:(match SH r v,M5 r vs with
   |some a,some l=>some (a::l)
   |_,_=>none)=some l:=h
  cases h1:SH r v with
  |none=>rw [h1] at h;cases h
  |some x=>
   cases h2:M5 r vs with
   |none=>rw [h1,h2] at h;cases h
   |some y=>
    rw [h1,h2] at h;injection h with h;subst h;rw [TR h1,QA h2];rfl
def aPJ:Option FuncId->List Value
 |none=>[]
 |some g=>[.func (.func g) ⟨[]⟩ ⟨[]⟩]
structure FJ (P:Program) (f:FuncId) (q:Srt):Prop where
 some_: ∀(b off c:Nat) (l m:List (RT q.r)) (arr:Array Value) (el:TypeId) (w:World),0<l.length->l.length<=c->l.length<=1048576->q.fn l=some m->m.length=l.length->w.heap[b]? =some (.cells arr el (0,0))->
  cA (fun k=>arr[k]?) off q.r.length (l.map (RT.pv q.r))->off+l.length*q.r.length<=arr.size->
  Calls P f ⟨.slice (some ⟨b,off,none⟩) l.length c::aPJ q.g⟩ w fun x w'=>x= .returned (.tuple #[])/\(∃fin:Array Value,fin.size=arr.size/\w'.heap[b]? =some (.cells fin el (0,0))/\cA (fun k=>fin[k]?) off q.r.length (m.map (RT.pv q.r))/\
   ∀j:Nat,off+l.length*q.r.length<=j->fin[j]? =arr[j]?)/\(∀b':Nat,b'<w.heap.size->b'≠b->w'.heap[b']? =w.heap[b']?)/\w.heap.size<=w'.heap.size/\w'.os=w.os/\w'.tape=w.tape/\w'.output=w.output
 none_: ∀(a:Option Addr) (c:Nat) (w:World),Calls P f ⟨.slice a 0 c::aPJ q.g⟩ w fun x w'=>x= .returned (.tuple #[])/\w'=w
theorem aPK {im:Im} {loc:dV} {g:Option FuncId} {r:List PV} {us:List Value} (h:aHr g r=true) (hu:VRL im loc r us):us=aPJ g:=by
 unfold aHr at h;split at h
 · cases hu;rfl
 · rename_i g h'
   have:h'=g:=by simpa using h
   subst this;cases hu with
   |cons _ a _ b h1 h2=>
    cases h2;cases h1 with
    |clo _ _ _ as bs ha hb=>cases ha;cases hb;rfl
 cases h
theorem aD2 {P:Program} {im:Im} {loc:dV} {sto:dC} {fz:List Nat} {w w':World} {t e:Nat} {li:LI} {rows rows':List rY} {arr fin:Array Value} {el:TypeId} (hsr:SR im loc sto fz w) (hl:loc t=some li) (hst:sto[t]? =some (.arr e rows)) (hne:rows≠[]) (hf:has fz t=false)
 (ha:w.heap[li.blk]? =some (.cells arr el (0,0))) (hw:w'.heap[li.blk]? =some (.cells fin el (0,0))) (hfr: ∀b':Nat,b'<w.heap.size->b'≠li.blk->w'.heap[b']? =w.heap[b']?) (hsz:w.heap.size<=w'.heap.size) (ho:w'.os=w.os) (ht:w'.tape=w.tape) (hp:w'.output=w.output)
 (he:li.esz=e) (hn:li.n=rows'.length) (hlen:rows'.length=rows.length) (hfs:fin.size=li.sz) (hfit:li.sh+rows'.length*e<=li.sz) (hr:cA (fun k=>fin[k]?) li.sh e rows'):
 B2 im loc sto w (.tup []) (sto.set t (.arr e rows')) fz im loc w' (.tuple #[]):=by
 have htl:t<sto.length:=(bq.1 hst).1;have hne':rows'≠[]:=by intro h;subst h;rw [List.length_nil] at hlen;exact hne (di.1 hlen.symm)
 have hs0:(mU.arr e rows).solid=true:=rG hne;have hs1:(mU.arr e rows').solid=true:=rG hne';have hfree:=hsr.free t li _ hl hst hs0 hf;have old: ∀{u:Nat} {k:mU},(sto.set t (.arr e rows'))[u]? =some k->(u=t/\k= .arr e rows')\/(u≠t/\sto[u]? =some k):=by
  intro u k h;rw [cb] at h;split at h
  · rename_i e1;subst e1;first|(rw [if_pos htl] at h;injection h with h;exact .inl ⟨rfl,h.symm⟩)|(injection h with h;exact .inl ⟨rfl,h.symm⟩)
  rename_i hne;exact .inr ⟨fun e=>hne e.symm,h⟩
 have sol: ∀{u:Nat} {k:mU},(sto.set t (.arr e rows'))[u]? =some k->k.solid=true-> ∃k0,sto[u]? =some k0/\k0.solid=true:=by
  intro u k h hs;rcases old h with ⟨rfl,rfl⟩|⟨_,h⟩
  · exact ⟨_,hst,hs0⟩
  exact ⟨k,h,hs⟩
 have lt: ∀{b:Nat} {o:Obj},w.heap[b]? =some o->b<w.heap.size:=fun h=>(ez.1 h).1
 exact {
  imle:= .refl _,locle:= .refl _
  vr:= .tup _ _ .nil
  sr:={
   im_ok:=fun b o hb=>by
    have h1:=hsr.im_ok b o hb;have h2:b≠li.blk:=fun h=>by rw [h,hfree] at hb;cases hb
    rw [hfr b (lt h1) h2];exact h1
   blk:=fun u lu hu=>by
    obtain ⟨k,hk,hb⟩:=hsr.blk u lu hu
    by_cases e1:u=t
    · subst e1
      rw [hl] at hu;injection hu with hu;subst hu;exact ⟨_,List.getElem?_set_self htl,he,hn,fun _=>⟨fin,el,hw,hfs,hfit,hr⟩⟩
    refine ⟨k,by rw [List.getElem?_set_ne (fun h=>e1 h.symm)];exact hk,hb.keep (.refl _) (.refl _) fun hs=>?_⟩
    exact hfr _ (hb.lt hs) fun h=>e1 (hsr.excl _ _ _ _ _ _ hu hl hk hst hs hs0 h)
   excl:=fun u v lu lv k k' hu hv hk hk' hs hs' h=>by
    obtain ⟨k0,a,b⟩:=sol hk hs;obtain ⟨k1,c,d⟩:=sol hk' hs';exact hsr.excl _ _ _ _ _ _ hu hv a c b d h
   free:=fun u lu k hu hk hs hz=>by
    obtain ⟨k0,a,b⟩:=sol hk hs;exact hsr.free _ _ _ hu a b hz}
  os:=ho,tape:=ht,output:=hp,size:=hsz
  frame:=fun b hb h=>hfr b hb fun h2=>h t li _ hl hst hs0 h2.symm
  imnew:=fun b o h=> .inl h
  locs:=fun u lu h=> .inl h
  own:=fun u lu k hu hk hs=>by
   obtain ⟨k0,a,b⟩:=sol hk hs;exact .inr ⟨u,lu,k0,hu,a,b,rfl⟩}
theorem aBf {im:Im} {loc:dV} {sto:dC} {fz:List Nat} {w:World} (hsr:SR im loc sto fz w):B2 im loc sto w (.tup []) sto fz im loc w (.tuple #[]) where
 imle:= .refl _
 locle:= .refl _
 vr:= .tup _ _ .nil
 sr:=hsr
 os:=rfl
 tape:=rfl
 output:=rfl
 size:=fg _
 frame:=fun _ _ _=>rfl
 imnew:=fun _ _ h=> .inl h
 locs:=fun _ _ h=> .inl h
 own:=fun t li k hl hk hs=> .inr ⟨t,li,k,hl,hk,hs,rfl⟩
theorem XN.srt {P:Program} {f:FuncId} {q:Srt} {fn:Func} {c:Code} (hf:P.funcs[f]? =some fn) (hname:(fn.name== "runtime.NumGoroutine")=false) (hb:fn.body=some c) (h0:q.fn []=some []) (H:FJ P f q):XN P f (U5 q):=by
 refine ⟨fn,c,hf,hname,hb,?_⟩;intro args sto fz v sto' fz' hp im loc w us hsr hus;unfold U5 at hp;split at hp
 case h_2=>cases hp
 rename_i t e1 off len cap ex r;split at hp
 case h_2=>cases hp
 rename_i e3 rows hst;split at hp
 case isFalse=>cases hp
 rename_i hc;simp only [bo,fv,cw,Nat.ble_eq] at hc;obtain ⟨⟨⟨⟨⟨q1,rfl⟩,hlen⟩,hmost⟩,hfz⟩,hg⟩:=hc;subst q1;have hmost:len<=1048576:=hmost;split at hp
 case h_2=>cases hp
 rename_i l hl0;split at hp
 case h_2=>cases hp
 rename_i m hm;split at hp
 case isFalse=>cases hp
 rename_i hml;have hml:m.length=l.length:=by simpa using hml
 injection hp with hp;simp only [dd] at hp;obtain ⟨rfl,rfl,rfl⟩:=hp;have hrows:=QA hl0;have hll:l.length=len:=by
  have:=congrArg List.length hrows
  rw [db,cq] at this;omega
 obtain ⟨x0,us1,rfl,hx0,hus⟩: ∃x0 us1,us=x0::us1/\VR im loc (.own t q.r.length 0 len cap ex) x0/\VRL im loc r us1:=by cases hus with|cons _ a _ b h1 h2=>exact ⟨a,b,rfl,h1,h2⟩
 obtain rfl:=aPK hg hus;obtain ⟨li,a,cap',rfl,hl,he,hoff,hlc,hcc,_,hadr⟩:=hx0.own_inv;obtain ⟨k1,hk1,hbr⟩:=hsr.blk t li hl;rw [hst] at hk1;injection hk1 with hk1;subst hk1;obtain ⟨b1,b2,b3⟩:=hbr;obtain rfl:q.r.length=e3:=by rw [<- b1,he]
 refine .inr ⟨mE hf hname hb,?_⟩;rcases ew len with hz|hpos
 · subst hz
   obtain rfl:l=[]:=di.1 hll;rw [h0] at hm;injection hm with hm;subst hm;refine (H.none_ a cap' w).mono fun x w' ⟨hx,hw⟩=>⟨_,hx,im,loc,?_⟩
   subst hw
   have:sto.set t (.arr q.r.length (([]:List (RT q.r)).map (RT.pv q.r)++rows.drop 0))=sto:=by
    apply fh;intro j;rw [cb];split
    · rename_i e;subst e;rw [if_pos (bq.1 hst).1,hst];rfl
    rfl
   rw [this];exact aBf hsr
 have hrne:rows≠[]:=by intro h;subst h;simp at hlen;omega
 obtain ⟨arr,el,ha1,ha2,ha3,hat⟩:=b3 hrne;obtain ⟨hn0,rfl,hfit⟩:li.n≠0/\a=some ⟨li.blk,li.sh,none⟩/\li.sh+cap'*q.r.length<=li.sz:=by
  rcases hadr with h|⟨h1,h2,h3⟩
  · omega
  exact ⟨h1,by simpa using h2,by simpa using h3⟩
 have hle:len*q.r.length<=rows.length*q.r.length:=Nat.mul_le_mul_right _ hlen;subst hll;refine (H.some_ li.blk li.sh cap' l m arr el w hpos (by omega) (by omega) hm hml ha1 (by rw [<- hrows];exact hat.take _) (by omega)).mono fun x w' ⟨hx,⟨fin,f1,f2,f3,f4⟩,hfr,hsz,ho,htp,hpp⟩=>⟨_,hx,im,loc,?_⟩
 have hL:(m.map (RT.pv q.r)++rows.drop l.length).length=rows.length:=by simp only [d9,cq,fu,hml];omega
 refine aD2 (P:=P) hsr hl hst hrne hfz ha1 f2 hfr hsz ho htp hpp b1 (by rw [hL];exact b2) hL (by rw [f1];exact ha2) (by rw [hL];exact ha3) ?_
 refine f3.append ?_;rw [cq,hml];intro i r hr;obtain ⟨g1,g2⟩:=(hat.drop l.length) i r hr;refine ⟨g1,fun j c hc=>?_⟩
 obtain ⟨v,v1,v2⟩:=g2 j c hc;refine ⟨v,v1,?_⟩;show fin[_]? =some v;rw [f4 _ (by omega)]
 exact v2
end Go.Vm
/- slices.Sort of numbers: the table's entry, by what the library's law says of the function. -/
namespace Go.Vm
theorem L7 (a:Int): ∀l:List Int,(aAP a l).Perm (a::l)
 | []=> .refl _
 |b::r=>by
  unfold aAP;cases decide (a<=b)
  · exact ((L7 a r).cons b).trans (.swap a b r)
  exact .refl _
theorem yO: ∀l:List Int,(oN l).Perm l
 | []=> .refl _
 |a::r=>(L7 a _).trans ((yO r).cons a)
theorem NA (a:Int): ∀{l:List Int},l.Pairwise (· <= ·)->(aAP a l).Pairwise (· <= ·)
 | [],_=>by simp [aAP]
 |b::r,h=>by
  obtain ⟨h1,h2⟩:=fb.1 h;unfold aAP;cases hc:decide (a<=b)
  · have hc: ¬a<=b:=by simpa using hc
    refine fb.2 ⟨fun x hx=>?_,NA a h2⟩
    rcases gg.1 ((L7 a r).mem_iff.1 hx) with rfl|hx
    · omega
    exact h1 x hx
  have hc:a<=b:=by simpa using hc
  refine fb.2 ⟨fun x hx=>?_,h⟩
  rcases gg.1 hx with rfl|hx
  · exact hc
  have:=h1 x hx;omega
theorem DE: ∀l:List Int,(oN l).Pairwise (· <= ·)
 | []=> .nil
 |a::r=>NA a (DE r)
theorem yC (l:List Int):(oN l).length=l.length:=(yO l).length_eq
theorem YO (l:List Int):l.mergeSort (fun x y=>decide (x<=y))=oN l:=by
 refine List.Perm.eq_of_pairwise (le:=(· <= ·)) (fun a b _ _ h1 h2=>Int.le_antisymm h1 h2) ?_ (DE l) ((List.mergeSort_perm _ _).trans (yO l).symm)
 have:=List.pairwise_mergeSort (le:=fun x y:Int=>decide (x<=y)) (fun a b c h1 h2=>by simp at*;omega) (fun a b=>by simp;omega) l
 exact this.imp fun h=>by simpa using h
theorem aBg {P:Program} {f:FuncId}
 (H1: ∀(blk off cap:Nat) (zs:List Int) (w:World),Sort.Holds (Value.int .i64) w blk off zs.toArray->blk<w.heap.size->zs.length<4611686018427387904->
  Calls P f #[.slice (some ⟨blk,off,none⟩) zs.length cap] w fun e w'=>e= .returned (.tuple #[])/\ ∃n os,w'=Sort.grow (Sort.putRow (Value.int .i64) (Sort.ahead w n) blk off (zs.mergeSort fun x y=>decide (x<=y)).toArray) os)
 (b off c:Nat) (l:List Int) (arr:Array Value) (el:TypeId) (w:World) (hmost:l.length<=1048576) (hw:w.heap[b]? =some (.cells arr el (0,0)))
 (hat:cA (fun k=>arr[k]?) off 1 (l.map (RT.pv [.i .i64]))) (hfit:off+l.length*1<=arr.size):
 Calls P f #[.slice (some ⟨b,off,none⟩) l.length c] w fun x w'=>x= .returned (.tuple #[])/\(∃fin:Array Value,fin.size=arr.size/\w'.heap[b]? =some (.cells fin el (0,0))/\cA (fun k=>fin[k]?) off 1 ((oN l).map (RT.pv [.i .i64]))/\
  ∀j:Nat,off+l.length*1<=j->fin[j]? =arr[j]?)/\(∀b':Nat,b'<w.heap.size->b'≠b->w'.heap[b']? =w.heap[b']?)/\w.heap.size<=w'.heap.size/\w'.os=w.os/\w'.tape=w.tape/\w'.output=w.output:=by
 have hblk:b<w.heap.size:=(ez.1 hw).1;have hfit:off+l.length<=arr.size:=by omega
 have cells: ∀(j:Nat),j<l.length->arr[off+j]? =some (.int .i64 (l.toArray)[j]!):=fun j hj=>by
  have h1:(l.map (RT.pv [.i .i64]))[j]? =some (RT.pv [.i .i64] l[j]):=by rw [fj,bw hj];rfl
  obtain ⟨_,h2⟩:=hat j _ h1;obtain ⟨v,v1,v2⟩:=h2 0 (.int .i64 l[j]) rfl;injection v1 with v1;subst v1;rw [show off+j*1+0=off+j by omega] at v2
  have:(l.toArray)[j]! =l[j]:=by rw [getElem!_pos _ j (by simpa using hj)];simp
  rw [this];exact v2
 have hH:Sort.Holds (Value.int .i64) w b off l.toArray:=fun j hj=>by
  have hj:j<l.length:=by simpa using hj
  refine ⟨?_,?_⟩
  · simp only [World.cell?,hw];exact cells j hj
  simp [World.frozen?,hw]
 refine (H1 b off c l w hH hblk (by omega)).mono fun x w' ⟨hx,n,os,hw'⟩=>⟨hx,?_⟩
 subst hw';rw [YO];have hml:(oN l).length=l.length:=yC l;have hp:(Sort.putRow (Value.int .i64) (Sort.ahead w n) b off (oN l).toArray).heap=w.heap.modify b (Sort.onCells (Sort.putCells (Value.int .i64) off (oN l).toArray)):=rfl;have hsz:(w.heap.modify b (Sort.onCells (Sort.putCells (Value.int .i64) off (oN l).toArray))).size=w.heap.size:=Array.size_modify
 have hget: ∀k:Nat,k<w.heap.size->(Sort.grow (Sort.putRow (Value.int .i64) (Sort.ahead w n) b off (oN l).toArray) os).heap[k]? =(w.heap.modify b (Sort.onCells (Sort.putCells (Value.int .i64) off (oN l).toArray)))[k]?:=fun k hk=>by
  show (_++os)[k]? =_;rw [hp,Array.getElem?_append,if_pos (by rw [hsz];exact hk)]
 refine ⟨⟨Sort.putCells (Value.int .i64) off (oN l).toArray arr,by simp [Sort.putCells],?_,?_,?_⟩,fun k hk hne=>?_,?_,rfl,rfl,rfl⟩
 · rw [hget b hblk,ga,if_pos rfl,hw];rfl
 · intro i r hr
   have hr:((oN l).map (RT.pv [.i .i64]))[i]? =some r:=hr;rw [fj,cz] at hr;obtain ⟨a,ha,rfl⟩:=hr;have hi:i<(oN l).length:=(bq.1 ha).1;refine ⟨rfl,fun j c hc=>?_⟩
   cases j with
   |succ j=>cases hc
   |zero=>
    injection hc with hc;subst hc;refine ⟨_,rfl,?_⟩;show (Sort.putCells _ _ _ _)[off+i*1+0]? =_;rw [show off+i*1+0=off+i by omega]
    unfold Sort.putCells;rw [gb,ff (by omega),fy,if_pos ⟨by omega,by simp;omega⟩,show off+i-off=i by omega]
    have:((oN l).toArray)[i]! =a:=by
     rw [getElem!_pos _ i (by simpa using hi)]
     have:=(bq.1 ha).2
     simpa using this
    rw [this]
 · intro j hj
   have hj:off+l.length<=j:=by omega
   unfold Sort.putCells;rw [gb];cases arr[j]? with
   |none=>rfl
   |some x=>
    rw [fy,if_neg];intro h
    have:=h.2
    simp [hml] at this;omega
 · rw [hget k hk,ga,if_neg (fun h=>hne h.symm)]
 show _<=(_++os).size
 rw [Array.size_append,hp,hsz];omega
theorem FJ.int {P:Program} {f:FuncId}
 (H1: ∀(blk off cap:Nat) (zs:List Int) (w:World),Sort.Holds (Value.int .i64) w blk off zs.toArray->blk<w.heap.size->zs.length<4611686018427387904->
  Calls P f #[.slice (some ⟨blk,off,none⟩) zs.length cap] w fun e w'=>e= .returned (.tuple #[])/\ ∃n os,w'=Sort.grow (Sort.putRow (Value.int .i64) (Sort.ahead w n) blk off (zs.mergeSort fun x y=>decide (x<=y)).toArray) os)
 (H0: ∀(p:Option Addr) (cap:Nat) (w:World),Calls P f #[.slice p 0 cap] w fun e w'=>e= .returned (.tuple #[])/\w'=w):FJ P f aAX where
 none_ a c w:=H0 a c w
 some_ b off c l m arr el w _ _ hmost hfn _ hw hat hfit:=by
  obtain rfl:oN l=m:=by injection hfn
  exact aBg H1 b off c l arr el w hmost hw hat hfit
end Go.Vm
