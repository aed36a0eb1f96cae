/- The logical machine, part 3: SvRel, SvOps1, SvOps2, SvOps3, SvOps4, SvNorm, SvCall, SvFp, SvRun, SvCon, SvLaw. -/
import Derived.Test.YtbncnimfgdelaaaGreatFEVm2
/- What a typed value says of a value of the logical machine. -/
namespace Go.Vm
def Y8 (s:List SB) (t e n:Nat):Prop:=(∃r l,s[t]? =some (.arr r l)/\e=r.length/\n=l.length)\/s[t]? =some .dead
def CB (s:List SB) (t e:Nat):Prop:=(∃r l,s[t]? =some (.arr r l)/\e=r.length)\/s[t]? =some .dead
def Y9 (s:List SB) (t:Nat) (r:List PT) (i:Int) (a:RT r):Prop:=(∃l,s[t]? =some (.arr r l)/\aK l i=some a)\/s[t]? =some .dead
def aHy (s:List SB) (t:Nat) (i:Int):Prop:=(∃r l,s[t]? =some (.arr r l)/\(aK l i).isSome=true)\/s[t]? =some .dead
mutual
def R (s:List SB):SV->PV->Prop
 | .junk,_=>True
 | .undef,v=>v= .undef
 | .nul,v=>v= .nul
 | .nilf,v=>v= .nilf
 | .int k n,v=>v= .int k n
 | .bool b,v=>v= .bool b
 | .str x,v=>v= .str x
 | .agg cs,v=> ∃ps,v= .agg ps/\RL s cs ps
 | .tup cs,v=> ∃ps,v= .tup ps/\RL s cs ps
 | .sl r l,v=>v= .sl r.length false (l.map (RT.pv r))
 | .nil e c,v=>v= .sl e c []
 | .own t ex,v=> ∃e n,v= .own t e 0 n n ex/\Y8 s t e n
 | .pre t len cap ex,v=> ∃e,v= .own t e 0 len cap ex/\CB s t e
 | .part t off len cap ex,v=> ∃e,v= .own t e off len cap ex/\CB s t e
 | .pa t r i a off,v=>v= .ptr t r.length i.toNat off/\Y9 s t r i a
 | .pb t i off,v=> ∃e,v= .ptr t e i.toNat off/\aHy s t i
 | .bp t n off,v=>v= .ptr t n 0 off
 | .rptr cs off,v=> ∃ps,v= .rptr ps off/\RL s cs ps
 | .clo f a b,v=> ∃pa pb,v= .clo f pa pb/\RL s a pa/\RL s b pb
 | .mp t,v=>v= .mp t
def RL (s:List SB):List SV->List PV->Prop
 | [],ps=>ps=[]
 |x::xs,ps=> ∃p q,ps=p::q/\R s x p/\RL s xs q
end
def uJ:List Int->PV
 | [a]=> .int .i64 a
 |l=> .agg (l.map (.int .i64))
def EF (k:List Int):PV×PV:=(uJ k,.bool true)
def HT (p:PT) (a:RT [.i .i64,p]):PV×PV:=(.int .i64 a.1,p.pv a.2)
def RB (s:List SB):SB->kY->Prop
 | .arr r l,b=>b= .arr r.length (l.map (RT.pv r))
 | .box cs,b=> ∃ps,b= .box ps/\RL s cs ps
 | .set l,b=>b= .map (l.map EF)
 | .tab p l,b=>b= .map (l.map (HT p))
 | .dead,b=>b= .dead
structure cD (s:List SB) (p:cB):Prop where
 len:p.length=s.length
 at_: ∀(t:Nat) (b:SB),s[t]? =some b-> ∃q,p[t]? =some q/\RB s b q
def dF (s:List SB):SE->uD->Prop
 | [],e=>e=[]
 |(t,v)::r,e=> ∃p q,e=(t,p)::q/\R s v p/\dF s r q
structure CC (st:rB) (p:St):Prop where
 env:dF st.sto st.env p.env
 sto:cD st.sto p.sto
 fz:p.fz=st.fz
 kn:p.kn=st.kn
theorem mG: ∀(s l:List SB),apS s l=s++l
 | [],_=>rfl
 |b::r,l=>by simp [apS,mG r l]
theorem EG: ∀(s:List SB) (t:Nat) (b:SB),Y3 s t b=s.set t b
 | [],_,_=>by simp [Y3]
 |_::_,0,_=>rfl
 |x::r,n+1,b=>by simp [Y3,EG r n b]
theorem RL.nil {s:List SB}:RL s [] []:=rfl
theorem RL.cons {s:List SB} {x:SV} {xs:List SV} {p:PV} {q:List PV} (h:R s x p) (k:RL s xs q):RL s (x::xs) (p::q):=⟨p,q,rfl,h,k⟩
theorem RL.cons_inv {s:List SB} {x:SV} {xs:List SV} {ps:List PV} (h:RL s (x::xs) ps): ∃p q,ps=p::q/\R s x p/\RL s xs q:=h
theorem RL.length {s:List SB}: ∀{xs:List SV} {ps:List PV},RL s xs ps->ps.length=xs.length
 | [],ps,h=>by rw [show ps=[] from h];rfl
 |x::xs,ps,h=>by
  obtain ⟨p,q,rfl,_,h2⟩:=h.cons_inv;simp [h2.length]
theorem RL.append {s:List SB}: ∀{xs:List SV} {ps:List PV},RL s xs ps-> ∀{ys:List SV} {qs:List PV},RL s ys qs->RL s (xs++ys) (ps++qs)
 | [],ps,h,_,_,k=>by rw [show ps=[] from h];exact k
 |x::xs,ps,h,_,_,k=>by
  obtain ⟨p,q,rfl,h1,h2⟩:=h.cons_inv;exact RL.cons h1 (h2.append k)
theorem RL.take {s:List SB}: ∀{xs:List SV} {ps:List PV},RL s xs ps-> ∀n,RL s (xs.take n) (ps.take n)
 | [],ps,h,n=>by rw [show ps=[] from h];simp;exact RL.nil
 |x::xs,ps,h,0=>by simp;exact RL.nil
 |x::xs,ps,h,n+1=>by
  obtain ⟨p,q,rfl,h1,h2⟩:=h.cons_inv;exact RL.cons h1 (h2.take n)
theorem RL.drop {s:List SB}: ∀{xs:List SV} {ps:List PV},RL s xs ps-> ∀n,RL s (xs.drop n) (ps.drop n)
 | [],ps,h,n=>by rw [show ps=[] from h];simp;exact RL.nil
 |x::xs,ps,h,0=>h
 |x::xs,ps,h,n+1=>by
  obtain ⟨p,q,rfl,h1,h2⟩:=h.cons_inv;exact h2.drop n
theorem RL.nth {s:List SB}: ∀{xs:List SV} {ps:List PV},RL s xs ps-> ∀{n:Nat} {v:SV},Vm.nth xs n=some v-> ∃p,ps[n]? =some p/\R s v p
 | [],_,_,_,_,e=>by cases e
 |x::xs,ps,h,0,v,e=>by
  obtain ⟨p,q,rfl,h1,_⟩:=h.cons_inv;injection e with e;subst e;exact ⟨p,rfl,h1⟩
 |x::xs,ps,h,n+1,v,e=>by
  obtain ⟨p,q,rfl,_,h2⟩:=h.cons_inv;obtain ⟨p',h3,h4⟩:=h2.nth (n:=n) e;exact ⟨p',by simpa using h3,h4⟩
mutual
theorem S3 (s:List SB): ∀v:PV,R s (aA7 v) v
 | .undef=>rfl
 | .nul=>rfl
 | .nilf=>rfl
 | .int _ _=>rfl
 | .bool _=>rfl
 | .str _=>rfl
 | .agg cs=>⟨cs,rfl,ofPVL_R s cs⟩
 | .tup cs=>⟨cs,rfl,ofPVL_R s cs⟩
 | .sl e c rows=>by
  cases rows with
  |nil=>exact rfl
  |cons _ _=>trivial
 | .clo f a b=>⟨a,b,rfl,ofPVL_R s a,ofPVL_R s b⟩
 | .own .. =>trivial
 | .ptr .. =>trivial
 | .rptr .. =>trivial
 | .mp _=>trivial
theorem ofPVL_R (s:List SB): ∀l:List PV,RL s (ofPVL l) l
 | []=>rfl
 |x::xs=>RL.cons (S3 s x) (ofPVL_R s xs)
end
theorem dF.lk {s:List SB}: ∀{e:SE} {p:uD},dF s e p-> ∀t,R s (LF t e) (Vm.lk t p)
 | [],p,h,t=>by rw [show p=[] from h];rfl
 |(u,v)::r,p,h,t=>by
  obtain ⟨q,qs,rfl,h1,h2⟩:=h;simp only [LF,Vm.lk];cases hb:Nat.beq u t with
  |true=>exact h1
  |false=>exact dF.lk h2 t
theorem dF.setS {s:List SB}: ∀{e:SE} {p:uD},dF s e p-> ∀{t:Nat} {v:SV},R s v (Vm.lk t p)->dF s (Vm.setS t v e) p
 | [],p,h,t,v,_=>h
 |(u,x)::r,p,h,t,v,hv=>by
  obtain ⟨q,qs,rfl,h1,h2⟩:=h;simp only [Vm.setS];simp only [Vm.lk] at hv;cases hb:Nat.beq u t with
  |true=>rw [hb] at hv;exact ⟨q,qs,rfl,hv,h2⟩
  |false=>rw [hb] at hv;exact ⟨q,qs,rfl,h1,dF.setS h2 hv⟩
theorem dD {s:List SB} {e:SE} {p:uD} (h:dF s e p): ∀x:fH,R s (bM e x) (x.ev p)
 | .t n=>h.lk n
 | .c v=>S3 s v
theorem A8 {s:List SB} {e:SE} {p:uD} (h:dF s e p): ∀l:List fH,RL s (jR e l) (IN p l)
 | []=>rfl
 |x::xs=>RL.cons (dD h x) (A8 h xs)
def Fr (bad:List Nat) (s s':List SB):Prop:= ∀(t:Nat) (b:SB),s[t]? =some b->match b with
 | .arr r l=>(∃l',s'[t]? =some (.arr r l')/\l'.length=l.length/\(has bad t=false->l'=l))\/s'[t]? =some .dead
 | .dead=>s'[t]? =some .dead
 |_=>True
theorem Fr.refl (bad:List Nat) (s:List SB):Fr bad s s:=fun t b h=>by
 cases b with
 |arr r l=>exact .inl ⟨l,h,rfl,fun _=>rfl⟩
 |dead=>exact h
 |_=>trivial
theorem Fr.app (bad:List Nat) (s l:List SB):Fr bad s (s++l):=fun t b h=>by
 have h':(s++l)[t]? =some b:=by
  have:=(List.getElem?_eq_some_iff.1 h).1
  rw [List.getElem?_append_left this];exact h
 cases b with
 |arr r l=>exact .inl ⟨l,h',rfl,fun _=>rfl⟩
 |dead=>exact h'
 |_=>trivial
theorem Fr.trans {bad:List Nat} {a b c:List SB} (h:Fr bad a b) (k:Fr bad b c):Fr bad a c:=fun t x hx=>by
 have h1:=h t x hx;cases x with
 |arr r l=>
  rcases h1 with ⟨l',h2,h3,h4⟩|h2
  · have k1:=k t _ h2
    rcases k1 with ⟨l2,k2,k3,k4⟩|k2
    · exact .inl ⟨l2,k2,k3.trans h3,fun hb=>(k4 hb).trans (h4 hb)⟩
    · exact .inr k2
  · exact .inr (k t _ h2)
 |dead=>exact k t _ h1
 |_=>trivial
theorem G5 {α:Type} {l m:List α} {i:Int} (h:(aK l i).isSome=true) (hl:m.length=l.length):(aK m i).isSome=true:=by
 cases i with
 |ofNat n=>
  simp only [aK] at h ⊢;rw [Option.isSome_iff_exists] at h;obtain ⟨a,ha⟩:=h
  have:=(List.getElem?_eq_some_iff.1 ha).1
  rw [List.getElem?_eq_getElem (by omega)];rfl
 |negSucc n=>simp [aK] at h
mutual
theorem R.fr {bad:List Nat} {s s':List SB} (hf:Fr bad s s'): ∀{v:SV} {p:PV},R s v p->R s' (dgV bad v) p
 | .junk,_,_=>trivial
 | .undef,_,h=>h
 | .nul,_,h=>h
 | .nilf,_,h=>h
 | .int _ _,_,h=>h
 | .bool _,_,h=>h
 | .str _,_,h=>h
 | .agg cs,_,h=>by obtain ⟨ps,rfl,h⟩:=h;exact ⟨ps,rfl,RL.fr hf h⟩
 | .tup cs,_,h=>by obtain ⟨ps,rfl,h⟩:=h;exact ⟨ps,rfl,RL.fr hf h⟩
 | .sl _ _,_,h=>h
 | .nil _ _,_,h=>h
 | .own t ex,_,h=>by
  obtain ⟨e,n,rfl,h⟩:=h;refine ⟨e,n,rfl,?_⟩;rcases h with ⟨r,l,h1,h2,h3⟩|h1
  · rcases hf t _ h1 with ⟨l',k1,k2,_⟩|k1
    · exact .inl ⟨r,l',k1,h2,by rw [h3,k2]⟩
    · exact .inr k1
  · exact .inr (hf t _ h1)
 | .pre t len cap ex,_,h=>by
  obtain ⟨e,rfl,h⟩:=h;refine ⟨e,rfl,?_⟩;rcases h with ⟨r,l,h1,h2⟩|h1
  · rcases hf t _ h1 with ⟨l',k1,_,_⟩|k1
    · exact .inl ⟨r,l',k1,h2⟩
    · exact .inr k1
  · exact .inr (hf t _ h1)
 | .part t off len cap ex,_,h=>by
  obtain ⟨e,rfl,h⟩:=h;refine ⟨e,rfl,?_⟩;rcases h with ⟨r,l,h1,h2⟩|h1
  · rcases hf t _ h1 with ⟨l',k1,_,_⟩|k1
    · exact .inl ⟨r,l',k1,h2⟩
    · exact .inr k1
  · exact .inr (hf t _ h1)
 | .pa t r i a off,_,h=>by
  obtain ⟨rfl,h⟩:=h;simp only [dgV];cases hb:has bad t with
  |true=>
   refine ⟨_,rfl,?_⟩;rcases h with ⟨l,h1,h2⟩|h1
   · rcases hf t _ h1 with ⟨l',k1,k2,_⟩|k1
     · exact .inl ⟨r,l',k1,G5 (by rw [h2];rfl) k2⟩
     · exact .inr k1
   · exact .inr (hf t _ h1)
  |false=>
   refine ⟨rfl,?_⟩;rcases h with ⟨l,h1,h2⟩|h1
   · rcases hf t _ h1 with ⟨l',k1,_,k3⟩|k1
     · exact .inl ⟨l',k1,by rw [k3 hb];exact h2⟩
     · exact .inr k1
   · exact .inr (hf t _ h1)
 | .pb t i off,_,h=>by
  obtain ⟨e,rfl,h⟩:=h;refine ⟨e,rfl,?_⟩;rcases h with ⟨r,l,h1,h2⟩|h1
  · rcases hf t _ h1 with ⟨l',k1,k2,_⟩|k1
    · exact .inl ⟨r,l',k1,G5 h2 k2⟩
    · exact .inr k1
  · exact .inr (hf t _ h1)
 | .bp _ _ _,_,h=>h
 | .rptr cs off,_,h=>by obtain ⟨ps,rfl,h⟩:=h;exact ⟨ps,rfl,RL.fr hf h⟩
 | .clo f a b,_,h=>by obtain ⟨pa,pb,rfl,h1,h2⟩:=h;exact ⟨pa,pb,rfl,RL.fr hf h1,RL.fr hf h2⟩
 | .mp _,_,h=>h
theorem RL.fr {bad:List Nat} {s s':List SB} (hf:Fr bad s s'): ∀{v:List SV} {p:List PV},RL s v p->RL s' (dgL bad v) p
 | [],_,h=>h
 |x::xs,_,h=>by
  obtain ⟨p,q,rfl,h1,h2⟩:=h.cons_inv;exact RL.cons (R.fr hf h1) (RL.fr hf h2)
end
mutual
theorem UV: ∀v:SV,dgV [] v=v
 | .junk| .undef| .nul| .nilf| .int _ _| .bool _| .str _| .sl _ _| .nil _ _| .own _ _| .pre _ _ _ _| .part _ _ _ _ _| .pb _ _ _| .bp _ _ _| .mp _=>rfl
 | .agg cs=>by simp only [dgV,dgL_nil cs]
 | .tup cs=>by simp only [dgV,dgL_nil cs]
 | .rptr cs _=>by simp only [dgV,dgL_nil cs]
 | .clo _ a b=>by simp only [dgV,dgL_nil a,dgL_nil b]
 | .pa t r i a off=>by simp [dgV,has]
theorem dgL_nil: ∀v:List SV,dgL [] v=v
 | []=>rfl
 |x::xs=>by simp only [dgL,UV x,dgL_nil xs]
end
theorem R.ext {s s':List SB} (hf:Fr [] s s') {v:SV} {p:PV} (h:R s v p):R s' v p:=by
 have:=R.fr hf h
 rwa [UV] at this
theorem RL.ext {s s':List SB} (hf:Fr [] s s') {v:List SV} {p:List PV} (h:RL s v p):RL s' v p:=by
 have:=RL.fr hf h
 rwa [dgL_nil] at this
theorem RB.fr {bad:List Nat} {s s':List SB} (hf:Fr bad s s') {b:SB} {p:kY} (h:RB s b p):RB s' (dgB bad b) p:=by
 cases b with
 |box cs=>obtain ⟨ps,rfl,h⟩:=h;exact ⟨ps,rfl,RL.fr hf h⟩
 |_=>exact h
theorem RB.ext {s s':List SB} (hf:Fr [] s s') {b:SB} {p:kY} (h:RB s b p):RB s' b p:=by
 cases b with
 |box cs=>obtain ⟨ps,rfl,h⟩:=h;exact ⟨ps,rfl,RL.ext hf h⟩
 |_=>exact h
theorem dF.fr {bad:List Nat} {s s':List SB} (hf:Fr bad s s'): ∀{e:SE} {p:uD},dF s e p->dF s' (dgE bad e) p
 | [],_,h=>h
 |(t,v)::r,_,h=>by
  obtain ⟨p,q,rfl,h1,h2⟩:=h;exact ⟨p,q,rfl,R.fr hf h1,dF.fr hf h2⟩
theorem dF.ext {s s':List SB} (hf:Fr [] s s'): ∀{e:SE} {p:uD},dF s e p->dF s' e p
 | [],_,h=>h
 |(t,v)::r,_,h=>by
  obtain ⟨p,q,rfl,h1,h2⟩:=h;exact ⟨p,q,rfl,R.ext hf h1,dF.ext hf h2⟩
theorem cD.app {s:List SB} {p:cB} (h:cD s p) {l:List SB} {q:cB} (hl:q.length=l.length) (hb: ∀(j:Nat) (b:SB),l[j]? =some b-> ∃x,q[j]? =some x/\RB (s++l) b x):cD (s++l) (p++q) where
 len:=by simp [h.len,hl]
 at_:=fun t b ht=>by
  rcases Nat.lt_or_ge t s.length with hlt|hge
  · rw [List.getElem?_append_left hlt] at ht
    obtain ⟨x,h1,h2⟩:=h.at_ t b ht;exact ⟨x,by rw [List.getElem?_append_left (by rw [h.len];exact hlt)];exact h1,h2.ext (Fr.app [] s l)⟩
  · rw [List.getElem?_append_right hge] at ht
    obtain ⟨x,h1,h2⟩:=hb _ b ht;exact ⟨x,by rw [List.getElem?_append_right (by rw [h.len];exact hge),h.len];exact h1,h2⟩
theorem xL (ts:List Nat): ∀(s:List SB) (t:Nat),(F3 ts s)[t]? =(s[t]?).map (dgB ts)
 | [],t=>by simp [F3]
 |b::r,0=>by simp [F3]
 |b::r,t+1=>by simp [F3,xL ts r t]
theorem A9 (ts:List Nat): ∀(s:List SB),(F3 ts s).length=s.length
 | []=>rfl
 |b::r=>by simp [F3,A9 ts r]
theorem Fr.dg {bad ts:List Nat} {s s':List SB} (h:Fr bad s s'):Fr bad s (F3 ts s'):=fun t b hb=>by
 have h1:=h t b hb;cases b with
 |arr r l=>
  rcases h1 with ⟨l',h2,h3,h4⟩|h2
  · exact .inl ⟨l',by rw [xL,h2];rfl,h3,h4⟩
  · exact .inr (by rw [xL,h2];rfl)
 |dead=>show (F3 ts s')[t]? =_;rw [xL,h1];rfl
 |_=>trivial
theorem MC {s:List SB}: ∀(r:List PT) (a:RT r),RL s (RT.sv r a) (RT.pv r a)
 | [],_=>rfl
 | [p],a=>by refine RL.cons ?_ RL.nil;cases p<;>rfl
 |p::q::r,a=>by refine RL.cons ?_ (MC (q::r) a.2);cases p<;>rfl
theorem BA {s:List SB}: ∀(r:List PT) (a:RT r) {ps:List PV},RL s (RT.sv r a) ps->ps=RT.pv r a
 | [],_,ps,h=>h
 | [p],a,ps,h=>by
  obtain ⟨x,q,rfl,h1,h2⟩:=h.cons_inv;have h2':q=[]:=h2;subst h2';cases p<;>(have h1':=h1;simp only [PT.sv,R] at h1';rw [h1'];rfl)
 |p::q::r,a,ps,h=>by
  obtain ⟨x,qs,rfl,h1,h2⟩:=h.cons_inv;rw [BA (q::r) a.2 h2];cases p<;>(have h1':=h1;simp only [PT.sv,R] at h1';rw [h1'];rfl)
theorem RT.plain: ∀(r:List PT) (a:RT r),(RT.pv r a).all PV.plain=true
 | [],_=>rfl
 | [p],a=>by cases p<;>rfl
 |p::q::r,a=>by
  have:=RT.plain (q::r) a.2
  cases p<;>(simp only [RT.pv,List.all_cons,this,Bool.and_true];rfl)
theorem R.cells {s:List SB} {v:SV} {p:PV} (h:R s v p) (hj:v≠ .junk):RL s v.cells p.cells:=by
 cases v with
 |junk=>exact absurd rfl hj
 |agg cs=>obtain ⟨ps,rfl,h⟩:=h;exact h
 |undef=>rw [show p= .undef from h];exact RL.cons rfl RL.nil
 |nul=>rw [show p= .nul from h];exact RL.cons rfl RL.nil
 |nilf=>rw [show p= .nilf from h];exact RL.cons rfl RL.nil
 |int k n=>rw [show p= .int k n from h];exact RL.cons rfl RL.nil
 |bool b=>rw [show p= .bool b from h];exact RL.cons rfl RL.nil
 |str x=>rw [show p= .str x from h];exact RL.cons rfl RL.nil
 |sl r l=>rw [show p=_ from h];exact RL.cons rfl RL.nil
 |nil e c=>rw [show p=_ from h];exact RL.cons rfl RL.nil
 |bp t n o=>rw [show p=_ from h];exact RL.cons rfl RL.nil
 |mp t=>rw [show p=_ from h];exact RL.cons rfl RL.nil
 |tup cs=>obtain ⟨ps,rfl,h⟩:=h;exact RL.cons ⟨ps,rfl,h⟩ RL.nil
 |own t ex=>obtain ⟨e,n,rfl,h⟩:=h;exact RL.cons ⟨e,n,rfl,h⟩ RL.nil
 |pre t a b c=>obtain ⟨e,rfl,h⟩:=h;exact RL.cons ⟨e,rfl,h⟩ RL.nil
 |part t o a b c=>obtain ⟨e,rfl,h⟩:=h;exact RL.cons ⟨e,rfl,h⟩ RL.nil
 |pa t r i a o=>obtain ⟨rfl,h⟩:=h;exact RL.cons ⟨rfl,h⟩ RL.nil
 |pb t i o=>obtain ⟨e,rfl,h⟩:=h;exact RL.cons ⟨e,rfl,h⟩ RL.nil
 |rptr cs o=>obtain ⟨ps,rfl,h⟩:=h;exact RL.cons ⟨ps,rfl,h⟩ RL.nil
 |clo f a b=>obtain ⟨pa,pb,rfl,h⟩:=h;exact RL.cons ⟨pa,pb,rfl,h⟩ RL.nil
theorem R.isOne {s:List SB} {v:SV} {p:PV} (h:R s v p) (ho:v.isOne=true):p.isOne=true:=by
 cases v with
 |junk|undef|nul|agg _|tup _=>cases ho
 |nilf|int _ _|bool _|str _|sl _ _|nil _ _|bp _ _ _|mp _=>rw [show p=_ from h];rfl
 |own t ex=>obtain ⟨e,n,rfl,h⟩:=h;rfl
 |pre t a b c=>obtain ⟨e,rfl,h⟩:=h;rfl
 |part t o a b c=>obtain ⟨e,rfl,h⟩:=h;rfl
 |pa t r i a o=>obtain ⟨rfl,h⟩:=h;rfl
 |pb t i o=>obtain ⟨e,rfl,h⟩:=h;rfl
 |rptr cs o=>obtain ⟨ps,rfl,h⟩:=h;rfl
 |clo f a b=>obtain ⟨pa,pb,rfl,h⟩:=h;rfl
theorem RL.allOne {s:List SB}: ∀{cs:List SV} {ps:List PV},RL s cs ps->Vm.allOne cs=true->ps.all PV.isOne=true
 | [],ps,h,_=>by rw [show ps=[] from h];rfl
 |x::xs,ps,h,ho=>by
  obtain ⟨p,q,rfl,h1,h2⟩:=h.cons_inv;simp only [Vm.allOne,Bool.and_eq_true] at ho;simp only [List.all_cons,Bool.and_eq_true];exact ⟨h1.isOne ho.1,h2.allOne ho.2⟩
theorem R.stored {s:List SB} {v:SV} {p:PV} {w:List SV} (h:R s v p) (hs:v.stored=some w): ∃q,p.stored=some q/\RL s w q:=by
 unfold SV.stored at hs;cases ha:Vm.allOne v.cells with
 |false=>rw [ha] at hs;cases hs
 |true=>
  rw [ha] at hs;injection hs with hs;subst hs;have hj:v≠ .junk:=by intro e;subst e;cases ha
  have hc:=h.cells hj;exact ⟨p.cells,by unfold PV.stored;rw [if_pos (hc.allOne ha)],hc⟩
theorem R.ofRow {s:List SB} {v:SV} {p:PV} {r:List PT} {a:RT r} (h:R s v p) (hr:RT.of r v.cells=some a):p.storedPlain=some (RT.pv r a)/\v.cells.length=r.length:=by
 have hc:=RT.of_some hr;have hl:v.cells.length=r.length:=by rw [hc,RT.sv_len]
 refine ⟨?_,hl⟩;have hj:v≠ .junk:=by
  intro e;subst e;cases r with
  |nil=>simp [SV.cells,RT.of] at hr
  |cons p q=>cases q with
   |nil=>cases p<;>simp [SV.cells,RT.of,PT.of] at hr
   |cons _ _=>simp only [SV.cells,RT.of] at hr;split at hr<;>cases hr<;>(rename_i x y h1 h2;simp at h2)
 have h1:=h.cells hj;rw [hc] at h1;have h2:=BA r a h1;unfold PV.storedPlain;rw [h2,if_pos (RT.plain r a)]
theorem uR {s:List SB} {agg:Option Nat} {off:Nat} {cs:List SV} {ps:List PV} {v:SV} (h:RL s cs ps) (hp:B7 agg off cs=some v): ∃p,part agg off ps=some p/\R s v p:=by
 cases agg with
 |none=>
  obtain ⟨p,h1,h2⟩:=h.nth hp;exact ⟨p,h1,h2⟩
 |some n=>
  simp only [B7] at hp;cases hb:Nat.ble (off+n) cs.length with
  |false=>rw [hb] at hp;cases hp
  |true=>
   rw [hb] at hp;injection hp with hp;subst hp
   have:off+n<=ps.length:=by rw [h.length];exact Nat.le_of_ble_eq_true hb
   exact ⟨.agg ((ps.drop off).take n),by simp only [part,if_pos this],_,rfl,(h.drop off).take n⟩
theorem BB {s:List SB} {off:Nat} {new old:List SV} {pn po:List PV} (h:RL s new pn) (k:RL s old po):RL s (qB off new old) (oX off pn po):=by
 unfold qB oX;rw [h.length];exact ((k.take off).append h).append (k.drop _)
theorem UW {s:List SB} {ps:cB} {v:SV} {p:PV} {r:List PT} {l:List (RT r)} (hs:cD s ps) (h:R s v p) (hc:B8 s v=some ⟨r,l⟩):
 nO ps r.length p=some (l.map (RT.pv r))/\iN p=xJ v:=by
 cases v with
 |sl q m=>
  have hc':(⟨q,m⟩:Rows)=⟨r,l⟩:=by injection hc
  cases hc';rw [show p=_ from h];refine ⟨?_,rfl⟩;cases l with
  |nil=>rfl
  |cons a l=>simp [nO]
 |own t ex=>
  simp only [B8,bT] at hc;split at hc
  · rename_i q m hst
    have hc':(⟨q,m⟩:Rows)=⟨r,l⟩:=by injection hc
    cases hc';obtain ⟨e,n,rfl,hat⟩:=h;rcases hat with ⟨q',m',h1,rfl,rfl⟩|h1
    · rw [hst] at h1
      injection h1 with h1;cases h1;obtain ⟨b,h2,h3⟩:=hs.at_ t _ hst;rw [show b=_ from h3] at h2;refine ⟨?_,rfl⟩;simp only [nO,Nat.beq_refl,if_true,h2,List.drop_zero];rw [List.take_of_length_le (by simp)]
    · rw [hst] at h1;cases h1
  · cases hc
 |pre t len cap ex=>
  simp only [B8,bT] at hc;split at hc
  · rename_i q m hst
    have hc':(⟨q,m.take len⟩:Rows)=⟨r,l⟩:=by injection hc
    cases hc';obtain ⟨e,rfl,hat⟩:=h;rcases hat with ⟨q',m',h1,rfl⟩|h1
    · rw [hst] at h1
      injection h1 with h1;cases h1;obtain ⟨b,h2,h3⟩:=hs.at_ t _ hst;rw [show b=_ from h3] at h2;refine ⟨?_,rfl⟩;simp only [nO,Nat.beq_refl,if_true,h2];simp
    · rw [hst] at h1;cases h1
  · cases hc
 |part t off len cap ex=>
  simp only [B8,bT] at hc;split at hc
  · rename_i q m hst
    have hc':(⟨q,(m.drop off).take len⟩:Rows)=⟨r,l⟩:=by injection hc
    cases hc';obtain ⟨e,rfl,hat⟩:=h;rcases hat with ⟨q',m',h1,rfl⟩|h1
    · rw [hst] at h1
      injection h1 with h1;cases h1;obtain ⟨b,h2,h3⟩:=hs.at_ t _ hst;rw [show b=_ from h3] at h2;refine ⟨?_,rfl⟩;simp only [nO,Nat.beq_refl,if_true,h2];simp
    · rw [hst] at h1;cases h1
  · cases hc
 |_=>cases hc
end Go.Vm
/- Operation by operation: what the typed machine does, the logical machine does; the easy ones. -/
namespace Go.Vm
structure hY (s:List SB) (ps:cB) (sr:gO) (pr:oR):Prop where
 rd:pr.rd=sr.rd
 fr:pr.fr=sr.fr
 wr:pr.wr.map (·.1)=zY sr.wr
 nw:wZ pr.wr=true
 nl:pr.news.length=sr.news.length
 sto:cD (sr.stoOf s) (WA (gV pr.wr ps) pr.news)
 v:R (sr.stoOf s) sr.v pr.v
 fra:Fr (zY sr.wr) s (sr.stoOf s)
section
variable {s : List SB} {ps : cB}
theorem hY.val (hS:cD s ps) {v:SV} {p:PV} {rd fr:List Nat} (hv:R s v p):hY s ps {v,rd,fr} {v:=p,rd,fr} where
 rd:=rfl
 fr:=rfl
 wr:=rfl
 nw:=rfl
 nl:=rfl
 sto:=by simp only [gO.stoOf,mG,List.append_nil,gV,WA];exact hS
 v:=by simp only [gO.stoOf,mG,List.append_nil];exact hv
 fra:=by simp only [gO.stoOf,mG,List.append_nil];exact Fr.refl _ _
theorem hY.news (hS:cD s ps) {v:SV} {p:PV} {l:List SB} {q:cB} {rd:List Nat} (hl:q.length=l.length) (hb: ∀(j:Nat) (b:SB),l[j]? =some b-> ∃x,q[j]? =some x/\RB (s++l) b x) (hv:R (s++l) v p):
 hY s ps {v,news:=l,rd} {v:=p,news:=q,rd} where
 rd:=rfl
 fr:=rfl
 wr:=rfl
 nw:=rfl
 nl:=hl
 sto:=by simp only [gO.stoOf,mG,gV,sG];exact hS.app hl hb
 v:=by simp only [gO.stoOf,mG];exact hv
 fra:=by simp only [gO.stoOf,mG];exact Fr.app _ _ _
theorem hY.new (hS:cD s ps) {v:SV} {p:PV} {b:SB} {q:kY} {rd:List Nat} (hb:RB (s++[b]) b q) (hv:R (s++[b]) v p):hY s ps {v,news:=[b],rd} {v:=p,news:=[q],rd}:=
 hY.news hS rfl (fun j x h=>by
  cases j with
  |zero=>simp at h;subst h;exact ⟨q,rfl,hb⟩
  |succ j=>simp at h) hv
def UX (b0 b:SB):Prop:=
 match b0 with
 | .arr r l=>(∃l',b= .arr r l'/\l'.length=l.length)\/b= .dead
 | .dead=>b= .dead
 |_=>True
theorem Fr.set {t:Nat} {b0 b:SB} (h0:s[t]? =some b0) (hk:UX b0 b):Fr [t] s (s.set t b):=fun u x hu=>by
 by_cases hut:t=u
 · subst hut
   rw [h0] at hu;injection hu with hu;subst hu;have hlt:=(List.getElem?_eq_some_iff.1 h0).1;have hb:(s.set t b)[t]? =some b:=by simp [hlt]
   cases b0 with
   |arr r l=>
    rcases hk with ⟨l',rfl,hl⟩|rfl
    · exact .inl ⟨l',hb,hl,fun h=>by simp [has] at h⟩
    · exact .inr hb
   |dead=>rw [show b= .dead from hk] at hb ⊢;exact hb
   |_=>trivial
 · have hb:(s.set t b)[u]? =some x:=by rw [List.getElem?_set];simp [hut,hu]
   cases x with
   |arr r l=>exact .inl ⟨l,hb,rfl,fun _=>rfl⟩
   |dead=>exact hb
   |_=>trivial
theorem cD.put (hS:cD s ps) {t:Nat} {b0 b:SB} {q:kY} (h0:s[t]? =some b0) (hk:UX b0 b) (hq:RB (F3 [t] (s.set t b)) (dgB [t] b) q):cD (F3 [t] (s.set t b)) (ps.set t q) where
 len:=by simp [A9,hS.len]
 at_:=fun u x hu=>by
  have hlt:=(List.getElem?_eq_some_iff.1 h0).1;rw [xL] at hu
  by_cases hut:t=u
  · subst hut
    have hb:(s.set t b)[t]? =some b:=by simp [hlt]
    rw [hb] at hu;simp at hu;subst hu;exact ⟨q,by rw [List.getElem?_set];simp [hS.len,hlt],hq⟩
  · rw [List.getElem?_set] at hu
    simp only [hut,if_false,Option.map_eq_some_iff] at hu;obtain ⟨y,hy,rfl⟩:=hu;obtain ⟨q',h1,h2⟩:=hS.at_ u y hy;exact ⟨q',by rw [List.getElem?_set];simp [hut,h1],h2.fr (Fr.dg (Fr.set h0 hk))⟩
theorem hY.put (hS:cD s ps) {v:SV} {p:PV} {t:Nat} {b0 b:SB} {q:kY} {l:List SB} {ql:cB} {rd:List Nat} (h0:s[t]? =some b0) (hk:UX b0 b) (hq:RB (F3 [t] (s.set t b)) (dgB [t] b) q)
 (hl:ql.length=l.length) (hb: ∀(j:Nat) (x:SB),l[j]? =some x-> ∃y,ql[j]? =some y/\RB (F3 [t] (s.set t b)++l) x y) (hv:R (F3 [t] (s.set t b)++l) v p):
 hY s ps {v,wr:=[(t,b)],news:=l,rd} {v:=p,wr:=[(t,q)],news:=ql,rd} where
 rd:=rfl
 fr:=rfl
 wr:=rfl
 nw:=rfl
 nl:=hl
 sto:=by
  simp only [gO.stoOf,mG,gV,sG,zY,rX,EG];exact (hS.put h0 hk hq).app hl hb
 v:=by simp only [gO.stoOf,mG,zY,rX,EG];exact hv
 fra:=by
  simp only [gO.stoOf,mG,zY,rX,EG];exact (Fr.dg (Fr.set h0 hk)).trans (Fr.app _ _ _)
theorem hY.put0 (hS:cD s ps) {t:Nat} {b0 b:SB} {q:kY} {rd:List Nat} (h0:s[t]? =some b0) (hk:UX b0 b) (hq:RB (F3 [t] (s.set t b)) (dgB [t] b) q):
 hY s ps {v:= .undef,wr:=[(t,b)],rd} {v:= .undef,wr:=[(t,q)],rd}:=
 hY.put hS h0 hk hq rfl (fun j x h=>by simp at h) rfl
end
section
variable {R' ρ : Type} {w : R' -> ρ} {y : ρ}
theorem bD {α:Type} {x:Option α} {k:α->gX R'} (h:lM x k ρ w=some y): ∃a,x=some a/\k a ρ w=some y:=by
 cases x with
 |none=>cases h
 |some a=>exact ⟨a,rfl,h⟩
theorem cS {α:Type} {x:Option α} {k:α->gX R'} (h:mK x k ρ w=some y): ∃a,x=some a/\k a ρ w=some y:=SP h
theorem eF {c:Bool} {a b:gX R'} (h:gJ c a b ρ w=some y):(c=true/\a ρ w=some y)\/(c=false/\b ρ w=some y):=SQ h
theorem cE {c:Bool} {a:gX R'} (h:(bif c then a else aN) ρ w=some y):c=true/\a ρ w=some y:=by
 cases c
 · cases h
 · exact ⟨rfl,h⟩
theorem sS {c:Bool} {a:gX R'} (h:(bif c then aN else a) ρ w=some y):c=false/\a ρ w=some y:=by
 cases c
 · exact ⟨rfl,h⟩
 · cases h
theorem hZ {c:Bool} {a:gX R'} (h:gJ c a aN ρ w=some y):c=true/\a ρ w=some y:=by
 rcases eF h with ⟨h1,h2⟩|⟨_,h2⟩
 · exact ⟨h1,h2⟩
 · cases h2
theorem xM {c:Bool} {a:gX R'} (h:gJ c aN a ρ w=some y):c=false/\a ρ w=some y:=by
 rcases eF h with ⟨_,h2⟩|⟨h1,h2⟩
 · cases h2
 · exact ⟨h1,h2⟩
end
def gR {R':Type} (s:List SB) (ps:cB) (po:Option oR) (k:gO->gX R') (ρ:Type) (w:R'->ρ) (y:ρ):Prop:=
 ∃sr pr,po=some pr/\hY s ps sr pr/\k sr ρ w=some y
section
variable {R' ρ : Type} {w : R' -> ρ} {y : ρ} {s : List SB} {ps : cB} {e : SE} {pe : uD} {z : List Nat} {k : gO -> gX R'}
theorem gR.val (hS:cD s ps) {po:Option oR} {v:SV} {p:PV} (h:k {v} ρ w=some y) (hp:po=some {v:=p}) (hv:R s v p):gR s ps po k ρ w y:=
 ⟨_,_,hp,hY.val hS hv,h⟩
theorem gR.rd (hS:cD s ps) {po:Option oR} {v:SV} {p:PV} {rd:List Nat} (h:k {v,rd} ρ w=some y) (hp:po=some {v:=p,rd}) (hv:R s v p):gR s ps po k ρ w y:=
 ⟨_,_,hp,hY.val hS hv,h⟩
theorem nA (hE:dF s e pe) {x:fH} {a:IntKind} {n:Int} (h:bM e x= .int a n):x.ev pe= .int a n:=by
 have:=dD hE x;rw [h] at this;exact this
theorem EH (hE:dF s e pe) {x:fH} {b:Bool} (h:bM e x= .bool b):x.ev pe= .bool b:=by
 have:=dD hE x;rw [h] at this;exact this
theorem W4 (hE:dF s e pe) {x:fH} {v:SV} (h:bM e x=v):R s v (x.ev pe):=by
 have:=dD hE x;rwa [h] at this
theorem P2 (k:IntKind):fT k k=true:=by cases k<;>rfl
theorem S4 (hS:cD s ps) {op:BinOp} {a:IntKind} {m n:Int} (h:ST op a m n (ofV k) ρ w=some y): ∃p,O1 op a m n=some p/\gR s ps (some {v:=p}) k ρ w y:=by
 cases op with
 |quo=>
  obtain ⟨h1,h2⟩:=xM h;have hn:n≠0:=by intro e;subst e;cases h1
  exact ⟨_,by simp only [O1,if_neg hn],gR.val hS h2 rfl rfl⟩
 |rem=>
  obtain ⟨h1,h2⟩:=xM h;have hn:n≠0:=by intro e;subst e;cases h1
  exact ⟨_,by simp only [O1,if_neg hn],gR.val hS h2 rfl rfl⟩
 |shl=>cases h
 |shr=>cases h
 |_=>exact ⟨_,rfl,gR.val hS h rfl rfl⟩
theorem aBe (hE:dF s e pe) (hS:cD s ps) {op:BinOp} {a b:fH} (h:mM e s z (.bin op a b) k ρ w=some y):gR s ps (bA pe ps z (.bin op a b)) k ρ w y:=by
 simp only [mM] at h;generalize ha:bM e a=va at h;cases va with
 |int ka m=>
  generalize hb:bM e b=vb at h;cases vb with
  |int kb n=>
   have h1:=nA hE ha;have h2:=nA hE hb;have key:(op≠ .shl)->(op≠ .shr)->(bif fT ka kb then ST op ka m n (ofV k) else aN) ρ w=some y->gR s ps (bA pe ps z (.bin op a b)) k ρ w y:=by
    intro n1 n2 h;obtain ⟨hk,h⟩:=cE h;obtain ⟨p,hp,hs⟩:=S4 hS h
    have:bA pe ps z (.bin op a b)=some {v:=p}:=by
     simp only [bA,h1,h2];cases op<;>first|exact absurd rfl n1|exact absurd rfl n2|(simp only [V9,hk,if_true,hp];rfl)
    rw [this];exact hs
   cases op with
   |shl=>
    obtain ⟨hc,h⟩:=xM h;have hc': ¬n<0:=by simpa using hc
    exact gR.val hS h (by simp only [bA,h1,h2,V9,FI,if_neg hc'];rfl) rfl
   |shr=>
    obtain ⟨hc,h⟩:=xM h;have hc': ¬n<0:=by simpa using hc
    exact gR.val hS h (by simp only [bA,h1,h2,V9,FI,if_neg hc'];rfl) rfl
   |_=>exact key (by intro e;cases e) (by intro e;cases e) h
  |_=>cases h
 |_=>cases h
theorem ZA (hE:dF s e pe) (hS:cD s ps) {neg:Bool} {a b:fH} (h:mM e s z (.binb neg a b) k ρ w=some y):gR s ps (bA pe ps z (.binb neg a b)) k ρ w y:=by
 simp only [mM] at h;generalize ha:bM e a=va at h;cases va with
 |bool x=>
  generalize hb:bM e b=vb at h;cases vb with
  |bool x'=>
   refine gR.val hS h ?_ rfl;simp only [bA,EH hE ha,EH hE hb];cases neg<;>rfl
  |_=>cases h
 |_=>cases h
theorem ZB: ∀{xs ys:List SV} {ps qs:List PV} {r:Bool},RL s xs ps->RL s ys qs->eqS xs ys=some r->cV ps qs=some r
 | [],[],ps,qs,r,h1,h2,h=>by rw [show ps=[] from h1,show qs=[] from h2];exact h
 |x::xs,b::ys,ps,qs,r,h1,h2,h=>by
  obtain ⟨p,ps,rfl,a1,a2⟩:=h1.cons_inv;obtain ⟨q,qs,rfl,b1,b2⟩:=h2.cons_inv;simp only [eqS] at h;split at h
  · rename_i ka m kb n
    have a1':p= .int ka m:=a1;have b1':q= .int kb n:=b1;subst a1' b1';cases hk:fT ka kb with
    |false=>rw [hk] at h;cases h
    |true=>
     rw [hk] at h;have hc:rT (.int ka m) (.int kb n)=some (m==n):=by simp only [rT,hk,if_true]
     simp only [cV,hc];cases xs with
     |nil=>
      cases ys with
      |nil=>
       simp only [cond_true,Option.some.injEq] at h;subst h;rw [show ps=[] from a2,show qs=[] from b2];cases m==n<;>rfl
      |cons _ _=>cases h
     |cons x2 xs2=>
      simp only [cond_true] at h;split at h
      · rename_i r' hr
        injection h with h;subst h;rw [ZB a2 b2 hr];cases m==n<;>rfl
      · cases h
  · cases h
 | [],_::_,ps,qs,r,h1,h2,h=>by cases h
 |_::_,[],ps,qs,r,h1,h2,h=>by cases h
theorem aBf (hE:dF s e pe) (hS:cD s ps) {n:Nat} {neg:Bool} {a b:fH} (h:mM e s z (.eqc n neg a b) k ρ w=some y):gR s ps (bA pe ps z (.eqc n neg a b)) k ρ w y:=by
 simp only [mM] at h;generalize ha:bM e a=va at h;cases va with
 |agg xs=>
  generalize hb:bM e b=vb at h;cases vb with
  |agg ys=>
   obtain ⟨hl,h⟩:=cE h;obtain ⟨r,hr,h⟩:=bD h;obtain ⟨p,hp,h1⟩:=W4 hE ha;obtain ⟨q,hq,h2⟩:=W4 hE hb;refine gR.val hS h ?_ rfl;simp only [bA,hp,hq,h1.length,h2.length];rw [if_pos hl,ZB h1 h2 hr];cases neg<;>rfl
  |_=>cases h
 |_=>cases h
theorem aHz (hE:dF s e pe) (hS:cD s ps) {op:UnOp} {a:fH} (h:mM e s z (.un op a) k ρ w=some y):gR s ps (bA pe ps z (.un op a)) k ρ w y:=by
 simp only [mM] at h;cases op with
 |neg=>
  dsimp only at h;generalize ha:bM e a=va at h;cases va with
  |int ka n=>exact gR.val hS h (by simp only [bA,nA hE ha];rfl) rfl
  |_=>cases h
 |not=>
  dsimp only at h;generalize ha:bM e a=va at h;cases va with
  |bool b=>exact gR.val hS h (by simp only [bA,EH hE ha];rfl) rfl
  |_=>cases h
 |_=>cases h
theorem ZC (hE:dF s e pe) (hS:cD s ps) {a:IntKind} {x:fH} (h:mM e s z (.conv a x) k ρ w=some y):gR s ps (bA pe ps z (.conv a x)) k ρ w y:=by
 simp only [mM] at h;generalize ha:bM e x=va at h;cases va with
 |int ka n=>exact gR.val hS h (by simp only [bA,nA hE ha]) rfl
 |_=>cases h
theorem aBg (hE:dF s e pe) (hS:cD s ps) {x:fH} (h:mM e s z (.len x) k ρ w=some y):gR s ps (bA pe ps z (.len x)) k ρ w y:=by
 simp only [mM] at h;have hx:=dD hE x;generalize bM e x=v at h hx;cases v with
 |nil e' c=>exact gR.val hS h (by simp only [bA,show x.ev pe= .sl e' c [] from hx];rfl) rfl
 |pre t len cap ex=>
  obtain ⟨e',hx,_⟩:=hx;exact gR.val hS h (by simp only [bA,hx]) rfl
 |part t off len cap ex=>
  obtain ⟨e',hx,_⟩:=hx;exact gR.val hS h (by simp only [bA,hx]) rfl
 |sl q m=>
  exact gR.val hS h (by simp only [bA,show x.ev pe=_ from hx,List.length_map]) rfl
 |own t ex=>
  obtain ⟨c,hc,h⟩:=bD h;simp only [B8,bT] at hc;split at hc
  · rename_i q m hst
    injection hc with hc;subst hc;obtain ⟨e',n,hx,hat⟩:=hx;rcases hat with ⟨q',m',h1,rfl,rfl⟩|h1
    · rw [hst] at h1;injection h1 with h1;cases h1
      exact gR.val hS h (by simp only [bA,hx]) rfl
    · rw [hst] at h1;cases h1
  · cases hc
 |_=>obtain ⟨c,hc,h⟩:=bD h;cases hc
theorem EI: ∀{l:List (Nat×Nat×SV)} {pl:List (Nat×Nat×PV)} {cs:List SV} {pc:List PV} {r:List SV},
 (pl.length=l.length/\ ∀(j:Nat) (a:Nat×Nat×SV),l[j]? =some a-> ∃b,pl[j]? =some (a.1,a.2.1,b)/\R s a.2.2 b)->RL s cs pc->xK l cs=some r-> ∃q,nD pl pc=some q/\RL s r q
 | [],pl,cs,pc,r,hl,hc,h=>by
  have:pl=[]:=List.length_eq_zero_iff.1 hl.1
  subst this;injection h with h;subst h;exact ⟨pc,rfl,hc⟩
 |(off,sz,v)::l,pl,cs,pc,r,hl,hc,h=>by
  cases pl with
  |nil=>simp at hl
  |cons p pl=>
   obtain ⟨b,h1,h2⟩:=hl.2 0 _ rfl;simp at h1;subst h1;simp only [xK] at h;split at h
   · rename_i w hw
     obtain ⟨q,hq,hqr⟩:=h2.stored hw;cases hcnd:(Nat.beq w.length sz&&Nat.ble (off+sz) cs.length) with
     |false=>rw [hcnd] at h;cases h
     |true=>
      rw [hcnd] at h;simp only [cond_true] at h;obtain ⟨q2,h3,h4⟩:=EI (pl:=pl) ⟨by simpa using hl.1,fun j a ha=>hl.2 (j+1) a (by simpa using ha)⟩ (BB hqr hc) h
      refine ⟨q2,?_,h4⟩;simp only [nD,hq,hqr.length,hc.length];rw [if_pos hcnd];exact h3
   · cases h
theorem P3 (hE:dF s e pe): ∀(l:List (Nat×Nat×fH)),((l.map fun p=>(p.1,p.2.1,p.2.2.ev pe)).length=(zW e l).length/\ ∀(j:Nat) (a:Nat×Nat×SV),(zW e l)[j]? =some a-> ∃b,(l.map fun p=>(p.1,p.2.1,p.2.2.ev pe))[j]? =some (a.1,a.2.1,b)/\R s a.2.2 b)
 | []=>⟨rfl,fun j a h=>by simp [zW] at h⟩
 |p::l=>by
  obtain ⟨h1,h2⟩:=P3 hE l;refine ⟨by simp [zW] at h1 ⊢;omega,fun j a h=>?_⟩
  cases j with
  |zero=>simp [zW] at h;subst h;exact ⟨_,rfl,dD hE _⟩
  |succ j=>simp only [zW,List.getElem?_cons_succ] at h;obtain ⟨b,h3,h4⟩:=h2 j a h;exact ⟨b,by simpa using h3,h4⟩
theorem W5 (hE:dF s e pe) (hS:cD s ps) {zero:List PV} {parts:List (Nat×Nat×fH)} (h:mM e s z (.build zero parts) k ρ w=some y):gR s ps (bA pe ps z (.build zero parts)) k ρ w y:=by
 simp only [mM] at h;obtain ⟨cs,hc,h⟩:=bD h;obtain ⟨q,hq,hr⟩:=EI (P3 hE parts) (ofPVL_R s zero) hc;exact gR.val hS h (by simp only [bA,hq];rfl) ⟨q,rfl,hr⟩
theorem aBh (hE:dF s e pe) (hS:cD s ps) {x:fH} (h:mM e s z (.box x) k ρ w=some y):gR s ps (bA pe ps z (.box x)) k ρ w y:=by
 simp only [mM] at h;obtain ⟨cs,hc,h⟩:=bD h;obtain ⟨q,hq,hr⟩:=(dD hE x).stored hc;refine ⟨_,_,?_,hY.new hS (b:= .box cs) (q:= .box q) (v:= .bp s.length cs.length 0) (p:= .ptr s.length cs.length 0 0) (rd:=[]) ⟨q,rfl,hr.ext (Fr.app _ _ _)⟩ rfl,h⟩;simp only [bA,hq,hS.len,hr.length]
theorem W6 (hS:cD s ps) {cells:List PV} (h:mM e s z (.alloc cells) k ρ w=some y):gR s ps (bA pe ps z (.alloc cells)) k ρ w y:=by
 simp only [mM] at h;refine ⟨_,_,?_,hY.new hS (b:= .box (ofPVL cells)) (q:= .box cells) (v:= .bp s.length cells.length 0) (p:= .ptr s.length cells.length 0 0) (rd:=[]) ⟨cells,rfl,ofPVL_R _ _⟩ rfl,h⟩;simp only [bA,hS.len]
theorem ZD (hE:dF s e pe) (hS:cD s ps) {x:fH} (h:mM e s z (.nilc x) k ρ w=some y):gR s ps (bA pe ps z (.nilc x)) k ρ w y:=by
 simp only [mM] at h;have hx:=dD hE x;generalize bM e x=v at h hx;cases v with
 |pa t r i a o=>exact gR.val hS h (by simp only [bA,hx.1]) ⟨rfl,hx.2⟩
 |pb t i o=>
  obtain ⟨e',h1,h2⟩:=hx;exact gR.val hS h (by simp only [bA,h1]) ⟨e',rfl,h2⟩
 |bp t n o=>exact gR.val hS h (by simp only [bA,show x.ev pe=_ from hx]) rfl
 |rptr c o=>
  obtain ⟨q,h1,h2⟩:=hx;exact gR.val hS h (by simp only [bA,h1]) ⟨q,rfl,h2⟩
 |clo f a b=>
  obtain ⟨pa,pb,h1,h2⟩:=hx;exact gR.val hS h (by simp only [bA,h1]) ⟨pa,pb,rfl,h2⟩
 |_=>cases h
theorem ZE (hE:dF s e pe) (hS:cD s ps) {off:Nat} {x:fH} (h:mM e s z (.fadr off x) k ρ w=some y):gR s ps (bA pe ps z (.fadr off x)) k ρ w y:=by
 simp only [mM] at h;have hx:=dD hE x;generalize bM e x=v at h hx;cases v with
 |pa t r i a o=>exact gR.val hS h (by simp only [bA,hx.1]) ⟨rfl,hx.2⟩
 |pb t i o=>
  obtain ⟨e',h1,h2⟩:=hx;exact gR.val hS h (by simp only [bA,h1]) ⟨e',rfl,h2⟩
 |bp t n o=>exact gR.val hS h (by simp only [bA,show x.ev pe=_ from hx]) rfl
 |rptr c o=>
  obtain ⟨q,h1,h2⟩:=hx;exact gR.val hS h (by simp only [bA,h1]) ⟨q,rfl,h2⟩
 |_=>cases h
theorem aBi (hE:dF s e pe) (hS:cD s ps) {agg:Option Nat} {off:Nat} {x:fH} (h:mM e s z (.fld agg off x) k ρ w=some y):gR s ps (bA pe ps z (.fld agg off x)) k ρ w y:=by
 simp only [mM] at h;generalize hv:bM e x=v at h;cases v with
 |agg cs=>
  obtain ⟨v,h1,h⟩:=bD h;obtain ⟨q,h2,h3⟩:=W4 hE hv;obtain ⟨p,h4,h5⟩:=uR h3 h1;exact gR.val hS h (by simp only [bA,h2,h4];rfl) h5
 |_=>cases h
theorem aBj (hE:dF s e pe) (hS:cD s ps) {i:Nat} {x:fH} (h:mM e s z (.ext i x) k ρ w=some y):gR s ps (bA pe ps z (.ext i x)) k ρ w y:=by
 simp only [mM] at h;generalize hv:bM e x=v at h;cases v with
 |tup cs=>
  obtain ⟨v,h1,h⟩:=bD h;obtain ⟨q,h2,h3⟩:=W4 hE hv;obtain ⟨p,h4,h5⟩:=h3.nth h1;exact gR.val hS h (by simp only [bA,h2,h4];rfl) h5
 |_=>cases h
theorem aBk (hE:dF s e pe) (hS:cD s ps) {f:FuncId} {a b:List fH} (h:mM e s z (.mkf f a b) k ρ w=some y):gR s ps (bA pe ps z (.mkf f a b)) k ρ w y:=by
 simp only [mM] at h;exact gR.val hS h rfl ⟨_,_,rfl,A8 hE a,A8 hE b⟩
theorem aBl (hS:cD s ps) {m:Option PV} (h:mM e s z (.mkm m) k ρ w=some y):gR s ps (bA pe ps z (.mkm m)) k ρ w y:=by
 simp only [mM] at h;cases m with
 |none=>
  refine ⟨_,_,?_,hY.new hS (b:= .set []) (q:= .map []) (v:= .mp s.length) (p:= .mp s.length) (rd:=[]) rfl rfl,h⟩;simp only [bA,hS.len]
 |some m=>
  obtain ⟨p,_,h⟩:=bD h;refine ⟨_,_,?_,hY.new hS (b:= .tab p []) (q:= .map []) (v:= .mp s.length) (p:= .mp s.length) (rd:=[]) rfl rfl,h⟩;simp only [bA,hS.len]
theorem aHc: ∀{l:List SV} {q:List PV} {m:Bool} {a:IntKind} {n:Int} {v:SV},RL s l q->mmS m a n l=some v-> ∃p,mmE m a n q=some p/\R s v p
 | [],q,m,a,n,v,hl,h=>by
  rw [show q=[] from hl];injection h with h;subst h;exact ⟨_,rfl,rfl⟩
 |x::l,q,m,a,n,v,hl,h=>by
  obtain ⟨p,q,rfl,h1,h2⟩:=hl.cons_inv;simp only [mmS] at h;split at h
  · rename_i b c
    have h1':p= .int b c:=h1;subst h1';cases hk:fT a b with
    |true=>
     rw [hk] at h;obtain ⟨p,h3,h4⟩:=aHc h2 h;refine ⟨p,?_,h4⟩;simp only [mmE,hk,if_true];rw [<- h3];cases m<;>rfl
    |false=>rw [hk] at h;cases h
  · cases h
theorem aHA (hE:dF s e pe) (hS:cD s ps) {m:Bool} {x:fH} {xs:List fH} (h:mM e s z (.mm m x xs) k ρ w=some y):gR s ps (bA pe ps z (.mm m x xs)) k ρ w y:=by
 simp only [mM] at h;generalize hv:bM e x=v at h;cases v with
 |int a n=>
  obtain ⟨v,h1,h⟩:=bD h;obtain ⟨p,h2,h3⟩:=aHc (A8 hE xs) h1;exact gR.val hS h (by simp only [bA,nA hE hv,h2];rfl) h3
 |_=>cases h
theorem ZF (hE:dF s e pe) (hS:cD s ps) {c a b:fH} (h:mM e s z (.pick c a b) k ρ w=some y):gR s ps (bA pe ps z (.pick c a b)) k ρ w y:=by
 simp only [mM] at h;generalize hv:bM e c=v at h;cases v with
 |bool x=>
  rcases eF h with ⟨rfl,h⟩|⟨rfl,h⟩
  · exact gR.val hS h (by simp only [bA,EH hE hv]) (dD hE a)
  · exact gR.val hS h (by simp only [bA,EH hE hv]) (dD hE b)
 |_=>cases h
end
end Go.Vm
/- Operation by operation, second part: elements, blocks, slices, sets. -/
namespace Go.Vm
section
variable {R' ρ : Type} {w : R' -> ρ} {y : ρ} {s : List SB} {ps : cB} {e : SE} {pe : uD} {z : List Nat} {k : gO -> gX R'}
theorem cD.arr (hS:cD s ps) {t:Nat} {r:List PT} {l:List (RT r)} (h:s[t]? =some (.arr r l)):ps[t]? =some (.arr r.length (l.map (RT.pv r))):=by
 obtain ⟨q,h1,h2⟩:=hS.at_ t _ h;rw [show q=_ from h2] at h1;exact h1
theorem cD.box (hS:cD s ps) {t:Nat} {cs:List SV} (h:s[t]? =some (.box cs)): ∃q,ps[t]? =some (.box q)/\RL s cs q:=by
 obtain ⟨q,h1,q',rfl,h2⟩:=hS.at_ t _ h;exact ⟨q',h1,h2⟩
theorem cD.set_ (hS:cD s ps) {t:Nat} {l:List (List Int)} (h:s[t]? =some (.set l)):ps[t]? =some (.map (l.map EF)):=by
 obtain ⟨q,h1,h2⟩:=hS.at_ t _ h;rw [show q=_ from h2] at h1;exact h1
theorem cD.tab_ (hS:cD s ps) {t:Nat} {p:PT} {l:List (RT [.i .i64,p])} (h:s[t]? =some (.tab p l)):ps[t]? =some (.map (l.map (HT p))):=by
 obtain ⟨q,h1,h2⟩:=hS.at_ t _ h;rw [show q=_ from h2] at h1;exact h1
theorem Y8.inv {t e n:Nat} {r:List PT} {l:List (RT r)} (h:Y8 s t e n) (hs:s[t]? =some (.arr r l)):e=r.length/\n=l.length:=by
 rcases h with ⟨q,m,h1,rfl,rfl⟩|h1
 · rw [hs] at h1;injection h1 with h1;cases h1;exact ⟨rfl,rfl⟩
 · rw [hs] at h1;cases h1
theorem CB.inv {t e:Nat} {r:List PT} {l:List (RT r)} (h:CB s t e) (hs:s[t]? =some (.arr r l)):e=r.length:=by
 rcases h with ⟨q,m,h1,rfl⟩|h1
 · rw [hs] at h1;injection h1 with h1;cases h1;rfl
 · rw [hs] at h1;cases h1
theorem Y9.inv {t:Nat} {q r:List PT} {i:Int} {a:RT q} {l:List (RT r)} (h:Y9 s t q i a) (hs:s[t]? =some (.arr r l)): ∃e:q=r,aK l i=some (e▸a):=by
 rcases h with ⟨m,h1,h2⟩|h1
 · rw [hs] at h1;injection h1 with h1;cases h1;exact ⟨rfl,h2⟩
 · rw [hs] at h1;cases h1
theorem aHy.inv {t:Nat} {r:List PT} {i:Int} {l:List (RT r)} (h:aHy s t i) (hs:s[t]? =some (.arr r l)):(aK l i).isSome=true:=by
 rcases h with ⟨q,m,h1,h2⟩|h1
 · rw [hs] at h1;injection h1 with h1;cases h1;exact h2
 · rw [hs] at h1;cases h1
theorem MD {α:Type} {l:List α} {n:Nat} {i:Int} {a:α} (h:aK (l.take n) i=some a): ∃m:Nat,i=Int.ofNat m/\m<n/\l[m]? =some a:=by
 obtain ⟨m,rfl,hm⟩:=nH h;have hlt:=(List.getElem?_eq_some_iff.1 hm).1;rw [List.length_take] at hlt;have hmn:m<n:=by omega
 rw [List.getElem?_take_of_lt hmn] at hm;exact ⟨m,rfl,hmn,hm⟩
theorem ZG (hE:dF s e pe) (hS:cD s ps) {esz:Nat} {x i:fH} (h:mM e s z (.iadr esz x i) k ρ w=some y):gR s ps (bA pe ps z (.iadr esz x i)) k ρ w y:=by
 simp only [mM] at h;generalize hi:bM e i=vi at h;cases vi with
 |int ki n=>
  have hi:=nA hE hi;have hx:=dD hE x;dsimp only at h;unfold aG5 at h;generalize bM e x=v at h hx;cases v with
  |sl r l=>
   obtain ⟨he,h⟩:=cE h;obtain ⟨a,ha,hk⟩:=cS h;obtain ⟨m,rfl,hm⟩:=nH ha;refine gR.val hS (p:= .rptr (RT.pv r a) 0) hk ?_ ⟨_,rfl,MC r a⟩;have hr:(l.map (RT.pv r))[m]? =some (RT.pv r a):=by simp [hm]
   simp only [bA,hi,kD,show x.ev pe=_ from hx,hr,he,if_true]
  |own t ex=>
   simp only [bT] at h;generalize hst:s[t]? =b at h;cases b with
   |none=>cases h
   |some b=>
    cases b with
    |arr r l=>
     obtain ⟨he,h⟩:=cE h;obtain ⟨a,ha,hk⟩:=cS h;obtain ⟨m,rfl,hm⟩:=nH ha;obtain ⟨e',n',hx,hat⟩:=hx;obtain ⟨rfl,rfl⟩:=hat.inv hst;have hlt:=(List.getElem?_eq_some_iff.1 hm).1;have h1:Nat.blt m l.length=true:=by simpa using hlt
     refine gR.val hS (p:= .ptr t r.length m 0) hk ?_ ⟨rfl,.inl ⟨l,hst,ha⟩⟩;simp only [bA,hi,kD,hx,h1,he,Bool.and_self,if_true,Nat.zero_add]
    |_=>cases h
  |pre t len cap ex=>
   simp only [bT] at h;generalize hst:s[t]? =b at h;cases b with
   |none=>cases h
   |some b=>
    cases b with
    |arr r l=>
     obtain ⟨he,h⟩:=cE h;obtain ⟨a,ha,hk⟩:=cS h;obtain ⟨m,rfl,hlt,hm⟩:=MD ha;obtain ⟨e',hx,hat⟩:=hx
     have:=hat.inv hst
     subst this;have h1:Nat.blt m len=true:=by simpa using hlt
     refine gR.val hS (p:= .ptr t r.length m 0) hk ?_ ⟨rfl,.inl ⟨l,hst,hm⟩⟩;simp only [bA,hi,kD,hx,h1,he,Bool.and_self,if_true,Nat.zero_add]
    |_=>cases h
  |part t off len cap ex=>
   simp only [bT] at h;generalize hst:s[t]? =b at h;cases b with
   |none=>cases h
   |some b=>
    cases b with
    |arr r l=>
     obtain ⟨he,h⟩:=cE h;obtain ⟨a,ha,hk⟩:=cS h;obtain ⟨m,rfl,hlt,hm⟩:=MD ha;rw [List.getElem?_drop] at hm;obtain ⟨e',hx,hat⟩:=hx
     have:=hat.inv hst
     subst this;have h1:Nat.blt m len=true:=by simpa using hlt
     refine gR.val hS (p:= .ptr t r.length (off+m) 0) hk ?_ ⟨rfl,.inl ⟨l,hst,hm⟩⟩;simp only [bA,hi,kD,hx,h1,he,Bool.and_self,if_true]
    |_=>cases h
  |_=>cases h
 |_=>cases h
theorem DB {n:Nat} {i:Int} {j:Nat} {f:Nat->gX R'}:PU n i j f ρ w=some y-> ∃m,i=Int.ofNat m/\j<=m/\m<j+n/\f m ρ w=some y:=by
 induction n generalizing j with
 |zero=>intro h;cases h
 |succ n ih=>
  intro h;rcases eF h with ⟨h1,h2⟩|⟨_,h2⟩
  · exact ⟨j,by simpa using h1,Nat.le_refl _,by omega,h2⟩
  · obtain ⟨m,h3,h4,h5,h6⟩:=ih h2
    exact ⟨m,h3,by omega,by omega,h6⟩
theorem W7 (hE:dF s e pe) (hS:cD s ps) {n esz:Nat} {p i:fH} (h:mM e s z (.iadra n esz p i) k ρ w=some y):gR s ps (bA pe ps z (.iadra n esz p i)) k ρ w y:=by
 simp only [mM] at h;generalize hi:bM e i=vi at h;cases vi with
 |int ki j=>
  have hi:=nA hE hi;have hx:=dD hE p;generalize bM e p=v at h hx;cases v with
  |bp t m o=>
   obtain ⟨j',rfl,_,h2,h⟩:=DB h;have h1:Nat.blt j' n=true:=by simp;omega
   exact gR.val hS h (by simp only [bA,hi,kD,h1,if_true,show p.ev pe=_ from hx]) rfl
  |rptr c o=>
   obtain ⟨j',rfl,_,h2,h⟩:=DB h;have h1:Nat.blt j' n=true:=by simp;omega
   obtain ⟨q,hq,hr⟩:=hx;exact gR.val hS h (by simp only [bA,hi,kD,h1,if_true,hq]) ⟨q,rfl,hr⟩
  |_=>cases h
 |_=>cases h
theorem aBm (hE:dF s e pe) (hS:cD s ps) {n esz:Nat} {agg:Option Nat} {x i:fH} (h:mM e s z (.idx n esz agg x i) k ρ w=some y):gR s ps (bA pe ps z (.idx n esz agg x i)) k ρ w y:=by
 simp only [mM] at h;generalize hi:bM e i=vi at h;cases vi with
 |int ki j=>
  have hi:=nA hE hi;generalize hx:bM e x=v at h;cases v with
  |agg cs=>
   obtain ⟨j',rfl,_,h2,h⟩:=DB h;have h1:Nat.blt j' n=true:=by simp;omega
   obtain ⟨v,hv,h⟩:=bD h;obtain ⟨q,hq,hr⟩:=W4 hE hx;obtain ⟨p,hp,hpr⟩:=uR hr hv;exact gR.val hS h (by simp only [bA,hi,kD,h1,if_true,hq,hp];rfl) hpr
  |_=>cases h
 |_=>cases h
theorem ZH (hE:dF s e pe) (hS:cD s ps) {x i:fH} (h:mM e s z (.sidx x i) k ρ w=some y):gR s ps (bA pe ps z (.sidx x i)) k ρ w y:=by
 simp only [mM] at h;generalize hi:bM e i=vi at h;cases vi with
 |int ki j=>
  have hi:=nA hE hi;generalize hx:bM e x=v at h;cases v with
  |str t=>
   obtain ⟨b,hb,h⟩:=cS h;have hx:=W4 hE hx;cases j with
   |negSucc _=>cases hb
   |ofNat m=>
    simp only [aG4,Option.map_eq_some_iff] at hb;obtain ⟨c,hc,rfl⟩:=hb;exact gR.val hS h (by simp only [bA,hi,kD,show x.ev pe=_ from hx,hc]) rfl
  |_=>cases h
 |_=>cases h
theorem ZI (hE:dF s e pe) (hS:cD s ps) {agg:Option Nat} {p:fH} (h:mM e s z (.load agg p) k ρ w=some y):gR s ps (bA pe ps z (.load agg p)) k ρ w y:=by
 simp only [mM] at h;have hx:=dD hE p;unfold aG6 at h;generalize bM e p=v at h hx;cases v with
 |bp t n off=>
  simp only [bT] at h;generalize hst:s[t]? =b at h;cases b with
  |none=>cases h
  |some b=>
   cases b with
   |box cs=>
    obtain ⟨v,hv,h⟩:=bD h;obtain ⟨q,h1,h2⟩:=hS.box hst;obtain ⟨u,h3,h4⟩:=uR h2 hv;refine gR.rd hS h ?_ h4;show oV ps agg (p.ev pe)=_;rw [show p.ev pe=_ from hx];simp only [oV,h1,Nat.beq_refl,if_true,h3];rfl
   |_=>cases h
 |pa t r i a off=>
  simp only [bT] at h;generalize hst:s[t]? =b at h;cases b with
  |none=>cases h
  |some b=>
   cases b with
   |arr q l=>
    obtain ⟨v,hv,hk⟩:=bD h;obtain ⟨hx,hat⟩:=hx;obtain ⟨rfl,hg⟩:=hat.inv hst;obtain ⟨u,h3,h4⟩:=uR (MC r a) hv;obtain ⟨m,rfl,hm⟩:=nH hg;refine gR.rd hS hk ?_ h4;show oV ps agg (p.ev pe)=_;rw [hx];have hm':(l.map (RT.pv r))[m]? =some (RT.pv r a):=by simp [hm]
    have e1:(Int.ofNat m).toNat=m:=rfl;simp only [oV,hS.arr hst,e1,hm',h3];rfl
   |_=>cases h
 |pb t i off=>
  simp only [bT] at h;generalize hst:s[t]? =b at h;cases b with
  |none=>cases h
  |some b=>
   cases b with
   |arr r l=>
    obtain ⟨a,ha,h⟩:=cS h;obtain ⟨v,hv,hk⟩:=bD h;obtain ⟨e',hx,hat⟩:=hx;obtain ⟨u,h3,h4⟩:=uR (MC r a) hv;obtain ⟨m,rfl,hm⟩:=nH ha;refine gR.rd hS hk ?_ h4;show oV ps agg (p.ev pe)=_;rw [hx];have hm':(l.map (RT.pv r))[m]? =some (RT.pv r a):=by simp [hm]
    have e1:(Int.ofNat m).toNat=m:=rfl;simp only [oV,hS.arr hst,e1,hm',h3];rfl
   |_=>cases h
 |rptr cs off=>
  obtain ⟨v,hv,h⟩:=bD h;obtain ⟨q,hq,hr⟩:=hx;obtain ⟨u,h3,h4⟩:=uR hr hv;refine gR.val hS h ?_ h4;show oV ps agg (p.ev pe)=_;rw [hq];simp only [oV,h3];rfl
 |_=>cases h
theorem NU (hS:cD s ps) {t:Nat} {r:List PT} {l:List (RT r)} (hst:s[t]? =some (.arr r l)) {i:Int} {b:RT r} {rd:List Nat}:
 hY s ps {v:= .undef,wr:=[(t,.arr r (cL l i b))],rd} {v:= .undef,wr:=[(t,.arr r.length ((l.map (RT.pv r)).set i.toNat (RT.pv r b)))],rd}:=
 hY.put0 hS hst (.inl ⟨_,rfl,by simp⟩) (by show _=_;simp [cL,List.map_set])
theorem W8 (hE:dF s e pe) (hS:cD s ps) {sz:Nat} {p x:fH} (h:mM e s z (.store sz p x) k ρ w=some y):gR s ps (bA pe ps z (.store sz p x)) k ρ w y:=by
 simp only [mM] at h;have hx:=dD hE p;have hv:=dD hE x;unfold YV at h;generalize bM e p=v at h hx;generalize bM e x=u at h hv;cases v with
 |bp t n off=>
  simp only [bT] at h;generalize hst:s[t]? =b at h;cases b with
  |none=>cases h
  |some b=>
   cases b with
   |box cs=>
    obtain ⟨w',hw,h⟩:=bD h;obtain ⟨hc,h⟩:=cE h;obtain ⟨q,h1,h2⟩:=hv.stored hw;obtain ⟨b,h3,h4⟩:=hS.box hst;have hfr:=Fr.dg (ts:=[t]) (Fr.set (b:= .box (qB off w' cs)) hst trivial);refine ⟨_,_,?_,hY.put0 hS (b:= .box (qB off w' cs)) (q:= .box (oX off q b)) (rd:=[]) hst trivial ⟨_,rfl,RL.fr hfr (BB h2 h4)⟩,h⟩
    · show sW ps z sz (x.ev pe) (p.ev pe)=_
      rw [show p.ev pe=_ from hx];simp only [sW,h3,h1,h2.length,h4.length];rw [if_pos (by simpa using hc)]
   |_=>cases h
 |pa t r i a off=>
  simp only [bT] at h;generalize hst:s[t]? =b at h;cases b with
  |none=>cases h
  |some b=>
   cases b with
   |arr q l=>
    obtain ⟨hc,h⟩:=cE h;obtain ⟨a',ha',hk⟩:=bD h;obtain ⟨hx,hat⟩:=hx;obtain ⟨rfl,hg⟩:=hat.inv hst;obtain ⟨m,rfl,hm⟩:=nH hg;refine ⟨_,_,?_,NU hS hst (rd:=[]),hk⟩;show sW ps z sz (x.ev pe) (p.ev pe)=_;rw [hx];have hm':(l.map (RT.pv r))[m]? =some (RT.pv r a):=by simp [hm]
    have e1:(Int.ofNat m).toNat=m:=rfl;simp only [Bool.and_eq_true,Bool.not_eq_true'] at hc;obtain ⟨⟨c1,c2⟩,c3⟩:=hc;have hj:u≠ .junk:=by
     intro e;subst e
     have:=RT.of_some ha'
     have hq:=congrArg (fun l=>l[off]?) this
     have hle:=Nat.le_of_ble_eq_true c2;have hsz:sz=1:=by have:=Nat.eq_of_beq_eq_true c1;simpa [SV.cells] using this.symm
     have hlt:off<r.length:=by omega
     have hl1:off<(RT.sv r a).length:=by rw [RT.sv_len];exact hlt
     simp only [qB,SV.cells] at hq;rw [List.getElem?_append_left (by simp;omega),List.getElem?_append_right (by simp;omega)] at hq
     simp only [List.length_take,Nat.min_eq_left (Nat.le_of_lt hl1),Nat.sub_self,List.getElem?_cons_zero] at hq
     have: ∀(r:List PT) (b:RT r) (n:Nat),(RT.sv r b)[n]?≠some .junk:=by
      intro r
      induction r with
      |nil=>intro b n h;simp [RT.sv] at h
      |cons p rest ih=>
       intro b n;cases rest with
       |nil=>cases n<;>cases p<;>simp [RT.sv,PT.sv]
       |cons p2 rest2=>cases n with
        |zero=>cases p<;>simp [RT.sv,PT.sv]
        |succ n=>simpa [RT.sv] using ih b.2 n
     exact this r a' off hq.symm
    have hcells:=hv.cells hj;have hrow:=RT.of_some ha';have h5:RL s (RT.sv r a') (oX off (x.ev pe).cells (RT.pv r a)):=by
     rw [<- hrow];exact BB hcells (MC r a)
    have h6:=BA r a' h5;have hplain:(x.ev pe).storedPlain=some (x.ev pe).cells:=by
     unfold PV.storedPlain;rw [if_pos ?_];have hall:=RT.plain r a';rw [<- h6] at hall;unfold oX at hall;simp only [List.all_append,Bool.and_eq_true] at hall;exact hall.1.2
    simp only [sW,hS.arr hst,e1,hm',hplain,hcells.length,RT.pv_len];rw [if_pos (by simp [c1,c2,c3])]
    simp only [h6]
   |_=>cases h
 |pb t i off=>
  simp only [bT] at h;generalize hst:s[t]? =b at h;cases b with
  |none=>cases h
  |some b=>
   cases b with
   |arr r l=>
    obtain ⟨hc,h⟩:=cE h;obtain ⟨e',hx,hat⟩:=hx;have hin:=hat.inv hst;rw [Option.isSome_iff_exists] at hin;obtain ⟨a0,hg⟩:=hin;obtain ⟨m,rfl,hm⟩:=nH hg;have hm':(l.map (RT.pv r))[m]? =some (RT.pv r a0):=by simp [hm]
    have e1:(Int.ofNat m).toNat=m:=rfl;simp only [Bool.and_eq_true,Bool.not_eq_true'] at hc;obtain ⟨⟨c1,c2⟩,c3⟩:=hc;cases hsz:Nat.beq sz r.length with
    |true=>
     rw [hsz] at h;obtain ⟨a',ha',hk⟩:=bD h;obtain ⟨hp,hl⟩:=hv.ofRow ha';have hszr:=Nat.eq_of_beq_eq_true hsz;have hoff:off=0:=by have:=Nat.le_of_ble_eq_true c2;omega
     subst hoff;refine ⟨_,_,?_,NU hS hst (rd:=[]),hk⟩;show sW ps z sz (x.ev pe) (p.ev pe)=_;rw [hx];simp only [sW,hS.arr hst,e1,hm',hp,RT.pv_len];rw [if_pos (by rw [Nat.zero_add,hszr];simp [c3])]
     have:oX 0 (RT.pv r a') (RT.pv r a0)=RT.pv r a':=by
      unfold oX;rw [RT.pv_len,List.drop_of_length_le (by rw [RT.pv_len];omega)];simp
     rw [this]
    |false=>
     rw [hsz] at h;obtain ⟨a,ha,h⟩:=cS h;obtain ⟨a',ha',hk⟩:=bD h;rw [hg] at ha;injection ha with ha;subst ha;refine ⟨_,_,?_,NU hS hst (rd:=[]),hk⟩;show sW ps z sz (x.ev pe) (p.ev pe)=_;rw [hx];have hj:u≠ .junk:=by
      intro e;subst e
      have:=RT.of_some ha'
      have hq:=congrArg (fun l=>l[off]?) this
      have hle:=Nat.le_of_ble_eq_true c2;have hsz:sz=1:=by have:=Nat.eq_of_beq_eq_true c1;simpa [SV.cells] using this.symm
      have hlt:off<r.length:=by omega
      have hl1:off<(RT.sv r a0).length:=by rw [RT.sv_len];exact hlt
      simp only [qB,SV.cells] at hq;rw [List.getElem?_append_left (by simp;omega),List.getElem?_append_right (by simp;omega)] at hq
      simp only [List.length_take,Nat.min_eq_left (Nat.le_of_lt hl1),Nat.sub_self,List.getElem?_cons_zero] at hq
      have: ∀(r:List PT) (b:RT r) (n:Nat),(RT.sv r b)[n]?≠some .junk:=by
       intro r
       induction r with
       |nil=>intro b n h;simp [RT.sv] at h
       |cons p rest ih=>
        intro b n;cases rest with
        |nil=>cases n<;>cases p<;>simp [RT.sv,PT.sv]
        |cons p2 rest2=>cases n with
         |zero=>cases p<;>simp [RT.sv,PT.sv]
         |succ n=>simpa [RT.sv] using ih b.2 n
      exact this r a' off hq.symm
     have hcells:=hv.cells hj;have hrow:=RT.of_some ha';have h5:RL s (RT.sv r a') (oX off (x.ev pe).cells (RT.pv r a0)):=by
      rw [<- hrow];exact BB hcells (MC r a0)
     have h6:=BA r a' h5;have hplain:(x.ev pe).storedPlain=some (x.ev pe).cells:=by
      unfold PV.storedPlain;rw [if_pos ?_];have hall:=RT.plain r a';rw [<- h6] at hall;unfold oX at hall;simp only [List.all_append,Bool.and_eq_true] at hall;exact hall.1.2
     simp only [sW,hS.arr hst,e1,hm',hplain,hcells.length,RT.pv_len];rw [if_pos (by simp [c1,c2,c3])]
     simp only [h6]
   |_=>cases h
 |_=>cases h
end
end Go.Vm
/- Operation by operation, third part: slices, new blocks, append, sets; all of them together. -/
namespace Go.Vm
section
variable {R' ρ : Type} {w : R' -> ρ} {y : ρ} {s : List SB} {ps : cB} {e : SE} {pe : uD} {z : List Nat} {k : gO -> gX R'}
def JT (pe:uD) (o:Option fH):Option (Option Nat):=match o with|none=>some none|some a=>(kD (a.ev pe)).map some
theorem wJ (hE:dF s e pe) {o:Option fH} {d a:Int} {n:Nat} (h:F0 e d o=some a) (hd:d=Int.ofNat n) (h0:0<=a): ∃b,JT pe o=some b/\b.getD n=a.toNat:=by
 cases o with
 |none=>
  injection h with h;subst h hd;exact ⟨none,rfl,rfl⟩
 |some x=>
  simp only [F0] at h;split at h
  · rename_i ka m hx
    injection h with h;subst h;obtain ⟨b,rfl⟩:=Int.eq_ofNat_of_zero_le h0;refine ⟨some b,?_,rfl⟩;simp only [JT,nA hE hx];rfl
  · cases h
theorem DC {esz:Nat} {x:fH} {lo hi mx:Option fH} {l h m:Option Nat} {v:PV} (he:vV esz (x.ev pe)=true) (h1:JT pe lo=some l) (h2:JT pe hi=some h) (h3:JT pe mx=some m) (hv:rU (x.ev pe) l h m=some v):
 bA pe ps z (.slc esz x lo hi mx)=some {v:=v}:=by
 have e:bA pe ps z (.slc esz x lo hi mx)=(match JT pe lo,JT pe hi,JT pe mx with|some l,some h,some m=>(rU (x.ev pe) l h m).map fun v=>({v}:oR)|_,_,_=>none):=by
  simp only [bA,he,Bool.not_true,Bool.false_eq_true,if_false];rfl
 rw [e,h1,h2,h3];simp only [hv];rfl
theorem JU {α:Type} {l r:List α} {lo hi:Int} (h:iL l lo hi=some r): ∃a b:Nat,lo=Int.ofNat a/\hi=Int.ofNat b/\a<=b/\b<=l.length/\r=(l.drop a).take (b-a):=by
 unfold iL at h;split at h
 · rename_i hc
   obtain ⟨a,rfl⟩:=Int.eq_ofNat_of_zero_le hc.1;obtain ⟨b,rfl⟩:=Int.eq_ofNat_of_zero_le (Int.le_trans hc.1 hc.2.1);injection h with h;exact ⟨a,b,rfl,rfl,by omega,by omega,by rw [<- h];simp⟩
 · cases h
theorem NV (hE:dF s e pe) (hS:cD s ps) {esz t off len cap:Nat} {ex:Bool} {x:fH} {lo hi mx:Option fH} (hx:x.ev pe= .own t esz off len cap ex) (hat:CB s t esz) (h:SU e t off len cap ex lo hi mx k ρ w=some y):
 gR s ps (bA pe ps z (.slc esz x lo hi mx)) k ρ w y:=by
 unfold SU at h;obtain ⟨a,ha,h⟩:=bD h;obtain ⟨b,hb,h⟩:=bD h;have he:vV esz (x.ev pe)=true:=by rw [hx];simp [vV]
 cases mx with
 |none=>
  obtain ⟨hc,h⟩:=hZ h;simp only [Bool.and_eq_true,decide_eq_true_eq] at hc;obtain ⟨⟨c1,c2⟩,c3⟩:=hc;obtain ⟨l,h1,h2⟩:=wJ hE (n:=0) ha rfl c1;obtain ⟨u,h3,h4⟩:=wJ hE (n:=len) hb rfl (Int.le_trans c1 c2);refine gR.val hS h (DC he h1 h3 (m:=none) rfl ?_) ⟨esz,rfl,hat⟩;rw [hx];have c4:(Nat.ble a.toNat b.toNat&&Nat.ble b.toNat cap)=true:=by
   have c3':b<=(cap:Int):=c3
   simp;omega
  simp only [rU,h2,h4,c4,if_true]
 |some mo=>
  dsimp only at h;generalize hm:bM e mo=vm at h;cases vm with
  |int km c=>
   obtain ⟨hc,h⟩:=hZ h;simp only [Bool.and_eq_true,decide_eq_true_eq] at hc;obtain ⟨⟨⟨c1,c2⟩,c3⟩,c4⟩:=hc;obtain ⟨l,h1,h2⟩:=wJ hE (n:=0) ha rfl c1;obtain ⟨u,h3,h4⟩:=wJ hE (n:=len) hb rfl (Int.le_trans c1 c2);have hc0:0<=c:=Int.le_trans (Int.le_trans c1 c2) c3;obtain ⟨c,rfl⟩:=Int.eq_ofNat_of_zero_le hc0
   refine gR.val hS h (DC he h1 h3 (m:=some c) (by simp only [JT,nA hE hm];rfl) ?_) ⟨esz,rfl,hat⟩
   rw [hx];have c5:(Nat.ble a.toNat b.toNat&&Nat.ble b.toNat c&&Nat.ble c cap)=true:=by
    have c4':(c:Int)<=(cap:Int):=c4
    simp;omega
   simp only [rU,h2,h4,c5,if_true];rfl
  |_=>cases h
theorem aBn (hE:dF s e pe) (hS:cD s ps) {esz:Nat} {x:fH} {lo hi mx:Option fH} (h:mM e s z (.slc esz x lo hi mx) k ρ w=some y):gR s ps (bA pe ps z (.slc esz x lo hi mx)) k ρ w y:=by
 simp only [mM] at h;have hx:=dD hE x;unfold aLM at h;generalize bM e x=v at h hx;cases v with
 |sl r l=>
  cases mx with
  |some _=>cases h
  |none=>
   dsimp only at h;obtain ⟨he,h⟩:=cE h;have he:=Nat.eq_of_beq_eq_true he;obtain ⟨a,ha,h⟩:=bD h;obtain ⟨b,hb,h⟩:=bD h;obtain ⟨m,hm,hk⟩:=cS h;obtain ⟨n1,n2,rfl,rfl,c1,c2,rfl⟩:=JU hm;obtain ⟨u1,h1,h2⟩:=wJ hE (n:=0) ha rfl (by simp)
   obtain ⟨u2,h3,h4⟩:=wJ hE (n:=l.length) hb rfl (by simp)
   have hx':x.ev pe= .sl r.length false (l.map (RT.pv r)):=hx;subst he;refine gR.val hS (p:= .sl r.length false ((((l.drop n1).take (n2-n1))).map (RT.pv r))) hk (DC (m:=none) (by rw [hx'];simp [vV]) h1 h3 rfl ?_) rfl
   rw [hx'];have h2':u1.getD 0=n1:=by rw [h2];rfl
   have h4':u2.getD (l.map (RT.pv r)).length=n2:=by rw [List.length_map,h4];rfl
   have c3:(Nat.ble n1 n2&&Nat.ble n2 (l.map (RT.pv r)).length)=true:=by simp [c1,c2]
   simp only [rU,h2',h4',c3,if_true,Bool.false_and,List.map_take,List.map_drop]
 |own t ex=>
  simp only [bT] at h;generalize hst:s[t]? =b at h;cases b with
  |none=>cases h
  |some b=>
   cases b with
   |arr r l=>
    dsimp only at h;obtain ⟨he,hk⟩:=cE h;have he:=Nat.eq_of_beq_eq_true he;obtain ⟨e',n',hx,hat⟩:=hx;obtain ⟨rfl,rfl⟩:=hat.inv hst;subst he;have hesz:CB s t r.length:= .inl ⟨r,l,hst,rfl⟩;have gen:SU e t 0 l.length l.length ex lo hi mx k ρ w=some y->gR s ps (bA pe ps z (.slc r.length x lo hi mx)) k ρ w y:=fun h=>NV hE hS hx hesz h
    have he:vV r.length (x.ev pe)=true:=by rw [hx];simp [vV]
    cases mx with
    |some m=>cases lo<;>cases hi<;>exact gen hk
    |none=>
     cases lo with
     |some _=>cases hi<;>exact gen hk
     |none=>
      cases hi with
      |none=>
       refine gR.val hS hk (DC (l:=none) (h:=none) (m:=none) he rfl rfl rfl ?_) ⟨r.length,l.length,rfl,hat⟩;rw [hx];simp [rU]
      |some ho=>
       dsimp only at hk;generalize hh:bM e ho=vh at hk;cases vh with
       |int kh b=>
        obtain ⟨m,hm,hk⟩:=cS hk;obtain ⟨n1,n2,h0,rfl,c1,c2,rfl⟩:=JU hm;refine gR.val hS hk (DC (l:=none) (h:=some n2) (m:=none) he rfl (by simp only [JT,nA hE hh];rfl) rfl ?_) ⟨r.length,rfl,hesz⟩
        rw [hx];have c3:(Nat.ble 0 n2&&Nat.ble n2 l.length)=true:=by simp [c2]
        simp only [rU,Option.getD_none,Option.getD_some,c3,if_true];rfl
       |_=>cases hk
   |_=>cases h
 |pre t len cap ex=>
  simp only [bT] at h;generalize hst:s[t]? =b at h;cases b with
  |none=>cases h
  |some b=>
   cases b with
   |arr r l=>
    dsimp only at h;obtain ⟨he,hk⟩:=cE h;have he:=Nat.eq_of_beq_eq_true he;obtain ⟨e',hx,hat⟩:=hx
    have:=hat.inv hst
    subst this;subst he;have gen:SU e t 0 len cap ex lo hi mx k ρ w=some y->gR s ps (bA pe ps z (.slc r.length x lo hi mx)) k ρ w y:=fun h=>NV hE hS hx hat h
    have he:vV r.length (x.ev pe)=true:=by rw [hx];simp [vV]
    cases mx with
    |some m=>cases lo<;>cases hi<;>exact gen hk
    |none=>
     cases lo with
     |some _=>cases hi<;>exact gen hk
     |none=>
      cases hi with
      |none=>
       obtain ⟨hlc,hk⟩:=hZ hk;refine gR.val hS hk (DC (l:=none) (h:=none) (m:=none) he rfl rfl rfl ?_) ⟨r.length,rfl,hat⟩;rw [hx];have c3:(Nat.ble 0 len&&Nat.ble len cap)=true:=by simp [hlc]
       simp only [rU,Option.getD_none,c3,if_true];simp
      |some ho=>
       dsimp only at hk;generalize hh:bM e ho=vh at hk;cases vh with
       |int kh b=>
        obtain ⟨hc,hk⟩:=hZ hk;simp only [Bool.and_eq_true,decide_eq_true_eq] at hc;obtain ⟨c1,c2⟩:=hc;obtain ⟨b,rfl⟩:=Int.eq_ofNat_of_zero_le c1;refine gR.val hS hk (DC (l:=none) (h:=some b) (m:=none) he rfl (by simp only [JT,nA hE hh];rfl) rfl ?_) ⟨r.length,rfl,hat⟩
        rw [hx];have c3:(Nat.ble 0 b&&Nat.ble b cap)=true:=by
         have c2':(b:Int)<=(cap:Int):=c2
         simp;omega
        simp only [rU,Option.getD_none,Option.getD_some,c3,if_true];rfl
       |_=>cases hk
   |_=>cases h
 |part t off len cap ex=>
  simp only [bT] at h;generalize hst:s[t]? =b at h;cases b with
  |none=>cases h
  |some b=>
   cases b with
   |arr r l=>
    dsimp only at h;obtain ⟨he,hk⟩:=cE h;have he:=Nat.eq_of_beq_eq_true he;obtain ⟨e',hx,hat⟩:=hx
    have:=hat.inv hst
    subst this;subst he;exact NV hE hS hx hat hk
   |_=>cases h
 |_=>cases h
theorem rD {b:SB}:(s++[b])[s.length]? =some b:=by simp
theorem jK: ∀{v:PV} {p:PT},eJ v=some p->p.pv p.zero=v
 | .int k n,p,h=>by
  simp only [eJ] at h;split at h
  · injection h with h;subst h;rfl
  · cases h
 | .bool b,p,h=>by
  simp only [eJ] at h;split at h
  · injection h with h;subst h;rfl
  · cases h
 | .undef,_,h| .nul,_,h| .str _,_,h| .agg _,_,h| .tup _,_,h| .sl _ _ _,_,h| .own _ _ _ _ _ _,_,h| .ptr _ _ _ _,_,h| .rptr _ _,_,h| .mp _,_,h| .clo _ _ _,_,h| .nilf,_,h=>by cases h
theorem EJ : ∀ {l : List PV} {r : List PT}, JI l = some r -> RT.pv r (RT.zero r) = l
  | [], r, h => by injection h with h; subst h; rfl
  | v :: vs, r, h => by
    simp only [JI] at h
    split at h
    · rename_i p q h1 h2
      injection h with h; subst h
      have e1 := jK h1
      have e2 := EJ h2
      cases q with
      | nil =>
        have : vs = [] := by
          cases vs with
          | nil => rfl
          | cons a b => simp only [RT.pv] at e2; cases e2
        subst this
        show [p.pv p.zero] = _
        rw [e1]
      | cons p2 q2 =>
        show p.pv p.zero :: RT.pv (p2 :: q2) (RT.zero (p2 :: q2)) = _
        rw [e1, e2]
    · cases h
theorem aBo (hE:dF s e pe) (hS:cD s ps) {esz:Nat} {zero:nN} {l c:fH} (h:mM e s z (.mks esz zero l c) k ρ w=some y):gR s ps (bA pe ps z (.mks esz zero l c)) k ρ w y:=by
 simp only [mM] at h;generalize hl:bM e l=vl at h;cases vl with
 |int kl n=>
  generalize hc:bM e c=vc at h;cases vc with
  |int kc m=>
   obtain ⟨hnm,h1⟩:=hZ h;obtain ⟨r,hr,h2⟩:=bD h1;obtain ⟨he,h3⟩:=cE h2;obtain ⟨x,hx,hk⟩:=cS h3;have hnm:n=m:=by simpa using hnm
   subst hnm;have he:=Nat.eq_of_beq_eq_true he;subst he;unfold sZ at hx;split at hx
   · rename_i hc2
     injection hx with hx;subst hx;obtain ⟨a,rfl⟩:=Int.eq_ofNat_of_zero_le hc2.1;have h1:(Nat.ble a a&&Nat.ble a oY)=true:=by simp [oY];omega
     refine ⟨_,_,?_,hY.new hS (b:= .arr r (List.replicate (Int.ofNat a).toNat (RT.zero r))) (q:= .arr r.length (List.replicate a zero)) (v:= .own s.length true) (p:= .own s.length r.length 0 a a true) (rd:=[]) ?_ ?_,hk⟩
     · have e1:kD (.int kl (a:Int))=some a:=rfl
       have e2:kD (.int kc (a:Int))=some a:=rfl;simp only [bA,nA hE hl,nA hE hc,e1,e2];rw [if_pos h1,hS.len]
     · show _=_
       simp [EJ hr]
     · exact ⟨r.length,a,rfl,.inl ⟨r,_,rD,rfl,by simp⟩⟩
   · cases hx
  |_=>cases h
 |_=>cases h
def xN {α:Type}:List α->List (Nat×α)->List α
 |l,[]=>l
 |l,(i,a)::r=>xN (l.set i a) r
theorem JV {α : Type} : ∀ (q : List (Nat × α)) (l : List α) (i : Nat), (xN l q)[i]? = (l[i]?).map fun z => G4 i z q
  | [], l, i => by simp [xN, G4]
  | (j, a) :: q, l, i => by
    simp only [xN, G4]
    rw [JV q (l.set j a) i, List.getElem?_set]
    by_cases hji : j = i
    · subst hji
      cases hl : l[j]? with
      | none =>
        have : ¬ j < l.length := by intro h; rw [List.getElem?_eq_getElem h] at hl; cases hl
        simp [this]
      | some z =>
        have : j < l.length := (List.getElem?_eq_some_iff.1 hl).1
        simp [this]
    · have : Nat.beq j i = false := by
        cases hb : Nat.beq j i with
        | false => rfl
        | true => exact absurd (Nat.eq_of_beq_eq_true hb) hji
      simp [hji, this]
theorem P4 {α:Type} (f:Nat->α): ∀(n i j:Nat),(NP f i n)[j]? =if j<n then some (f (i+j)) else none
 |0,i,j=>by simp [NP]
 |n+1,i,0=>by simp [NP]
 |n+1,i,j+1=>by
  simp only [NP,List.getElem?_cons_succ];rw [P4 f n (i+1) j,show i+1+j=i+(j+1) by omega]
  by_cases h:j<n
  · simp [h]
  · simp [h]
theorem JW {α:Type} (z:α) (n:Nat) (q:List (Nat×α)):xN (List.replicate n z) q=NP (fun i=>G4 i z q) 0 n:=by
 apply List.ext_getElem?;intro i;rw [JV,P4]
 by_cases h:i<n
 · simp [h]
 · simp [h]
theorem JX (hE:dF s e pe) {r:List PT} {n:Nat}: ∀{parts:List (Nat×fH)} {q:List (Nat×RT r)} {l:List (RT r)},UL r e n parts=some q->l.length=n->
 qS (parts.map fun p=>(p.1,p.2.ev pe)) (l.map (RT.pv r)) r.length=some ((xN l q).map (RT.pv r))
 | [],q,l,h,hl=>by injection h with h;subst h;rfl
 |p::parts,q,l,h,hl=>by
  simp only [UL] at h;split at h
  · rename_i a q' h1 h2
    cases hb:Nat.blt p.1 n with
    |false=>rw [hb] at h;cases h
    |true=>
     rw [hb] at h;injection h with h;subst h;have hp:=((dD hE p.2).ofRow h1).1;simp only [List.map_cons,qS,hp,RT.pv_len,List.length_map,hl,hb,Nat.beq_refl,Bool.and_self,if_true,xN];rw [<- List.map_set];exact JX hE h2 (by simp [hl])
  · cases h
theorem W9 (hE:dF s e pe) (hS:cD s ps) {esz n:Nat} {zero:nN} {parts:List (Nat×fH)} (h:mM e s z (.mkrow esz n zero parts) k ρ w=some y):gR s ps (bA pe ps z (.mkrow esz n zero parts)) k ρ w y:=by
 simp only [mM] at h;obtain ⟨r,hr,h1⟩:=bD h;obtain ⟨he,h2⟩:=cE h1;obtain ⟨q,hq,hk⟩:=bD h2;have he:=Nat.eq_of_beq_eq_true he;subst he;have hf:=JX hE (l:=List.replicate n (RT.zero r)) hq (by simp)
 rw [JW] at hf;have hz:(List.replicate n (RT.zero r)).map (RT.pv r)=List.replicate n zero:=by simp [EJ hr]
 rw [hz] at hf;refine ⟨_,_,?_,hY.new hS (b:= .arr r (NP (fun i=>G4 i (RT.zero r) q) 0 n)) (q:= .arr r.length ((NP (fun i=>G4 i (RT.zero r) q) 0 n).map (RT.pv r))) (v:= .own s.length true) (p:= .own s.length r.length 0 n n true) (rd:=[]) rfl ?_,hk⟩
 · simp only [bA,hf,hS.len]
   rfl
 · refine ⟨r.length,n,rfl,.inl ⟨r,_,rD,rfl,?_⟩⟩
   rw [<- JW]
   have: ∀(q:List (Nat×RT r)) (l:List (RT r)),(xN l q).length=l.length:=by
    intro q
    induction q with
    |nil=>intro l;rfl
    |cons p q ih=>intro l;simp [xN,ih]
   rw [this];simp
theorem UY: ∀{cs:List SV} {q:List PV} {l:List Int},RL s cs q->UM cs=some l->q=l.map (.int .i64)
 | [],q,l,h,hi=>by injection hi with hi;subst hi;exact h
 |x::xs,q,l,h,hi=>by
  obtain ⟨p,q,rfl,h1,h2⟩:=h.cons_inv;simp only [UM] at hi;split at hi
  · rename_i n l' hx
    injection hi with hi;subst hi;rw [show p= .int .i64 n from h1,UY h2 hx];rfl
  · cases hi
theorem ZJ {v:SV} {p:PV} {n:Option Nat} {l:List Int} (h:R s v p) (hk:aA9 n v=some l):p=uJ l/\jN n (uJ l)=true/\(uJ l).storedPlain=some (uJ l).cells/\(uJ l).cells=l.map (.int .i64)/\(n=none->l.length=1)/\(∀m,n=some m->l.length=m/\m≠1):=by
 cases n with
 |none=>
  cases v with
  |int kk a=>
   cases kk with
   |i64=>
    injection hk with hk;subst hk;exact ⟨h,rfl,rfl,rfl,fun _=>rfl,fun m hm=>by cases hm⟩
   |_=>cases hk
  |_=>cases hk
 |some m=>
  cases v with
  |agg cs=>
   simp only [aA9] at hk;cases hc:(Nat.beq cs.length m&&!Nat.beq m 1) with
   |false=>rw [hc] at hk;cases hk
   |true=>
    rw [hc] at hk;simp only [cond_true] at hk;simp only [Bool.and_eq_true,Nat.beq_eq,Bool.not_eq_true'] at hc;obtain ⟨c1,c2⟩:=hc;obtain ⟨q,rfl,hq⟩:=h;have hq':=UY hq hk;have hlen:l.length=m:=by have:=hq.length;rw [hq'] at this;simp at this;omega
    have hm1:m≠1:=by intro e;subst e;cases c2
    have hkl:uJ l= .agg (l.map (.int .i64)):=by
     unfold uJ;split
     · simp at hlen;omega
     · rfl
    refine ⟨by rw [hkl,hq'],by rw [hkl];simp [jN,hlen],?_,by rw [hkl];rfl,(fun h=>(by cases h)),fun m' hm=>by injection hm with hm;subst hm;exact ⟨hlen,hm1⟩⟩
    rw [hkl];unfold PV.storedPlain;rw [if_pos];simp [PV.cells,PV.plain]
  |_=>cases hk
theorem xO: ∀(a b:List Int),a.length=b.length->cV (a.map (.int .i64)) (b.map (.int .i64))=some (a==b)
 | [],[],_=>rfl
 |x::a,y::b,h=>by
  have ih:=xO a b (by simpa using h)
  simp only [List.map_cons,cV,rT,P2,if_true];cases hxy:x==y with
  |true=>simp only [ih];simp [List.cons_beq_cons,hxy]
  |false=>simp [List.cons_beq_cons,hxy]
 | [],_::_,h=>by simp at h
 |_::_,[],h=>by simp at h
theorem F5 {n : Option Nat} {a : List Int} (ha : (uJ a).cells = a.map (.int .i64)) (hn : (n = none -> a.length = 1) /\ (∀ m, n = some m -> a.length = m /\ m ≠ 1)) : ∀ (l : List (List Int)) (i : Nat), (∀ r, eV n (uJ a) (l.map EF) i = some r -> (match r with | none => HS l a = false | some j => i <= j /\ HS l a = true /\ l[j - i]? = some a))
  | [], i, r, h => by
    simp only [List.map_nil, eV, Option.some.injEq] at h
    subst h; rfl
  | b :: l, i, r, h => by
    simp only [List.map_cons, EF, eV] at h
    split at h
    · rename_i hk
      have hb : (uJ b).cells = b.map (.int .i64) /\ a.length = b.length := by
        cases n with
        | none =>
          have hl := hn.1 rfl
          unfold uJ at hk ⊢
          split at hk
          · exact ⟨rfl, by simpa using hl⟩
          · cases hk
        | some m =>
          obtain ⟨hl, hm⟩ := hn.2 m rfl
          unfold uJ at hk ⊢
          split at hk
          · cases hk
          · simp only [jN, List.length_map, Nat.beq_eq] at hk
            exact ⟨rfl, by omega⟩
      rw [ha, hb.1, xO a b hb.2] at h
      cases hab : a == b with
      | true =>
        rw [hab] at h
        injection h with h; subst h
        have : a = b := by simpa using hab
        subst this
        exact ⟨Nat.le_refl _, by simp [HS], by simp⟩
      | false =>
        rw [hab] at h
        have := F5 ha hn l (i + 1) r h
        cases r with
        | none => simpa [HS, hab] using this
        | some j =>
          obtain ⟨h1, h2, h3⟩ := this
          refine ⟨by omega, by simp only [HS] at h2; simp [HS, h2], ?_⟩
          rw [show j - i = (j - (i + 1)) + 1 by omega]; simpa using h3
    · cases h
theorem EK {n:Option Nat} {a:List Int} (ha:(uJ a).cells=a.map (.int .i64)) (hn:(n=none->a.length=1)/\(∀m,n=some m->a.length=m/\m≠1)) {l:List (List Int)} (hl:l.all (fun b=>jN n (uJ b))=true): ∀i,∃r,eV n (uJ a) (l.map EF) i=some r:=by
 induction l with
 |nil=>intro i;exact ⟨none,rfl⟩
 |cons b l ih=>
  intro i;simp only [List.all_cons,Bool.and_eq_true] at hl;obtain ⟨r,hr⟩:=ih hl.2 (i+1);simp only [List.map_cons,EF,eV,hl.1,if_true];have hb:(uJ b).cells=b.map (.int .i64)/\a.length=b.length:=by
   have hk:=hl.1;cases n with
   |none=>
    have hl':=hn.1 rfl;unfold uJ at hk ⊢;split at hk
    · exact ⟨rfl,by simpa using hl'⟩
    · cases hk
   |some m=>
    obtain ⟨hl',hm⟩:=hn.2 m rfl;unfold uJ at hk ⊢;split at hk
    · cases hk
    · simp only [jN,List.length_map,Nat.beq_eq] at hk
      exact ⟨rfl,by omega⟩
  rw [ha,hb.1,xO a b hb.2];cases hab:a==b with
  |true=>exact ⟨some i,rfl⟩
  |false=>exact ⟨r,hr⟩
theorem G6 {n:Option Nat} {a:List Int} (hn:(n=none->a.length=1)/\(∀m,n=some m->a.length=m/\m≠1)) {l:List (List Int)} (hl: ∀b∈l,b.length=a.length):l.all (fun b=>jN n (uJ b))=true:=by
 rw [List.all_eq_true];intro b hb;have hlen:=hl b hb;cases n with
 |none=>
  have h1:=hn.1 rfl;rw [h1] at hlen
  match b,hlen with
  | [x],_=>rfl
 |some m=>
  obtain ⟨h1,h2⟩:=hn.2 m rfl;unfold uJ;split
  · rename_i x;simp at hlen;omega
  · simp [jN];omega
theorem EL {a:List Int} {l:List (List Int)} (h:nV a l=true): ∀b∈l,b.length=a.length:=by
 intro b hb;exact Nat.eq_of_beq_eq_true (List.all_eq_true.1 h b hb)
theorem PT.of_R {s:List SB} {p:PT} {v:SV} {q:PV} {a:p.T} (h:R s v q) (ho:p.of v=some a):q=p.pv a:=by
 cases p with
 |i k=>
  cases v with
  |int l n=>
   simp only [PT.of] at ho;cases hk:fT l k with
   |false=>rw [hk] at ho;cases ho
   |true=>
    rw [hk] at ho;obtain rfl:=fN.1 hk;injection ho with ho;subst ho;exact h
  |_=>cases ho
 |b=>
  cases v with
  |bool x=>
   injection ho with ho;subst ho;exact h
  |_=>cases ho
theorem JY {β:Type} (g:Int×β->PV×PV) (hg: ∀x,(g x).1= .int .i64 x.1) (k:Int): ∀(l:List (Int×β)) (i:Nat),
 (∃j x,eV none (.int .i64 k) (l.map g) i=some (some (i+j))/\l[j]? =some x/\(∀z,jI z l k=x.2)/\ ∀a,lE l k a=l.set j (k,a))\/
 (eV none (.int .i64 k) (l.map g) i=some none/\(∀z,jI z l k=z)/\ ∀a,lE l k a=l++[(k,a)])
 | [],i=> .inr ⟨rfl,fun _=>rfl,fun _=>rfl⟩
 |x::l,i=>by
  have hk:jN none (g x).1=true:=by rw [hg];rfl
  have he:cV (PV.int .i64 k).cells (g x).1.cells=some (k==x.1):=by
   rw [hg];show cV [.int .i64 k] [.int .i64 x.1]=_;simp only [cV,rT,fT,if_true];cases k==x.1<;>rfl
  have hf:eV none (.int .i64 k) ((x::l).map g) i=(match some (k==x.1) with
   |some true=>some (some i)
   |some false=>eV none (.int .i64 k) (l.map g) (i+1)
   |none=>none):=by
   rw [List.map_cons];show (if jN none (g x).1 then _ else none)=_
   rw [if_pos hk,he];cases k==x.1<;>rfl
  cases hb:k==x.1 with
  |true=>
   rw [hb] at hf;exact .inl ⟨0,x,hf,rfl,fun z=>by simp only [jI,hb,cond_true],fun a=>by simp only [lE,hb,cond_true,List.set_cons_zero]⟩
  |false=>
   rw [hb] at hf;rcases JY g hg k l (i+1) with ⟨j,y,h1,h2,h3,h4⟩|⟨h1,h2,h3⟩
   · refine .inl ⟨j+1,y,?_,by simpa using h2,fun z=>?_,fun a=>?_⟩
     · rw [hf];show eV none (.int .i64 k) (l.map g) (i+1)=_
       rw [h1,show i+1+j=i+(j+1) by omega]
     · simp only [jI,hb,cond_false,h3]
     · simp only [lE,hb,cond_false,h4,List.set_cons_succ]
   · exact .inr ⟨hf.trans h1,fun z=>by simp only [jI,hb,cond_false,h2],fun a=>by simp only [lE,hb,cond_false,h3,List.cons_append]⟩
theorem JZ (p:PT) (k:Int) (l:List (RT [.i .i64,p])):
 (∃(j:Nat) (x:RT [.i .i64,p]),eV none (.int .i64 k) (l.map (HT p)) 0=some (some j)/\l[j]? =some x/\(∀z,p.get z l k=x.2)/\ ∀a,p.put l k a=l.set j (k,a))\/
 (eV none (.int .i64 k) (l.map (HT p)) 0=some none/\(∀z,p.get z l k=z)/\ ∀a,p.put l k a=l++[(k,a)]):=by
 cases p with
 |i d=>
  rcases JY (β:=Int) (HT (.i d)) (fun _=>rfl) k l 0 with ⟨j,x,h1,h2,h3,h4⟩|h
  · exact .inl ⟨j,x,by rw [h1,Nat.zero_add],h2,h3,h4⟩
  · exact .inr h
 |b=>
  rcases JY (β:=Bool) (HT .b) (fun _=>rfl) k l 0 with ⟨j,x,h1,h2,h3,h4⟩|h
  · exact .inl ⟨j,x,by rw [h1,Nat.zero_add],h2,h3,h4⟩
  · exact .inr h
theorem PT.sv_R {s:List SB} (p:PT) (a:p.T):R s (p.sv a) (p.pv a):=by cases p<;>rfl
theorem PT.pv_plain (p:PT) (a:p.T):(p.pv a).storedPlain=some [p.pv a]:=by cases p<;>rfl
theorem S5 (hE:dF s e pe) (hS:cD s ps) {n:Option Nat} {zero:PV} {ok:Bool} {m q:fH} (h:mM e s z (.lookup n zero ok m q) k ρ w=some y):gR s ps (bA pe ps z (.lookup n zero ok m q)) k ρ w y:=by
 simp only [mM] at h;have hx:=dD hE m;generalize bM e m=v at h hx;cases v with
 |mp t=>
  simp only [bT] at h;generalize hst:s[t]? =b at h;cases b with
  |none=>cases h
  |some b=>
   cases b with
   |set l=>
    dsimp only at h;unfold UO at h;cases zero with
    |bool b=>
     cases b with
     |true=>cases h
     |false=>
      cases ok with
      |true=>cases h
      |false=>
       obtain ⟨a,ha,h1⟩:=bD h;obtain ⟨b,hb,hk⟩:=cS h1;obtain ⟨k1,k2,k3,k4,k5⟩:=ZJ (dD hE q) ha;unfold PR at hb;cases hlk:nV a l with
       |false=>rw [hlk] at hb;cases hb
       |true=>
        rw [hlk] at hb;injection hb with hb;subst hb;obtain ⟨r,hr⟩:=EK k4 k5 (G6 k5 (EL hlk)) 0;have hf:=F5 k4 k5 l 0 r hr;refine gR.rd hS hk ?_ rfl;show uK ps n (.bool false) false (m.ev pe) (q.ev pe)=_;rw [show m.ev pe=_ from hx,k1];simp only [uK,hS.set_ hst,k2,if_true,hr];cases r with
        |none=>simp only at hf;simp [hf]
        |some j=>
         obtain ⟨_,h2,h3⟩:=hf
         have:(l.map EF)[j]? =some (EF a):=by simp at h3;simp [h3]
         simp [this,h2,EF]
    |_=>cases h
   |tab p l=>
    dsimp only at h;unfold UP at h;cases n with
    |some _=>cases h
    |none=>
     cases ok with
     |true=>cases h
     |false=>
      have hq:=dD hE q;generalize bM e q=u at h hq;cases u with
      |int d a=>
       cases d with
       |i64=>
        obtain ⟨zv,hz,hk⟩:=bD h;have hzero:=PT.of_R (S3 s zero) hz;refine gR.rd hS hk ?_ (PT.sv_R p _);show uK ps none zero false (m.ev pe) (q.ev pe)=_;rw [show m.ev pe=_ from hx,show q.ev pe=_ from hq];rcases JZ p a l with ⟨j,x,h1,h2,h3,_⟩|⟨h1,h2,_⟩
        · have h5:(l.map (HT p))[j]? =some (HT p x):=by simp [h2]
          simp only [uK,hS.tab_ hst,jN,if_true,h1,h5,h3,HT,Bool.false_eq_true,if_false]
        · simp only [uK,hS.tab_ hst,jN,if_true,h1,h2,hzero,Bool.false_eq_true,if_false]
       |_=>cases h
      |_=>cases h
   |_=>cases h
 |_=>cases h
theorem ZK (hE:dF s e pe) (hS:cD s ps) {n:Option Nat} {m q x:fH} (h:mM e s z (.mapu n m q x) k ρ w=some y):gR s ps (bA pe ps z (.mapu n m q x)) k ρ w y:=by
 simp only [mM] at h;have hx:=dD hE m;generalize bM e m=v at h hx;cases v with
 |mp t=>
  simp only [bT] at h;generalize hst:s[t]? =b at h;cases b with
  |none=>cases h
  |some b=>
   cases b with
   |set l=>
    obtain ⟨hz,h0⟩:=sS h;unfold YX at h0;have hv:=dD hE x;generalize bM e x=u at h0 hv;cases u with
    |bool b=>
     cases b with
     |false=>cases h0
     |true=>
      obtain ⟨a,ha,h1⟩:=bD h0;obtain ⟨b,hb,hk⟩:=cS h1;obtain ⟨k1,k2,k3,k4,k5⟩:=ZJ (dD hE q) ha;unfold PS at hb;cases hlk:nV a l with
      |false=>rw [hlk] at hb;cases hb
      |true=>
       rw [hlk] at hb;injection hb with hb;subst hb;obtain ⟨r,hr⟩:=EK k4 k5 (G6 k5 (EL hlk)) 0;have hf:=F5 k4 k5 l 0 r hr;refine ⟨_,_,?_,hY.put0 hS (b:= .set (SS l a)) (q:= .map ((SS l a).map EF)) (rd:=[]) hst trivial rfl,hk⟩;show GX ps z n (m.ev pe) (q.ev pe) (x.ev pe)=_;rw [show m.ev pe=_ from hx,k1,show x.ev pe= .bool true from hv]
       have p2:(PV.bool true).storedPlain=some [.bool true]:=rfl;simp only [GX,hS.set_ hst,k2,hz,Bool.not_false,Bool.and_self,if_true,k3,p2,hr];cases r with
       |none=>simp only at hf;simp [SS,hf,EF]
       |some j=>
        obtain ⟨_,h2,h3⟩:=hf;have h5:l[j]? =some a:=by simpa using h3
        have:(l.map EF).set j (uJ a,.bool true)=l.map EF:=by
         apply List.ext_getElem?;intro i;rw [List.getElem?_set];split
         · rename_i hij
           subst hij;have hlt:=(List.getElem?_eq_some_iff.1 h5).1;have h6:l[j]=a:=(List.getElem?_eq_some_iff.1 h5).2;simp [hlt,h6,EF]
         · rfl
        simp [SS,h2,this]
    |_=>cases h0
   |tab p l=>
    obtain ⟨hz,h0⟩:=sS h;unfold YY at h0;cases n with
    |some _=>cases h0
    |none=>
     have hq:=dD hE q;generalize bM e q=u at h0 hq;cases u with
     |int d a=>
      cases d with
      |i64=>
       obtain ⟨xv,hxv,hk⟩:=bD h0;have hval:=PT.of_R (dD hE x) hxv;refine ⟨_,_,?_,hY.put0 hS (b:= .tab p (p.put l a xv)) (q:= .map ((p.put l a xv).map (HT p))) (rd:=[]) hst trivial rfl,hk⟩;show GX ps z none (m.ev pe) (q.ev pe) (x.ev pe)=_;rw [show m.ev pe=_ from hx,show q.ev pe=_ from hq,hval];have p1:(PV.int .i64 a).storedPlain=some [.int .i64 a]:=rfl
       rcases JZ p a l with ⟨j,x,h1,_,_,h3⟩|⟨h1,_,h3⟩
       · simp only [GX,hS.tab_ hst,jN,hz,Bool.not_false,Bool.and_self,if_true,p1,PT.pv_plain,h1,h3,List.map_set,HT]
       · simp only [GX,hS.tab_ hst,jN,hz,Bool.not_false,Bool.and_self,if_true,p1,PT.pv_plain,h1,h3,List.map_append,List.map_cons,List.map_nil,HT]
      |_=>cases h0
     |_=>cases h0
   |_=>cases h
 |_=>cases h
theorem CB.fr' {s s':List SB} {bad:List Nat} {t e:Nat} (h:CB s t e) (hf:Fr bad s s'):CB s' t e:=by
 rcases h with ⟨r,l,h1,h2⟩|h1
 · rcases hf t _ h1 with ⟨l',k1,_,_⟩|k1
   · exact .inl ⟨r,l',k1,h2⟩
   · exact .inr k1
 · exact .inr (hf t _ h1)
theorem DD {α:Type} {l r:List α} (h:bQ l=some r):r=l/\l.length<=1048576:=by
 unfold bQ at h;split at h
 · injection h with h;exact ⟨h.symm,by assumption⟩
 · cases h
theorem zZ {α:Type} {l m r:List α} (h:aY l m=some r):r=l++m/\l.length+m.length<=1048576:=by
 unfold aY at h;split at h
 · injection h with h;exact ⟨h.symm,by assumption⟩
 · cases h
theorem uS: ∀(m l:List nN) (n:Nat),n+m.length<=l.length->lD n m l=mL l n m
 | [],l,n,h=>by simp [lD,mL]
 |a::m,l,n,h=>by
  simp only [List.length_cons] at h;rw [lD,uS m (l.set n a) (n+1) (by simp;omega)]
  unfold mL;rw [List.take_set,List.drop_set];have hn:n<l.length:=by omega
  have h1: ¬(n+1+m.length<=n):=by omega
  rw [if_pos (by omega)]
  have:(l.take (n+1)).set n a=l.take n++[a]:=by
   rw [List.take_succ_eq_append_getElem hn,List.set_append_right _ _ (by simp;omega)]
   simp [Nat.min_eq_left (Nat.le_of_lt hn)]
  rw [this];simp only [List.append_assoc,List.cons_append,List.nil_append,List.length_cons];rw [show n+1+m.length=n+(m.length+1) by omega]
theorem J0 {α β:Type} (f:α->β) (l m:List α) (n:Nat):(mL l n m).map f=mL (l.map f) n (m.map f):=by
 simp [mL,List.map_take,List.map_drop]
theorem EM {α:Type} (l m:List α) (n:Nat) (h:n+m.length<=l.length):(mL l n m).length=l.length:=by
 simp [mL];omega
theorem S6 (hE:dF s e pe) (hS:cD s ps) {esz:Nat} {x yy:fH} (h:mM e s z (.append esz x yy) k ρ w=some y):gR s ps (bA pe ps z (.append esz x yy)) k ρ w y:=by
 simp only [mM] at h;have hx:=dD hE x;have hyv:=dD hE yy;unfold UN at h;generalize bM e yy=vy at h hyv;cases hc:B8 s vy with
 |none=>rw [hc] at h;cases h
 |some cc=>
  obtain ⟨q,m⟩:=cc;rw [hc] at h;dsimp only at h;obtain ⟨he,h⟩:=cE h;have he:=Nat.eq_of_beq_eq_true he;obtain ⟨hro,htk⟩:=UW hS hyv hc;rw [he] at hro;have pe_app:bA pe ps z (.append esz x yy)=iO ps z esz (x.ev pe) (yy.ev pe):=rfl;generalize bM e x=v at h hx;cases v with
  |nil e' c=>
   dsimp only at h;obtain ⟨hcl,h⟩:=cE h;obtain ⟨m',hm',hk⟩:=cS h;obtain ⟨rfl,hle⟩:=DD hm';refine ⟨_,_,?_,hY.new hS (b:= .arr q m') (q:= .arr esz (m'.map (RT.pv q))) (v:= .own s.length false) (p:= .own s.length esz 0 m'.length m'.length false) (rd:=xJ vy) (by rw [<- he];rfl) ⟨esz,m'.length,rfl,.inl ⟨q,m',rD,he.symm,rfl⟩⟩,hk⟩
   rw [pe_app];have hcl':c=true:=hcl;subst hcl';rw [show x.ev pe= .sl e' true [] from hx];unfold iO;rw [hro];cases m' with
   |nil=>simp [hS.len,htk]
   |cons a m'=>
    have h2:Nat.ble ((a::m').length) oY=true:=by simp [oY] at hle ⊢;omega
    simp only [List.length_cons] at h2;simp [hS.len,htk,h2]
  |own t ex=>
   dsimp only at h;simp only [bT] at h;generalize hst:s[t]? =b at h;cases b with
   |none=>cases h
   |some b=>
    cases b with
    |arr r l=>
     dsimp only at h;cases hca:yX q r m with
     |none=>rw [hca] at h;cases h
     |some m2=>
      rw [hca] at h;dsimp only at h;obtain ⟨rfl,hmp,hml⟩:=EE hca;obtain ⟨e',n',hx,hat⟩:=hx;obtain ⟨rfl,rfl⟩:=hat.inv hst;rw [<- hmp] at hro;have harr:=hS.arr hst;cases ex with
      |true=>
       dsimp only at h;rcases eF h with ⟨hl,h⟩|⟨hl,h⟩
       · obtain ⟨m',hm',hk⟩:=cS h
         obtain ⟨rfl,hle⟩:=DD hm';have hl:l=[]:=by simpa using hl
         subst hl;refine ⟨_,_,?_,hY.new hS (b:= .arr q m') (q:= .arr q.length (m'.map (RT.pv q))) (v:= .own s.length false) (p:= .own s.length q.length 0 m'.length m'.length false) (rd:=t::xJ vy) rfl ⟨q.length,m'.length,rfl,.inl ⟨q,m',rD,rfl,rfl⟩⟩,hk⟩;rw [pe_app,hx];unfold iO;rw [hro];subst he;cases m' with
         |nil=>simp [hS.len,htk]
         |cons a m'=>
          have h2:Nat.ble ((a::m').length) oY=true:=by simp [oY] at hle ⊢;omega
          simp only [List.length_cons] at h2;simp [hS.len,htk,h2,harr]
       · have hl:l≠[]:=by intro e;subst e;cases hl
         have hl0:l.length≠0:=by intro e;exact hl (List.length_eq_zero_iff.1 e)
         have hb0:Nat.beq l.length 0=false:=by
          cases hb:Nat.beq l.length 0 with
          |false=>rfl
          |true=>exact absurd (Nat.eq_of_beq_eq_true hb) hl0
         rcases eF h with ⟨hm,h⟩|⟨hm,h⟩
         · have hm:m2=[]:=by simpa using hm
           subst hm;refine gR.rd hS h ?_ ⟨_,_,rfl,hat⟩;rw [pe_app,hx];unfold iO;rw [hro];simp [hb0,htk]
         · obtain ⟨l',hl',hk⟩:=cS h
           obtain ⟨rfl,hle⟩:=zZ hl';refine ⟨_,_,?_,hY.new hS (b:= .arr q (l++m2)) (q:= .arr q.length ((l++m2).map (RT.pv q))) (v:= .own s.length false) (p:= .own s.length q.length 0 (l++m2).length (l++m2).length false) (rd:=t::xJ vy) rfl ⟨q.length,(l++m2).length,rfl,.inl ⟨q,l++m2,rD,rfl,rfl⟩⟩,hk⟩;rw [pe_app,hx];unfold iO;rw [hro];subst he;cases m2 with
           |nil=>cases hm
           |cons a m2=>
            have h2:Nat.ble (l.length+(a::m2).length) oY=true:=by simp [oY] at hle ⊢;omega
            have h3:Nat.ble (l.length+(m2.length+1)) l.length=false:=by
             cases hb:Nat.ble (l.length+(m2.length+1)) l.length with
             |false=>rfl
             |true=>have:=Nat.le_of_ble_eq_true hb;omega
            simp only [List.length_cons] at h2;simp [hS.len,htk,h2,h3,harr,List.take_of_length_le]
      |false=>
       dsimp only at h;rcases eF h with ⟨hm,h⟩|⟨hm,h⟩
       · have hm:m2=[]:=by simpa using hm
         subst hm;refine gR.rd hS h ?_ ⟨_,_,rfl,hat⟩;rw [pe_app,hx];unfold iO;rw [hro];simp [htk]
       · obtain ⟨hz,h⟩:=sS h
         obtain ⟨l',hl',hk⟩:=cS h;obtain ⟨rfl,hle⟩:=zZ hl';have hlen:(F3 [t] (s.set t .dead)).length=s.length:=by rw [A9];simp
         refine ⟨_,_,?_,hY.put hS (b:= .dead) (q:= .dead) (l:=[.arr q (l++m2)]) (ql:=[.arr q.length ((l++m2).map (RT.pv q))]) (v:= .own s.length false) (p:= .own s.length q.length 0 (l++m2).length (l++m2).length false) (rd:=xJ vy) hst (.inr rfl) rfl rfl
          (fun j b hj=>by
           cases j with
           |zero=>simp at hj;subst hj;exact ⟨_,rfl,rfl⟩
           |succ j=>simp at hj)
          ⟨q.length,(l++m2).length,rfl,.inl ⟨q,l++m2,by rw [<- hlen];exact rD,rfl,rfl⟩⟩,hk⟩
         rw [pe_app,hx];unfold iO;rw [hro];subst he;cases m2 with
         |nil=>cases hm
         |cons a m2=>
          have h2:Nat.ble (l.length+(a::m2).length) oY=true:=by simp [oY] at hle ⊢;omega
          have h3:Nat.ble (l.length+(m2.length+1)) l.length=false:=by
           cases hb:Nat.ble (l.length+(m2.length+1)) l.length with
           |false=>rfl
           |true=>have:=Nat.le_of_ble_eq_true hb;omega
          simp only [List.length_cons] at h2;simp [hS.len,htk,h2,h3,harr,hz,List.take_of_length_le]
    |_=>cases h
  |pre t len cap ex=>
   dsimp only at h;simp only [bT] at h;generalize hst:s[t]? =b at h;cases b with
   |none=>cases h
   |some b=>
    cases b with
    |arr r l=>
     dsimp only at h;cases hca:yX q r m with
     |none=>rw [hca] at h;cases h
     |some m2=>
      rw [hca] at h;dsimp only at h;obtain ⟨rfl,hmp,hml⟩:=EE hca;obtain ⟨e',hx,hat⟩:=hx
      have:=hat.inv hst
      subst this;rw [<- hmp] at hro;have harr:=hS.arr hst;obtain ⟨hex,h⟩:=sS h;subst hex;rcases eF h with ⟨hm,h⟩|⟨hm,h⟩
      · have hm:m2=[]:=by simpa using hm
        subst hm;refine gR.rd hS h ?_ ⟨_,rfl,hat⟩;rw [pe_app,hx];unfold iO;rw [hro];simp [htk]
      · rcases eF h with ⟨c1,h⟩|⟨c1,h⟩
        · obtain ⟨hc2,hk⟩:=hZ h
          simp only [Bool.and_eq_true,Bool.not_eq_true'] at hc2;obtain ⟨c2,c3⟩:=hc2;have c2':=Nat.le_of_ble_eq_true c2
          refine ⟨_,_,?_,hY.put hS (b:= .arr q (mL l len m2)) (q:= .arr q.length ((mL l len m2).map (RT.pv q))) (l:=[]) (ql:=[]) (v:= .pre t (len+m2.length) cap false) (p:= .own t q.length 0 (len+m2.length) cap false) (rd:=xJ vy) hst (.inl ⟨_,rfl,EM _ _ _ c2'⟩) rfl rfl
           (fun j b hj=>by simp at hj) ⟨q.length,rfl,?_⟩,hk⟩
          · rw [pe_app,hx]
            unfold iO;rw [hro];subst he;have hsr:lD (0+len) (m2.map (RT.pv q)) (l.map (RT.pv q))=(mL l len m2).map (RT.pv q):=by
             rw [uS _ _ _ (by simp;omega),J0,Nat.zero_add]
            cases m2 with
            |nil=>cases hm
            |cons a m2=>
             simp only [List.length_cons] at c1;simp only [List.map_cons] at hsr ⊢;simp only [harr,Nat.beq_refl,Bool.not_true,Bool.false_eq_true,if_false,List.length_cons,List.length_map,c1,if_true,c3,hsr,htk]
          · have:=CB.fr' (s:=s) (s':=F3 [t] (s.set t (.arr q (mL l len m2)))++[]) hat ((Fr.dg (ts:=[t]) (Fr.set hst (.inl ⟨_,rfl,EM _ _ _ c2'⟩))).trans (Fr.app [t] _ []))
            exact this
        · obtain ⟨hz0,h⟩:=sS h
          have hz:has z t=false:=by
           cases hh:has z t with
           |false=>rfl
           |true=>rw [hh] at hz0;cases hz0
          obtain ⟨l',hl',h⟩:=cS h;obtain ⟨hll,hk⟩:=hZ h;obtain ⟨hl'e,hle⟩:=zZ hl';subst hl'e;have hll':=Nat.le_of_ble_eq_true hll;have htl:(l.take len).length=len:=by rw [List.length_take];omega
          rw [htl] at hle;have hlen:(F3 [t] (s.set t .dead)).length=s.length:=by rw [A9];simp
          have hal:(l.take len++m2).length=len+m2.length:=by rw [List.length_append,htl]
          refine ⟨_,_,?_,hY.put hS (b:= .dead) (q:= .dead) (l:=[.arr q (l.take len++m2)]) (ql:=[.arr q.length ((l.take len++m2).map (RT.pv q))]) (v:= .own s.length false) (p:= .own s.length q.length 0 (l.take len++m2).length (l.take len++m2).length false) (rd:=xJ vy) hst (.inr rfl) rfl rfl
           (fun j b hj=>by
            cases j with
            |zero=>simp at hj;subst hj;exact ⟨_,rfl,rfl⟩
            |succ j=>simp at hj)
           ⟨q.length,(l.take len++m2).length,rfl,.inl ⟨q,l.take len++m2,by rw [<- hlen];exact rD,rfl,rfl⟩⟩,hk⟩
          rw [pe_app,hx];unfold iO;rw [hro];subst he;cases m2 with
          |nil=>cases hm
          |cons a m2=>
           have h2:Nat.ble (len+(m2.length+1)) oY=true:=by simp [oY] at hle ⊢;omega
           simp only [List.length_cons] at c1 hal;simp only [List.map_cons,List.length_cons,List.length_map,harr,Nat.beq_refl,Bool.not_true,Bool.false_eq_true,if_false,c1,h2,hz,hS.len,htk,hal,List.drop_zero,List.map_append,List.map_take]
    |_=>cases h
  |_=>cases h
end
end Go.Vm
/- Operation by operation: all of them. -/
namespace Go.Vm
section
variable {R' ρ : Type} {w : R' -> ρ} {y : ρ} {s : List SB} {ps : cB} {e : SE} {pe : uD} {z : List Nat} {k : gO -> gX R'}
theorem XA (hE:dF s e pe) (hS:cD s ps) {esz:Nat} {zero:nN} {x:fH} (h:mM e s z (.clear esz zero x) k ρ w=some y):gR s ps (bA pe ps z (.clear esz zero x)) k ρ w y:=by
 simp only [mM] at h;have hx:=dD hE x;unfold YW at h;generalize bM e x=v at h hx;cases v with
 |part t off len cap ex=>
  simp only [bT] at h;generalize hst:s[t]? =b at h;cases b with
  |none=>cases h
  |some b=>
   cases b with
   |arr r l=>
    dsimp only at h;cases hq:JI zero with
    |none=>rw [hq] at h;cases h
    |some q=>
     rw [hq] at h;dsimp only at h;obtain ⟨hc,h1⟩:=cE h;simp only [Bool.and_eq_true] at hc;obtain ⟨hqr,he⟩:=hc;have hqr:=wH hqr;have he:=Nat.eq_of_beq_eq_true he;obtain ⟨e',hx,hat⟩:=hx
     have:=hat.inv hst
     subst this;subst hqr;subst he;rcases eF h1 with ⟨hl,hk⟩|⟨hl,hk⟩
     · have hl:=Nat.eq_of_beq_eq_true hl
       subst hl;exact gR.val hS hk (by simp only [bA,hx]) rfl
     · obtain ⟨hc2,hk⟩:=hZ hk
       simp only [Bool.and_eq_true,Bool.not_eq_true'] at hc2;obtain ⟨c1,c2⟩:=hc2;have c1':=Nat.le_of_ble_eq_true c1;have hlen:=EM l (List.replicate len (RT.zero q)) off (by simpa using c1')
       refine ⟨_,_,?_,hY.put0 hS (b:= .arr q (mL l off (List.replicate len (RT.zero q)))) (q:= .arr q.length ((mL l off (List.replicate len (RT.zero q))).map (RT.pv q))) (rd:=[]) hst (.inl ⟨_,rfl,hlen⟩) rfl,hk⟩;cases len with
       |zero=>cases hl
       |succ len=>
        have hsr:lD off (List.replicate (len+1) zero) (l.map (RT.pv q))=(mL l off (List.replicate (len+1) (RT.zero q))).map (RT.pv q):=by
         rw [J0,uS _ _ _ (by simpa using c1')]
         simp [EJ hq]
        simp only [bA,hx,hS.arr hst,Nat.beq_refl,c2,Bool.not_false,Bool.and_self,if_true,hsr]
   |_=>cases h
 |_=>cases h
theorem DE (hS:cD s ps) {t off len cap:Nat} {ex:Bool} {r:List PT} {l:List (RT r)} {x yy:fH} {vy:SV} (hst:s[t]? =some (.arr r l)) (hx:x.ev pe= .own t r.length off len cap ex) (hyv:R s vy (yy.ev pe))
 (h:JJ s z t r l off len vy k ρ w=some y):gR s ps (bA pe ps z (.copy r.length x yy)) k ρ w y:=by
 unfold JJ at h;cases hc:B8 s vy with
 |none=>rw [hc] at h;cases h
 |some cc=>
  obtain ⟨q,m⟩:=cc;rw [hc] at h;dsimp only at h;cases hca:yX q r m with
  |none=>rw [hca] at h;cases h
  |some m2=>
   rw [hca] at h;dsimp only at h;obtain ⟨hqr,hmp,hml⟩:=EE hca;subst hqr;obtain ⟨hro,htk⟩:=UW hS hyv hc;rw [<- hmp] at hro;have htake:(m2.map (RT.pv q)).take len=(m2.take len).map (RT.pv q):=by rw [List.map_take]
   generalize m2.take len=mm at h htake;rcases eF h with ⟨hm,hk⟩|⟨hm,hk⟩
   · have hm:mm=[]:=by simpa using hm
     subst hm;refine gR.rd hS hk ?_ rfl;simp only [bA,hro,hx,htake,List.map_nil,htk]
   · obtain ⟨hc2,hk⟩:=hZ hk
     simp only [Bool.and_eq_true,Bool.not_eq_true'] at hc2;obtain ⟨c1,c2⟩:=hc2;have c1':=Nat.le_of_ble_eq_true c1;have hlen:=EM l mm off c1'
     refine ⟨_,_,?_,hY.put hS (b:= .arr q (mL l off mm)) (q:= .arr q.length ((mL l off mm).map (RT.pv q))) (l:=[]) (ql:=[]) (v:= .int .i64 (.ofNat mm.length)) (p:= .int .i64 (.ofNat mm.length)) (rd:=xJ vy) hst (.inl ⟨_,rfl,hlen⟩) rfl rfl (fun j b hj=>by simp at hj) rfl,hk⟩
     have hsr:lD off (mm.map (RT.pv q)) (l.map (RT.pv q))=(mL l off mm).map (RT.pv q):=by
      rw [J0,uS _ _ _ (by simpa using c1')]
     cases mm with
     |nil=>cases hm
     |cons a mm=>
      simp only [List.map_cons] at hsr htake;simp only [bA,hro,hx,htake,hS.arr hst,Nat.beq_refl,c2,Bool.not_false,Bool.and_self,if_true,hsr,htk,List.length_map,List.length_cons]
theorem ZL (hE:dF s e pe) (hS:cD s ps) {esz:Nat} {x yy:fH} (h:mM e s z (.copy esz x yy) k ρ w=some y):gR s ps (bA pe ps z (.copy esz x yy)) k ρ w y:=by
 simp only [mM] at h;have hx:=dD hE x;have hyv:=dD hE yy;unfold aG7 at h;generalize bM e yy=vy at h hyv;generalize bM e x=v at h hx;cases v with
 |own t ex=>
  simp only [bT] at h;generalize hst:s[t]? =b at h;cases b with
  |none=>cases h
  |some b=>
   cases b with
   |arr r l=>
    obtain ⟨he,hk⟩:=cE h;have he:=Nat.eq_of_beq_eq_true he;subst he;obtain ⟨e',n',hx,hat⟩:=hx;obtain ⟨rfl,rfl⟩:=hat.inv hst;exact DE hS hst hx hyv hk
   |_=>cases h
 |pre t len cap ex=>
  simp only [bT] at h;generalize hst:s[t]? =b at h;cases b with
  |none=>cases h
  |some b=>
   cases b with
   |arr r l=>
    obtain ⟨he,hk⟩:=cE h;have he:=Nat.eq_of_beq_eq_true he;subst he;obtain ⟨e',hx,hat⟩:=hx
    have:=hat.inv hst
    subst this;exact DE hS hst hx hyv hk
   |_=>cases h
 |part t off len cap ex=>
  simp only [bT] at h;generalize hst:s[t]? =b at h;cases b with
  |none=>cases h
  |some b=>
   cases b with
   |arr r l=>
    obtain ⟨he,hk⟩:=cE h;have he:=Nat.eq_of_beq_eq_true he;subst he;obtain ⟨e',hx,hat⟩:=hx
    have:=hat.inv hst
    subst this;exact DE hS hst hx hyv hk
   |_=>cases h
 |_=>cases h
theorem aBp (hE:dF s e pe) (hS:cD s ps) {op:lX} (h:mM e s z op k ρ w=some y):gR s ps (bA pe ps z op) k ρ w y:=by
 cases op with
 |mov x=>exact gR.val hS h rfl (dD hE x)
 |pick c a b=>exact ZF hE hS h
 |bin op a b=>exact aBe hE hS h
 |binb n a b=>exact ZA hE hS h
 |eqc n g a b=>exact aBf hE hS h
 |un op a=>exact aHz hE hS h
 |conv a x=>exact ZC hE hS h
 |len x=>exact aBg hE hS h
 |lenc n=>exact gR.val hS h rfl rfl
 |box x=>exact aBh hE hS h
 |alloc c=>exact W6 hS h
 |build z p=>exact W5 hE hS h
 |mkrow a b c d=>exact W9 hE hS h
 |load a p=>exact ZI hE hS h
 |store a p x=>exact W8 hE hS h
 |nilc x=>exact ZD hE hS h
 |fadr o x=>exact ZE hE hS h
 |fld a o x=>exact aBi hE hS h
 |iadr a x i=>exact ZG hE hS h
 |iadra n a x i=>exact W7 hE hS h
 |idx n a g x i=>exact aBm hE hS h
 |sidx x i=>exact ZH hE hS h
 |slc a x l h' m=>exact aBn hE hS h
 |mks a z l c=>exact aBo hE hS h
 |mkf f a b=>exact aBk hE hS h
 |mkm m=>exact aBl hS h
 |lookup n z o m q=>exact S5 hE hS h
 |mapu n m q x=>exact ZK hE hS h
 |ext i x=>exact aBj hE hS h
 |append a x b=>exact S6 hE hS h
 |copy a x b=>exact ZL hE hS h
 |clear a z x=>exact XA hE hS h
 |mm m x xs=>exact aHA hE hS h
 |call m f a=>cases h
 |callv x a=>cases h
 |bad=>cases h
mutual
theorem aLP {bx:Nat->Option (List SV)} {pbx:Nat->Option (List PV)} (hS:cD s ps) (hb: ∀t l,bx t=some l-> ∃q,pbx t=some q/\pvL l=some q): ∀{v u:SV} {p:PV},R s v p->L7 s bx v=some u-> ∃q,FJ ps pbx p=some q/\tB u=some q
 | .int k n,u,p,h,hx=>by injection hx with hx;subst hx;rw [show p=_ from h];exact ⟨_,rfl,rfl⟩
 | .bool b,u,p,h,hx=>by injection hx with hx;subst hx;rw [show p=_ from h];exact ⟨_,rfl,rfl⟩
 | .str x,u,p,h,hx=>by injection hx with hx;subst hx;rw [show p=_ from h];exact ⟨_,rfl,rfl⟩
 | .nilf,u,p,h,hx=>by injection hx with hx;subst hx;rw [show p=_ from h];exact ⟨_,rfl,rfl⟩
 | .agg cs,u,p,h,hx=>by
  obtain ⟨q,rfl,h⟩:=h;simp only [L7] at hx;split at hx
  · rename_i l hl
    injection hx with hx;subst hx;obtain ⟨q',h1,h2⟩:=exVL_R hS hb h hl;exact ⟨.agg q',by simp only [FJ,h1];rfl,by simp only [tB,h2]⟩
  · cases hx
 | .tup cs,u,p,h,hx=>by
  obtain ⟨q,rfl,h⟩:=h;simp only [L7] at hx;split at hx
  · rename_i l hl
    injection hx with hx;subst hx;obtain ⟨q',h1,h2⟩:=exVL_R hS hb h hl;exact ⟨.tup q',by simp only [FJ,h1];rfl,by simp only [tB,h2]⟩
  · cases hx
 | .sl r l,u,p,h,hx=>by injection hx with hx;subst hx;rw [show p=_ from h];exact ⟨_,rfl,rfl⟩
 | .nil e c,u,p,h,hx=>by injection hx with hx;subst hx;rw [show p=_ from h];exact ⟨_,rfl,rfl⟩
 | .own t ex,u,p,h,hx=>by
  simp only [L7,bT] at hx;split at hx
  · rename_i r l hst
    injection hx with hx;subst hx;obtain ⟨e,n,rfl,hat⟩:=h;obtain ⟨rfl,rfl⟩:=hat.inv hst;refine ⟨.sl r.length false (l.map (RT.pv r)),?_,rfl⟩;simp only [FJ,hS.arr hst,List.drop_zero];rw [List.take_of_length_le (by simp)]
  · cases hx
 | .pre t len cap ex,u,p,h,hx=>by
  simp only [L7,bT] at hx;split at hx
  · rename_i r l hst
    injection hx with hx;subst hx;obtain ⟨e,rfl,hat⟩:=h
    have:=hat.inv hst
    subst this;refine ⟨.sl r.length false ((l.take len).map (RT.pv r)),?_,rfl⟩;simp only [FJ,hS.arr hst,List.drop_zero,List.map_take]
  · cases hx
 | .part t off len cap ex,u,p,h,hx=>by
  simp only [L7,bT] at hx;split at hx
  · rename_i r l hst
    injection hx with hx;subst hx;obtain ⟨e,rfl,hat⟩:=h
    have:=hat.inv hst
    subst this;refine ⟨.sl r.length false (((l.drop off).take len).map (RT.pv r)),?_,rfl⟩;simp only [FJ,hS.arr hst,List.map_take,List.map_drop]
  · cases hx
 | .pa t r i a off,u,p,h,hx=>by
  simp only [L7,bT] at hx;split at hx
  · rename_i q l hst
    injection hx with hx;subst hx;obtain ⟨rfl,hat⟩:=h;obtain ⟨rfl,hg⟩:=hat.inv hst;obtain ⟨m,rfl,hm⟩:=nH hg;refine ⟨.rptr (RT.pv r a) off,?_,by simp only [tB,RT.pv_sv]⟩
    have hm':(l.map (RT.pv r))[m]? =some (RT.pv r a):=by simp [hm]
    have e1:(Int.ofNat m).toNat=m:=rfl;simp only [FJ,hS.arr hst,e1,hm'];rfl
  · cases hx
 | .bp t n off,u,p,h,hx=>by
  simp only [L7,bT] at hx;split at hx
  · rename_i cs hst
    split at hx
    · rename_i l hl
      injection hx with hx;subst hx;rw [show p=_ from h];obtain ⟨q,h1,h2⟩:=hb t l hl;obtain ⟨c,h3,_⟩:=hS.box hst;refine ⟨.rptr q off,?_,by simp only [tB,h2]⟩
      simp only [FJ,h3,Nat.beq_refl,if_true,h1];rfl
    · cases hx
  · cases hx
 | .rptr cs off,u,p,h,hx=>by
  obtain ⟨q,rfl,h⟩:=h;simp only [L7] at hx;split at hx
  · rename_i l hl
    injection hx with hx;subst hx;obtain ⟨q',h1,h2⟩:=exVL_R hS hb h hl;exact ⟨.rptr q' off,by simp only [FJ,h1];rfl,by simp only [tB,h2]⟩
  · cases hx
 | .clo f a b,u,p,h,hx=>by
  obtain ⟨pa,pb,rfl,h1,h2⟩:=h;simp only [L7] at hx;split at hx
  · rename_i x y' h3 h4
    injection hx with hx;subst hx;obtain ⟨qa,h5,h6⟩:=exVL_R hS hb h1 h3;obtain ⟨qb,h7,h8⟩:=exVL_R hS hb h2 h4;exact ⟨.clo f qa qb,by simp only [FJ,h5,h7],by simp only [tB,h6,h8]⟩
  · cases hx
 | .junk,_,_,_,hx| .undef,_,_,_,hx| .nul,_,_,_,hx| .pb _ _ _,_,_,_,hx| .mp _,_,_,_,hx=>by cases hx
theorem exVL_R {bx:Nat->Option (List SV)} {pbx:Nat->Option (List PV)} (hS:cD s ps) (hb: ∀t l,bx t=some l-> ∃q,pbx t=some q/\pvL l=some q): ∀{v u:List SV} {p:List PV},RL s v p->exVL s bx v=some u-> ∃q,exL ps pbx p=some q/\pvL u=some q
 | [],u,p,h,hx=>by injection hx with hx;subst hx;rw [show p=_ from h];exact ⟨_,rfl,rfl⟩
 |x::xs,u,p,h,hx=>by
  obtain ⟨q,qs,rfl,h1,h2⟩:=h.cons_inv;simp only [exVL] at hx;split at hx
  · rename_i y' ys h3 h4
    injection hx with hx;subst hx;obtain ⟨a,h5,h6⟩:=aLP hS hb h1 h3;obtain ⟨as,h7,h8⟩:=exVL_R hS hb h2 h4;exact ⟨a::as,by simp only [exL,h5,h7],dP.2 ⟨a,as,rfl,h6,h8⟩⟩
  · cases hx
end
theorem IE (hS:cD s ps): ∀(n t:Nat) (l:List SV),kT s n t=some l-> ∃q,zI ps n t=some q/\pvL l=some q
 |0,t,l,h=>by cases h
 |n+1,t,l,h=>by
  simp only [kT,bT] at h;split at h
  · rename_i cs hst
    obtain ⟨q,h1,h2⟩:=hS.box hst;obtain ⟨u,h3,h4⟩:=exVL_R hS (IE hS n) h2 h;exact ⟨u,by simp only [zI,h1,h3],h4⟩
  · cases h
mutual
theorem ZM {bx pbx:Nat->List Nat} (hb: ∀t,bx t=pbx t): ∀{v:SV} {p:PV},R s v p->v.sure=true->SX bx v=jD pbx p
 | .junk,_,_,h=>by cases h
 | .undef,p,h,_| .nul,p,h,_| .nilf,p,h,_| .int _ _,p,h,_| .bool _,p,h,_| .str _,p,h,_| .sl _ _,p,h,_| .nil _ _,p,h,_=>by rw [show p=_ from h];rfl
 | .agg cs,p,h,hs=>by obtain ⟨q,rfl,h⟩:=h;exact tkVL_R hb h hs
 | .tup cs,p,h,hs=>by obtain ⟨q,rfl,h⟩:=h;exact tkVL_R hb h hs
 | .own t ex,p,h,_=>by obtain ⟨e,n,rfl,_⟩:=h;rfl
 | .pre t a b c,p,h,_=>by obtain ⟨e,rfl,_⟩:=h;rfl
 | .part t o a b c,p,h,_=>by obtain ⟨e,rfl,_⟩:=h;rfl
 | .pa t r i a o,p,h,_=>by obtain ⟨rfl,_⟩:=h;simp only [SX,jD,hb]
 | .pb t i o,p,h,_=>by obtain ⟨e,rfl,_⟩:=h;simp only [SX,jD,hb]
 | .bp t n o,p,h,_=>by rw [show p=_ from h];simp only [SX,jD,hb]
 | .rptr cs o,p,h,hs=>by obtain ⟨q,rfl,h⟩:=h;exact tkVL_R hb h hs
 | .mp t,p,h,_=>by rw [show p=_ from h];rfl
 | .clo f a b,p,h,hs=>by
  obtain ⟨pa,pb,rfl,h1,h2⟩:=h;simp only [SV.sure,Bool.and_eq_true] at hs;simp only [SX,jD,tkVL_R hb h1 hs.1,tkVL_R hb h2 hs.2]
theorem tkVL_R {bx pbx:Nat->List Nat} (hb: ∀t,bx t=pbx t): ∀{v:List SV} {p:List PV},RL s v p->sureL v=true->tkVL bx v=toksL pbx p
 | [],p,h,_=>by rw [show p=_ from h];rfl
 |x::xs,p,h,hs=>by
  obtain ⟨q,qs,rfl,h1,h2⟩:=h.cons_inv;simp only [sureL,Bool.and_eq_true] at hs;simp only [tkVL,toksL,ZM hb h1 hs.1,tkVL_R hb h2 hs.2]
end
end
end Go.Vm
/- The head of a loop: what the typed machine keeps there, the logical machine keeps there. -/
namespace Go.Vm
section
variable {s : List SB} {ps : cB}
mutual
theorem aLQ {n:Nat} (hS:cD s ps) (hB: ∀t l,kT s n t=some l->zG s n t=cM ps n t): ∀{v u:SV} {p:PV},R s v p->L7 s (kT s n) v=some u->SX (zG s n) v=jD (cM ps n) p
 | .int _ _,_,p,h,_| .bool _,_,p,h,_| .str _,_,p,h,_| .nilf,_,p,h,_| .sl _ _,_,p,h,_| .nil _ _,_,p,h,_=>by rw [show p=_ from h];rfl
 | .agg cs,u,p,h,hx=>by
  obtain ⟨q,rfl,h⟩:=h;simp only [L7] at hx;split at hx
  · rename_i l hl;exact tkExL hS hB h hl
  · cases hx
 | .tup cs,u,p,h,hx=>by
  obtain ⟨q,rfl,h⟩:=h;simp only [L7] at hx;split at hx
  · rename_i l hl;exact tkExL hS hB h hl
  · cases hx
 | .own t ex,_,p,h,_=>by obtain ⟨e,n,rfl,_⟩:=h;rfl
 | .pre t a b c,_,p,h,_=>by obtain ⟨e,rfl,_⟩:=h;rfl
 | .part t o a b c,_,p,h,_=>by obtain ⟨e,rfl,_⟩:=h;rfl
 | .pa t r i a o,_,p,h,hx=>by
  obtain ⟨rfl,hat⟩:=h;simp only [L7,bT] at hx;split at hx
  · rename_i q l hst
    simp only [SX,jD];cases n with
    |zero=>rfl
    |succ n=>simp only [zG,cM,bT,hst,hS.arr hst]
  · cases hx
 | .bp t m o,u,p,h,hx=>by
  rw [show p=_ from h];simp only [L7,bT] at hx;split at hx
  · split at hx
    · rename_i l hl
      simp only [SX,jD,hB t l hl]
    · cases hx
  · cases hx
 | .rptr cs o,u,p,h,hx=>by
  obtain ⟨q,rfl,h⟩:=h;simp only [L7] at hx;split at hx
  · rename_i l hl;exact tkExL hS hB h hl
  · cases hx
 | .clo f a b,u,p,h,hx=>by
  obtain ⟨pa,pb,rfl,h1,h2⟩:=h;simp only [L7] at hx;split at hx
  · rename_i x y h3 h4
    simp only [SX,jD,tkExL hS hB h1 h3,tkExL hS hB h2 h4]
  · cases hx
 | .junk,_,_,_,hx| .undef,_,_,_,hx| .nul,_,_,_,hx| .pb _ _ _,_,_,_,hx| .mp _,_,_,_,hx=>by cases hx
theorem tkExL {n:Nat} (hS:cD s ps) (hB: ∀t l,kT s n t=some l->zG s n t=cM ps n t): ∀{v u:List SV} {p:List PV},RL s v p->exVL s (kT s n) v=some u->tkVL (zG s n) v=toksL (cM ps n) p
 | [],_,p,h,_=>by rw [show p=_ from h];rfl
 |x::xs,u,p,h,hx=>by
  obtain ⟨q,qs,rfl,h1,h2⟩:=h.cons_inv;simp only [exVL] at hx;split at hx
  · rename_i a b h3 h4
    simp only [tkVL,toksL,aLQ hS hB h1 h3,tkExL hS hB h2 h4]
  · cases hx
end
theorem ZN {n:Nat} (hS:cD s ps) (hB: ∀t l,kT s n t=some l->zG s n t=cM ps n t): ∀{v:List SV} {p:List PV},RL s v p->SW s (kT s n) v=true->tkVL (zG s n) v=toksL (cM ps n) p
 | [],p,h,_=>by rw [show p=[] from h];rfl
 |x::xs,p,h,hx=>by
  obtain ⟨a,as,rfl,h1,h2⟩:=h.cons_inv;have other: ∀u,L7 s (kT s n) x=some u->SW s (kT s n) xs=true->tkVL (zG s n) (x::xs)=toksL (cM ps n) (a::as):=fun u h3 h4=>by
   simp only [tkVL,toksL,aLQ hS hB h1 h3,ZN hS hB h2 h4]
  unfold SW at hx;split at hx
  · rename_i t
    rw [show a= .mp t from h1];simp only [tkVL,toksL,SX,jD,ZN hS hB h2 hx]
  · split at hx
    · rename_i u h3
      exact other u h3 hx
    · cases hx
theorem J1 (hS:cD s ps): ∀(n t:Nat) (l:List SV),kT s n t=some l->zG s n t=cM ps n t
 |0,t,l,h=>rfl
 |n+1,t,l,h=>by
  simp only [kT,bT] at h;split at h
  · rename_i cs hst
    obtain ⟨q,h1,h2⟩:=hS.box hst;simp only [zG,cM,bT,hst,h1];exact tkExL hS (J1 hS n) h2 h
  · cases h
theorem NW {b:SB} {q:kY} (h:RB s b q) (hs:A6 b=true):JK b=sD q:=by
 cases b with
 |box cs=>obtain ⟨c,rfl,h⟩:=h;exact tkVL_R (fun _=>rfl) h hs
 |arr r l=>rw [show q=_ from h];rfl
 |set l=>rw [show q=_ from h];rfl
 |tab p l=>rw [show q=_ from h];rfl
 |dead=>rw [show q=_ from h];rfl
theorem J2 (hS:cD s ps): ∀(n:Nat) (ts seen m:List Nat),F1 s n ts seen=some m->DX ps n ts seen=some m
 |n,[],seen,m,h=>by
  cases n<;>(simp only [F1] at h;exact h)
 |0,_::_,_,_,h=>by cases h
 |n+1,t::ts,seen,m,h=>by
  simp only [F1,bT] at h;simp only [DX];cases hh:has seen t with
  |true=>rw [hh] at h;simp only [cond_true] at h;simp only [if_true];exact J2 hS n ts seen m h
  |false=>
   rw [hh] at h;simp only [cond_false] at h;simp only [Bool.false_eq_true,if_false];split at h
   · rename_i b hst
     obtain ⟨q,h1,h2⟩:=hS.at_ t b hst;cases hb:A6 b with
     |false=>rw [hb] at h;cases h
     |true=>
      rw [hb] at h;simp only [cond_true] at h;rw [h1,NW h2 hb] at*;exact J2 hS n _ _ m h
   · cases h
theorem J3: ∀{t u:Nat} {m:List Nat},qT t m=some u->m[u]? =some t
 |t,u,[],h=>by cases h
 |t,u,x::m,h=>by
  simp only [qT] at h;cases hb:Nat.beq x t with
  |true=>rw [hb] at h;simp at h;subst h;simp [Nat.eq_of_beq_eq_true hb]
  |false=>
   rw [hb] at h;simp only [Bool.false_eq_true,if_false,Option.map_eq_some_iff] at h;obtain ⟨v,hv,rfl⟩:=h;simpa using J3 hv
def J4 (m:List Nat) (s s':List SB):Prop:= ∀(t u:Nat) (b:SB),qT t m=some u->s[t]? =some b->match b with
 | .arr r l=>s'[u]? =some (.arr r l)
 | .dead=>s'[u]? =some .dead
 |_=>True
mutual
theorem ZO {m:List Nat} {s':List SB} (hr:J4 m s s'): ∀{v u:SV} {p:PV},R s v p->rC m v=some u-> ∃q,ren m p=some q/\R s' u q
 | .junk,_,_,_,hx=>by cases hx
 | .undef,u,p,h,hx| .nul,u,p,h,hx| .nilf,u,p,h,hx| .int _ _,u,p,h,hx| .bool _,u,p,h,hx| .str _,u,p,h,hx| .sl _ _,u,p,h,hx| .nil _ _,u,p,h,hx=>by
  injection hx with hx;subst hx;rw [show p=_ from h];exact ⟨_,rfl,rfl⟩
 | .agg cs,u,p,h,hx=>by
  obtain ⟨q,rfl,h⟩:=h;simp only [rC] at hx;split at hx
  · rename_i l hl
    injection hx with hx;subst hx;obtain ⟨q',h1,h2⟩:=renVL_R hr h hl;exact ⟨.agg q',by simp only [ren,h1];rfl,q',rfl,h2⟩
  · cases hx
 | .tup cs,u,p,h,hx=>by
  obtain ⟨q,rfl,h⟩:=h;simp only [rC] at hx;split at hx
  · rename_i l hl
    injection hx with hx;subst hx;obtain ⟨q',h1,h2⟩:=renVL_R hr h hl;exact ⟨.tup q',by simp only [ren,h1];rfl,q',rfl,h2⟩
  · cases hx
 | .own t ex,u,p,h,hx=>by
  obtain ⟨e,n,rfl,hat⟩:=h;simp only [rC] at hx;split at hx
  · rename_i v hv
    injection hx with hx;subst hx;refine ⟨.own v e 0 n n ex,by simp only [ren,hv];rfl,e,n,rfl,?_⟩
    rcases hat with ⟨r,l,h1,h2,h3⟩|h1
    · exact .inl ⟨r,l,hr t v _ hv h1,h2,h3⟩
    · exact .inr (hr t v _ hv h1)
  · cases hx
 | .pre t len cap ex,u,p,h,hx=>by
  obtain ⟨e,rfl,hat⟩:=h;simp only [rC] at hx;split at hx
  · rename_i v hv
    injection hx with hx;subst hx;refine ⟨.own v e 0 len cap ex,by simp only [ren,hv];rfl,e,rfl,?_⟩
    rcases hat with ⟨r,l,h1,h2⟩|h1
    · exact .inl ⟨r,l,hr t v _ hv h1,h2⟩
    · exact .inr (hr t v _ hv h1)
  · cases hx
 | .part t off len cap ex,u,p,h,hx=>by
  obtain ⟨e,rfl,hat⟩:=h;simp only [rC] at hx;split at hx
  · rename_i v hv
    injection hx with hx;subst hx;refine ⟨.own v e off len cap ex,by simp only [ren,hv];rfl,e,rfl,?_⟩
    rcases hat with ⟨r,l,h1,h2⟩|h1
    · exact .inl ⟨r,l,hr t v _ hv h1,h2⟩
    · exact .inr (hr t v _ hv h1)
  · cases hx
 | .pa t r i a off,u,p,h,hx=>by
  obtain ⟨rfl,hat⟩:=h;simp only [rC] at hx;split at hx
  · rename_i v hv
    injection hx with hx;subst hx;refine ⟨.ptr v r.length i.toNat off,by simp only [ren,hv];rfl,r.length,rfl,?_⟩
    rcases hat with ⟨l,h1,h2⟩|h1
    · exact .inl ⟨r,l,hr t v _ hv h1,by rw [h2];rfl⟩
    · exact .inr (hr t v _ hv h1)
  · cases hx
 | .pb t i off,u,p,h,hx=>by
  obtain ⟨e,rfl,hat⟩:=h;simp only [rC] at hx;split at hx
  · rename_i v hv
    injection hx with hx;subst hx;refine ⟨.ptr v e i.toNat off,by simp only [ren,hv];rfl,e,rfl,?_⟩
    rcases hat with ⟨r,l,h1,h2⟩|h1
    · exact .inl ⟨r,l,hr t v _ hv h1,h2⟩
    · exact .inr (hr t v _ hv h1)
  · cases hx
 | .bp t n off,u,p,h,hx=>by
  rw [show p=_ from h];simp only [rC] at hx;split at hx
  · rename_i v hv
    injection hx with hx;subst hx;exact ⟨.ptr v n 0 off,by simp only [ren,hv];rfl,rfl⟩
  · cases hx
 | .rptr cs off,u,p,h,hx=>by
  obtain ⟨q,rfl,h⟩:=h;simp only [rC] at hx;split at hx
  · rename_i l hl
    injection hx with hx;subst hx;obtain ⟨q',h1,h2⟩:=renVL_R hr h hl;exact ⟨.rptr q' off,by simp only [ren,h1];rfl,q',rfl,h2⟩
  · cases hx
 | .mp t,u,p,h,hx=>by
  rw [show p=_ from h];simp only [rC] at hx;split at hx
  · rename_i v hv
    injection hx with hx;subst hx;exact ⟨.mp v,by simp only [ren,hv];rfl,rfl⟩
  · cases hx
 | .clo f a b,u,p,h,hx=>by
  obtain ⟨pa,pb,rfl,h1,h2⟩:=h;simp only [rC] at hx;split at hx
  · rename_i x y h3 h4
    injection hx with hx;subst hx;obtain ⟨qa,h5,h6⟩:=renVL_R hr h1 h3;obtain ⟨qb,h7,h8⟩:=renVL_R hr h2 h4;exact ⟨.clo f qa qb,by simp only [ren,h5,h7],qa,qb,rfl,h6,h8⟩
  · cases hx
theorem renVL_R {m:List Nat} {s':List SB} (hr:J4 m s s'): ∀{v u:List SV} {p:List PV},RL s v p->renVL m v=some u-> ∃q,renL m p=some q/\RL s' u q
 | [],u,p,h,hx=>by injection hx with hx;subst hx;rw [show p=_ from h];exact ⟨_,rfl,rfl⟩
 |x::xs,u,p,h,hx=>by
  obtain ⟨q,qs,rfl,h1,h2⟩:=h.cons_inv;simp only [renVL] at hx;split at hx
  · rename_i a b h3 h4
    injection hx with hx;subst hx;obtain ⟨a',h5,h6⟩:=ZO hr h1 h3;obtain ⟨b',h7,h8⟩:=renVL_R hr h2 h4;exact ⟨a'::b',by simp only [renL,h5,h7],RL.cons h6 h8⟩
  · cases hx
end
theorem aHB {m:List Nat} {s':List SB} (hr:J4 m s s') {b c:SB} {q:kY} (h:RB s b q) (hx:Y0 m b=some c): ∃q',nP m q=some q'/\RB s' c q':=by
 cases b with
 |box cs=>
  obtain ⟨p,rfl,h⟩:=h;simp only [Y0] at hx;split at hx
  · rename_i l hl
    injection hx with hx;subst hx;obtain ⟨q',h1,h2⟩:=renVL_R hr h hl;exact ⟨.box q',by simp only [nP,h1];rfl,q',rfl,h2⟩
  · cases hx
 |arr r l=>injection hx with hx;subst hx;rw [show q=_ from h];exact ⟨_,rfl,rfl⟩
 |set l=>injection hx with hx;subst hx;rw [show q=_ from h];exact ⟨_,rfl,rfl⟩
 |tab p l=>injection hx with hx;subst hx;rw [show q=_ from h];exact ⟨_,rfl,rfl⟩
 |dead=>injection hx with hx;subst hx;rw [show q=_ from h];exact ⟨_,rfl,rfl⟩
theorem AA {m:List Nat}: ∀{ts:List Nat} {s1:List SB},LK s m ts=some s1->s1.length=ts.length/\ ∀(j t:Nat),ts[j]? =some t-> ∃b c,s[t]? =some b/\Y0 m b=some c/\s1[j]? =some c
 | [],s1,h=>by injection h with h;subst h;exact ⟨rfl,fun j t h=>by simp at h⟩
 |t::ts,s1,h=>by
  simp only [LK,bT] at h;split at h
  · rename_i b hb
    split at h
    · rename_i c r hc hr
      injection h with h;subst h;obtain ⟨h1,h2⟩:=AA hr;refine ⟨by simp [h1],fun j u hj=>?_⟩
      cases j with
      |zero=>simp at hj;subst hj;exact ⟨b,c,hb,hc,rfl⟩
      |succ j=>simpa using h2 j u (by simpa using hj)
    · cases h
  · cases h
theorem F6 (hS:cD s ps) {m:List Nat} {s':List SB} (hr:J4 m s s'): ∀{ts:List Nat} {s1:List SB},LK s m ts=some s1-> ∃p1,zJ ps m ts=some p1/\p1.length=s1.length/\ ∀(j:Nat) (b:SB),s1[j]? =some b-> ∃q,p1[j]? =some q/\RB s' b q
 | [],s1,h=>by injection h with h;subst h;exact ⟨[],rfl,rfl,fun j b h=>by simp at h⟩
 |t::ts,s1,h=>by
  simp only [LK,bT] at h;split at h
  · rename_i b hb
    split at h
    · rename_i c r hc hr'
      injection h with h;subst h;obtain ⟨q,h1,h2⟩:=hS.at_ t b hb;obtain ⟨q',h3,h4⟩:=aHB hr h2 hc;obtain ⟨p1,h5,h6,h7⟩:=F6 hS hr hr';refine ⟨q'::p1,by simp only [zJ,h1,h3,h5],by simp [h6],fun j x hj=>?_⟩
      cases j with
      |zero=>simp at hj;subst hj;exact ⟨q',rfl,h4⟩
      |succ j=>simpa using h7 j x (by simpa using hj)
    · cases h
  · cases h
theorem J4.of {m:List Nat} {s1 l:List SB} (h:LK s m m=some s1):J4 m s (s1++l):=fun t u b hu hb=>by
 have hm:=J3 hu;obtain ⟨h1,h2⟩:=AA h;obtain ⟨b',c,h3,h4,h5⟩:=h2 u t hm;rw [hb] at h3;injection h3 with h3;subst h3;have hlt:=(List.getElem?_eq_some_iff.1 h5).1;cases b with
 |arr r l'=>injection h4 with h4;subst h4;rw [List.getElem?_append_left hlt];exact h5
 |dead=>injection h4 with h4;subst h4;rw [List.getElem?_append_left hlt];exact h5
 |_=>trivial
theorem wK: ∀(rk:List (Nat×List PT)) (n:Nat),(yY rk n).length=n
 | [],n=>by simp [yY]
 |(m,r)::q,n=>by
  simp only [yY];cases hc:(Nat.beq m n&&Nat.beq r.length n) with
  |true=>simp only [Bool.and_eq_true] at hc;exact Nat.eq_of_beq_eq_true hc.2
  |false=>exact wK q n
theorem F7 {rk:List (Nat×List PT)} {e:SE} {m:List Nat}: ∀{live:List (Nat×Option Nat)} {nx:Nat} {e1:SE} {s2:List SB},yZ rk e m nx live=some (e1,s2)-> ∀(j:Nat) (b:SB),s2[j]? =some b-> ∃r,b= .arr r []
 | [],nx,e1,s2,h,j,b,hj=>by
  simp only [yZ,Option.some.injEq,Prod.mk.injEq] at h;rw [<- h.2] at hj;simp at hj
 |(t,k)::live,nx,e1,s2,h,j,b,hj=>by
  simp only [yZ] at h;split at h
  · split at h
    · rename_i p hp
      simp only [Option.some.injEq,Prod.mk.injEq] at h;obtain ⟨rfl,rfl⟩:=h;cases j with
      |zero=>simp at hj;exact ⟨_,hj.symm⟩
      |succ j=>exact F7 (e1:=p.1) (s2:=p.2) hp j b (by simpa using hj)
    · cases h
  · split at h
    · rename_i v' p hv hp
      simp only [Option.some.injEq,Prod.mk.injEq] at h;obtain ⟨rfl,rfl⟩:=h;exact F7 (e1:=p.1) (s2:=p.2) hp j b hj
    · cases h
mutual
theorem F8 {m:List Nat}: ∀{v u:SV},rC m v=some u->u.sure=true
 | .junk,_,h=>by cases h
 | .undef,u,h| .nul,u,h| .nilf,u,h| .int _ _,u,h| .bool _,u,h| .str _,u,h| .sl _ _,u,h| .nil _ _,u,h=>by injection h with h;subst h;rfl
 | .agg cs,u,h=>by
  simp only [rC] at h;split at h
  · rename_i l hl;injection h with h;subst h;exact renVL_sure hl
  · cases h
 | .tup cs,u,h=>by
  simp only [rC] at h;split at h
  · rename_i l hl;injection h with h;subst h;exact renVL_sure hl
  · cases h
 | .rptr cs _,u,h=>by
  simp only [rC] at h;split at h
  · rename_i l hl;injection h with h;subst h;exact renVL_sure hl
  · cases h
 | .own _ _,u,h=>by simp only [rC] at h;split at h<;>first|(injection h with h;subst h;rfl)|cases h
 | .pre _ _ _ _,u,h=>by simp only [rC] at h;split at h<;>first|(injection h with h;subst h;rfl)|cases h
 | .part _ _ _ _ _,u,h=>by simp only [rC] at h;split at h<;>first|(injection h with h;subst h;rfl)|cases h
 | .pa _ _ _ _ _,u,h=>by simp only [rC] at h;split at h<;>first|(injection h with h;subst h;rfl)|cases h
 | .pb _ _ _,u,h=>by simp only [rC] at h;split at h<;>first|(injection h with h;subst h;rfl)|cases h
 | .bp _ _ _,u,h=>by simp only [rC] at h;split at h<;>first|(injection h with h;subst h;rfl)|cases h
 | .mp _,u,h=>by simp only [rC] at h;split at h<;>first|(injection h with h;subst h;rfl)|cases h
 | .clo f a b,u,h=>by
  simp only [rC] at h;split at h
  · rename_i x y h1 h2
    injection h with h;subst h;simp only [SV.sure,renVL_sure h1,renVL_sure h2,Bool.and_self]
  · cases h
theorem renVL_sure {m:List Nat}: ∀{v u:List SV},renVL m v=some u->sureL u=true
 | [],u,h=>by injection h with h;subst h;rfl
 |x::xs,u,h=>by
  simp only [renVL] at h;split at h
  · rename_i a b h1 h2
    injection h with h;subst h;simp only [sureL,F8 h1,renVL_sure h2,Bool.and_self]
  · cases h
end
theorem aBq {s:List SB} {v:SV} {p:PV} (h:R s v p): ∀k:Option Nat,v.sure=true->R s (NQ k v) (exOff k p)
 |none,_=>h
 |some _,hs=>by
  cases v with
  |own t ex=>obtain ⟨e,n,rfl,h⟩:=h;exact ⟨e,n,rfl,h⟩
  |pre t l c ex=>obtain ⟨e,rfl,h⟩:=h;exact ⟨e,rfl,h⟩
  |part t o l c ex=>obtain ⟨e,rfl,h⟩:=h;exact ⟨e,rfl,h⟩
  |junk=>cases hs
  |undef|nul|nilf|int _ _|bool _|str _|bp _ _ _|mp _|sl _ _|nil _ _=>rw [show p=_ from h];rfl
  |agg _|tup _|rptr _ _=>obtain ⟨q,rfl,h⟩:=h;exact ⟨q,rfl,h⟩
  |clo _ _ _=>obtain ⟨q,q2,rfl,h⟩:=h;exact ⟨q,q2,rfl,h⟩
  |pa _ _ _ _ _=>obtain ⟨rfl,h⟩:=h;exact ⟨rfl,h⟩
  |pb _ _ _=>obtain ⟨q,rfl,h⟩:=h;exact ⟨q,rfl,h⟩
theorem S7 {v:SV} (h:v.sure=true) (k:Option Nat):(NQ k v).sure=true:=by
 unfold NQ;split<;>first|rfl|exact h
theorem NX {rk:List (Nat×List PT)} {e:SE} {pe:uD} (hE:dF s e pe) {m:List Nat} {s':List SB} (hr:J4 m s s'): ∀{live:List (Nat×Option Nat)} {nx:Nat} {e1:SE} {s2:List SB},yZ rk e m nx live=some (e1,s2)->(∀(j:Nat) (b:SB),s2[j]? =some b->s'[nx+j]? =some b)->
 ∃p1 q2,sE pe m nx live=some (p1,q2)/\dF s' e1 p1/\q2.length=s2.length/\ ∀(j:Nat) (b:SB),s2[j]? =some b-> ∃q,q2[j]? =some q/\RB s' b q
 | [],nx,e1,s2,h,_=>by
  simp only [yZ,Option.some.injEq,Prod.mk.injEq] at h;obtain ⟨rfl,rfl⟩:=h;exact ⟨[],[],rfl,rfl,rfl,fun j b h=>by simp at h⟩
 |(t,k)::live,nx,e1,s2,h,hs=>by
  have hlk:=hE.lk t;simp only [yZ] at h;split at h
  · rename_i kk esz en hv
    split at h
    · rename_i p hp
      simp only [Option.some.injEq,Prod.mk.injEq] at h;obtain ⟨rfl,rfl⟩:=h;rw [hv] at hlk;obtain ⟨p1,q2,h1,h2,h3,h4⟩:=NX (live:=live) (nx:=nx+1) (e1:=p.1) (s2:=p.2) hE hr hp (fun j b hj=>by
       have:=hs (j+1) b (by simpa using hj)
       rw [show nx+1+j=nx+(j+1) by omega];exact this)
      refine ⟨(t,.own nx esz 0 0 0 false)::p1,.arr esz []::q2,?_,⟨_,_,rfl,⟨esz,0,rfl,.inl ⟨yY rk esz,[],by simpa using hs 0 _ rfl,(wK rk esz).symm,rfl⟩⟩,h2⟩,by simp [h3],fun j b hj=>?_⟩
      · have hlk':lk t pe= .sl en true []:=hlk
        simp only [sE,hlk',h1];rfl
      · cases j with
        |zero=>simp at hj;subst hj;exact ⟨_,rfl,by show _=_;rw [wK];rfl⟩
        |succ j=>simpa using h4 j b (by simpa using hj)
    · cases h
  · rename_i hne
    split at h
    · rename_i v' p hv hp
      simp only [Option.some.injEq,Prod.mk.injEq] at h;obtain ⟨rfl,rfl⟩:=h;obtain ⟨q',h5,h6⟩:=ZO hr hlk hv;obtain ⟨p1,q2,h1,h2,h3,h4⟩:=NX (live:=live) (e1:=p.1) (s2:=p.2) hE hr hp hs;refine ⟨(t,exOff _ q')::p1,q2,?_,⟨_,_,rfl,aBq h6 _ (F8 hv),h2⟩,h3,h4⟩;simp only [sE];split
      · rename_i esz x hx
        exfalso;rw [hx] at hlk;generalize LF t e=v0 at hlk hv hne;cases v0 with
        |junk=>cases hv
        |nil e' c=>
         have hlk':PV.sl x true []= .sl e' c []:=hlk;injection hlk' with h1 h2;subst h2;exact hne _ _ rfl rfl
        |undef|nul|nilf|int _ _|bool _|str _|bp _ _ _|mp _=>cases (show PV.sl x true []=_ from hlk)
        |sl r l=>cases (show PV.sl x true []=_ from hlk)
        |agg _|tup _|rptr _ _=>obtain ⟨q,hq,_⟩:=hlk;cases hq
        |clo _ _ _=>obtain ⟨q,q2,hq,_⟩:=hlk;cases hq
        |own _ _=>obtain ⟨q,q2,hq,_⟩:=hlk;cases hq
        |pre _ _ _ _=>obtain ⟨q,hq,_⟩:=hlk;cases hq
        |part _ _ _ _ _=>obtain ⟨q,hq,_⟩:=hlk;cases hq
        |pa _ _ _ _ _=>obtain ⟨hq,_⟩:=hlk;cases hq
        |pb _ _ _=>obtain ⟨q,hq,_⟩:=hlk;cases hq
      · simp only [h5,h1]
    · cases h
def aHd (s:List SB):Prop:= ∀(t:Nat) (cs:List SV),s[t]? =some (.box cs)->sureL cs=true
def ME:SE->Prop
 | []=>True
 |(_,v)::r=>v.sure=true/\ME r
theorem ME.lk: ∀{e:SE},ME e-> ∀t,(LF t e).sure=true
 | [],_,t=>rfl
 |(u,v)::r,h,t=>by
  simp only [LF];cases hb:Nat.beq u t with
  |true=>exact h.1
  |false=>exact ME.lk h.2 t
theorem DF {rk:List (Nat×List PT)} {e:SE} {m:List Nat}: ∀{live:List (Nat×Option Nat)} {nx:Nat} {e1:SE} {s2:List SB},yZ rk e m nx live=some (e1,s2)->ME e1
 | [],nx,e1,s2,h=>by
  simp only [yZ,Option.some.injEq,Prod.mk.injEq] at h;rw [<- h.1];trivial
 |(t,k)::live,nx,e1,s2,h=>by
  simp only [yZ] at h;split at h
  · split at h
    · rename_i p hp
      simp only [Option.some.injEq,Prod.mk.injEq] at h;obtain ⟨rfl,rfl⟩:=h;exact ⟨rfl,DF (e1:=p.1) (s2:=p.2) hp⟩
    · cases h
  · split at h
    · rename_i v' p hv hp
      simp only [Option.some.injEq,Prod.mk.injEq] at h;obtain ⟨rfl,rfl⟩:=h;exact ⟨S7 (F8 hv) _,DF (e1:=p.1) (s2:=p.2) hp⟩
    · cases h
theorem MF: ∀{l:List SV},sureL l=true-> ∀{n:Nat} {v:SV},nth l n=some v->v.sure=true
 | [],_,_,_,h=>by cases h
 |x::xs,hs,0,v,h=>by injection h with h;subst h;simp only [sureL,Bool.and_eq_true] at hs;exact hs.1
 |x::xs,hs,n+1,v,h=>by simp only [sureL,Bool.and_eq_true] at hs;exact MF hs.2 (n:=n) h
theorem MG: ∀{l:List SV},sureL l=true-> ∀(n:Nat) {v:SV},v.sure=true->sureL (l.set n v)=true
 | [],_,n,v,_=>rfl
 |x::xs,hs,0,v,h=>by simp only [sureL,Bool.and_eq_true] at hs;simp [sureL,h,hs.2]
 |x::xs,hs,n+1,v,h=>by simp only [sureL,Bool.and_eq_true] at hs;simp [sureL,hs.1,MG hs.2 n h]
theorem RL.set {s:List SB}: ∀{xs:List SV} {ps:List PV},RL s xs ps-> ∀(n:Nat) {v:SV} {p:PV},R s v p->RL s (xs.set n v) (ps.set n p)
 | [],ps,h,n,v,p,_=>by rw [show ps=[] from h];exact RL.nil
 |x::xs,ps,h,0,v,p,hv=>by
  obtain ⟨a,q,rfl,h1,h2⟩:=h.cons_inv;exact RL.cons hv h2
 |x::xs,ps,h,n+1,v,p,hv=>by
  obtain ⟨a,q,rfl,h1,h2⟩:=h.cons_inv;exact RL.cons h1 (RL.set h2 n hv)
structure RSS (st:rB) (p:St):Prop where
 r:CC st p
 s:aHd st.sto
 e:ME st.env
theorem S8 {rk:List (Nat×List PT)} {st:rB} {p:St} (h:RSS st p) (t c esz:Nat):RSS (JL rk st t c esz) (sF p t c esz):=by
 unfold JL sF;rw [bT];cases hst:st.sto[t]? with
 |none=>
  have:p.sto[t]? =none:=by
   rw [List.getElem?_eq_none_iff] at hst ⊢;rw [h.r.sto.len];exact hst
  rw [this];exact h
 |some b=>
  obtain ⟨q,h1,h2⟩:=h.r.sto.at_ t b hst;rw [h1];cases b with
  |arr r l=>rw [show q=_ from h2];exact h
  |set l=>rw [show q=_ from h2];exact h
  |tab p l=>rw [show q=_ from h2];exact h
  |dead=>rw [show q=_ from h2];exact h
  |box cs=>
   obtain ⟨pc,rfl,h3⟩:=h2;dsimp only;cases hc:nth cs c with
   |none=>
    have:pc[c]? =none:=by
     rw [bT,List.getElem?_eq_none_iff] at hc;rw [List.getElem?_eq_none_iff,h3.length];exact hc
    rw [this];exact h
   |some v=>
    obtain ⟨pv,h4,h5⟩:=h3.nth hc;rw [h4];have hsure:=MF (h.s t cs hst) hc;have hcs:=h.s t cs hst;have other:(∀e,pv≠ .sl e true [])->(∀e,v≠ .nil e true)->RSS (match some v with
     |some (.nil _ true)=>{st with sto:=st.sto.set t (.box (cs.set c (.own st.sto.length false)))++[.arr (yY rk esz) []]}
     |_=>st) (match some pv with
     |some (.sl _ true [])=>{p with sto:=p.sto.set t (.box (pc.set c (.own p.sto.length esz 0 0 0 false)))++[.arr esz []]}
     |_=>p):=by
     intro n1 n2;split
     · rename_i e he;injection he with he;exact absurd he (n2 e)
     · split
       · rename_i e he;injection he with he;exact absurd he (n1 e)
       · exact h
    cases v with
    |junk=>cases hsure
    |nil e' cl=>
     have h5':pv= .sl e' cl []:=h5;subst h5';cases cl with
     |false=>exact other (fun e he=>by cases he) (fun e he=>by cases he)
     |true=>
      dsimp only;have hlt:=(List.getElem?_eq_some_iff.1 hst).1;have hfr:Fr [] st.sto (st.sto.set t (.box (cs.set c (.own st.sto.length false)))++[.arr (yY rk esz) []]):=fun u x hu=>by
       by_cases hut:t=u
       · subst hut;rw [hst] at hu;injection hu with hu;subst hu;trivial
       · have hul:=(List.getElem?_eq_some_iff.1 hu).1
         have:(st.sto.set t (.box (cs.set c (.own st.sto.length false)))++[.arr (yY rk esz) []])[u]? =some x:=by
          rw [List.getElem?_append_left (by simpa using hul),List.getElem?_set];simp [hut,hu]
         cases x with
         |arr r l=>exact .inl ⟨l,this,rfl,fun _=>rfl⟩
         |dead=>exact this
         |_=>trivial
      have hlen:(st.sto.set t (.box (cs.set c (.own st.sto.length false)))).length=st.sto.length:=by simp
      have hown:R (st.sto.set t (.box (cs.set c (.own st.sto.length false)))++[.arr (yY rk esz) []]) (.own st.sto.length false) (.own p.sto.length esz 0 0 0 false):=by
       refine ⟨esz,0,by rw [h.r.sto.len],.inl ⟨yY rk esz,[],?_,(wK rk esz).symm,rfl⟩⟩
       rw [List.getElem?_append_right (by simp)];simp
      refine ⟨⟨dF.ext hfr h.r.env,⟨by simp [h.r.sto.len],fun u x hu=>?_⟩,h.r.fz,h.r.kn⟩,fun u x hu=>?_,h.e⟩
      · rcases Nat.lt_or_ge u st.sto.length with hul|hul
        · rw [List.getElem?_append_left (by simpa using hul),List.getElem?_set] at hu
          by_cases hut:t=u
          · subst hut
            simp [hlt] at hu;subst hu;refine ⟨.box (pc.set c (.own p.sto.length esz 0 0 0 false)),?_,_,rfl,RL.set (RL.ext hfr h3) c hown⟩;rw [List.getElem?_append_left (by simp [h.r.sto.len,hul]),List.getElem?_set]
            simp [h.r.sto.len,hul]
          · simp [hut] at hu
            obtain ⟨q,h6,h7⟩:=h.r.sto.at_ u x hu;refine ⟨q,?_,h7.ext hfr⟩;rw [List.getElem?_append_left (by simp [h.r.sto.len,hul]),List.getElem?_set]
            simp [hut,h6]
        · rw [List.getElem?_append_right (by simpa using hul)] at hu
          simp only [hlen] at hu;have hu0:u-st.sto.length=0:=by
           rcases Nat.eq_zero_or_pos (u-st.sto.length) with h|h
           · exact h
           · rw [List.getElem?_eq_none (by simp;omega)] at hu;cases hu
          rw [hu0] at hu;simp at hu;subst hu;refine ⟨.arr esz [],?_,by show _=_;rw [wK];rfl⟩
          rw [List.getElem?_append_right (by simp [h.r.sto.len];omega)]
          simp [h.r.sto.len,hu0]
      · rcases Nat.lt_or_ge u st.sto.length with hul|hul
        · rw [List.getElem?_append_left (by simpa using hul),List.getElem?_set] at hu
          by_cases hut:t=u
          · subst hut
            simp [hlt] at hu;subst hu;exact MG hcs c rfl
          · simp [hut] at hu;exact h.s u x hu
        · rw [List.getElem?_append_right (by simpa using hul)] at hu
          cases hj:u- (st.sto.set t (.box (cs.set c (.own st.sto.length false)))).length with
          |zero=>rw [hj] at hu;simp at hu
          |succ j=>rw [hj] at hu;simp at hu
    |undef|nul|nilf|int _ _|bool _|str _|bp _ _ _|mp _=>exact other (fun e he=>by rw [show pv=_ from h5] at he;cases he) (fun e he=>by cases he)
    |sl r l=>exact other (fun e he=>by rw [show pv=_ from h5] at he;cases he) (fun e he=>by cases he)
    |agg _|tup _|rptr _ _=>exact other (fun e he=>by obtain ⟨q,hq,_⟩:=h5;rw [hq] at he;cases he) (fun e he=>by cases he)
    |clo _ _ _=>exact other (fun e he=>by obtain ⟨q,q2,hq,_⟩:=h5;rw [hq] at he;cases he) (fun e he=>by cases he)
    |own _ _=>exact other (fun e he=>by obtain ⟨q,q2,hq,_⟩:=h5;rw [hq] at he;cases he) (fun e he=>by cases he)
    |pre _ _ _ _|part _ _ _ _ _|pb _ _ _=>exact other (fun e he=>by obtain ⟨q,hq,_⟩:=h5;rw [hq] at he;cases he) (fun e he=>by cases he)
    |pa _ _ _ _ _=>exact other (fun e he=>by obtain ⟨hq,_⟩:=h5;rw [hq] at he;cases he) (fun e he=>by cases he)
theorem NY {p:St} {t c esz:Nat} (h: ∀cs,p.sto[t]?≠some (.box cs)):sF p t c esz=p:=by
 unfold sF;split
 · rename_i cs hcs;exact absurd hcs (h cs)
 · rfl
theorem ZP {st:rB} {p:St} (h:RSS st p) {v:SV} {q:PV} (hv:R st.sto v q) (hs:v≠ .junk):(∃t,Y1 v=some t/\IP q=some t)\/(Y1 v=none/\ ∀t,IP q=some t-> ∀cs,p.sto[t]?≠some (.box cs)):=by
 cases v with
 |junk=>exact absurd rfl hs
 |bp u m off=>
  have hq:q= .ptr u m 0 off:=hv;subst hq;cases off with
  |zero=>exact .inl ⟨u,rfl,rfl⟩
  |succ off=>exact .inr ⟨rfl,fun t ht=>by cases ht⟩
 |pb u i off=>
  obtain ⟨e',hq,hat⟩:=hv;subst hq;refine .inr ⟨rfl,fun t ht cs hcs=>?_⟩
  have:t=u:=by
   unfold IP at ht;split at ht
   · rename_i heq;injection heq with e1;injection ht with ht;rw [<- ht,e1]
   · cases ht
  subst this;rcases hat with ⟨r,l,h1,_⟩|h1
  · rw [h.r.sto.arr h1] at hcs;cases hcs
  · obtain ⟨q,h2,h3⟩:=h.r.sto.at_ t _ h1
    rw [hcs] at h2;injection h2 with h2;subst h2;cases (show kY.box cs= .dead from h3)
 |pa u r i a off=>
  obtain ⟨hq,hat⟩:=hv;subst hq;refine .inr ⟨rfl,fun t ht cs hcs=>?_⟩
  have:t=u:=by
   unfold IP at ht;split at ht
   · rename_i heq;injection heq with e1;injection ht with ht;rw [<- ht,e1]
   · cases ht
  subst this;rcases hat with ⟨l,h1,_⟩|h1
  · rw [h.r.sto.arr h1] at hcs;cases hcs
  · obtain ⟨q,h2,h3⟩:=h.r.sto.at_ t _ h1
    rw [hcs] at h2;injection h2 with h2;subst h2;cases (show kY.box cs= .dead from h3)
 |undef|nul|nilf|int _ _|bool _|str _|mp _|sl _ _|nil _ _=>exact .inr ⟨rfl,fun t ht=>by rw [show q=_ from hv] at ht;cases ht⟩
 |agg _|tup _|rptr _ _=>exact .inr ⟨rfl,fun t ht=>by obtain ⟨_,rfl,_⟩:=hv;cases ht⟩
 |clo _ _ _=>exact .inr ⟨rfl,fun t ht=>by obtain ⟨_,_,rfl,_⟩:=hv;cases ht⟩
 |own _ _=>exact .inr ⟨rfl,fun t ht=>by obtain ⟨_,_,rfl,_⟩:=hv;cases ht⟩
 |pre _ _ _ _|part _ _ _ _ _=>exact .inr ⟨rfl,fun t ht=>by obtain ⟨_,rfl,_⟩:=hv;cases ht⟩
theorem aHC {st:rB} {p:St} (h:RSS st p) {v:SV} {q:PV} (hv:R st.sto v q) (hs:v.sure=true):(∃t,aBa v=some t/\O2 q=some t)\/(aBa v=none/\ ∀t,O2 q=some t-> ∀cs,p.sto[t]?≠some (.box cs)):=by
 have hj:v≠ .junk:=fun e=>by subst e;cases hs
 by_cases hc: ∃f a b,v= .clo f a b
 · obtain ⟨f,a,b,rfl⟩:=hc
   obtain ⟨pa,pb,rfl,h1,h2⟩:=hv;cases b with
   |nil=>
    have:pb=[]:=h2
    subst this;exact .inr ⟨rfl,fun t ht=>by cases ht⟩
   |cons y ys=>
    obtain ⟨z,zs,rfl,g1,g2⟩:=h2;exact ZP h g1 (fun e=>by subst e;simp [SV.sure,sureL] at hs)
 · have e1:aBa v=Y1 v:=by
    cases v with
    |clo f a b=>exact absurd ⟨f,a,b,rfl⟩ hc
    |_=>rfl
   have e2:O2 q=IP q:=by
    cases q with
    |clo f a b=>
     exfalso;cases v with
     |junk=>exact hj rfl
     |clo f a b=>exact hc ⟨f,a,b,rfl⟩
     |bp _ _ _|undef|nul|nilf|int _ _|bool _|str _|mp _|sl _ _|nil _ _=>cases (show PV.clo f a b=_ from hv)
     |agg _|tup _|rptr _ _|pre _ _ _ _|part _ _ _ _ _|pb _ _ _=>obtain ⟨_,hq,_⟩:=hv;cases hq
     |own _ _=>obtain ⟨_,_,hq,_⟩:=hv;cases hq
     |pa _ _ _ _ _=>obtain ⟨hq,_⟩:=hv;cases hq
    |_=>rfl
   rw [e1,e2];exact ZP h hv hj
theorem nI {rk:List (Nat×List PT)}: ∀(live:List (Nat×Option Nat)) {st:rB} {p:St},RSS st p->RSS (lY rk live st) (kQ live p)
 | [],st,p,h=>h
 |(t,k)::live,st,p,h=>by
  cases k with
  |none=>simp only [lY,kQ];exact nI live h
  |some n=>
   simp only [lY,kQ];cases hn:Nat.ble 1000 n with
   |false=>simp only [cond_false,Bool.false_eq_true,if_false];exact nI live h
   |true=>
    simp only [cond_true,if_true];have hlk:=h.r.env.lk t;have hsu:=h.e.lk t;rcases aHC h hlk hsu with ⟨u,e1,e2⟩|⟨e1,e2⟩
    · rw [e1,e2]
      exact nI live (S8 h u _ _)
    · rw [e1]
      cases hb:O2 (lk t p.env) with
      |none=>exact nI live h
      |some u=>
       show RSS (lY rk live st) (kQ live (sF p u (n / 1000-1) (n%1000)));rw [NY (e2 u hb)];exact nI live h
theorem P5 {e:SE} {pe:uD} (hE:dF s e pe): ∀{live:List (Nat×Option Nat)},EB e live=true->JM e live=live.flatMap fun p=>jD uE (lk p.1 pe)
 | [],_=>rfl
 |(t,k)::live,h=>by
  simp only [EB,Bool.and_eq_true] at h;simp only [JM,List.flatMap_cons,P5 hE h.2];rw [ZM (fun _=>rfl) (hE.lk t) h.1]
theorem ZQ: ∀{s':List SB} {s:List SB} {ps:cB} (n:Nat),(ps.length=s.length/\ ∀(t:Nat) (b:SB),s[t]? =some b-> ∃q,ps[t]? =some q/\RB s' b q)->JN s n=true->SY s n=(ps.take n).flatMap sD
 |s',[],ps,n,h,_=>by
  have:ps=[]:=List.length_eq_zero_iff.1 (by simpa using h.1)
  subst this;cases n<;>simp [SY]
 |s',b::s,ps,0,h,_=>by simp [SY]
 |s',b::s,ps,n+1,h,hk=>by
  cases ps with
  |nil=>have:=h.1;simp at this
  |cons q ps=>
   simp only [JN,Bool.and_eq_true] at hk;obtain ⟨q',h1,h2⟩:=h.2 0 b rfl;simp at h1;subst h1;simp only [SY,List.take_succ_cons,List.flatMap_cons,NW h2 hk.1];rw [ZQ (s':=s') (ps:=ps) n ⟨by simpa using h.1,fun t x hx=>by simpa using h.2 (t+1) x (by simpa using hx)⟩ hk.2]
theorem UZ {s:List SB} {v:SV} {p:PV} (h:R s v p):R s (L8 s v) p:=by
 unfold L8;split
 · rename_i t ex
   rw [bT];split
   · rename_i r l hst
     obtain ⟨e,n,rfl,hat⟩:=h;obtain ⟨rfl,rfl⟩:=hat.inv hst;exact ⟨r.length,rfl,.inl ⟨r,l,hst,rfl⟩⟩
   · exact h
 · exact h
theorem U1 {s:List SB} (c:Nat): ∀{e:SE} {p:uD},dF s e p->dF s (UQ s c e) p
 | [],_,h=>h
 |(t,v)::r,_,h=>by
  obtain ⟨q,qs,rfl,h1,h2⟩:=h;simp only [UQ];cases hb:Nat.beq t c with
  |true=>exact ⟨q,qs,rfl,UZ h1,h2⟩
  |false=>exact ⟨q,qs,rfl,h1,U1 c h2⟩
theorem F9: ∀(live:List (Nat×Option Nat)) {st:rB} {p:St},CC st p->CC (EA live st) p
 | [],st,p,h=>h
 |(t,k)::r,st,p,h=>by
  simp only [EA];cases hn:Nat.ble 1000000 t with
  |true=>exact F9 r ⟨U1 _ h.env,h.sto,h.fz,h.kn⟩
  |false=>exact F9 r h
theorem P6 {rk:List (Nat×List PT)} {live:List (Nat×Option Nat)} {st st1:rB} {p:St} (h:CC st p) (hn:JO rk live st=some st1): ∃p1,IQ live p=some p1/\CC st1 p1:=by
 unfold JO at hn;cases hc:(EB st.env live&&JN st.sto st.kn) with
 |false=>rw [hc] at hn;cases hn
 |true=>
  rw [hc] at hn;simp only [cond_true] at hn;simp only [Bool.and_eq_true] at hc;split at hn
  · cases hn
  · rename_i m hm
    split at hn
    · rename_i s1 e1 s2 h1 h2
      injection hn with hn;subst hn;have ht:SY st.sto st.kn++JM st.env live=(p.sto.take p.kn).flatMap sD++live.flatMap fun q=>jD uE (lk q.1 p.env):=by
       rw [P5 h.env hc.1,ZQ (s':=st.sto) st.kn ⟨h.sto.len,h.sto.at_⟩ hc.2,h.kn]
      rw [ht] at hm;have hm':=J2 h.sto _ _ _ _ hm;have hr:J4 m st.sto (s1++s2):=J4.of h1;obtain ⟨p1,a1,a2,a3⟩:=F6 h.sto hr h1;have hlen:s1.length=m.length:=(AA h1).1;obtain ⟨pe1,q2,b1,b2,b3,b4⟩:=NX h.env hr h2 (fun j b hj=>by rw [<- hlen,List.getElem?_append_right (by omega)];simpa using hj)
      have hsto:cD (s1++s2) (p1++q2):=⟨by simp [a2,b3],fun t b ht=>by
       rcases Nat.lt_or_ge t s1.length with hl|hl
       · rw [List.getElem?_append_left hl] at ht
         obtain ⟨q,c1,c2⟩:=a3 t b ht;exact ⟨q,by rw [List.getElem?_append_left (by omega)];exact c1,c2⟩
       · rw [List.getElem?_append_right hl] at ht
         obtain ⟨q,c1,c2⟩:=b4 _ b ht;exact ⟨q,by rw [List.getElem?_append_right (by omega),a2];exact c1,c2⟩⟩
      have hs:aHd (s1++s2):=fun t cs ht=>by
       rcases Nat.lt_or_ge t s1.length with hl|hl
       · rw [List.getElem?_append_left hl] at ht
         obtain ⟨b,c,d1,d2,d3⟩:=(AA h1).2 t (m[t]'(by omega)) (List.getElem?_eq_getElem (by omega))
         rw [ht] at d3;injection d3 with d3;subst d3;cases b with
         |box x=>
          simp only [Y0] at d2;split at d2
          · rename_i l hl';injection d2 with d2;injection d2 with d2;subst d2;exact renVL_sure hl'
          · cases d2
         |arr _ _=>injection d2 with d2;cases d2
         |set _=>injection d2 with d2;cases d2
         |tab _ _=>injection d2 with d2;cases d2
         |dead=>injection d2 with d2;cases d2
       · rw [List.getElem?_append_right hl] at ht
         obtain ⟨r,hr'⟩:=F7 h2 _ _ ht;cases hr'
      have hR:RSS {env:=e1,sto:=s1++s2,fz:=zK st.fz 0 m,kn:=st.kn} {env:=pe1,sto:=p1++q2,fz:=zK p.fz 0 m,kn:=p.kn}:=
       ⟨⟨b2,hsto,by rw [h.fz],h.kn⟩,hs,DF h2⟩
      refine ⟨_,?_,F9 live (nI live hR).r⟩;unfold IQ;rw [h.kn] at hm';rw [h.kn];rw [hm'];dsimp only;rw [a1,b1]
    · cases hn
theorem U2 {rk:List (Nat×List PT)} {live:List (Nat×Option Nat)} {st st1:rB} {p:St} (h:CC st p) (hn:JP rk live st=some st1): ∃p1,HP live p=some p1/\CC st1 p1:=by
 unfold JP at hn;cases h1:JO rk live st with
 |none=>rw [h1] at hn;cases hn
 |some s=>
  rw [h1] at hn;dsimp only at hn;obtain ⟨p1,h2,h3⟩:=P6 h h1;unfold HP;rw [h2];dsimp only;cases ha:(live.any fun p=>p.2.isSome) with
  |true=>
   rw [ha] at hn;simp only [cond_true] at hn;rw [if_pos rfl];exact P6 h3 hn
  |false=>
   rw [ha] at hn;injection hn with hn;subst hn;exact ⟨p1,by rw [if_neg (by simp)],h3⟩
mutual
theorem IF: ∀{a b:SV} (q:List zH),zB a b=true->uI a (F2 b++q)=(b,q)
 | .undef,.undef,q,_=>rfl
 | .nul,.nul,q,_=>rfl
 | .nilf,.nilf,q,_=>rfl
 | .int k _,.int l n,q,h=>by rw [fN.1 h];rfl
 | .bool _,.bool _,q,_=>rfl
 | .agg a,.agg b,q,h=>by simp only [uI,F2,put_atsL q h]
 | .tup a,.tup b,q,h=>by simp only [uI,F2,put_atsL q h]
 | .sl r _,.sl r' l,q,h=>rfl
 | .nil e c,.nil f d,q,h=>by
  simp only [zB,Bool.and_eq_true,beq_iff_eq] at h;rw [Nat.eq_of_beq_eq_true h.1,h.2];rfl
 | .own t x,.own u y,q,h=>by
  simp only [zB,Bool.and_eq_true,beq_iff_eq] at h;rw [Nat.eq_of_beq_eq_true h.1,h.2];rfl
 | .pre t _ _ x,.pre u _ _ y,q,h=>by
  simp only [zB,Bool.and_eq_true,beq_iff_eq] at h;rw [Nat.eq_of_beq_eq_true h.1,h.2];rfl
 | .part t _ _ _ x,.part u _ _ _ y,q,h=>by
  simp only [zB,Bool.and_eq_true,beq_iff_eq] at h;rw [Nat.eq_of_beq_eq_true h.1,h.2];rfl
 | .pb t _ o,.pb u _ p,q,h=>by
  simp only [zB,Bool.and_eq_true] at h;rw [Nat.eq_of_beq_eq_true h.1,Nat.eq_of_beq_eq_true h.2];rfl
 | .bp t n o,.bp u m p,q,h=>by
  simp only [zB,Bool.and_eq_true] at h;rw [Nat.eq_of_beq_eq_true h.1.1,Nat.eq_of_beq_eq_true h.1.2,Nat.eq_of_beq_eq_true h.2];rfl
 | .rptr a o,.rptr b p,q,h=>by
  simp only [zB,Bool.and_eq_true] at h;simp only [uI,F2,put_atsL q h.1,Nat.eq_of_beq_eq_true h.2]
 | .clo f a b,.clo g c d,q,h=>by
  simp only [zB,Bool.and_eq_true] at h;simp only [uI,F2,List.append_assoc,put_atsL _ h.1.2,put_atsL q h.2,Nat.eq_of_beq_eq_true h.1.1]
 | .mp t,.mp u,q,h=>by rw [Nat.eq_of_beq_eq_true h];rfl
theorem put_atsL: ∀{a b:List SV} (q:List zH),likeL a b=true->putL a (atsL b++q)=(b,q)
 | [],[],q,_=>rfl
 |x::xs,y::ys,q,h=>by
  simp only [likeL,Bool.and_eq_true] at h;simp only [putL,atsL,List.append_assoc,IF _ h.1,put_atsL q h.2]
 | [],_::_,_,h=>by cases h
 |_::_,[],_,h=>by cases h
end
theorem ZR: ∀{a b:SB} (q:List zH),aG8 a b=true->SZ a (Y2 b++q)=(b,q)
 | .arr r _,.arr r' l,q,h=>rfl
 | .box a,.box b,q,h=>by simp only [SZ,Y2,put_atsL q h]
 | .set _,.set _,q,_=>rfl
 | .tab p _,.tab p' l,q,h=>by obtain rfl:p=p':=PT.same_eq h;rfl
 | .dead,.dead,q,_=>rfl
 | .arr _ _,.box _,_,h| .arr _ _,.set _,_,h| .arr _ _,.dead,_,h| .box _,.arr _ _,_,h| .box _,.set _,_,h| .box _,.dead,_,h| .set _,.arr _ _,_,h| .set _,.box _,_,h| .set _,.dead,_,h| .dead,.arr _ _,_,h| .dead,.box _,_,h| .dead,.set _,_,h
 | .tab _ _,.arr _ _,_,h| .tab _ _,.box _,_,h| .tab _ _,.set _,_,h| .tab _ _,.dead,_,h| .arr _ _,.tab _ _,_,h| .box _,.tab _ _,_,h| .set _,.tab _ _,_,h| .dead,.tab _ _,_,h=>by cases h
theorem EN: ∀{a b:List SB} (q:List zH),JQ a b=true->C8 a (NR b++q)=(b,q)
 | [],[],q,_=>rfl
 |x::xs,y::ys,q,h=>by
  simp only [JQ,Bool.and_eq_true] at h;simp only [C8,NR,List.append_assoc,ZR _ h.1,EN q h.2]
 | [],_::_,_,h=>by cases h
 |_::_,[],_,h=>by cases h
theorem P7: ∀{a b:SE} (q:List zH),UR a b=true->PW a (W3 b++q)=(b,q)
 | [],[],q,_=>rfl
 |(t,x)::xs,(u,y)::ys,q,h=>by
  simp only [UR,Bool.and_eq_true] at h;simp only [PW,W3,List.append_assoc,IF _ h.1.2,P7 q h.2,Nat.eq_of_beq_eq_true h.1.1]
 | [],_::_,_,h=>by cases h
 |_::_,[],_,h=>by cases h
theorem P8: ∀{a b:List Nat},US a b=true->a=b
 | [],[],_=>rfl
 |x::xs,y::ys,h=>by
  simp only [US,Bool.and_eq_true] at h;rw [Nat.eq_of_beq_eq_true h.1,P8 h.2]
 | [],_::_,h=>by cases h
 |_::_,[],h=>by cases h
theorem XB {a b:rB} (h:JR a b=true):B9 a (zA b)=b:=by
 obtain ⟨e1,s1,z1,k1⟩:=a;obtain ⟨e2,s2,z2,k2⟩:=b;simp only [JR,Bool.and_eq_true] at h;obtain ⟨⟨⟨h1,h2⟩,h3⟩,h4⟩:=h;have hs:=EN [] h2;rw [List.append_nil] at hs;simp only [B9,zA,P7 _ h1,hs,P8 h3,Nat.eq_of_beq_eq_true h4]
theorem AK.of_at: ∀{a:AK} {x:zH} {y:a.T},a.of x=some y->a.at y=x
 | .i,.i _,y,h=>by injection h with h;subst h;rfl
 | .b,.b _,y,h=>by injection h with h;subst h;rfl
 | .n,.n _,y,h=>by injection h with h;subst h;rfl
 | .l r,.l q x,y,h=>by obtain ⟨rfl,rfl⟩:=C9 h;rfl
 | .s,.s _,y,h=>by injection h with h;subst h;rfl
 | .i,.b _,_,h| .i,.n _,_,h| .i,.l _ _,_,h| .i,.s _,_,h| .b,.i _,_,h| .b,.n _,_,h| .b,.l _ _,_,h| .b,.s _,_,h| .n,.i _,_,h| .n,.b _,_,h| .n,.l _ _,_,h| .n,.s _,_,h
 | .l _,.i _,_,h| .l _,.b _,_,h| .l _,.n _,_,h| .l _,.s _,_,h| .s,.i _,_,h| .s,.b _,_,h| .s,.n _,_,h| .s,.l _ _,_,h=>by cases h
theorem tC: ∀{ks:List AK} {l:List zH} {y:kF ks},rW ks l=some y->mN ks y=l
 | [],[],y,_=>rfl
 | [a],[x],y,h=>by
  have:=AK.of_at (a:=a) h
  simp only [mN,this]
 |a::q::r,x::xs,y,h=>by
  simp only [rW] at h;split at h
  · rename_i u v h1 h2
    injection h with h;subst h;simp only [mN,AK.of_at h1,tC h2]
  · cases h
 | [],_::_,_,h=>by cases h
 | [_],[],_,h=>by cases h
 | [_],_::_::_,_,h=>by cases h
 |_::_::_,[],_,h=>by cases h
end
end Go.Vm
/- What is known of functions, and what a call of one comes to. -/
namespace Go.Vm
mutual
def J5:Nat->PV->Option (PV×cB)
 |_,.int k n=>some (.int k n,[])
 |_,.bool b=>some (.bool b,[])
 |nx,.agg cs=>match ownPL nx cs with|some r=>some (.agg r.1,r.2)|none=>none
 |nx,.tup cs=>match ownPL nx cs with|some r=>some (.tup r.1,r.2)|none=>none
 |nx,.sl e false rows=>some (.own nx e 0 rows.length rows.length false,[.arr e rows])
 |_,_=>none
def ownPL:Nat->List PV->Option (List PV×cB)
 |_,[]=>some ([],[])
 |nx,x::xs=>match J5 nx x with
  |some a=>match ownPL (nx+a.2.length) xs with
   |some b=>some (a.1::b.1,a.2++b.2)
   |none=>none
  |none=>none
end
def xP (s:List SB) (n:Nat) (l:List SB):Prop:= ∀(j:Nat) (b:SB),l[j]? =some b->s[n+j]? =some b
theorem xP.left {s:List SB} {n:Nat} {l m:List SB} (h:xP s n (l++m)):xP s n l:=fun j b hj=>h j b (by
 rw [List.getElem?_append_left (List.getElem?_eq_some_iff.1 hj).1];exact hj)
theorem xP.right {s:List SB} {n:Nat} {l m:List SB} (h:xP s n (l++m)):xP s (n+l.length) m:=fun j b hj=>by
 have:=h (l.length+j) b (by rw [List.getElem?_append_right (by omega)];simpa using hj)
 rwa [Nat.add_assoc]
def S9 (s:List SB) (l:List SB) (q:cB):Prop:=q.length=l.length/\ ∀(j:Nat) (b:SB),l[j]? =some b-> ∃x,q[j]? =some x/\RB s b x
theorem S9.append {s l m:List SB} {q r:cB} (h:S9 s l q) (k:S9 s m r):S9 s (l++m) (q++r):=by
 refine ⟨by simp [h.1,k.1],fun j b hj=>?_⟩
 rcases Nat.lt_or_ge j l.length with hl|hl
 · rw [List.getElem?_append_left hl] at hj
   obtain ⟨x,h1,h2⟩:=h.2 j b hj;exact ⟨x,by rw [List.getElem?_append_left (by rw [h.1];exact hl)];exact h1,h2⟩
 · rw [List.getElem?_append_right hl] at hj
   obtain ⟨x,h1,h2⟩:=k.2 _ b hj;exact ⟨x,by rw [List.getElem?_append_right (by rw [h.1];exact hl),h.1];exact h1,h2⟩
theorem S9.nil {s:List SB}:S9 s [] []:=⟨rfl,fun j b h=>by simp at h⟩
theorem S9.one {s:List SB} {b:SB} {x:kY} (h:RB s b x):S9 s [b] [x]:=⟨rfl,fun j c hc=>by
 cases j with
 |zero=>simp at hc;subst hc;exact ⟨x,rfl,h⟩
 |succ j=>simp at hc⟩
mutual
theorem U3: ∀{v:SV} {nx:Nat} {p0 p:PV} {q:cB},tB v=some p0->J5 nx p0=some (p,q)-> ∀{s:List SB},xP s nx (zX nx v).2->R s (zX nx v).1 p/\S9 s (zX nx v).2 q
 | .int k n,nx,p0,p,q,h0,h,s,_=>by injection h0 with h0;subst h0;injection h with h;injection h with h1 h2;subst h1 h2;exact ⟨rfl,S9.nil⟩
 | .bool b,nx,p0,p,q,h0,h,s,_=>by injection h0 with h0;subst h0;injection h with h;injection h with h1 h2;subst h1 h2;exact ⟨rfl,S9.nil⟩
 | .agg cs,nx,p0,p,q,h0,h,s,hb=>by
  simp only [tB] at h0;split at h0
  · rename_i l hl
    injection h0 with h0;subst h0;simp only [J5] at h;split at h
    · rename_i r hr
      injection h with h;injection h with h1 h2;subst h1 h2;obtain ⟨h3,h4⟩:=ownOfL_R (p:=r.1) (q:=r.2) hl hr hb;exact ⟨⟨r.1,rfl,h3⟩,h4⟩
    · cases h
  · cases h0
 | .tup cs,nx,p0,p,q,h0,h,s,hb=>by
  simp only [tB] at h0;split at h0
  · rename_i l hl
    injection h0 with h0;subst h0;simp only [J5] at h;split at h
    · rename_i r hr
      injection h with h;injection h with h1 h2;subst h1 h2;obtain ⟨h3,h4⟩:=ownOfL_R (p:=r.1) (q:=r.2) hl hr hb;exact ⟨⟨r.1,rfl,h3⟩,h4⟩
    · cases h
  · cases h0
 | .sl r l,nx,p0,p,q,h0,h,s,hb=>by
  injection h0 with h0;subst h0;injection h with h;injection h with h1 h2;subst h1 h2;refine ⟨⟨r.length,l.length,by simp,.inl ⟨r,l,hb 0 _ rfl,rfl,rfl⟩⟩,S9.one rfl⟩
 | .nil e c,nx,p0,p,q,h0,h,s,hb=>by
  injection h0 with h0;subst h0;cases c with
  |true=>simp [J5] at h
  |false=>
   injection h with h;injection h with h1 h2;subst h1 h2;exact ⟨⟨e,0,rfl,.inl ⟨_,[],hb 0 _ rfl,by simp,rfl⟩⟩,S9.one (by show _=_;simp)⟩
 | .str _,nx,p0,p,q,h0,h,s,_=>by injection h0 with h0;subst h0;cases h
 | .nilf,nx,p0,p,q,h0,h,s,_=>by injection h0 with h0;subst h0;cases h
 | .rptr cs o,nx,p0,p,q,h0,h,s,_=>by
  simp only [tB] at h0;split at h0
  · injection h0 with h0;subst h0;cases h
  · cases h0
 | .clo f a b,nx,p0,p,q,h0,h,s,_=>by
  simp only [tB] at h0;split at h0
  · injection h0 with h0;subst h0;cases h
  · cases h0
 | .junk,_,_,_,_,h0,_,_,_| .undef,_,_,_,_,h0,_,_,_| .nul,_,_,_,_,h0,_,_,_| .own _ _,_,_,_,_,h0,_,_,_| .pre _ _ _ _,_,_,_,_,h0,_,_,_| .part _ _ _ _ _,_,_,_,_,h0,_,_,_
 | .pa _ _ _ _ _,_,_,_,_,h0,_,_,_| .pb _ _ _,_,_,_,_,h0,_,_,_| .bp _ _ _,_,_,_,_,h0,_,_,_| .mp _,_,_,_,_,h0,_,_,_=>by cases h0
theorem ownOfL_R: ∀{v:List SV} {nx:Nat} {p0 p:List PV} {q:cB},pvL v=some p0->ownPL nx p0=some (p,q)-> ∀{s:List SB},xP s nx (ownOfL nx v).2->RL s (ownOfL nx v).1 p/\S9 s (ownOfL nx v).2 q
 | [],nx,p0,p,q,h0,h,s,_=>by injection h0 with h0;subst h0;injection h with h;injection h with h1 h2;subst h1 h2;exact ⟨rfl,S9.nil⟩
 |x::xs,nx,p0,p,q,h0,h,s,hb=>by
  obtain ⟨a,as,rfl,h1,h2⟩:=dP.1 h0;simp only [ownPL] at h;split at h
  · rename_i ra hra
    split at h
    · rename_i rb hrb
      injection h with h;injection h with e1 e2;subst e1 e2;simp only [ownOfL] at hb ⊢;obtain ⟨k1,k2⟩:=U3 (p:=ra.1) (q:=ra.2) h1 hra hb.left;rw [k2.1] at hrb;obtain ⟨k3,k4⟩:=ownOfL_R (p:=rb.1) (q:=rb.2) h2 hrb hb.right;exact ⟨RL.cons k1 k3,k2.append k4⟩
    · cases h
  · cases h
end
mutual
theorem ZS {s:List SB} {ps:cB} {z:List Nat} (hS:cD s ps): ∀{v v':SV} {p:PV} {seen seen':List Nat} (nx:Nat),R s v p->W0 s z seen v=some (v',seen')-> ∃p0 p' q,tB v'=some p0/\J5 nx p0=some (p',q)/\B0 ps z nx seen p=some (p',q,seen')
 | .int k n,v',p,seen,seen',nx,h,hx=>by injection hx with hx;injection hx with h1 h2;subst h1 h2;rw [show p=_ from h];exact ⟨_,_,_,rfl,rfl,rfl⟩
 | .bool k,v',p,seen,seen',nx,h,hx=>by injection hx with hx;injection hx with h1 h2;subst h1 h2;rw [show p=_ from h];exact ⟨_,_,_,rfl,rfl,rfl⟩
 | .agg cs,v',p,seen,seen',nx,h,hx=>by
  obtain ⟨q,rfl,h⟩:=h;simp only [W0] at hx;split at hx
  · rename_i r hr
    injection hx with hx;injection hx with h1 h2;subst h1 h2;obtain ⟨p0,p',q',h3,h4,h5⟩:=imOVL_R hS (v':=r.1) (seen':=r.2) nx h hr;exact ⟨.agg p0,.agg p',q',by simp only [tB,h3],by simp only [J5,h4],by simp only [B0,h5];rfl⟩
  · cases hx
 | .tup cs,v',p,seen,seen',nx,h,hx=>by
  obtain ⟨q,rfl,h⟩:=h;simp only [W0] at hx;split at hx
  · rename_i r hr
    injection hx with hx;injection hx with h1 h2;subst h1 h2;obtain ⟨p0,p',q',h3,h4,h5⟩:=imOVL_R hS (v':=r.1) (seen':=r.2) nx h hr;exact ⟨.tup p0,.tup p',q',by simp only [tB,h3],by simp only [J5,h4],by simp only [B0,h5];rfl⟩
  · cases hx
 | .nil e c,v',p,seen,seen',nx,h,hx=>by
  cases c with
  |false=>cases hx
  |true=>injection hx with hx;injection hx with h1 h2;subst h1 h2;rw [show p=_ from h];exact ⟨_,_,_,rfl,rfl,rfl⟩
 | .own t ex,v',p,seen,seen',nx,h,hx=>by
  obtain ⟨e,n,rfl,hat⟩:=h;simp only [W0,bT] at hx;split at hx
  · rename_i r l hst
    obtain ⟨rfl,rfl⟩:=hat.inv hst;cases hc:(has seen t||has z t) with
    |true=>rw [hc] at hx;cases hx
    |false=>
     rw [hc] at hx;injection hx with hx;injection hx with h1 h2;subst h1 h2;refine ⟨_,_,_,rfl,rfl,?_⟩;simp only [B0,hS.arr hst,hc];simp
  · cases hx
 | .junk,_,_,_,_,_,_,hx| .undef,_,_,_,_,_,_,hx| .nul,_,_,_,_,_,_,hx| .nilf,_,_,_,_,_,_,hx| .str _,_,_,_,_,_,_,hx| .sl _ _,_,_,_,_,_,_,hx| .pre _ _ _ _,_,_,_,_,_,_,hx| .part _ _ _ _ _,_,_,_,_,_,_,hx
 | .pa _ _ _ _ _,_,_,_,_,_,_,hx| .pb _ _ _,_,_,_,_,_,_,hx| .bp _ _ _,_,_,_,_,_,_,hx| .rptr _ _,_,_,_,_,_,_,hx| .clo _ _ _,_,_,_,_,_,_,hx| .mp _,_,_,_,_,_,_,hx=>by cases hx
theorem imOVL_R {s:List SB} {ps:cB} {z:List Nat} (hS:cD s ps): ∀{v v':List SV} {p:List PV} {seen seen':List Nat} (nx:Nat),RL s v p->imOVL s z seen v=some (v',seen')-> ∃p0 p' q,pvL v'=some p0/\ownPL nx p0=some (p',q)/\imOL ps z nx seen p=some (p',q,seen')
 | [],v',p,seen,seen',nx,h,hx=>by injection hx with hx;injection hx with h1 h2;subst h1 h2;rw [show p=_ from h];exact ⟨_,_,_,rfl,rfl,rfl⟩
 |x::xs,v',p,seen,seen',nx,h,hx=>by
  obtain ⟨a,as,rfl,h1,h2⟩:=h.cons_inv;simp only [imOVL] at hx;split at hx
  · rename_i r hr
    split at hx
    · rename_i r2 hr2
      injection hx with hx;injection hx with e1 e2;subst e1 e2;obtain ⟨p0,p',q,k1,k2,k3⟩:=ZS hS (v':=r.1) (seen':=r.2) nx h1 hr;obtain ⟨p02,p'2,q2,k4,k5,k6⟩:=imOVL_R hS (v':=r2.1) (seen':=r2.2) (nx+q.length) h2 hr2;exact ⟨p0::p02,p'::p'2,q++q2,dP.2 ⟨_,_,rfl,k1,k4⟩,by simp only [ownPL,k2,k5],by simp only [imOL,k3,k6]⟩
    · cases hx
  · cases hx
end
mutual
theorem P9 {s:List SB}: ∀{v:SV} {p:PV},R s v p->C7 v=true->p.noref=true
 | .int _ _,p,h,_| .bool _,p,h,_| .str _,p,h,_=>by rw [show p=_ from h];rfl
 | .agg cs,p,h,hn=>by obtain ⟨q,rfl,h⟩:=h;exact norefSL_R h hn
 | .tup cs,p,h,hn=>by obtain ⟨q,rfl,h⟩:=h;exact norefSL_R h hn
 | .junk,_,_,h| .undef,_,_,h| .nul,_,_,h| .nilf,_,_,h| .sl _ _,_,_,h| .nil _ _,_,_,h| .own _ _,_,_,h| .pre _ _ _ _,_,_,h| .part _ _ _ _ _,_,_,h| .pa _ _ _ _ _,_,_,h| .pb _ _ _,_,_,h| .bp _ _ _,_,_,h| .rptr _ _,_,_,h| .clo _ _ _,_,_,h| .mp _,_,_,h=>by cases h
theorem norefSL_R {s:List SB}: ∀{v:List SV} {p:List PV},RL s v p->norefSL v=true->norefL p=true
 | [],p,h,_=>by rw [show p=_ from h];rfl
 |x::xs,p,h,hn=>by
  obtain ⟨a,as,rfl,h1,h2⟩:=h.cons_inv;simp only [norefSL,Bool.and_eq_true] at hn;simp only [norefL,P9 h1 hn.1,norefSL_R h2 hn.2,Bool.and_self]
end
mutual
theorem MH {s:List SB} {u:SV}: ∀{v:SV} {p:PV},R s v p->C7 v=false->YZ s v=some u->p.noref=false
 | .int _ _,p,h,hn,_| .bool _,p,h,hn,_| .str _,p,h,hn,_=>by cases hn
 | .agg cs,p,h,hn,hi=>by
  obtain ⟨q,rfl,h⟩:=h;simp only [YZ] at hi;split at hi
  · rename_i l hl;exact yesrefSL_R h hn hl
  · cases hi
 | .tup cs,p,h,hn,hi=>by
  obtain ⟨q,rfl,h⟩:=h;simp only [YZ] at hi;split at hi
  · rename_i l hl;exact yesrefSL_R h hn hl
  · cases hi
 | .sl _ _,p,h,_,_=>by rw [show p=_ from h];rfl
 | .nil _ _,p,h,_,_=>by rw [show p=_ from h];rfl
 | .own _ _,p,h,_,_=>by obtain ⟨e,n,rfl,_⟩:=h;rfl
 | .pre _ _ _ _,p,h,_,_=>by obtain ⟨e,rfl,_⟩:=h;rfl
 | .part _ _ _ _ _,p,h,_,_=>by obtain ⟨e,rfl,_⟩:=h;rfl
 | .junk,_,_,_,h| .undef,_,_,_,h| .nul,_,_,_,h| .nilf,_,_,_,h| .pa _ _ _ _ _,_,_,_,h| .pb _ _ _,_,_,_,h| .bp _ _ _,_,_,_,h| .rptr _ _,_,_,_,h| .clo _ _ _,_,_,_,h| .mp _,_,_,_,h=>by cases h
theorem yesrefSL_R {s:List SB}: ∀{v u:List SV} {p:List PV},RL s v p->norefSL v=false->imVL s v=some u->norefL p=false
 | [],u,p,h,hn,_=>by cases hn
 |x::xs,u,p,h,hn,hi=>by
  obtain ⟨a,as,rfl,h1,h2⟩:=h.cons_inv;simp only [imVL] at hi;split at hi
  · rename_i y ys h3 h4
    simp only [norefSL] at hn;simp only [norefL];cases hx:C7 x with
    |false=>rw [MH h1 hx h3];rfl
    |true=>rw [hx] at hn;rw [yesrefSL_R h2 (by simpa using hn) h4];simp
  · cases hi
end
mutual
theorem aHe {s:List SB} {ps:cB} (hS:cD s ps): ∀{v u:SV} {p:PV},R s v p->YZ s v=some u-> ∃q,A1 ps p=some q/\tB u=some q
 | .int k n,u,p,h,hx=>by injection hx with hx;subst hx;rw [show p=_ from h];exact ⟨_,rfl,rfl⟩
 | .bool b,u,p,h,hx=>by injection hx with hx;subst hx;rw [show p=_ from h];exact ⟨_,rfl,rfl⟩
 | .str x,u,p,h,hx=>by injection hx with hx;subst hx;rw [show p=_ from h];exact ⟨_,rfl,rfl⟩
 | .agg cs,u,p,h,hx=>by
  obtain ⟨q,rfl,h⟩:=h;simp only [YZ] at hx;split at hx
  · rename_i l hl
    injection hx with hx;subst hx;obtain ⟨q',h1,h2⟩:=imVL_R hS h hl;exact ⟨.agg q',by simp only [A1,h1];rfl,by simp only [tB,h2]⟩
  · cases hx
 | .tup cs,u,p,h,hx=>by
  obtain ⟨q,rfl,h⟩:=h;simp only [YZ] at hx;split at hx
  · rename_i l hl
    injection hx with hx;subst hx;obtain ⟨q',h1,h2⟩:=imVL_R hS h hl;exact ⟨.tup q',by simp only [A1,h1];rfl,by simp only [tB,h2]⟩
  · cases hx
 | .sl r l,u,p,h,hx=>by injection hx with hx;subst hx;rw [show p=_ from h];exact ⟨_,rfl,rfl⟩
 | .nil e c,u,p,h,hx=>by injection hx with hx;subst hx;rw [show p=_ from h];exact ⟨_,rfl,rfl⟩
 | .own t ex,u,p,h,hx=>by
  simp only [YZ,bT] at hx;split at hx
  · rename_i r l hst
    injection hx with hx;subst hx;obtain ⟨e,n,rfl,hat⟩:=h;obtain ⟨rfl,rfl⟩:=hat.inv hst;refine ⟨.sl r.length false (l.map (RT.pv r)),?_,rfl⟩;simp only [A1,hS.arr hst,List.drop_zero];rw [List.take_of_length_le (by simp)]
  · cases hx
 | .pre t len cap ex,u,p,h,hx=>by
  simp only [YZ,bT] at hx;split at hx
  · rename_i r l hst
    injection hx with hx;subst hx;obtain ⟨e,rfl,hat⟩:=h
    have:=hat.inv hst
    subst this;refine ⟨.sl r.length false ((l.take len).map (RT.pv r)),?_,rfl⟩;simp only [A1,hS.arr hst,List.drop_zero,List.map_take]
  · cases hx
 | .part t off len cap ex,u,p,h,hx=>by
  simp only [YZ,bT] at hx;split at hx
  · rename_i r l hst
    injection hx with hx;subst hx;obtain ⟨e,rfl,hat⟩:=h
    have:=hat.inv hst
    subst this;refine ⟨.sl r.length false (((l.drop off).take len).map (RT.pv r)),?_,rfl⟩;simp only [A1,hS.arr hst,List.map_take,List.map_drop]
  · cases hx
 | .junk,_,_,_,hx| .undef,_,_,_,hx| .nul,_,_,_,hx| .nilf,_,_,_,hx| .pa _ _ _ _ _,_,_,_,hx| .pb _ _ _,_,_,_,hx| .bp _ _ _,_,_,_,hx| .rptr _ _,_,_,_,hx| .clo _ _ _,_,_,_,hx| .mp _,_,_,_,hx=>by cases hx
theorem imVL_R {s:List SB} {ps:cB} (hS:cD s ps): ∀{v u:List SV} {p:List PV},RL s v p->imVL s v=some u-> ∃q,imFL ps p=some q/\pvL u=some q
 | [],u,p,h,hx=>by injection hx with hx;subst hx;rw [show p=_ from h];exact ⟨_,rfl,rfl⟩
 |x::xs,u,p,h,hx=>by
  obtain ⟨a,as,rfl,h1,h2⟩:=h.cons_inv;simp only [imVL] at hx;split at hx
  · rename_i y ys h3 h4
    injection hx with hx;subst hx;obtain ⟨q,h5,h6⟩:=aHe hS h1 h3;obtain ⟨qs,h7,h8⟩:=imVL_R hS h2 h4;exact ⟨q::qs,by simp only [imFL,h5,h7],dP.2 ⟨_,_,rfl,h6,h8⟩⟩
  · cases hx
end
mutual
theorem ZT {s:List SB}: ∀{v:SV} {p:PV},tB v=some p->R s v p
 | .int _ _,p,h| .bool _,p,h| .str _,p,h| .nilf,p,h| .sl _ _,p,h| .nil _ _,p,h=>by injection h with h;exact h.symm
 | .agg cs,p,h=>by
  simp only [tB] at h;split at h
  · rename_i l hl;injection h with h;exact ⟨l,h.symm,pvL_R hl⟩
  · cases h
 | .tup cs,p,h=>by
  simp only [tB] at h;split at h
  · rename_i l hl;injection h with h;exact ⟨l,h.symm,pvL_R hl⟩
  · cases h
 | .rptr cs o,p,h=>by
  simp only [tB] at h;split at h
  · rename_i l hl;injection h with h;exact ⟨l,h.symm,pvL_R hl⟩
  · cases h
 | .clo f a b,p,h=>by
  simp only [tB] at h;split at h
  · rename_i x y h1 h2;injection h with h;exact ⟨x,y,h.symm,pvL_R h1,pvL_R h2⟩
  · cases h
 | .junk,_,h| .undef,_,h| .nul,_,h| .own _ _,_,h| .pre _ _ _ _,_,h| .part _ _ _ _ _,_,h| .pa _ _ _ _ _,_,h| .pb _ _ _,_,h| .bp _ _ _,_,h| .mp _,_,h=>by cases h
theorem pvL_R {s:List SB}: ∀{v:List SV} {p:List PV},pvL v=some p->RL s v p
 | [],p,h=>by injection h with h;exact h.symm
 |x::xs,p,h=>by
  obtain ⟨a,as,rfl,h1,h2⟩:=dP.1 h;exact RL.cons (ZT h1) (pvL_R h2)
end
def aHf (kd:Kd) (n:Nat) (tk:List Nat) (v:SV) (r:oR):Prop:=
 match kd with
 | .pure=> ∃p,tB v=some p/\r={v:=p,rd:=tk}
 | .frz=> ∃p,tB v=some p/\r={v:=p,rd:=tk,fr:=tk}
 | .own=> ∃p0 p q,tB v=some p0/\J5 n p0=some (p,q)/\r={v:=p,news:=q,rd:=tk}
def aI (F : mX) (f : FuncId) (c : bN) : Prop :=
  ∀ (a : c.α) (b : c.β) (as args : List PV) (sto : cB) (fz : List Nat), c.fn a = some b -> pvL (c.args.enc a) = some args -> exL sto (zI sto dQ) as = some args ->
    ∃ n r, callPure F (run F n) c.ow f as sto fz = some r /\ aHf c.kd sto.length (toksL (cM sto dQ) as) (c.res.enc b) r
def eK.va (c:eK) (a:kF c.ka):List SV:=(putL c.ta (mN c.ka a)).1
def eK.sa (c:eK) (a:kF c.ka):List SB:=(C8 c.tb (putL c.ta (mN c.ka a)).2).1
def eK.vb (c:eK) (b:kF c.ko):SV:=(uI c.tv (mN c.ko b)).1
def eK.sb (c:eK) (b:kF c.ko):List SB:=(C8 c.to (uI c.tv (mN c.ko b)).2).1
def ZU:SB->SB->Prop
 | .arr r l,.arr q m=>r=q/\m.length=l.length
 | .box _,.box _=>True
 | .set _,.set _=>True
 | .tab _ _,.tab _ _=>True
 | .dead,.dead=>True
 |_,_=>False
def oT (F : mX) (f : FuncId) (c : eK) : Prop :=
  ∀ (a : kF c.ka) (b : kF c.ko) (pa : List PV) (ps : cB), c.fn a = some b -> RL (c.sa a) (c.va a) pa -> cD (c.sa a) ps ->
    ∃ n v s, run F n (.func f pa ps []) = some (.func v s []) /\ hO (c.sa a).length v s = true /\ R (c.sb b) (c.vb b) v /\ cD (c.sb b) (s.take (c.sa a).length) /\ (c.sb b).length = (c.sa a).length /\
      ∀ (t : Nat) (x y : SB), (c.sa a)[t]? = some x -> (c.sb b)[t]? = some y -> ZU x y
def DG (F:mX):List (Nat×bN)->Prop
 | []=>True
 |(f,c)::r=>aI F f c/\DG F r
def MI (F:mX):List (Nat×eK)->Prop
 | []=>True
 |(f,c)::r=>oT F f c/\MI F r
def EO (F:mX):List (Nat×Cd)->Prop
 | []=>True
 |(f,x)::r=>F f=some x.ent/\EO F r
structure pF (F:mX) (cx:X0):Prop where
 con: ∀f c,c∈cx.con f->aI F f c
 fpc: ∀f c,c∈cx.fpc f->oT F f c
 code: ∀f x,cx.code f=some x->F f=some x.ent
theorem DG.mem {F:mX}: ∀{l:List (Nat×bN)},DG F l-> ∀f c,c∈P0 l f->aI F f c
 | [],_,f,c,h=>by cases h
 |(g,d)::r,hl,f,c,h=>by
  simp only [P0] at h;cases hb:Nat.beq g f with
  |true=>
   rw [hb] at h
   have:=Nat.eq_of_beq_eq_true hb
   subst this;simp only [cond_true] at h;rcases h with _|⟨_,h⟩
   · exact hl.1
   · exact DG.mem hl.2 _ c h
  |false=>rw [hb] at h;exact DG.mem hl.2 f c h
theorem MI.mem {F:mX}: ∀{l:List (Nat×eK)},MI F l-> ∀f c,c∈P1 l f->oT F f c
 | [],_,f,c,h=>by cases h
 |(g,d)::r,hl,f,c,h=>by
  simp only [P1] at h;cases hb:Nat.beq g f with
  |true=>
   rw [hb] at h
   have:=Nat.eq_of_beq_eq_true hb
   subst this;simp only [cond_true] at h;rcases h with _|⟨_,h⟩
   · exact hl.1
   · exact MI.mem hl.2 _ c h
  |false=>rw [hb] at h;exact MI.mem hl.2 f c h
theorem EO.mem {F:mX}: ∀{l:List (Nat×Cd)},EO F l-> ∀f x,NT l f=some x->F f=some x.ent
 | [],_,f,c,h=>by cases h
 |(g,d)::r,hl,f,c,h=>by
  simp only [NT] at h;cases hb:Nat.beq g f with
  |true=>
   rw [hb] at h
   have:=Nat.eq_of_beq_eq_true hb
   subst this;injection h with h;subst h;exact hl.1
  |false=>rw [hb] at h;exact EO.mem hl.2 f c h
theorem pF.make {F:mX} {lp:Option Nat} {c:List (Nat×bN)} {p:List (Nat×eK)} {x:List (Nat×Cd)} {rk:List (Nat×List PT)} (h1:DG F c) (h2:MI F p) (h3:EO F x):pF F (wI lp c p x rk):=
 ⟨h1.mem,h2.mem,h3.mem⟩
section
variable {F : mX} {R' ρ : Type} {w : R' -> ρ} {y : ρ} {s : List SB} {ps : cB} {z : List Nat}
theorem AB {f:FuncId} {m:Bool} {tk:List Nat} {vs:List SV} {k:XRS->gX R'} (hS:cD s ps) {as args:List PV} (hx:exL ps (zI ps dQ) as=some args) (hv:pvL vs=some args) (htk:tk=toksL (cM ps dQ) as):
 ∀{l:List bN},(∀c∈l,aI F f c)->S0 f m s tk vs k l ρ w=some y-> ∃sr pr,(∃n,callPure F (run F n) m f as ps z=some pr)/\hY s ps sr pr/\k (.loc sr) ρ w=some y
 | [],_,h=>by cases h
 |c::l,hl,h=>by
  simp only [S0] at h;cases hd:c.args.dec vs with
  |none=>rw [hd] at h;exact AB hS hx hv htk (fun c hc=>hl c (List.mem_cons_of_mem _ hc)) h
  |some a=>
   rw [hd] at h;cases hmo:(m==c.ow) with
   |false=>
    rw [hmo] at h;exact AB hS hx hv htk (fun c hc=>hl c (List.mem_cons_of_mem _ hc)) h
   |true=>
   rw [hmo] at h;obtain ⟨b,hb,h2⟩:=cS h;have hm:m=c.ow:=by simpa using hmo
   subst hm;have henc:=c.args.law hd hv;obtain ⟨n,r,hr,hres⟩:=hl c (List.mem_cons_self ..) a b as args ps z hb henc hx;cases hkd:c.kd with
   |pure=>
    rw [hkd] at h2 hres;obtain ⟨p,h3,rfl⟩:=hres;exact ⟨_,_,⟨n,hr⟩,by rw [<- htk];exact hY.val hS (ZT h3),h2⟩
   |frz=>
    rw [hkd] at h2 hres;obtain ⟨p,h3,rfl⟩:=hres;exact ⟨_,_,⟨n,hr⟩,by rw [<- htk];exact hY.val hS (ZT h3),h2⟩
   |own=>
    rw [hkd] at h2 hres;obtain ⟨p0,p,q,h3,h4,rfl⟩:=hres;rw [hS.len] at h4;have hbh:xP (s++(zX s.length (c.res.enc b)).2) s.length (zX s.length (c.res.enc b)).2:=fun j x hj=>by
     rw [List.getElem?_append_right (by omega)];simpa using hj
    obtain ⟨k1,k2⟩:=U3 h3 h4 hbh;exact ⟨_,_,⟨n,hr⟩,by rw [<- htk];exact hY.news hS k2.1 k2.2 k1,h2⟩
end
end Go.Vm
/- A call of a function that works on the blocks that are lent to it. -/
namespace Go.Vm
def rY {α:Type}:List (Nat×α)->List α->List α
 | [],s=>s
 |(t,b)::r,s=>rY r (s.set t b)
theorem xQ: ∀(l:List (Nat×SB)) (s:List SB),rX l s=rY l s
 | [],s=>rfl
 |(t,b)::r,s=>by simp only [rX,rY,EG,xQ r]
theorem G7: ∀(l:List (Nat×kY)) (s:cB),gV l s=rY l s
 | [],s=>rfl
 |(t,b)::r,s=>by simp only [gV,rY,G7 r]
theorem DH {α:Type}: ∀(l:List (Nat×α)) (s:List α),(rY l s).length=s.length
 | [],s=>rfl
 |(t,b)::r,s=>by simp [rY,DH r]
theorem xR {α:Type}: ∀(l:List (Nat×α)) (s:List α) (t:Nat),t∉l.map (·.1)->(rY l s)[t]? =s[t]?
 | [],s,t,_=>rfl
 |(u,b)::r,s,t,h=>by
  simp only [List.map_cons,List.mem_cons,not_or] at h;simp only [rY];rw [xR r _ t h.2,List.getElem?_set];simp [Ne.symm h.1]
theorem GA {α:Type}: ∀(l:List (Nat×α)) (s:List α) (j t:Nat) (b:α),(l.map (·.1)).Nodup->l[j]? =some (t,b)->t<s.length->(rY l s)[t]? =some b
 | [],s,j,t,b,_,h,_=>by simp at h
 |(u,c)::r,s,0,t,b,hn,h,ht=>by
  simp at h;obtain ⟨rfl,rfl⟩:=h;simp only [List.map_cons,List.nodup_cons] at hn;simp only [rY];rw [xR r _ u hn.1,List.getElem?_set];simp [ht]
 |(u,c)::r,s,j+1,t,b,hn,h,ht=>by
  simp only [List.map_cons,List.nodup_cons] at hn;simp only [rY];exact GA r _ j t b hn.2 (by simpa using h) (by simpa using ht)
theorem EP: ∀(l:List (Nat×SB)),zY l=l.map (·.1)
 | []=>rfl
 |(t,b)::r=>by simp [zY,EP r]
theorem MJ (g:Nat->Nat): ∀(tk:List Nat) (s:List SB),s.length=tk.length->(CA g tk s).map (·.1)=tk/\ ∀(j t:Nat) (b:SB),tk[j]? =some t->s[j]? =some b->(CA g tk s)[j]? =some (t,Y5 g b)
 | [],s,h=>⟨by simp [CA],fun j t b hj=>by simp at hj⟩
 |t::tk,[],h=>by simp at h
 |t::tk,b::s,h=>by
  obtain ⟨h1,h2⟩:=MJ g tk s (by simpa using h)
  refine ⟨by simp [CA,h1],fun j u c hj hc=>?_⟩
  cases j with
  |zero=>simp at hj hc;subst hj hc;rfl
  |succ j=>simp only [CA,List.getElem?_cons_succ];exact h2 j u c (by simpa using hj) (by simpa using hc)
theorem J6 (g:Nat->Nat): ∀(tk:List Nat) (s:cB),tk.length<=s.length->(oZ g tk s).map (·.1)=tk/\ ∀(j t:Nat) (b:kY),tk[j]? =some t->s[j]? =some b->(oZ g tk s)[j]? =some (t,B1 g b)
 | [],s,h=>⟨by simp [oZ],fun j t b hj=>by simp at hj⟩
 |t::tk,[],h=>by simp at h
 |t::tk,b::s,h=>by
  obtain ⟨h1,h2⟩:=J6 g tk s (by simpa using h)
  refine ⟨by simp [oZ,h1],fun j u c hj hc=>?_⟩
  cases j with
  |zero=>simp at hj hc;subst hj hc;rfl
  |succ j=>simp only [oZ,List.getElem?_cons_succ];exact h2 j u c (by simpa using hj) (by simpa using hc)
theorem MK: ∀{l:List (Nat×kY)},(l.map (·.1)).Nodup->wZ l=true
 | [],_=>rfl
 |p::r,h=>by
  simp only [List.map_cons,List.nodup_cons] at h;simp only [wZ,Bool.and_eq_true,List.all_eq_true,Bool.not_eq_true'];refine ⟨fun q hq=>?_,MK h.2⟩
  cases hb:Nat.beq q.1 p.1 with
  |false=>rfl
  |true=>exact absurd (List.mem_map.2 ⟨q,hq,Nat.eq_of_beq_eq_true hb⟩) h.1
theorem NZ: ∀(s:List SB),F3 [] s=s
 | []=>rfl
 |b::r=>by
  simp only [F3,NZ r];cases b<;>simp [dgB,dgL_nil]
theorem QA (s:List SB) (r:gO):r.stoOf s=F3 (zY r.wr) (rX r.wr s)++r.news:=by
 unfold gO.stoOf;split
 · rename_i h;rw [h];simp only [zY,rX,NZ,mG]
 · simp only [mG]
def aHD (g:Nat->Nat) (s s2:List SB):Prop:= ∀(u:Nat) (x:SB),s[u]? =some x->match x with
 | .arr r l=>s2[g u]? =some (.arr r l)
 | .dead=>s2[g u]? =some .dead
 |_=>True
mutual
theorem U4 {g:Nat->Nat} {s s2:List SB} (hb:aHD g s s2): ∀{v:SV} {p:PV},R s v p->R s2 (PX g v) (renF g p)
 | .junk,_,_=>trivial
 | .undef,p,h| .nul,p,h| .nilf,p,h| .int _ _,p,h| .bool _,p,h| .str _,p,h| .sl _ _,p,h| .nil _ _,p,h| .bp _ _ _,p,h| .mp _,p,h=>by rw [show p=_ from h];rfl
 | .agg cs,p,h=>by obtain ⟨q,rfl,h⟩:=h;exact ⟨_,rfl,backL_R hb h⟩
 | .tup cs,p,h=>by obtain ⟨q,rfl,h⟩:=h;exact ⟨_,rfl,backL_R hb h⟩
 | .rptr cs o,p,h=>by obtain ⟨q,rfl,h⟩:=h;exact ⟨_,rfl,backL_R hb h⟩
 | .clo f a b,p,h=>by obtain ⟨pa,pb,rfl,h1,h2⟩:=h;exact ⟨_,_,rfl,backL_R hb h1,backL_R hb h2⟩
 | .own t ex,p,h=>by
  obtain ⟨e,n,rfl,hat⟩:=h;refine ⟨e,n,rfl,?_⟩;rcases hat with ⟨r,l,h1,h2,h3⟩|h1
  · exact .inl ⟨r,l,hb t _ h1,h2,h3⟩
  · exact .inr (hb t _ h1)
 | .pre t a b c,p,h=>by
  obtain ⟨e,rfl,hat⟩:=h;refine ⟨e,rfl,?_⟩;rcases hat with ⟨r,l,h1,h2⟩|h1
  · exact .inl ⟨r,l,hb t _ h1,h2⟩
  · exact .inr (hb t _ h1)
 | .part t o a b c,p,h=>by
  obtain ⟨e,rfl,hat⟩:=h;refine ⟨e,rfl,?_⟩;rcases hat with ⟨r,l,h1,h2⟩|h1
  · exact .inl ⟨r,l,hb t _ h1,h2⟩
  · exact .inr (hb t _ h1)
 | .pa t r i a o,p,h=>by
  obtain ⟨rfl,hat⟩:=h;refine ⟨_,rfl,?_⟩;rcases hat with ⟨l,h1,h2⟩|h1
  · exact .inl ⟨r,l,hb t _ h1,by rw [h2];rfl⟩
  · exact .inr (hb t _ h1)
 | .pb t i o,p,h=>by
  obtain ⟨e,rfl,hat⟩:=h;refine ⟨e,rfl,?_⟩;rcases hat with ⟨r,l,h1,h2⟩|h1
  · exact .inl ⟨r,l,hb t _ h1,h2⟩
  · exact .inr (hb t _ h1)
theorem backL_R {g:Nat->Nat} {s s2:List SB} (hb:aHD g s s2): ∀{v:List SV} {p:List PV},RL s v p->RL s2 (backL g v) (renFL g p)
 | [],p,h=>by rw [show p=_ from h];rfl
 |x::xs,p,h=>by
  obtain ⟨a,as,rfl,h1,h2⟩:=h.cons_inv;exact RL.cons (U4 hb h1) (backL_R hb h2)
end
theorem J7: ∀{a b:cB},(∀(t:Nat) (x:kY),a[t]? =some x-> ∃y,b[t]? =some y/\x.solid=y.solid)->wY a b=true
 | [],b,_=>by cases b<;>rfl
 |x::a,[],h=>by obtain ⟨y,hy,_⟩:=h 0 x rfl;simp at hy
 |x::a,y::b,h=>by
  obtain ⟨y',h1,h2⟩:=h 0 x rfl;simp at h1;subst h1
  have:=J7 (a:=a) (b:=b) (fun t x hx=>by simpa using h (t+1) x (by simpa using hx))
  simp only [wY,this,Bool.and_true,h2];cases y.solid<;>rfl
section
variable {F : mX} {R' ρ : Type} {w : R' -> ρ} {y : ρ} {s : List SB} {ps : cB} {z : List Nat}
theorem U5 {f:FuncId} {tk:List Nat} {vals vs:List SV} {s0:List SB} {k:XRS->gX R'} (hS:cD s ps) {pas:List PV} (hv:RL s vals pas) (htk:tk=oW (toksL (cM ps dQ) pas)) (hz:(tk.all fun t=>!has z t)=true)
 (h1:renVL tk vals=some vs) (h2:LK s tk tk=some s0):
 ∀{l:List eK},(∀c∈l,oT F f c)->fpS f s.length tk vs s0 k l ρ w=some y-> ∃sr pr,(∃n,vE (run F n) f pas ps z=some pr)/\hY s ps sr pr/\k (.loc sr) ρ w=some y
 | [],_,h=>by cases h
 |c::l,hl,h=>by
  have next:fpS f s.length tk vs s0 k l ρ w=some y-> ∃sr pr,(∃n,vE (run F n) f pas ps z=some pr)/\hY s ps sr pr/\k (.loc sr) ρ w=some y:=
   fun h=>U5 hS hv htk hz h1 h2 (fun c hc=>hl c (List.mem_cons_of_mem _ hc)) h
  simp only [fpS] at h;cases hlk:(likeL c.ta vs&&JQ c.tb s0) with
  |false=>rw [hlk] at h;exact next h
  |true=>
   rw [hlk] at h;simp only [cond_true] at h;cases hpo:rW c.ka (atsL vs++NR s0) with
   |none=>rw [hpo] at h;exact next h
   |some a=>
    rw [hpo] at h;obtain ⟨b,hb,h3⟩:=cS h;simp only [Bool.and_eq_true] at hlk;have hats:=tC hpo;have hva:c.va a=vs:=by unfold eK.va;rw [hats,put_atsL _ hlk.1]
    have hsa:c.sa a=s0:=by
     unfold eK.sa;rw [hats,put_atsL _ hlk.1]
     have:=EN [] hlk.2
     rw [List.append_nil] at this;rw [this]
    have hren:J4 tk s s0:=by have:=J4.of (l:=[]) h2;rwa [List.append_nil] at this
    obtain ⟨pa',a1,a2⟩:=renVL_R hren hv h1;obtain ⟨p0,b1,b2,b3⟩:=F6 hS hren h2;have hs0:cD s0 p0:=⟨b2,b3⟩;obtain ⟨hs0l,hs0g⟩:=AA h2;obtain ⟨n,v,sr,r1,r2,r3,r4,r5,r6⟩:=hl c (List.mem_cons_self ..) a b pa' p0 hb (by rw [hva,hsa];exact a2) (by rw [hsa];exact hs0)
    rw [hsa] at r2 r4 r5 r6;have hnd:tk.Nodup:=by rw [htk];exact uP
    have htl: ∀t∈tk,t<s.length:=fun t ht=>by
     obtain ⟨j,hj,he⟩:=List.getElem_of_mem ht;obtain ⟨x,c',d1,_,_⟩:=hs0g j t (by rw [List.getElem?_eq_getElem hj,he])
     exact (List.getElem?_eq_some_iff.1 d1).1
    have hsbl:(c.sb b).length=tk.length:=by rw [r5,hs0l]
    have hsrl:tk.length<=sr.length:=by
     have:=r4.len
     rw [List.length_take,hsbl] at this;rw [hs0l] at this;omega
    have htake: ∀j,j<tk.length->(sr.take s0.length)[j]? =sr[j]?:=fun j hj=>List.getElem?_take_of_lt (by rw [hs0l];exact hj)
    have hfirm:wY p0 sr=true:=J7 (fun t x hx=>by
     have htl':t<s0.length:=by have:=(List.getElem?_eq_some_iff.1 hx).1;rw [b2] at this;exact this
     obtain ⟨x0,hx0⟩: ∃x0,s0[t]? =some x0:=⟨s0[t],List.getElem?_eq_getElem htl'⟩;obtain ⟨q,q1,q2⟩:=b3 t x0 hx0;rw [hx] at q1;injection q1 with q1;subst q1;obtain ⟨y0,hy0⟩: ∃y0,(c.sb b)[t]? =some y0:=⟨(c.sb b)[t]'(by omega),List.getElem?_eq_getElem (by omega)⟩
     obtain ⟨q',q3,q4⟩:=r4.at_ t y0 hy0;rw [htake t (by omega)] at q3
     refine ⟨q',q3,?_⟩;have hfm:=r6 t x0 y0 hx0 hy0;cases x0 with
     |arr r l=>cases y0 with
      |arr r' l'=>
       obtain ⟨rfl,hll⟩:=hfm;rw [show x=_ from q2,show q'=_ from q4];cases l<;>cases l'<;>simp_all [kY.solid]
      |_=>exact hfm.elim
     |box cs=>cases y0 with
      |box cs'=>obtain ⟨_,rfl,_⟩:=q2;obtain ⟨_,rfl,_⟩:=q4;rfl
      |_=>exact hfm.elim
     |set l=>cases y0 with
      |set l'=>rw [show x=_ from q2,show q'=_ from q4];rfl
      |_=>exact hfm.elim
     |tab p l=>cases y0 with
      |tab p' l'=>rw [show x=_ from q2,show q'=_ from q4];rfl
      |_=>exact hfm.elim
     |dead=>cases y0 with
      |dead=>rw [show x=_ from q2,show q'=_ from q4]
      |_=>exact hfm.elim)
    let g:=kI tk s.length
    have hg: ∀j t,tk[j]? =some t->g j=t:=fun j t hj=>by show kI tk s.length j=t;unfold kI;rw [hj]
    obtain ⟨w1,w2⟩:=MJ g tk (c.sb b) hsbl;obtain ⟨u1,u2⟩:=J6 g tk sr hsrl
    let s2:=F3 tk (rX (CA g tk (c.sb b)) s)
    have hin: ∀(j t:Nat) (x:SB),tk[j]? =some t->(c.sb b)[j]? =some x->s2[t]? =some (dgB tk (Y5 g x)):=fun j t x hj hx=>by
     show (F3 tk _)[t]? =_;rw [xL,xQ,GA _ s j t _ (by rw [w1];exact hnd) (w2 j t x hj hx) (htl t (List.mem_of_getElem? hj))]
     rfl
    have hout: ∀(t:Nat),t∉tk->s2[t]? =(s[t]?).map (dgB tk):=fun t ht=>by
     show (F3 tk _)[t]? =_;rw [xL,xQ,xR _ s t (by rw [w1];exact ht)]
    have hmem: ∀t∈tk,∃j,tk[j]? =some t:=fun t ht=>by
     obtain ⟨j,hj,he⟩:=List.getElem_of_mem ht;exact ⟨j,by rw [List.getElem?_eq_getElem hj,he]⟩
    have hfr:Fr tk s s2:=fun t x hx=>by
     by_cases ht:t∈tk
     · obtain ⟨j,hj⟩:=hmem t ht
       have hjl:j<tk.length:=(List.getElem?_eq_some_iff.1 hj).1;obtain ⟨x',c',d1,d2,d3⟩:=hs0g j t hj;rw [hx] at d1;injection d1 with d1;subst d1;obtain ⟨y0,hy0⟩: ∃y0,(c.sb b)[j]? =some y0:=⟨(c.sb b)[j]'(by omega),List.getElem?_eq_getElem (by omega)⟩
       have hfm:=r6 j c' y0 d3 hy0;have hs2:=hin j t y0 hj hy0;cases x with
       |arr r l=>
        injection d2 with d2;subst d2;cases y0 with
        |arr r' l'=>
         obtain ⟨rfl,hll⟩:=hfm;refine .inl ⟨l',hs2,hll,fun hb=>?_⟩
         exfalso
         have:has tk t=true:=by unfold has;rw [List.any_eq_true];exact ⟨t,ht,by simp⟩
         rw [this] at hb;cases hb
        |_=>exact hfm.elim
       |dead=>
        injection d2 with d2;subst d2;cases y0 with
        |dead=>exact hs2
        |_=>exact hfm.elim
       |_=>trivial
     · have:=hout t ht
       rw [hx] at this;cases x with
       |arr r l=>exact .inl ⟨l,this,rfl,fun _=>rfl⟩
       |dead=>exact this
       |_=>trivial
    have hback:aHD g (c.sb b) s2:=fun u x hx=>by
     have hul:u<tk.length:=by have:=(List.getElem?_eq_some_iff.1 hx).1;omega
     have hj:tk[u]? =some tk[u]:=List.getElem?_eq_getElem hul
     have:=hin u _ x hj hx
     rw [hg u _ hj];cases x with
     |arr r l=>exact this
     |dead=>exact this
     |_=>trivial
    have hRes:(∃n,vE (run F n) f pas ps z=some {v:=renF g v,wr:=oZ g tk sr}):=by
     refine ⟨n,?_⟩;unfold vE aAZ;rw [<- htk,if_pos hz,a1,b1];dsimp only;rw [r1];dsimp only;unfold IS;rw [if_pos hfirm,hS.len]
     have:hO tk.length v sr=true:=by rw [<- hs0l];exact r2
     rw [if_pos this]
    refine ⟨{v:=PX g (c.vb b),wr:=CA g tk (c.sb b)},_,hRes,?_,h3⟩;have hst:gO.stoOf s {v:=PX g (c.vb b),wr:=CA g tk (c.sb b)}=s2:=by
     rw [QA,List.append_nil,EP,w1]
    exact {
     rd:=rfl
     fr:=rfl
     wr:=by rw [EP,w1];exact u1
     nw:=MK (by rw [u1];exact hnd)
     nl:=rfl
     sto:=by
      rw [hst];show cD s2 (gV (oZ g tk sr) ps);rw [G7];refine ⟨by rw [DH,A9,xQ,DH,hS.len],fun t x hx=>?_⟩
      by_cases ht:t∈tk
      · obtain ⟨j,hj⟩:=hmem t ht
        have hjl:j<tk.length:=(List.getElem?_eq_some_iff.1 hj).1;obtain ⟨y0,hy0⟩: ∃y0,(c.sb b)[j]? =some y0:=⟨(c.sb b)[j]'(by omega),List.getElem?_eq_getElem (by omega)⟩
        have hs2:=hin j t y0 hj hy0;rw [hx] at hs2;injection hs2 with hs2;subst hs2;obtain ⟨q',q3,q4⟩:=r4.at_ j y0 hy0;rw [htake j hjl] at q3;refine ⟨B1 g q',GA _ ps j t _ (by rw [u1];exact hnd) (u2 j t q' hj q3) (by rw [hS.len];exact htl t ht),?_⟩
        cases y0 with
        |box cs=>
         obtain ⟨pc,rfl,hpc⟩:=q4;exact ⟨_,rfl,RL.fr (Fr.refl tk s2) (backL_R hback hpc)⟩
        |arr r l=>rw [show q'=_ from q4];rfl
        |set l=>rw [show q'=_ from q4];rfl
        |tab p l=>rw [show q'=_ from q4];rfl
        |dead=>rw [show q'=_ from q4];rfl
      · rw [hout t ht,Option.map_eq_some_iff] at hx
        obtain ⟨x0,hx0,rfl⟩:=hx;obtain ⟨q,q1,q2⟩:=hS.at_ t x0 hx0;exact ⟨q,by rw [xR _ ps t (by rw [u1];exact ht)];exact q1,q2.fr hfr⟩
     v:=by rw [hst];exact U4 hback r3
     fra:=by rw [hst,EP,w1];exact hfr}
end
end Go.Vm
/- What the typed machine makes of a function is what the logical machine runs. -/
namespace Go.Vm
section
variable {F : mX}
theorem WO.shrAny {o:bI} {r:List bI} {st:St} {tr:List Tr} {Q:St->List Tr->Prop} {f:FuncId} {args:List PV}
 (hw:wanted o.guard st.env=some true) (hop: ∀n,yQ F (run F n) st.env st.sto st.fz o.op=fM (run F n) f args st.sto st.fz)
 (h:HQ F f args st.sto st.fz fun v s z=>(Nat.ble st.sto.length s.length&&st.fz.all (has z))=true/\WO F r {st with env:=iK o.dst v st.env,sto:=s,fz:=z} (Y4::tr) Q):
 WO F (o::r) st tr Q:=by
 obtain ⟨n,v,s,z,hr,hc,hk⟩:=h;refine WO.call (.shr v s z) hw ⟨n,?_⟩ rfl hk;rw [hop];simp only [fM,hr];rw [if_pos hc]
theorem WP.again {live:List (Nat×Option Nat)} {b:kC} {st s1:St} {Q:hG->St->Prop} (h0:HP live st=some s1) (h:WP F b s1 (IA (fun s=>WP F (.loop live b) s Q) Q)):WP F (.loop live b) st Q:=by
 obtain ⟨m,e,s,he,hq⟩:=h;cases e with
 |normal=>
  obtain ⟨k,e',s',he',hq'⟩:=hq;refine ⟨max m k+1,e',s',?_,hq'⟩;simp only [uG] at he' ⊢;rw [nR];simp only [step,h0];rw [qV (qW F (Nat.le_max_left m k)) _ _ _ he];dsimp only;split at he'
  · rename_i e1 s1 hr1
    rw [qW F (Nat.le_max_right m k) _ _ hr1];exact he'
  · cases he'
 |exit i=>exact ⟨m+1,.exit i,s,by simp only [uG];rw [nR];simp only [step,h0,he],hq⟩
 |ret=>exact ⟨m+1,.ret,s,by simp only [uG];rw [nR];simp only [step,h0,he],hq⟩
def QB (F : mX) (inl : Inl) : Prop :=
  ∀ (f : FuncId) (args : List SV) (s : List SB) (z : List Nat) (R' : Type) (k : SV -> List SB -> List Nat -> gX R') (ρ : Type) (w : R' -> ρ) (y : ρ) (pa : List PV) (ps : cB) (Q : R' -> PV -> cB -> List Nat -> Prop),
    RL s args pa -> cD s ps -> inl f args s z R' k ρ w = some y ->
    (∀ v s' z' p ps' ρ' (w' : R' -> ρ') y', R s' v p -> cD s' ps' -> k v s' z' ρ' w' = some y' -> ∃ r, y' = w' r /\ Q r p ps' z') ->
    ∃ r, y = w r /\ HQ F f pa ps z (fun p ps' z' => Q r p ps' z')
def U6:SB->SB->Prop
 | .arr r l,b=>(∃l',b= .arr r l'/\l'.length=l.length)\/b= .dead
 | .dead,b=>b= .dead
 |_,_=>True
theorem EQ {R' ρ:Type} {w:R'->ρ} {y:ρ}: ∀{s s':List SB} {k:gX R'},uQ s s' k ρ w=some y->k ρ w=some y/\s.length<=s'.length/\
 ∀(t:Nat) (b:SB),s[t]? =some b-> ∃b',s'[t]? =some b'/\U6 b b'
 | [],s',k,h=>⟨by cases s'<;>exact h,Nat.zero_le _,fun t b ht=>by simp at ht⟩
 |x::xs,[],k,h=>by cases h
 |x::xs,y'::ys,k,h=>by
  have step: ∀(_:uQ xs ys k ρ w=some y) (_:U6 x y'),k ρ w=some y/\(x::xs).length<=(y'::ys).length/\ ∀(t:Nat) (b:SB),(x::xs)[t]? =some b-> ∃b',(y'::ys)[t]? =some b'/\U6 b b':=by
   intro h hx;obtain ⟨h1,h2,h3⟩:=EQ h;refine ⟨h1,by simpa using h2,fun t b ht=>?_⟩
   cases t with
   |zero=>simp at ht;subst ht;exact ⟨y',rfl,hx⟩
   |succ t=>simpa using h3 t b (by simpa using ht)
  cases x with
  |arr r l=>
   cases y' with
   |arr q m=>
    obtain ⟨hr,h2⟩:=cE (a:=gJ (m.length==l.length) (uQ xs ys k) aN) h;obtain ⟨hl,h3⟩:=hZ h2
    have:=wH hr
    subst this;exact step h3 (.inl ⟨m,rfl,by simpa using hl⟩)
   |dead=>exact step h (.inr rfl)
   |_=>cases h
  |dead=>
   cases y' with
   |dead=>exact step h rfl
   |_=>cases h
  |box cs=>exact step h trivial
  |set l=>exact step h trivial
  |tab p l=>exact step h trivial
theorem ZV {n t:Nat} (h:t<n):has (vW n) t=true:=by
 induction n with
 |zero=>omega
 |succ n ih=>
  unfold has at ih ⊢;rw [List.any_eq_true] at*;simp only [vW,List.mem_append,List.mem_singleton];rcases Nat.lt_or_ge t n with h1|h1
  · obtain ⟨x,h2,h3⟩:=ih h1
    exact ⟨x,.inl h2,h3⟩
  · have:t=n:=by omega
    subst this;exact ⟨t,.inr rfl,by simp⟩
theorem TA {s s':List SB} (h: ∀(t:Nat) (b:SB),s[t]? =some b-> ∃b',s'[t]? =some b'/\U6 b b'):Fr (vW s.length) s s':=fun t b hb=>by
 obtain ⟨b',h1,h2⟩:=h t b hb;have hlt:=(List.getElem?_eq_some_iff.1 hb).1;cases b with
 |arr r l=>
  rcases h2 with ⟨l',rfl,h3⟩|rfl
  · exact .inl ⟨l',h1,h3,fun hx=>by rw [ZV hlt] at hx;cases hx⟩
  · exact .inr h1
 |dead=>rw [show b'= .dead from h2] at h1;exact h1
 |_=>trivial
theorem aLR {s:List SB} {ps:cB} {sr:gO} {pr:oR} (G:hY s ps sr pr) (hS:cD s ps):(XR.loc pr).tr ps.length=sr.tr s.length:=by
 simp only [XR.tr,gO.tr,G.rd,G.fr,hS.len,<- G.wr,G.nl,List.all_map]
 have:pr.news.isEmpty=sr.news.isEmpty:=by
  have:=G.nl
  cases h1:pr.news<;>cases h2:sr.news<;>simp_all
 rw [this];rfl
theorem aHE {st:rB} {p:St} (h:CC st p) {sr:gO} {pr:oR} (G:hY st.sto p.sto sr pr) (d:Option Nat):CC (sr.next d st) ((XR.loc pr).next d p):=by
 have hput: ∀{s:List SB} {e:SE} {pe:uD} {v:SV} {q:PV},dF s e pe->R s v q->dF s (NS d v e) (iK d q pe):=by
  intro s e pe v q he hv;cases d with
  |none=>exact he
  |some t=>exact ⟨q,pe,rfl,hv,he⟩
 have hs:=QA st.sto sr;unfold gO.next
 split
 · rename_i hw
   rw [hw] at hs;simp only [zY,rX,NZ] at hs;have hsto:=G.sto;have hv:=G.v;have hfr:=G.fra;rw [hs] at hsto hv hfr;rw [hw] at hfr;exact ⟨by simp only [mG];exact hput (dF.ext hfr h.env) hv,by simp only [mG];exact hsto,by simp only [XR.next,G.fr,h.fz],h.kn⟩
 · have hsto:=G.sto
   have hv:=G.v;have hfr:=G.fra;rw [hs] at hsto hv hfr;exact ⟨by simp only [mG];exact hput (dF.fr hfr h.env) hv,by simp only [mG];exact hsto,by simp only [XR.next,G.fr,h.fz],h.kn⟩
theorem aLS {s:List SB} {ps:cB} {sr:gO} {pr:oR} (G:hY s ps sr pr) {z:List Nat} (h:sr.ok z=true):(XR.loc pr).ok z=true:=by
 simp only [XR.ok,G.nw,Bool.and_true];unfold gO.ok at h;rw [<- G.wr,List.all_map] at h;exact h
section
variable {cx : X0} {inl : Inl} {R' : Type}
def aN2 (_F:mX) (k:rB->List Tr->gX R') (Q:R'->St->List Tr->Prop):Prop:=
 ∀st p tr ρ (w:R'->ρ) y,CC st p->k st tr ρ w=some y-> ∃r,y=w r/\Q r p tr
theorem xS {o:bI} {l:List bI} {st:rB} {p:St} {tr:List Tr} {k:rB->List Tr->gX R'} {ρ:Type} {w:R'->ρ} {y:ρ} {Q:R'->St->List Tr->Prop}
 (hl: ∀st p tr ρ (w:R'->ρ) y,CC st p->k st tr ρ w=some y-> ∃r,y=w r/\WO F l p tr (Q r)) (h:CC st p) {sr:gO} {pr:oR} (hw:wanted o.guard p.env=some true)
 (hx: ∃n,yQ F (run F n) p.env p.sto p.fz o.op=some (.loc pr)) (G:hY st.sto p.sto sr pr) (hg:UT o.dst st tr k (.loc sr) ρ w=some y): ∃r,y=w r/\WO F (o::l) p tr (Q r):=by
 unfold UT at hg;dsimp only at hg;obtain ⟨hok,hg⟩:=cE hg;rw [NO] at hg;have hR:=aHE h G o.dst;obtain ⟨r,hr,hwo⟩:=hl _ _ _ _ _ _ hR hg;refine ⟨r,hr,WO.call (.loc pr) hw hx (by rw [h.fz];exact aLS G hok) ?_⟩
 rw [aLR G h.sto];exact hwo
theorem QC (hcx:pF F cx) (hinl:QB F inl) {o:bI} {l:List bI} {st:rB} {p:St} {tr:List Tr} {k:rB->List Tr->gX R'} {ρ:Type} {w:R'->ρ} {y:ρ} {Q:R'->St->List Tr->Prop}
 (hl: ∀st p tr ρ (w:R'->ρ) y,CC st p->k st tr ρ w=some y-> ∃r,y=w r/\WO F l p tr (Q r)) (h:CC st p) (hw:wanted o.guard p.env=some true)
 (hg:L9 cx inl st.env st.sto st.fz o.op (UT o.dst st tr k) ρ w=some y): ∃r,y=w r/\WO F (o::l) p tr (Q r):=by
 have hS:=h.sto;have hE:=h.env;have shr: ∀(f:FuncId) (vals:List SV) (pas:List PV),RL st.sto vals pas->(∀n,yQ F (run F n) p.env p.sto p.fz o.op=fM (run F n) f pas p.sto p.fz)->
  inl f vals st.sto st.fz R' (fun v s' z'=>UT o.dst st tr k (.shr v s' z')) ρ w=some y-> ∃r,y=w r/\WO F (o::l) p tr (Q r):=by
  intro f vals pas hv hop hi;obtain ⟨r,hr,hd⟩:=hinl f vals st.sto st.fz R' _ ρ w y pas p.sto (fun r v s z=>(Nat.ble p.sto.length s.length&&p.fz.all (has z))=true/\WO F l {p with env:=iK o.dst v p.env,sto:=s,fz:=z} (Y4::tr) (Q r)) hv hS hi
   (fun v s' z' pv ps' ρ' w' y' hR hS' hk=>by
    unfold UT at hk;dsimp only at hk;rw [NO] at hk;obtain ⟨hk,hlen,hsame⟩:=EQ hk;obtain ⟨hz,hk⟩:=cE hk;have hfr:=TA hsame;have hput:dF s' (NS o.dst v (dgE (vW st.sto.length) st.env)) (iK o.dst pv p.env):=by
     cases o.dst with
     |none=>exact dF.fr hfr hE
     |some t=>exact ⟨pv,p.env,rfl,hR,dF.fr hfr hE⟩
    have hR':CC {env:=NS o.dst v (dgE (vW st.sto.length) st.env),sto:=s',fz:=z',kn:=st.kn} {p with env:=iK o.dst pv p.env,sto:=ps',fz:=z'}:=⟨hput,hS',rfl,h.kn⟩;obtain ⟨r,hr,hwo⟩:=hl _ _ _ _ _ _ hR' hk;refine ⟨r,hr,?_,hwo⟩;rw [h.fz,hz,Bool.and_true,hS.len,hS'.len];simpa using hlen)
  refine ⟨r,hr,WO.shrAny hw hop ?_⟩;rw [h.fz];rw [h.fz] at hd;exact hd
 have loc: ∀{k':gO->gX R'},mM st.env st.sto st.fz o.op k' ρ w=some y->FZ o.op=false->(∀sr,k' sr=UT o.dst st tr k (.loc sr))-> ∃r,y=w r/\WO F (o::l) p tr (Q r):=by
  intro k' hv hc hk;obtain ⟨sr,pr,h1,G,h2⟩:=aBp hE hS (pe:=p.env) hv;rw [hk] at h2;exact xS hl h hw ⟨0,by rw [NM hc,h.fz,h1];rfl⟩ G h2
 generalize hop:o.op=op at hg;cases op with
 |call m f args=>
  have hargs:=A8 hE args;simp only [L9] at hg;cases m with
  |pur=>
   dsimp only at hg;cases hx:exVL st.sto (kT st.sto dQ) (jR st.env args) with
   |none=>rw [hx] at hg;cases hg
   |some vs=>
    rw [hx] at hg;obtain ⟨q,h1,h2⟩:=exVL_R hS (IE hS dQ) hargs hx;obtain ⟨sr,pr,⟨n,h3⟩,G,h4⟩:=AB (f:=f) (z:=st.fz) hS h1 h2 (tkExL hS (J1 hS dQ) hargs hx) (fun c hc=>hcx.con f c hc) hg
    exact xS hl h hw ⟨n,by rw [hop,h.fz];simp only [yQ,h3];rfl⟩ G h4
  |own=>
   dsimp only at hg;cases hx:exVL st.sto (kT st.sto dQ) (jR st.env args) with
   |none=>rw [hx] at hg;cases hg
   |some vs=>
    rw [hx] at hg;obtain ⟨q,h1,h2⟩:=exVL_R hS (IE hS dQ) hargs hx;obtain ⟨sr,pr,⟨n,h3⟩,G,h4⟩:=AB (f:=f) (z:=st.fz) hS h1 h2 (tkExL hS (J1 hS dQ) hargs hx) (fun c hc=>hcx.con f c hc) hg
    exact xS hl h hw ⟨n,by rw [hop,h.fz];simp only [yQ,h3];rfl⟩ G h4
  |shr=>exact shr f _ _ hargs (fun n=>by rw [hop];rfl) hg
  |fp=>
   dsimp only at hg;cases hx:SW st.sto (kT st.sto dQ) (jR st.env args) with
   |false=>rw [hx] at hg;cases hg
   |true=>
    rw [hx] at hg;dsimp only at hg;obtain ⟨hz,hg⟩:=cE hg;cases h1:renVL (oW (tkVL (zG st.sto dQ) (jR st.env args))) (jR st.env args) with
    |none=>rw [h1] at hg;cases hg
    |some vs=>
     cases h2:LK st.sto (oW (tkVL (zG st.sto dQ) (jR st.env args))) (oW (tkVL (zG st.sto dQ) (jR st.env args))) with
     |none=>rw [h1,h2] at hg;cases hg
     |some s0=>
      rw [h1,h2] at hg;obtain ⟨sr,pr,⟨n,h3⟩,G,h4⟩:=U5 (f:=f) (z:=st.fz) hS hargs (by rw [ZN hS (J1 hS dQ) hargs hx]) hz h1 h2 (fun c hc=>hcx.fpc f c hc) hg
      exact xS hl h hw ⟨n,by rw [hop,h.fz];simp only [yQ,h3];rfl⟩ G h4
 |callv x args=>
  have hargs:=A8 hE args;simp only [L9] at hg;have hx:=dD hE x;generalize bM st.env x=v at hg hx;cases v with
  |clo f a b=>
   dsimp only at hg;obtain ⟨pa,pb,hx,ha,hb⟩:=hx;have hany: ∀{vs:List SV} {q:List PV},RL st.sto vs q->(anyPtr vs=true->q.any IR=true):=by
    intro vs
    induction vs with
    |nil=>intro q _ h;cases h
    |cons v vs ih=>
     intro q hq hp;obtain ⟨a,as,rfl,h1,h2⟩:=hq.cons_inv;simp only [anyPtr,Bool.or_eq_true] at hp;simp only [List.any_cons,Bool.or_eq_true];rcases hp with hp|hp
     · left
       cases v with
       |own _ _=>obtain ⟨_,_,rfl,_⟩:=h1;rfl
       |pre _ _ _ _=>obtain ⟨_,rfl,_⟩:=h1;rfl
       |part _ _ _ _ _=>obtain ⟨_,rfl,_⟩:=h1;rfl
       |pa _ _ _ _ _=>obtain ⟨rfl,_⟩:=h1;rfl
       |pb _ _ _=>obtain ⟨_,rfl,_⟩:=h1;rfl
       |bp _ _ _=>rw [show a=_ from h1];rfl
       |mp _=>rw [show a=_ from h1];rfl
       |_=>cases hp
     · right;exact ih h2 hp
   cases hp:anyPtr (jR st.env args++b) with
   |true=>
    rw [hp] at hg
    have:=hany (hargs.append hb) hp
    exact shr f _ _ ((ha.append hargs).append hb) (fun n=>by rw [hop];simp only [yQ,hx,this,if_true]) hg
   |false=>
    rw [hp] at hg;simp only [cond_false] at hg;cases hxx:exVL st.sto (kT st.sto dQ) (a++jR st.env args++b) with
    |none=>rw [hxx] at hg;cases hg
    |some vs=>
     rw [hxx] at hg;have hno: ∀{vs u:List SV} {q:List PV},RL st.sto vs q->anyPtr vs=false->exVL st.sto (kT st.sto dQ) vs=some u->q.any IR=false:=by
      intro vs
      induction vs with
      |nil=>intro u q hq _ _;rw [show q=[] from hq];rfl
      |cons v vs ih=>
       intro u q hq hp hu;obtain ⟨a,as,rfl,h1,h2⟩:=hq.cons_inv;simp only [anyPtr,Bool.or_eq_false_iff] at hp;simp only [exVL] at hu;split at hu
       · rename_i y1 y2 e1 e2
         simp only [List.any_cons,ih h2 hp.2 e2,Bool.or_false];cases v with
         |agg _|tup _|rptr _ _=>obtain ⟨_,rfl,_⟩:=h1;rfl
         |clo _ _ _=>obtain ⟨_,_,rfl,_⟩:=h1;rfl
         |int _ _|bool _|str _|nilf|sl _ _|nil _ _|undef|nul=>rw [show a=_ from h1];rfl
         |junk=>cases e1
         |own _ _|pre _ _ _ _|part _ _ _ _ _|pa _ _ _ _ _|pb _ _ _|bp _ _ _|mp _=>cases hp.1
       · cases hu
     have hsplit: ∃u2,exVL st.sto (kT st.sto dQ) (jR st.env args++b)=some u2:=by
      have: ∀(l:List SV) {m u:List SV},exVL st.sto (kT st.sto dQ) (l++m)=some u-> ∃u2,exVL st.sto (kT st.sto dQ) m=some u2:=by
       intro l
       induction l with
       |nil=>intro m u h;exact ⟨u,h⟩
       |cons x l ih=>
        intro m u h;simp only [List.cons_append,exVL] at h;split at h
        · rename_i e1 e2;exact ih e2
        · cases h
      rw [List.append_assoc] at hxx;exact this a hxx
     obtain ⟨u2,hu2⟩:=hsplit;have hno':=hno (hargs.append hb) hp hu2;have hall:=(ha.append hargs).append hb;obtain ⟨q,h1,h2⟩:=exVL_R hS (IE hS dQ) hall hxx;obtain ⟨sr,pr,⟨n,h3⟩,G,h4⟩:=AB (f:=f) (z:=st.fz) hS h1 h2 (tkExL hS (J1 hS dQ) hall hxx) (fun c hc=>hcx.con f c hc) hg
     exact xS hl h hw ⟨n,by rw [hop,h.fz];simp only [yQ,hx,hno',Bool.false_eq_true,if_false,h3];rfl⟩ G h4
  |_=>cases hg
 |_=>exact loc (k':=fun r=>UT o.dst st tr k (.loc r)) (by rw [hop];exact hg) (by rw [hop];rfl) (fun _=>rfl)
theorem xT (hcx:pF F cx) (hinl:QB F inl): ∀(ops:List bI) {st:rB} {p:St} {tr:List Tr} {k:rB->List Tr->gX R'} {ρ:Type} {w:R'->ρ} {y:ρ} {Q:R'->St->List Tr->Prop},
 aN2 F k Q->CC st p->pD cx inl ops st tr k ρ w=some y-> ∃r,y=w r/\WO F ops p tr (Q r)
 | [],st,p,tr,k,ρ,w,y,Q,hk,h,he=>by
  obtain ⟨r,hr,hq⟩:=hk st p tr ρ w y h he;exact ⟨r,hr,WO.nil hq⟩
 |o::l,st,p,tr,k,ρ,w,y,Q,hk,h,he=>by
  have hl: ∀st p tr ρ (w:R'->ρ) y,CC st p->pD cx inl l st tr k ρ w=some y-> ∃r,y=w r/\WO F l p tr (Q r):=fun st p tr ρ w y h he=>xT hcx hinl l hk h he
  have setR: ∀{st:rB} {c:Nat} {v:SV},CC st p->R st.sto v (lk c p.env)->CC {st with env:=setS c v st.env} p:=fun h hv=>⟨h.env.setS hv,h.sto,h.fz,h.kn⟩
  have run': ∀{st:rB},CC st p->wanted o.guard p.env=some true->(match o.op with
   | .pick (.t c) a b=>match LF c st.env with
    | .bool x=>gJ x (UT o.dst {st with env:=setS c (.bool true) st.env} tr (pD cx inl l · · k) (.loc {v:=bM st.env a}))
     (UT o.dst {st with env:=setS c (.bool false) st.env} tr (pD cx inl l · · k) (.loc {v:=bM st.env b}))
    |_=>aN
   |op=>L9 cx inl st.env st.sto st.fz op (UT o.dst st tr (pD cx inl l · · k))) ρ w=some y-> ∃r,y=w r/\WO F (o::l) p tr (Q r):=by
   intro st h hw he;have plain:L9 cx inl st.env st.sto st.fz o.op (UT o.dst st tr (pD cx inl l · · k)) ρ w=some y-> ∃r,y=w r/\WO F (o::l) p tr (Q r):=fun he=>QC hcx hinl hl h hw he
   generalize hop:o.op=op at he;cases op with
   |pick c a b=>
    cases c with
    |c v=>exact plain (by rw [hop];exact he)
    |t c=>
     dsimp only at he;generalize hv:LF c st.env=v at he;cases v with
     |bool x=>
      have hx:lk c p.env= .bool x:=by have:=h.env.lk c;rw [hv] at this;exact this
      rcases eF he with ⟨rfl,he⟩|⟨rfl,he⟩
      · have hR:=setR h (c:=c) (v:= .bool true) hx
        exact xS (o:=o) hl hR hw ⟨0,by rw [hop];simp only [yQ,bA,fH.ev,hx];rfl⟩ (hY.val hR.sto (dD h.env a)) he
      · have hR:=setR h (c:=c) (v:= .bool false) hx
        exact xS (o:=o) hl hR hw ⟨0,by rw [hop];simp only [yQ,bA,fH.ev,hx];rfl⟩ (hY.val hR.sto (dD h.env b)) he
     |_=>cases he
   |_=>exact plain (by rw [hop];exact he)
  have skip': ∀{st:rB},CC st p->wanted o.guard p.env=some false->pD cx inl l {st with env:=NS o.dst .nul st.env} (Tr.idle::tr) k ρ w=some y-> ∃r,y=w r/\WO F (o::l) p tr (Q r):=by
   intro st h hw he;have hR:CC {st with env:=NS o.dst .nul st.env} {p with env:=iK o.dst .nul p.env}:=by
    refine ⟨?_,h.sto,h.fz,h.kn⟩;cases o.dst with
    |none=>exact h.env
    |some t=>exact ⟨.nul,p.env,rfl,rfl,h.env⟩
   obtain ⟨r,hr,hwo⟩:=hl _ _ _ _ _ _ hR he;exact ⟨r,hr,WO.skip hw hwo⟩
  simp only [pD] at he;cases hgd:o.guard with
  |none=>
   rw [hgd] at he;exact run' h (by rw [hgd];rfl) he
  |some g=>
   obtain ⟨c,want⟩:=g;rw [hgd] at he;dsimp only at he;generalize hv:LF c st.env=v at he;cases v with
   |bool x=>
    have hx:lk c p.env= .bool x:=by have:=h.env.lk c;rw [hv] at this;exact this
    have hwx: ∀b,x=b->wanted o.guard p.env=some (b==want):=fun b hb=>by rw [hgd];simp only [wanted,hx,hb]
    cases want with
    |true=>
     simp only [cond_true] at he;rcases eF he with ⟨rfl,he⟩|⟨rfl,he⟩
     · exact run' (setR h (v:= .bool true) hx) (hwx true rfl) he
     · exact skip' (setR h (v:= .bool false) hx) (hwx false rfl) he
    |false=>
     simp only [cond_false] at he;rcases eF he with ⟨rfl,he⟩|⟨rfl,he⟩
     · exact skip' (setR h (v:= .bool true) hx) (hwx true rfl) he
     · exact run' (setR h (v:= .bool false) hx) (hwx false rfl) he
   |nul=>
    have hx:lk c p.env= .nul:=by have:=h.env.lk c;rw [hv] at this;exact this
    exact skip' h (by rw [hgd];simp only [wanted,hx]) he
   |_=>cases he
theorem J8 {e:SE}: ∀{keep:List Nat} {k:SE->gX R'} {ρ:Type} {w:R'->ρ} {y:ρ},PY e keep k ρ w=some y->k (keep.map fun s=>(s,LF s e)) ρ w=some y
 | [],k,ρ,w,y,h=>h
 |s::r,k,ρ,w,y,h=>by
  simp only [PY] at h;rw [NO] at h
  have:=J8 h
  exact this
theorem ZW {s:List SB} {e:SE} {pe:uD} (h:dF s e pe): ∀(keep:List Nat),dF s (keep.map fun t=>(t,LF t e)) (keep.map fun t=>(t,lk t pe))
 | []=>rfl
 |t::r=>⟨_,_,rfl,h.lk t,ZW h r⟩
end
mutual
theorem ML: ∀(v:SV) (q:List zH),uI v (F2 v++q)=(v,q)
 | .junk,q| .undef,q| .nul,q| .nilf,q| .int _ _,q| .bool _,q| .str _,q| .sl _ _,q| .nil _ _,q| .own _ _,q| .pre _ _ _ _,q| .part _ _ _ _ _,q| .pa _ _ _ _ _,q| .pb _ _ _,q| .bp _ _ _,q| .mp _,q=>rfl
 | .agg cs,q=>by simp only [uI,F2,put_selfL]
 | .tup cs,q=>by simp only [uI,F2,put_selfL]
 | .rptr cs o,q=>by simp only [uI,F2,put_selfL]
 | .clo f a b,q=>by simp only [uI,F2,List.append_assoc,put_selfL]
theorem put_selfL: ∀(v:List SV) (q:List zH),putL v (atsL v++q)=(v,q)
 | [],q=>rfl
 |x::xs,q=>by simp only [putL,atsL,List.append_assoc,ML,put_selfL]
end
theorem MM: ∀(v:List SB) (q:List zH),C8 v (NR v++q)=(v,q)
 | [],q=>rfl
 |x::xs,q=>by
  have: ∀q,SZ x (Y2 x++q)=(x,q):=by
   intro q;cases x<;>first|rfl|simp only [SZ,Y2,put_selfL]
  simp only [C8,NR,List.append_assoc,this,MM]
theorem MN: ∀(v:SE) (q:List zH),PW v (W3 v++q)=(v,q)
 | [],q=>rfl
 |(t,x)::xs,q=>by simp only [PW,W3,List.append_assoc,ML,MN]
theorem TB (st:rB):B9 st (zA st)=st:=by
 have hs:=MM st.sto [];rw [List.append_nil] at hs;simp only [B9,zA,MN,hs]
theorem XC {cx:X0} {inl:Inl} (hcx:pF F cx) (hinl:QB F inl): ∀(c:kC) (R':Type) {st:rB} {p:St} {k:hG->rB->gX R'} {ρ:Type} {w:R'->ρ} {y:ρ} {Q:R'->hG->St->Prop},
 (∀e st p ρ (w:R'->ρ) y,CC st p->k e st ρ w=some y-> ∃r,y=w r/\Q r e p)->CC st p->EC cx inl c R' st k ρ w=some y-> ∃r,y=w r/\WP F c p (Q r):=by
 intro c
 induction c with
 |skip=>
  intro R' st p k ρ w y Q hk h he;obtain ⟨r,hr,hq⟩:=hk _ _ _ _ _ _ h he;exact ⟨r,hr,WP.skip hq⟩
 |ret=>
  intro R' st p k ρ w y Q hk h he;obtain ⟨r,hr,hq⟩:=hk _ _ _ _ _ _ h he;exact ⟨r,hr,WP.ret hq⟩
 |exit id=>
  intro R' st p k ρ w y Q hk h he;obtain ⟨r,hr,hq⟩:=hk _ _ _ _ _ _ h he;exact ⟨r,hr,WP.exit hq⟩
 |region d ops keep=>
  intro R' st p k ρ w y Q hk h he;simp only [EC] at he;have fin: ∀st p ρ (w:R'->ρ) y,CC st p->PY st.env keep (fun e=>k .normal {st with env:=e}) ρ w=some y-> ∃r,y=w r/\Q r .normal (qX keep p):=by
   intro st p ρ w y h he
   have:=J8 he
   have hR:CC {st with env:=keep.map fun t=>(t,LF t st.env)} (qX keep p):=⟨ZW h.env keep,h.sto,h.fz,h.kn⟩
   exact hk _ _ _ _ _ _ hR this
  cases d with
  |none=>
   obtain ⟨r,hr,hwo⟩:=xT hcx hinl ops (Q:=fun r s _=>Q r .normal (qX keep s)) (fun st p tr ρ w y h he=>fin st p ρ w y h he) h he
   exact ⟨r,hr,WP.region hwo⟩
  |some bf=>
   obtain ⟨r,hr,hwo⟩:=xT hcx hinl ops (Q:=fun r s t=>sH 0 (t.reverse.zip bf)=true/\Q r .normal (qX keep s)) (fun st p tr ρ w y h he=>by
    dsimp only at he;cases ho:sH 0 (tr.reverse.zip bf) with
    |false=>rw [ho] at he;cases he
    |true=>
     rw [ho] at he;obtain ⟨r,hr,hq⟩:=fin st p ρ w y h he;exact ⟨r,hr,ho,hq⟩) h he
   exact ⟨r,hr,WP.regionD hwo⟩
 |seq a b iha ihb=>
  intro R' st p k ρ w y Q hk h he;simp only [EC] at he;obtain ⟨r,hr,hwp⟩:=iha R' (Q:=fun r=>IA (fun s=>WP F b s (Q r)) (Q r)) (fun e st p ρ w y h he=>by
   cases e with
   |normal=>exact ihb R' hk h he
   |exit i=>exact hk _ _ _ _ _ _ h he
   |ret=>exact hk _ _ _ _ _ _ h he) h he
  exact ⟨r,hr,WP.seq hwp⟩
 |cond c a b iha ihb=>
  intro R' st p k ρ w y Q hk h he;simp only [EC] at he;have hx:=dD h.env c;generalize bM st.env c=v at he hx;cases v with
  |bool x=>
   rcases eF he with ⟨rfl,he⟩|⟨rfl,he⟩
   · obtain ⟨r,hr,hwp⟩:=iha R' hk h he
     exact ⟨r,hr,WP.condT hx hwp⟩
   · obtain ⟨r,hr,hwp⟩:=ihb R' hk h he
     exact ⟨r,hr,WP.condF hx hwp⟩
  |_=>cases he
 |block id b ih=>
  intro R' st p k ρ w y Q hk h he;simp only [EC] at he;obtain ⟨r,hr,hwp⟩:=ih R' (Q:=fun r=>inBlock id (Q r)) (fun e st p ρ w y h he=>by
   cases e with
   |normal=>exact hk _ _ _ _ _ _ h he
   |ret=>exact hk _ _ _ _ _ _ h he
   |exit j=>
    dsimp only at he;cases hj:Nat.beq j id with
    |true=>
     rw [hj] at he;obtain ⟨r,hr,hq⟩:=hk _ _ _ _ _ _ h he;have hji:=Nat.eq_of_beq_eq_true hj;exact ⟨r,hr,by simpa [inBlock,hji] using hq⟩
    |false=>
     rw [hj] at he;obtain ⟨r,hr,hq⟩:=hk _ _ _ _ _ _ h he
     have:j≠id:=by intro e;subst e;simp at hj
     exact ⟨r,hr,by simpa [inBlock,this] using hq⟩) h he
  exact ⟨r,hr,WP.block hwp⟩
 |loop live b ih=>
  intro R' st p k ρ w y Q hk h he;simp only [EC] at he;cases hn:JP cx.rk live st with
  |none=>rw [hn] at he;cases he
  |some st1=>
   rw [hn] at he;dsimp only at he;have ksK_eq: ∀{β:Type 1} (l:List AK) (c:List AK->β),ksK l c=c l:=by
    intro β l;have rK_eq: ∀{β:Type 1} (l:List PT) (c:List PT->β),rK l c=c l:=by
     intro β l
     induction l with
     |nil=>intro c;rfl
     |cons p r ih=>intro c;cases p<;>simp only [rK,ptK,ih]
    induction l with
    |nil=>intro c;rfl
    |cons a r ih=>intro c;cases a<;>simp only [ksK,rK_eq,ih]
   rw [ksK_eq] at he;generalize aHv (zA st1)=ks at he;cases hp:rW ks (zA st1) with
   |none=>rw [hp] at he;cases he
   |some y0=>
    rw [hp] at he;dsimp only at he;obtain ⟨p1,hp1,hR1⟩:=U2 h hn;have hlike: ∀(st3:rB) (y':kF ks),JR st1 st3=true->rW ks (zA st3)=some y'->B9 st1 (mN ks y')=st3:=fun st3 y' h1 h2=>by
     rw [tC h2,XB h1]
    obtain ⟨n,hit⟩:=YT he;have h0:CC (B9 st1 (mN ks y0)) p1:=by rw [tC hp,TB];exact hR1
    clear he hp hn h hR1
    induction n generalizing y0 p p1 with
    |zero=>cases hit
    |succ n ihn=>
     have body: ∀zr,EC cx inl b (bO (kF ks) ρ) (B9 st1 (mN ks y0)) (fun e st2=>match e with
      | .normal=>match JP cx.rk live st2 with
       |some st3=>bif JR st1 st3 then (match rW ks (zA st3) with
        |some y'=>L6 (.next y')
        |none=>aN) else aN
       |none=>aN
      |e=>fun ρ' w'=>k e st2 ρ' fun r=>w' (.done (w r))) (bO (kF ks) ρ) (fun z=>z)=some zr->
      WP F b p1 (fun e s=>match zr with
       | .next y'=>e= .normal/\ ∃p3,HP live s=some p3/\CC (B9 st1 (mN ks y')) p3
       | .done x=>e≠ .normal/\ ∃r,x=w r/\Q r e s):=by
      intro zr hbody;obtain ⟨zr',hzr,hwp⟩:=ih (bO (kF ks) ρ) (Q:=fun zr e s=>match zr with
       | .next y'=>e= .normal/\ ∃p3,HP live s=some p3/\CC (B9 st1 (mN ks y')) p3
       | .done x=>e≠ .normal/\ ∃r,x=w r/\Q r e s) (fun e st2 p2 ρ' w' y2 h2 he2=>by
       cases e with
       |normal=>
        dsimp only at he2;cases hn3:JP cx.rk live st2 with
        |none=>rw [hn3] at he2;cases he2
        |some st3=>
         rw [hn3] at he2;obtain ⟨hlk,he2⟩:=cE he2;cases hp3:rW ks (zA st3) with
         |none=>rw [hp3] at he2;cases he2
         |some y3=>
          rw [hp3] at he2;injection he2 with he2;obtain ⟨p3,hp3',hR3⟩:=U2 h2 hn3;exact ⟨.next y3,he2.symm,rfl,p3,hp3',by rw [hlike st3 y3 hlk hp3];exact hR3⟩
       |exit i=>
        obtain ⟨r,hr,hq⟩:=hk _ _ _ _ _ _ h2 he2;exact ⟨.done (w r),hr,(by intro e;cases e),r,rfl,hq⟩
       |ret=>
        obtain ⟨r,hr,hq⟩:=hk _ _ _ _ _ _ h2 he2;exact ⟨.done (w r),hr,(by intro e;cases e),r,rfl,hq⟩) h0 hbody
      subst hzr;exact hwp
     simp only [rA] at hit;split at hit
     · rename_i y' hbody
       obtain ⟨m,e,s,hrun,rfl,p3,hp3,hR3⟩:=body _ hbody;obtain ⟨r,hr,hwp⟩:=ihn y' p3 hp3 hit hR3;exact ⟨r,hr,WP.again hp1 ⟨m,.normal,s,hrun,hwp⟩⟩
     · rename_i x hbody
       injection hit with hit;obtain ⟨m,e,s,hrun,hne,r,hr,hq⟩:=body _ hbody;refine ⟨r,by rw [<- hit];exact hr,WP.again hp1 ⟨m,e,s,hrun,?_⟩⟩
       cases e with
       |normal=>exact absurd rfl hne
       |exit i=>exact hq
       |ret=>exact hq
     · cases hit
end
end Go.Vm
/- Contracts from the typed machine. -/
namespace Go.Vm
section
variable {F : mX} {cx : X0} {inl : Inl}
theorem QD {s:List SB}: ∀{l:List SV} {q:List PV} (i:Nat),RL s l q->dF s (S2 i l) (vX i q)
 | [],q,i,h=>by rw [show q=[] from h];rfl
 |x::xs,q,i,h=>by
  obtain ⟨a,as,rfl,h1,h2⟩:=h.cons_inv;exact ⟨a,vX (i+1) as,rfl,h1,QD (i+1) h2⟩
theorem ZX {st:rB} {p:St} (h:CC st p) {r:RV} {v:SV} (hr:S1 st r=some v): ∃q,IT p r=some q/\R st.sto v q:=by
 cases r with
 |tmp t=>injection hr with hr;subst hr;exact ⟨_,rfl,h.env.lk t⟩
 |cell t agg=>
  simp only [S1] at hr;have hlk:=h.env.lk t;split at hr
  · rename_i u n off hv
    rw [hv] at hlk;rw [bT] at hr;split at hr
    · rename_i cs hst
      obtain ⟨q,h1,h2⟩:=h.sto.box hst;obtain ⟨x,h3,h4⟩:=uR h2 hr;refine ⟨x,?_,h4⟩;simp only [IT,show lk t p.env=_ from hlk,oV,h1,Nat.beq_refl,if_true,h3];rfl
    · cases hr
  · rename_i cs off hv
    rw [hv] at hlk;obtain ⟨q,h1,h2⟩:=hlk;obtain ⟨x,h3,h4⟩:=uR h2 hr;refine ⟨x,?_,h4⟩;simp only [IT,h1,oV,h3];rfl
  · cases hr
theorem MO {st:rB} {p:St} (h:CC st p): ∀{l:List RV} {vs:List SV},A7 st l=some vs-> ∃q,nQ p l=some q/\RL st.sto vs q
 | [],vs,hr=>by injection hr with hr;subst hr;exact ⟨[],rfl,rfl⟩
 |r::l,vs,hr=>by
  simp only [A7] at hr;split at hr
  · rename_i v vs' h1 h2
    injection hr with hr;subst hr;obtain ⟨q,h3,h4⟩:=ZX h h1;obtain ⟨qs,h5,h6⟩:=MO h h2;exact ⟨q::qs,by simp only [nQ,h3,h5],RL.cons h4 h6⟩
  · cases hr
theorem QE {s:List SB} {vs:List SV} {q:List PV} (h:RL s vs q):R s (F4 vs) (qU q):=by
 match vs,q,h with
 | [],q,h=>rw [show q=[] from h];exact ⟨[],rfl,rfl⟩
 | [v],q,h=>
  obtain ⟨a,as,rfl,h1,h2⟩:=h.cons_inv;rw [show as=[] from h2];exact h1
 |v::u::r,q,h=>
  have hall:=h;obtain ⟨a,as,rfl,h1,h2⟩:=h.cons_inv;obtain ⟨b,bs,rfl,h3,h4⟩:=h2.cons_inv;exact ⟨_,rfl,hall⟩
theorem AC (hcx:pF F cx) (hinl:QB F inl) {f:FuncId} {x:aM} (hf:F f=some (.code x)) {R':Type} {args:List SV} {s:List SB} {z:List Nat} {k:SV->List SB->List Nat->gX R'} {ρ:Type} {w:R'->ρ} {y:ρ} {pa:List PV} {ps:cB}
 {Q:R'->PV->cB->List Nat->Prop} (ha:RL s args pa) (hS:cD s ps) (he:PZ cx inl x R' args s z k ρ w=some y)
 (hk: ∀v s' z' p ps' ρ' (w':R'->ρ') y',R s' v p->cD s' ps'->k v s' z' ρ' w'=some y'-> ∃r,y'=w' r/\Q r p ps' z'): ∃r,y=w r/\HQ F f pa ps z (fun p ps' z'=>Q r p ps' z'):=by
 unfold PZ at he;obtain ⟨hn,he⟩:=cE he;have fin: ∀st p ρ' (w':R'->ρ') y',CC st p->(match A7 st x.res with
  |some vs=>k (F4 vs) st.sto st.fz
  |none=>aN) ρ' w'=some y'-> ∃r,y'=w' r/\ ∃vs,nQ p x.res=some vs/\Q r (qU vs) p.sto p.fz:=by
  intro st p ρ' w' y' h he;cases hr:A7 st x.res with
  |none=>rw [hr] at he;cases he
  |some vs=>
   rw [hr] at he;obtain ⟨q,h1,h2⟩:=MO h hr;obtain ⟨r,h3,h4⟩:=hk _ _ _ _ _ _ _ _ (QE h2) h.sto he;exact ⟨r,h3,q,h1,by rw [h.fz];exact h4⟩
 obtain ⟨r,hr,hwp⟩:=XC hcx hinl x.code R' (Q:=fun r=>M9 x fun p ps' z'=>Q r p ps' z') (p:={env:=vX 0 pa,sto:=ps,fz:=z,kn:=ps.length}) (fun e st p ρ' w' y' h he=>by
  cases e with
  |normal=>exact fin st p ρ' w' y' h he
  |ret=>exact fin st p ρ' w' y' h he
  |exit i=>cases he) ⟨QD 0 ha,hS,rfl,hS.len⟩ he
 exact ⟨r,hr,HQ.of hf (by rw [ha.length];exact hn) hwp⟩
theorem N0 {α:Type} {l m r:List α} {i:Int} (h:NN l i m=some r):0<=i/\i.toNat<=l.length/\m.length=1/\l.length+1<=1048576/\r=l.take i.toNat++m++l.drop i.toNat:=by
 unfold NN at h;split at h
 · rename_i hc
   injection h with h;exact ⟨hc.1,hc.2.1,hc.2.2.1,hc.2.2.2,h.symm⟩
 · cases h
theorem XD {e:Nat} {args:List SV} {s:List SB} {z:List Nat} {a:aLO} (h:aBd e args s z=some a):
 ∃x u x2 m,args=[.own a.t x,.int .i64 a.i,.own u x2]/\nth s a.t=some (.arr a.r a.l)/\nth s u=some (.arr a.r m)/\a.m=m/\a.r.length=e/\Nat.beq a.t u=false/\has z a.t=false:=by
 unfold aBd at h;split at h
 case h_2=>cases h
 split at h
 case h_2=>cases h
 split at h
 case h_2=>cases h
 split at h
 case h_2=>cases h
 rename_i m' hm;cases hc:(Nat.beq _ e&&_&&_) with
 |false=>rw [hc] at h;cases h
 |true=>
  rw [hc] at h;injection h with h;subst h;simp only [Bool.and_eq_true,Nat.beq_eq,Bool.not_eq_true'] at hc;obtain ⟨rfl,rfl⟩:=C9 hm;exact ⟨_,_,_,_,rfl,by assumption,by assumption,rfl,hc.1.1,hc.1.2,hc.2⟩
theorem TC {e:Nat} {f:FuncId} (hf:F f=some (.shp (X1 e))) {R':Type} {args:List SV} {s:List SB} {z:List Nat} {k:SV->List SB->List Nat->gX R'} {ρ:Type} {w:R'->ρ} {y:ρ} {pa:List PV} {ps:cB}
 {Q:R'->PV->cB->List Nat->Prop} (ha:RL s args pa) (hS:cD s ps) (he:aHx e args s z k ρ w=some y)
 (hk: ∀v s' z' p ps' ρ' (w':R'->ρ') y',R s' v p->cD s' ps'->k v s' z' ρ' w'=some y'-> ∃r,y'=w' r/\Q r p ps' z'): ∃r,y=w r/\HQ F f pa ps z (fun p ps' z'=>Q r p ps' z'):=by
 unfold aHx at he;cases hA:aBd e args s z with
 |none=>rw [hA] at he;cases he
 |some a=>
 rw [hA] at he;dsimp only at he;obtain ⟨l',hl,he⟩:=cS he;obtain ⟨x,u,x2,m0,rfl,ht,hu,hm,he1,htu,hz⟩:=XD hA;obtain ⟨t,q,l,i,m⟩:=a;dsimp only at*;subst hm he1;obtain ⟨i0,il,m1,hle,rfl⟩:=N0 hl;obtain ⟨p0,pr0,rfl,h0,ha⟩:=ha;obtain ⟨p1,pr1,rfl,h1,ha⟩:=ha;obtain ⟨p2,pr2,rfl,h2,ha⟩:=ha;obtain rfl:pr2=[]:=ha;obtain rfl:p1= .int .i64 i:=h1
 have ht':s[t]? =some (.arr q l):=by rw [<- bT];exact ht
 have hu':s[u]? =some (.arr q m):=by rw [<- bT];exact hu
 obtain ⟨e0,n0,rfl,o0⟩:=h0;obtain ⟨e2,n2,rfl,o2⟩:=h2;obtain ⟨rfl,rfl⟩:e0=q.length/\n0=l.length:=by
  rcases o0 with ⟨r1,l1,a,b,c⟩|a
  · rw [ht'] at a;injection a with a;injection a with a1 a2;subst a1;subst a2;exact ⟨b,c⟩
  · rw [ht'] at a;cases a
 obtain ⟨rfl,rfl⟩:e2=q.length/\n2=m.length:=by
  rcases o2 with ⟨r1,l1,a,b,c⟩|a
  · rw [hu'] at a;injection a with a;injection a with a1 a2;subst a1;subst a2;exact ⟨b,c⟩
  · rw [hu'] at a;cases a
 obtain ⟨b1,hb1,hb1'⟩:=hS.at_ t _ ht';obtain ⟨b2,hb2,hb2'⟩:=hS.at_ u _ hu';have hb1':b1= .arr q.length (l.map (RT.pv q)):=hb1';have hb2':b2= .arr q.length (m.map (RT.pv q)):=hb2';subst hb1' hb2';have hlen:(F3 [t] (s.set t .dead)).length=s.length:=by rw [A9];simp
 obtain ⟨L,hL⟩: ∃L,L=l.take i.toNat++m++l.drop i.toNat:=⟨_,rfl⟩;rw [<- hL] at he;have G:=hY.put hS (b:= .dead) (q:= .dead) (l:=[.arr q L]) (ql:=[.arr q.length (L.map (RT.pv q))]) (v:= .own s.length false)
  (p:= .own s.length q.length 0 L.length L.length false) (rd:=[]) ht' (.inr rfl) rfl rfl
  (fun j b hj=>by
   cases j with
   |zero=>simp at hj;subst hj;exact ⟨_,rfl,rfl⟩
   |succ j=>simp at hj)
  ⟨q.length,L.length,rfl,.inl ⟨q,L,by rw [<- hlen];exact rD,rfl,rfl⟩⟩
 have hll:L.length=l.length+1:=by
  rw [hL];simp only [List.length_append,List.length_take,List.length_drop,m1];omega
 obtain ⟨rr,hr,hq⟩:=hk _ _ _ _ _ _ _ _ G.v G.sto he;refine ⟨rr,hr,1,_,_,_,?_,hq⟩;rw [nR];have hmost:Nat.ble (l.length+1) oY=true:=by simp [oY];omega
 have hbl:Nat.ble i.toNat l.length=true:=by simpa using il
 have hLm:L.map (RT.pv q)=(l.map (RT.pv q)).take i.toNat++m.map (RT.pv q)++(l.map (RT.pv q)).drop i.toNat:=by
  rw [hL,List.map_append,List.map_append,List.map_take,List.map_drop]
 simp [step,hf,X1,hb1,hb2,m1,htu,hz,i0,hmost,il,hll,hS.len,gV,WA,hLm]
theorem N1 (hcx:pF F cx): ∀n,QB F (Y6 cx n)
 |0=>fun f args s z R' k ρ w y pa ps Q _ _ h _=>by cases h
 |n+1=>fun f args s z R' k ρ w y pa ps Q ha hS h hk=>by
  simp only [Y6] at h;cases hx:cx.code f with
  |none=>rw [hx] at h;cases h
  |some x=>
   rw [hx] at h;cases x with
   |code x=>exact AC hcx (N1 hcx n) (hcx.code f _ hx) ha hS h hk
   |ins e=>exact TC (hcx.code f _ hx) ha hS h hk
def aBs:Kd->Bool->Bool
 | .own,b=>b
 |_,b=>!b
def ZY (kd:Kd) {β:Type} (res:aJ β) (b:β) (p:PV) (ps:cB) (z:List Nat):Prop:=
 match kd with
 | .pure=>p.noref=true/\tB (res.enc b)=some p
 | .frz=>p.noref=false/\ ∃q,A1 ps p=some q/\tB (res.enc b)=some q
 | .own=> ∀nx,∃p0 p' q seen,B0 ps z nx [] p=some (p',q,seen)/\tB (res.enc b)=some p0/\J5 nx p0=some (p',q)
mutual
theorem QF {s:List SB}: ∀{v:SV} {p:PV},R s v p->C7 v=true->tB v=some p
 | .int _ _,p,h,_| .bool _,p,h,_| .str _,p,h,_=>by rw [show p=_ from h];rfl
 | .agg cs,p,h,hn=>by obtain ⟨q,rfl,h⟩:=h;simp only [tB,pure_pvL h hn]
 | .tup cs,p,h,hn=>by obtain ⟨q,rfl,h⟩:=h;simp only [tB,pure_pvL h hn]
 | .junk,_,_,h| .undef,_,_,h| .nul,_,_,h| .nilf,_,_,h| .sl _ _,_,_,h| .nil _ _,_,_,h| .own _ _,_,_,h| .pre _ _ _ _,_,_,h| .part _ _ _ _ _,_,_,h| .pa _ _ _ _ _,_,_,h| .pb _ _ _,_,_,h| .bp _ _ _,_,_,h| .rptr _ _,_,_,h| .clo _ _ _,_,_,h| .mp _,_,_,h=>by cases h
theorem pure_pvL {s:List SB}: ∀{v:List SV} {p:List PV},RL s v p->norefSL v=true->pvL v=some p
 | [],p,h,_=>by rw [show p=_ from h];rfl
 |x::xs,p,h,hn=>by
  obtain ⟨a,as,rfl,h1,h2⟩:=h.cons_inv;simp only [norefSL,Bool.and_eq_true] at hn;exact dP.2 ⟨_,_,rfl,QF h1 hn.1,pure_pvL h2 hn.2⟩
end
theorem TD {kd:Kd} {β:Type} {res:aJ β} {v:SV} {s:List SB} {z:List Nat} {p:PV} {ps:cB} {ρ:Type} {w:β->ρ} {y:ρ} (hv:R s v p) (hS:cD s ps) (h:Y7 kd res v s z ρ w=some y):
 ∃b,y=w b/\ZY kd res b p ps z:=by
 unfold Y7 at h;cases kd with
 |pure=>
  dsimp only at h;obtain ⟨h1,h2⟩:=cE h;obtain ⟨b,h3,h4⟩:=bD h2;injection h4 with h4;exact ⟨b,h4.symm,P9 hv h1,res.law h3 (QF hv h1)⟩
 |frz=>
  dsimp only at h;obtain ⟨h1,h2⟩:=sS h;obtain ⟨u,h3,h4⟩:=bD h2;obtain ⟨b,h5,h6⟩:=bD h4;injection h6 with h6;obtain ⟨q,h7,h8⟩:=aHe hS hv h3;exact ⟨b,h6.symm,MH hv h1 h3,q,h7,res.law h5 h8⟩
 |own=>
  dsimp only at h;obtain ⟨u,h3,h4⟩:=bD h;obtain ⟨b,h5,h6⟩:=bD h4;injection h6 with h6;refine ⟨b,h6.symm,fun nx=>?_⟩
  obtain ⟨p0,p',q,h7,h8,h9⟩:=ZS hS (v':=u.1) (seen':=u.2) nx hv h3;exact ⟨p0,p',q,u.2,h9,res.law h5 h7,h8⟩
theorem cD.nil:cD [] []:=⟨rfl,fun t b h=>by simp at h⟩
theorem aI.of {f:FuncId} {x:aM} {α β:Type} {args:aB α} {res:aJ β} {kd:Kd} {fn:α->Option β} {ow:Bool} (hf:F f=some (.code x)) (ho:aBs kd ow=true) (hcx:pF F cx)
 (h: ∀a,aHb cx x args res kd a=fn a):aI F f ⟨args,res,fn,kd,ow⟩:=by
 intro a b as pa sto fz hb hpa hex;have hb:fn a=some b:=hb;rw [<- h a] at hb;obtain ⟨r,hr,n,v,s,z,hrun,hl⟩:=AC hcx (N1 hcx 8) hf (Q:=fun r p ps z=>ZY kd res r p ps z) (pvL_R hpa) cD.nil hb (fun v s' z' p ps' ρ' w' y' hv hS hk=>TD hv hS hk)
 have hr':b=r:=hr;subst hr';cases kd with
 |pure=>
  obtain ⟨h1,h2⟩:=hl;have how:ow=false:=by simpa [aBs] using ho
  subst how;refine ⟨n,{v:=v,rd:=toksL (cM sto dQ) as},?_,v,h2,rfl⟩;simp only [callPure,hex,hf,hrun,Bool.false_eq_true,if_false,h1,if_true]
 |frz=>
  obtain ⟨h1,q,h2,h3⟩:=hl;have how:ow=false:=by simpa [aBs] using ho
  subst how;refine ⟨n,{v:=q,rd:=toksL (cM sto dQ) as,fr:=toksL (cM sto dQ) as},?_,q,h3,rfl⟩;simp only [callPure,hex,hf,hrun,Bool.false_eq_true,if_false,h1,h2]
 |own=>
  have how:ow=true:=ho;subst how;obtain ⟨p0,p',q,seen,h1,h2,h3⟩:=hl sto.length;refine ⟨n,{v:=p',news:=q,rd:=toksL (cM sto dQ) as},?_,p0,p',q,h2,h3,rfl⟩;simp only [callPure,hex,hf,hrun,if_true,h1]
theorem QG: ∀(s:List SB) (q:List zH),(C8 s q).1.length=s.length
 | [],q=>rfl
 |b::r,q=>by simp only [C8,List.length_cons,QG r]
mutual
theorem R.take {s:List SB} {k:Nat}: ∀{v:SV} {p:PV},R s v p->(∀t∈SX uE v,t<k)->R (s.take k) v p
 | .junk,_,_,_=>trivial
 | .undef,_,h,_| .nul,_,h,_| .nilf,_,h,_| .int _ _,_,h,_| .bool _,_,h,_| .str _,_,h,_| .sl _ _,_,h,_| .nil _ _,_,h,_| .bp _ _ _,_,h,_| .mp _,_,h,_=>h
 | .agg cs,_,h,ht=>by obtain ⟨q,rfl,h⟩:=h;exact ⟨q,rfl,RL.takeS h ht⟩
 | .tup cs,_,h,ht=>by obtain ⟨q,rfl,h⟩:=h;exact ⟨q,rfl,RL.takeS h ht⟩
 | .rptr cs o,_,h,ht=>by obtain ⟨q,rfl,h⟩:=h;exact ⟨q,rfl,RL.takeS h ht⟩
 | .clo f a b,_,h,ht=>by
  obtain ⟨pa,pb,rfl,h1,h2⟩:=h;exact ⟨pa,pb,rfl,RL.takeS h1 (fun t h=>ht t (List.mem_append_left _ h)),RL.takeS h2 (fun t h=>ht t (List.mem_append_right _ h))⟩
 | .own t ex,_,h,ht=>by
  obtain ⟨e,n,rfl,hat⟩:=h;have hk:=ht t (List.mem_singleton.2 rfl);refine ⟨e,n,rfl,?_⟩;rcases hat with ⟨r,l,h1,h2,h3⟩|h1
  · exact .inl ⟨r,l,by rw [List.getElem?_take_of_lt hk];exact h1,h2,h3⟩
  · exact .inr (by rw [List.getElem?_take_of_lt hk];exact h1)
 | .pre t a b c,_,h,ht=>by
  obtain ⟨e,rfl,hat⟩:=h;have hk:=ht t (List.mem_singleton.2 rfl);refine ⟨e,rfl,?_⟩;rcases hat with ⟨r,l,h1,h2⟩|h1
  · exact .inl ⟨r,l,by rw [List.getElem?_take_of_lt hk];exact h1,h2⟩
  · exact .inr (by rw [List.getElem?_take_of_lt hk];exact h1)
 | .part t o a b c,_,h,ht=>by
  obtain ⟨e,rfl,hat⟩:=h;have hk:=ht t (List.mem_singleton.2 rfl);refine ⟨e,rfl,?_⟩;rcases hat with ⟨r,l,h1,h2⟩|h1
  · exact .inl ⟨r,l,by rw [List.getElem?_take_of_lt hk];exact h1,h2⟩
  · exact .inr (by rw [List.getElem?_take_of_lt hk];exact h1)
 | .pa t r i a o,_,h,ht=>by
  obtain ⟨rfl,hat⟩:=h;have hk:=ht t (List.mem_cons_self ..);refine ⟨rfl,?_⟩;rcases hat with ⟨l,h1,h2⟩|h1
  · exact .inl ⟨l,by rw [List.getElem?_take_of_lt hk];exact h1,h2⟩
  · exact .inr (by rw [List.getElem?_take_of_lt hk];exact h1)
 | .pb t i o,_,h,ht=>by
  obtain ⟨e,rfl,hat⟩:=h;have hk:=ht t (List.mem_cons_self ..);refine ⟨e,rfl,?_⟩;rcases hat with ⟨r,l,h1,h2⟩|h1
  · exact .inl ⟨r,l,by rw [List.getElem?_take_of_lt hk];exact h1,h2⟩
  · exact .inr (by rw [List.getElem?_take_of_lt hk];exact h1)
theorem RL.takeS {s:List SB} {k:Nat}: ∀{v:List SV} {p:List PV},RL s v p->(∀t∈tkVL uE v,t<k)->RL (s.take k) v p
 | [],_,h,_=>h
 |x::xs,_,h,ht=>by
  obtain ⟨a,as,rfl,h1,h2⟩:=h.cons_inv;exact RL.cons (R.take h1 (fun t h=>ht t (List.mem_append_left _ h))) (RL.takeS h2 (fun t h=>ht t (List.mem_append_right _ h)))
end
theorem J9 {R' ρ:Type} {w:R'->ρ} {y:ρ}: ∀{s s':List SB} {k:gX R'},ED s s' k ρ w=some y->k ρ w=some y/\s'.length=s.length/\ ∀(t:Nat) (x z:SB),s[t]? =some x->s'[t]? =some z->ZU x z
 | [],[],k,h=>⟨h,rfl,fun t x z h=>by simp at h⟩
 | [],_::_,k,h=>by cases h
 |_::_,[],k,h=>by cases h
 |x::xs,y'::ys,k,h=>by
  have step: ∀(_:ED xs ys k ρ w=some y) (_:ZU x y'),k ρ w=some y/\(y'::ys).length=(x::xs).length/\ ∀(t:Nat) (a b:SB),(x::xs)[t]? =some a->(y'::ys)[t]? =some b->ZU a b:=by
   intro h hx;obtain ⟨h1,h2,h3⟩:=J9 h;refine ⟨h1,by simpa using h2,fun t a b ha hb=>?_⟩
   cases t with
   |zero=>simp at ha hb;subst ha hb;exact hx
   |succ t=>exact h3 t a b (by simpa using ha) (by simpa using hb)
  cases x with
  |arr r l=>
   cases y' with
   |arr q m=>
    obtain ⟨hr,h2⟩:=cE (a:=gJ (m.length==l.length) (ED xs ys k) aN) h;obtain ⟨hl,h3⟩:=hZ h2;exact step h3 ⟨wH hr,by simpa using hl⟩
   |_=>cases h
  |dead=>cases y' with
   |dead=>exact step h trivial
   |_=>cases h
  |box cs=>cases y' with
   |box _=>exact step h trivial
   |_=>cases h
  |set l=>cases y' with
   |set _=>exact step h trivial
   |_=>cases h
  |tab p l=>cases y' with
   |tab _ _=>exact step h trivial
   |_=>cases h
theorem KA: ∀{s:List SB},JS s=true-> ∀(t:Nat) (b:SB),s[t]? =some b->A6 b=true
 | [],_,t,b,h=>by simp at h
 |x::xs,hs,0,b,h=>by simp only [JS,Bool.and_eq_true] at hs;simp at h;subst h;exact hs.1
 |x::xs,hs,t+1,b,h=>by simp only [JS,Bool.and_eq_true] at hs;exact KA hs.2 t b (by simpa using h)
theorem oT.of {f:FuncId} {x:aM} {wd:Bool} {ka ko:List AK} {ta:List SV} {tb to:List SB} {tv:SV} {fn:kF ka->Option (kF ko)} (hf:F f=some (.code x)) (hcx:pF F cx)
 (h: ∀a,aN1 wd cx x ka ta tb ko tv to a=fn a):oT F f ⟨ka,ta,tb,ko,tv,to,fn⟩:=by
 intro a b pa ps hb ha hS;rw [show (⟨ka,ta,tb,ko,tv,to,fn⟩:eK).fn a=fn a from rfl,<- h a] at hb;have hlen:(eK.sa ⟨ka,ta,tb,ko,tv,to,fn⟩ a).length=tb.length:=QG _ _;obtain ⟨r,hr,n,v,s,z,hrun,hz,hq⟩:=AC hcx (N1 hcx 8) hf (Q:=fun (r:kF ko) p ps' z'=>z'=[]/\hO tb.length p ps'=true/\
  R (eK.sb ⟨ka,ta,tb,ko,tv,to,fn⟩ r) (eK.vb ⟨ka,ta,tb,ko,tv,to,fn⟩ r) p/\cD (eK.sb ⟨ka,ta,tb,ko,tv,to,fn⟩ r) (ps'.take tb.length)/\
  (eK.sb ⟨ka,ta,tb,ko,tv,to,fn⟩ r).length=(eK.sa ⟨ka,ta,tb,ko,tv,to,fn⟩ a).length/\
  ∀(t:Nat) (x y:SB),(eK.sa ⟨ka,ta,tb,ko,tv,to,fn⟩ a)[t]? =some x->(eK.sb ⟨ka,ta,tb,ko,tv,to,fn⟩ r)[t]? =some y->ZU x y) ha hS hb (fun v s' z' p ps' ρ' w' y' hv hS' hk=>by
  cases z' with
  |cons _ _=>cases hk
  |nil=>
   dsimp only at hk;obtain ⟨hc,hk⟩:=cE hk;simp only [Bool.and_eq_true] at hc;obtain ⟨⟨⟨⟨c1,c2⟩,c3⟩,c4⟩,c5⟩:=hc;obtain ⟨hk,f1,f2⟩:=J9 hk;obtain ⟨r,hr,hk⟩:=bD hk;injection hk with hk;have hu:R s' (bif wd then L8 s' v else v) p:=by
    cases wd with
    |true=>exact UZ hv
    |false=>exact hv
   generalize (bif wd then L8 s' v else v)=u at c1 c3 c4 hr hu
   have hats:=tC hr;have hvb:eK.vb ⟨ka,ta,tb,ko,tv,to,fn⟩ r=u:=by
    show (uI tv (mN ko r)).1=u;rw [hats,IF _ c1]
   have hsb:eK.sb ⟨ka,ta,tb,ko,tv,to,fn⟩ r=s'.take tb.length:=by
    show (C8 to (uI tv (mN ko r)).2).1=_;rw [hats,IF _ c1]
    have:=EN [] c2
    rw [List.append_nil] at this;rw [this]
   have hle:tb.length<=s'.length:=by
    have:=f1
    rw [List.length_take] at this;have h2:(eK.sa ⟨ka,ta,tb,ko,tv,to,fn⟩ a).length=tb.length:=hlen;have h3:min tb.length s'.length=tb.length:=by rw [this];exact h2
    omega
   unfold aHa at c3;rw [List.all_eq_true] at c3;have hkv: ∀t∈SX uE u,t<tb.length:=fun t ht=>by simpa using c3 t (List.mem_append_left _ ht)
   have hkb: ∀b∈s'.take tb.length,∀t∈JK b,t<tb.length:=fun b hb t ht=>by simpa using c3 t (List.mem_append_right _ (List.mem_flatMap.2 ⟨b,hb,ht⟩))
   have hsto:cD (s'.take tb.length) (ps'.take tb.length):=⟨by simp [hS'.len],fun t x hx=>by
    have hlt:t<tb.length:=by
     have:=(List.getElem?_eq_some_iff.1 hx).1
     rw [List.length_take] at this;omega
    have hx':=hx;rw [List.getElem?_take_of_lt hlt] at hx';obtain ⟨q,q1,q2⟩:=hS'.at_ t x hx';refine ⟨q,by rw [List.getElem?_take_of_lt hlt];exact q1,?_⟩
    cases x with
    |box cs=>
     obtain ⟨pc,rfl,hpc⟩:=q2;exact ⟨pc,rfl,RL.takeS hpc (hkb _ (List.mem_of_getElem? hx))⟩
    |_=>exact q2⟩
   refine ⟨r,hk.symm,rfl,?_,by rw [hvb,hsb];exact R.take hu hkv,by rw [hsb];exact hsto,by rw [hsb];exact f1,by rw [hsb];exact f2⟩
   unfold hO;rw [List.all_eq_true];intro t ht;rw [List.mem_append] at ht;rcases ht with ht|ht
   · rw [<- ZM (bx:=uE) (fun _=>rfl) hu c4] at ht
     simpa using hkv t ht
   · rw [List.mem_flatMap] at ht
     obtain ⟨q,hq,ht⟩:=ht;obtain ⟨j,hj,he⟩:=List.getElem_of_mem hq;have hjl:j<(s'.take tb.length).length:=by rw [<- hsto.len];exact hj
     obtain ⟨x,hx⟩: ∃x,(s'.take tb.length)[j]? =some x:=⟨_,List.getElem?_eq_getElem hjl⟩;obtain ⟨q',q1,q2⟩:=hsto.at_ j x hx;rw [List.getElem?_eq_getElem hj,he] at q1;injection q1 with q1;subst q1;rw [<- NW q2 (KA c5 j x hx)] at ht;simpa using hkb x (List.mem_of_getElem? hx) t ht)
 have hr':b=r:=hr;subst hr';subst hz;refine ⟨n,v,s,hrun,?_⟩;rw [hlen];obtain ⟨h1,h2,h3,h4,h5⟩:=hq;exact ⟨h1,h2,h3,by rw [h4,hlen],h5⟩
theorem TE {f:FuncId} {r:List PT} (hf:F f=some (.prim false (eX r.length))) (l:List (RT r)) (hl:l.length<=1048576) {as:List PV} {sto:cB} {fz:List Nat} (hex:exL sto (zI sto dQ) as=some [.sl r.length false (l.map (RT.pv r))]):
 ∃n x,callPure F (run F n) false f as sto fz=some x/\aHf .own sto.length (toksL (cM sto dQ) as) (.sl r l) x:=by
 refine ⟨0,{v:= .own sto.length r.length 0 l.length l.length false,news:=[.arr r.length (l.map (RT.pv r))],rd:=toksL (cM sto dQ) as},?_,.sl r.length false (l.map (RT.pv r)),.own sto.length r.length 0 l.length l.length false,[.arr r.length (l.map (RT.pv r))],rfl,by simp only [J5,List.length_map],rfl⟩
 simp only [callPure,hex,hf];cases l with
 |nil=>rfl
 |cons a l=>
  have h2:Nat.ble ((l.map (RT.pv r)).length+1) oY=true:=by simp [oY] at hl ⊢;omega
  simp only [List.map_cons,eX,Nat.beq_refl,h2,Bool.and_self,if_true,B0];simp [has]
theorem aI.clone {f:FuncId} {n:Nat} {r:List PT} (hf:F f=some (.prim false (eX n))) (hn:n=r.length):aI F f (bN.clone r):=by
 intro (a:List (RT r)) (b:List (RT r)) as pa sto fz hb hpa hex;subst hn;have hb:bQ a=some b:=hb;obtain ⟨rfl,hl⟩:=DD hb;have hpa':pa=[.sl r.length false (b.map (RT.pv r))]:=by
  have:some [PV.sl r.length false (b.map (RT.pv r))]=some pa:=hpa
  exact (Option.some.inj this).symm
 subst hpa';exact TE hf b hl hex
theorem aI.add64 {f:FuncId} (hf:F f=some (.prim false CY)):aI F f bN.add64:=by
 intro a b as pa sto fz hb hpa hex;obtain ⟨x,y,c⟩:=a;have hb':pE x y c=some b:=hb;unfold pE at hb';cases hc:(decide (0<=x)&&decide (0<=y)&&decide (0<=c)&&decide (c<=1)) with
 |false=>rw [hc] at hb';cases hb'
 |true=>
  rw [hc] at hb';injection hb' with hb';subst hb';simp only [Bool.and_eq_true,decide_eq_true_eq] at hc;obtain ⟨⟨⟨h1,h2⟩,h3⟩,h4⟩:=hc;obtain ⟨x,rfl⟩:=Int.eq_ofNat_of_zero_le h1;obtain ⟨y,rfl⟩:=Int.eq_ofNat_of_zero_le h2;obtain ⟨c,rfl⟩:=Int.eq_ofNat_of_zero_le h3;have hpa':pa=[.int .u64 (.ofNat x),.int .u64 (.ofNat y),.int .u64 (.ofNat c)]:=by
   have:some [PV.int .u64 (x:Int),.int .u64 (y:Int),.int .u64 (c:Int)]=some pa:=hpa
   exact (Option.some.inj this).symm
  subst hpa';have hcb:Nat.ble c 1=true:=by simp;omega
  refine ⟨0,{v:= .tup [.int .u64 (.ofNat ((x+y+c)%18446744073709551616)),.int .u64 (.ofNat ((x+y+c) / 18446744073709551616))],rd:=toksL (cM sto dQ) as},?_,_,rfl,rfl⟩;show callPure F (run F 0) false f as sto fz=_;simp only [callPure,hex,hf,CY,hcb,if_true];rfl
theorem oT.zero {f:FuncId} {c:eK} (h: ∀a,c.fn a=none):oT F f c:=fun a b pa ps hb=>by rw [h a] at hb;cases hb
theorem aI.zero {f:FuncId} {c:bN} (h: ∀a,c.fn a=none):aI F f c:=fun a b as pa sto fz hb=>by rw [h a] at hb;cases hb
theorem aI.at0 {f:FuncId} {fn:Unit->Option Bool} (h:aI F f ⟨aB.nil,aJ.bool,fn,.pure,false⟩) (hb:fn ()=some true):aI F f ⟨aB.nil,aJ.bool,fun _=>some true,.pure,false⟩:=by
 intro a b as args sto fz hr hp hx;obtain rfl:true=b:=Option.some.inj hr;exact h () true as args sto fz hb hp hx
end
end Go.Vm
/- What comes in to a law, as typed values; a law from a contract. -/
namespace Go.Vm
open Go.ChangeShapes Go.WideShapes Go.ChangeAt Go.RowKit
def PT.wf:(p:PT)->p.T->Prop
 | .i k,n=>(Lit.int k n).wf=true
 | .b,_=>True
def RT.wf:(r:List PT)->RT r->Prop
 | [],_=>True
 | [p],a=>p.wf a
 |p::q::r,a=>p.wf a.1/\RT.wf (q::r) a.2
def nB (r:List PT) (vs:List SV):Prop:= ∃a:RT r,vs=RT.sv r a/\RT.wf r a
def KSl (r:List PT) (vs:List SV):Prop:= ∃l:List (RT r),vs=[.sl r l]/\ ∀a∈l,RT.wf r a
def aBt:List (List SV->Prop)->List SV->Prop
 | [],vs=>vs=[]
 |K::Ks,vs=> ∃a b,vs=a++b/\K a/\aBt Ks b
theorem nB.cons {p:PT}: ∀{r:List PT} {a b:List SV},nB [p] a->nB r b->nB (p::r) (a++b)
 | [],a,b,⟨x,hx,wx⟩,⟨y,hy,_⟩=>⟨x,by rw [hx,hy];rfl,wx⟩
 |q::r,a,b,⟨x,hx,wx⟩,⟨y,hy,wy⟩=>⟨(x,y),by rw [hx,hy];rfl,wx,wy⟩
theorem nB.split {p q:PT} {r:List PT} {vs:List SV}:nB (p::q::r) vs-> ∃a b,vs=a++b/\nB [p] a/\nB (q::r) b
 |⟨x,hx,wx⟩=>⟨[p.sv x.1],RT.sv (q::r) x.2,hx,⟨x.1,rfl,wx.1⟩,⟨x.2,rfl,wx.2⟩⟩
theorem nB.app: ∀{r s:List PT} {a b:List SV},nB r a->nB s b->nB (r++s) (a++b)
 | [],s,a,b,⟨x,hx,_⟩,h=>by
  have:a=[]:=hx
  subst this;exact h
 | [p],s,a,b,h,k=>nB.cons h k
 |p::q::r,s,a,b,h,k=>by
  obtain ⟨a1,a2,rfl,h1,h2⟩:=nB.split h
  rw [List.append_assoc];exact nB.cons h1 (nB.app h2 k)
theorem GB: ∀{rs:List (List PT)} {vs:List SV},aBt (rs.map nB) vs->nB rs.flatten vs
 | [],vs,h=>by
  have:vs=[]:=h
  subst this;exact ⟨(),rfl,trivial⟩
 |r::rs,vs,⟨a,b,h1,h2,h3⟩=>by
  subst h1;rw [List.flatten_cons];exact nB.app h2 (GB h3)
def iI (P : Program) (t : TypeId) (K : List SV -> Prop) : Prop :=
  ∀ (H : Type) (enc : TypeId × Value -> H) (w : World) (fuel : Nat) (cs : List Value) (x : DataW H × List MemPlace), DataW.trod enc P w 0 (fun _ => true) true fuel t cs = some x ->
    ∃ vs q, K vs /\ pvL vs = some q /\ VRL (LJ w) fU q cs
section
variable {P : Program}
theorem iI.mono {t:TypeId} {K K':List SV->Prop} (h:iI P t K) (hk: ∀vs,K vs->K' vs):iI P t K':=fun H enc w fuel cs x hx=>by
 obtain ⟨vs,q,h1,h2,h3⟩:=h H enc w fuel cs x hx;exact ⟨vs,q,hk vs h1,h2,h3⟩
theorem iI.int {t:TypeId} {k:IntKind} (ht:P.underlying t=some (.int k)):iI P t (nB [.i k]):=fun H enc w fuel cs x h=>by
 obtain ⟨n,rfl,_,hw⟩:=DataW.trod_int ht h;exact ⟨[.int k n],[.int k n],⟨n,rfl,hw⟩,rfl,.cons _ _ _ _ (.int k n) .nil⟩
theorem iI.bool {t:TypeId} (ht:P.underlying t=some .bool):iI P t (nB [.b]):=fun H enc w fuel cs x h=>by
 obtain ⟨b,rfl,_⟩:=DataW.trod_bool ht h;exact ⟨[.bool b],[.bool b],⟨b,rfl,trivial⟩,rfl,.cons _ _ _ _ (.bool b) .nil⟩
def fV (P:Program):List Field->List (List SV->Prop)->Nat->Prop
 | [],[],_=>True
 |f::fs,K::Ks,off=>f.offset=off/\iI P f.type K/\fV P fs Ks (off+P.cellsOf f.type)
 |_,_,_=>False
theorem fV.nil {off:Nat}:fV P [] [] off:=trivial
theorem fV.cons {f:Field} {fs:List Field} {K:List SV->Prop} {Ks:List (List SV->Prop)} {off:Nat} (h1:f.offset=off) (h2:iI P f.type K) (h3:fV P fs Ks (off+P.cellsOf f.type)):fV P (f::fs) (K::Ks) off:=⟨h1,h2,h3⟩
def AD (P:Program):List Field->Nat
 | []=>0
 |f::fs=>P.cellsOf f.type+AD P fs
theorem KB {im:Im} {loc:cR}: ∀{p:List PV} {vs:List Value} {q:List PV} {us:List Value},VRL im loc p vs->VRL im loc q us->VRL im loc (p++q) (vs++us)
 | [],[],_,_,.nil,h=>h
 |_::_,_::_,_,_,.cons x v xs ws h hs,k=> .cons x v _ _ h (KB hs k)
theorem KC {H:Type} {enc:TypeId×Value->H} {w:World} {n:Nat} {cs:List Value}: ∀{fs:List Field} {Ks:List (List SV->Prop)} {off:Nat},fV P fs Ks off->cs.length=off+AD P fs->
 (∀f∈fs,∃x,DataW.trod enc P w 0 (fun _=>true) true n f.type ((cs.drop f.offset).take (P.cellsOf f.type))=some x)-> ∃vs q,aBt Ks vs/\pvL vs=some q/\VRL (LJ w) fU q (cs.drop off)
 | [],[],off,_,hl,_=>⟨[],[],rfl,rfl,by rw [List.drop_eq_nil_of_le (by simp [AD] at hl;omega)];exact .nil⟩
 |f::fs,K::Ks,off,⟨h1,h2,h3⟩,hl,hx=>by
  obtain ⟨x,hx1⟩:=hx f (by simp)
  obtain ⟨vs,q,k1,k2,k3⟩:=h2 H enc w n _ x hx1;obtain ⟨vs',q',k1',k2',k3'⟩:=KC (n:=n) h3 (by simp only [AD] at hl;omega) (fun g hg=>hx g (by simp [hg]))
  refine ⟨vs++vs',q++q',⟨vs,vs',rfl,k1,k1'⟩,DA k2 k2',?_⟩;rw [h1] at k3
  have:cs.drop off=(cs.drop off).take (P.cellsOf f.type)++cs.drop (off+P.cellsOf f.type):=by
   rw [<- List.drop_drop,List.take_append_drop]
  rw [this];exact KB k3 k3'
 | [],_::_,_,h,_,_=>h.elim
 |_::_,[],_,h,_,_=>h.elim
theorem iI.struct {t:TypeId} {fs:Array Field} {Ks:List (List SV->Prop)} (ht:P.underlying t=some (.struct fs)) (hF:fV P fs.toList Ks 0) (hc:P.cellsOf t=AD P fs.toList):iI P t (aBt Ks):=fun H enc w fuel cs x h=>by
 obtain ⟨xs,n,rfl,_,hl,hxl,hall⟩:=DataW.trod_struct ht h
 have:=KC (P:=P) (enc:=enc) (w:=w) (n:=n) (cs:=cs) hF (by omega) (fun f hf=>by
  obtain ⟨i,hi,he⟩:=List.mem_iff_getElem.1 hf;have hi':i<fs.size:=by simpa using hi
  have hg:fs[i]? =some f:=by rw [Array.getElem?_eq_getElem hi'];simpa using he
  have:=hall i f hg
  rw [List.getElem?_eq_getElem (by omega)] at this
  exact ⟨_,this⟩)
 rwa [List.drop_zero] at this
theorem RT.vrl {r:List PT} {a:RT r} {q:List PV} (h:pvL (RT.sv r a)=some q):q=RT.pv r a:=by
 rw [RT.pv_sv] at h;exact (Option.some.inj h).symm
theorem VRL.nth {im:Im} {loc:cR}: ∀{p:List PV} {vs:List Value},VRL im loc p vs-> ∀(k:Nat) (c:PV),p[k]? =some c-> ∃v,vs[k]? =some v/\VR im loc c v
 |_::_,_::_,.cons x v xs ws h hs,0,c,hc=>by
  simp at hc;subst hc;exact ⟨v,by simp,h⟩
 |_::_,_::_,.cons x v xs ws h hs,k+1,c,hc=>by
  obtain ⟨u,h1,h2⟩:=VRL.nth hs k c (by simpa using hc)
  exact ⟨u,by simpa using h1,h2⟩
theorem iI.slice {t e:TypeId} {r:List PT} (ht:P.underlying t=some (.slice e)) (he:iI P e (nB r)) (hc:P.cellsOf e=r.length) (hr:0<r.length):iI P t (KSl r):=fun H enc w fuel cs x h=>by
 rcases Go.Deep.open_slice ht h with ⟨rfl,_⟩|⟨a,len,cap,m,n,D,Pl,rfl,_,hl,hm,hmm,_,hx⟩
 · exact ⟨[.sl r []],[.sl r.length false []],⟨[],rfl,by simp⟩,rfl,.cons _ _ _ _ (.sl r.length false [] none 0 (Nat.le_refl _) (fun h=>by cases h) (fun h=>absurd rfl h)) .nil⟩
 · have hm':len<=m:=by rw [hmm];split<;>omega
   have each: ∀i,i<len-> ∃A:RT r,RT.wf r A/\ ∃cs',w.cells? 0 (a.add (i*r.length)) r.length=some cs'/\VRL (LJ w) fU (RT.pv r A) cs':=by
    intro i hi;obtain ⟨cs',h1,h2⟩:=hx i (by omega)
    obtain ⟨vs,q,⟨A,hA,wA⟩,k2,k3⟩:=he H enc w n cs' _ h2;subst hA;rw [RT.vrl k2] at k3;rw [hc] at h1;exact ⟨A,wA,cs',h1,k3⟩
   have ch: ∃A:Nat->RT r,∀i,i<len->RT.wf r (A i)/\ ∃cs',w.cells? 0 (a.add (i*r.length)) r.length=some cs'/\VRL (LJ w) fU (RT.pv r (A i)) cs':=by
    classical
    refine ⟨fun i=>if h:i<len then (each i h).choose else RT.zero r,fun i hi=>?_⟩
    simp only [dif_pos hi];exact (each i hi).choose_spec
   obtain ⟨A,hA⟩:=ch;refine ⟨[.sl r ((List.range len).map A)],[.sl r.length false (((List.range len).map A).map (RT.pv r))],⟨_,rfl,fun x hx=>?_⟩,rfl,.cons _ _ _ _ ?_ .nil⟩
   · obtain ⟨i,hi,rfl⟩:=List.mem_map.1 hx
     exact (hA i (List.mem_range.1 hi)).1
   · have hlen:(((List.range len).map A).map (RT.pv r)).length=len:=by simp
     have:=VR.sl (im:=LJ w) (loc:=fU) r.length false (((List.range len).map A).map (RT.pv r)) (some a) cap (by rw [hlen];exact hl) (fun h=>by cases h) (fun hne=>by
      have hpos:0<len:=by
       rcases Nat.eq_zero_or_pos len with h|h
       · subst h;exact absurd rfl hne
       · exact h
      obtain ⟨_,cs0,h0,_⟩:=hA 0 hpos;obtain ⟨_,hl0,hc0⟩:=World.cells?_some h0;obtain ⟨b,off,spot⟩:=a;have hspot:spot=none:=by
       have h1:=hc0 0 hr;rw [List.getElem?_eq_getElem (by omega)] at h1
       simpa [Addr.add] using World.cell?_spot h1
      subst hspot;refine ⟨b,off,rfl,fun i row hrow=>?_⟩
      simp only [List.map_map,List.getElem?_map,Option.map_eq_some_iff] at hrow;obtain ⟨j,hj,rfl⟩:=hrow;have hjl:=bX hj
      have:j=i:=by
       rw [List.getElem?_range (by simpa using hjl)] at hj
       exact (Option.some.inj hj).symm
      subst this;have hjlen:j<len:=by simpa using hjl
      obtain ⟨_,cs',h1,h2⟩:=hA j hjlen;obtain ⟨_,hl1,hc1⟩:=World.cells?_some h1;refine ⟨RT.pv_len r (A j),fun k c hk=>?_⟩
      obtain ⟨v,hv,hvr⟩:=VRL.nth h2 k c hk;have hkr:k<r.length:=by
       have:=bX hk
       rwa [Function.comp,RT.pv_len] at this
      have cc:=hc1 k hkr;rw [hv] at cc;rw [Go.WideShapes.add_plain,Go.WideShapes.add_plain] at cc;have hpl:c.plain=true:=List.all_eq_true.1 (RT.plain r (A j)) c (List.mem_of_getElem? hk);exact ⟨v,hvr.plain hpl,WX cc⟩)
     rw [hlen] at this;exact this
theorem iI.argS {t:TypeId} {fs:Array Field} {K:List SV->Prop} (h:iI P t K) (ht:P.underlying t=some (.struct fs)) {H:Type} {enc:TypeId×Value->H} {w:World} {base:Nat} {v:Value} {d:DataW H} {p:List MemPlace}
 (hv:Value.okWide P w .any base t v) (hd:DataW.Trod enc P w 0 (fun _=>true) true t v d p): ∃vs q,K vs/\pvL vs=some q/\VR (LJ w) fU (.agg q) v:=by
 obtain ⟨cs,rfl,_⟩:=okWide_struct ht hv;obtain ⟨fuel,hf⟩:=hd;obtain ⟨vs,q,k1,k2,k3⟩:=h H enc w fuel _ _ hf;exact ⟨vs,q,k1,k2,.agg q _ k3⟩
theorem GC {n:Int} (h:(Lit.int .i64 n).wf=true): -9223372036854775808<=n/\n<9223372036854775808:=by
 simp only [Lit.wf,Bool.and_eq_true,decide_eq_true_eq] at h;have e1:IntKind.i64.min= -9223372036854775808:=by decide
 have e2:IntKind.i64.max=9223372036854775807:=by decide
 rw [e1,e2] at h;omega
end
theorem aI.runA {F:mX} {f:FuncId} {x:aM} {α:Type} {A:aB α} {fn:α->Option Bool} (h:aI F f ⟨A,aJ.bool,fn,.pure,false⟩) (hf:F f=some (.code x)) {a:α} (hb:fn a=some true) {ps:List PV} (hp:pvL (A.enc a)=some ps) (hx:exL [] (zI [] dQ) ps=some ps):
 ∃n s z,run F n (.func f ps [] [])=some (.func (.bool true) s z):=by
 obtain ⟨n,r,h1,p,h2,rfl⟩:=h a true ps ps [] [] hb hp hx;have hp':p= .bool true:=(Option.some.inj h2).symm;subst hp';refine ⟨n,?_⟩;simp only [callPure,hx,hf] at h1;split at h1
 · rename_i v s z hr
   simp only [Bool.false_eq_true,if_false] at h1;split at h1
   · injection h1 with h1
     injection h1 with h1;subst h1;exact ⟨s,z,hr⟩
   · rename_i hn
     split at h1
     · rename_i v' hv
       injection h1 with h1;injection h1 with h1;subst h1;exfalso;cases v with
       |bool b=>exact hn rfl
       |int _ _|str _|sl _ _ _=>injection hv with hv;cases hv
       |agg cs=>simp only [A1,Option.map_eq_some_iff] at hv;obtain ⟨_,_,hv⟩:=hv;cases hv
       |tup cs=>simp only [A1,Option.map_eq_some_iff] at hv;obtain ⟨_,_,hv⟩:=hv;cases hv
       |own t e off len cap ex=>simp only [A1] at hv;split at hv<;>first|(injection hv with hv;cases hv)|cases hv
       |_=>cases hv
     · cases h1
 · cases h1
end Go.Vm
