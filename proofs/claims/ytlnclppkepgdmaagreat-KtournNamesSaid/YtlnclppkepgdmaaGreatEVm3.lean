/- The logical machine, part 3: SvRel, SvOps1, SvOps2, SvOps3, SvOps4, SvNorm, SvCall, SvFp, SvRun, SvCon, SvSort, SvSortI. -/
import Derived.Test.YtlnclppkepgdmaaGreatEVm2
import Derived.Sort.Grow
/- What a typed value says of a value of the logical machine. -/
namespace Go.Vm
def QA (s:List SB) (t e n:Nat):Prop:=(∃r l,s[t]? =some (.arr r l)/\e=r.length/\n=l.length)\/s[t]? =some .dead
def tI (s:List SB) (t e:Nat):Prop:=(∃r l,s[t]? =some (.arr r l)/\e=r.length)\/s[t]? =some .dead
def QB (s:List SB) (t:Nat) (r:List PT) (i:Int) (a:RT r):Prop:=(∃l,s[t]? =some (.arr r l)/\aK l i=some a)\/s[t]? =some .dead
def aCC (s:List SB) (t:Nat) (i:Int):Prop:=(∃r l,s[t]? =some (.arr r l)/\(aK l i).isSome=true)\/s[t]? =some .dead
mutual
def R (s:List SB):SV->PV->Prop
 | .junk,_=>True
 | .undef,v=>v= .undef
 | .nul,v=>v= .nul
 | .nilf,v=>v= .nilf
 | .int k n,v=>v= .int k n
 | .bool b,v=>v= .bool b
 | .str x,v=>v= .str x
 | .agg cs,v=> ∃ps,v= .agg ps/\RL s cs ps
 | .tup cs,v=> ∃ps,v= .tup ps/\RL s cs ps
 | .sl r l,v=>v= .sl r.length false (l.map (RT.pv r))
 | .nil e c,v=>v= .sl e c []
 | .own t ex,v=> ∃e n,v= .own t e 0 n n ex/\QA s t e n
 | .pre t len cap ex,v=> ∃e,v= .own t e 0 len cap ex/\tI s t e
 | .part t off len cap ex,v=> ∃e,v= .own t e off len cap ex/\tI s t e
 | .pa t r i a off,v=>v= .ptr t r.length i.toNat off/\QB s t r i a
 | .pb t i off,v=> ∃e,v= .ptr t e i.toNat off/\aCC s t i
 | .bp t n off,v=>v= .ptr t n 0 off
 | .rptr cs off,v=> ∃ps,v= .rptr ps off/\RL s cs ps
 | .clo f a b,v=> ∃pa pb,v= .clo f pa pb/\RL s a pa/\RL s b pb
 | .mp t,v=>v= .mp t
def RL (s:List SB):List SV->List PV->Prop
 | [],ps=>ps=[]
 |x::xs,ps=> ∃p q,ps=p::q/\R s x p/\RL s xs q
end
def mE:List Int->PV
 | [a]=> .int .i64 a
 |l=> .agg (l.map (.int .i64))
def wF (k:List Int):PV×PV:=(mE k,.bool true)
def AH (p:PT) (a:RT [.i .i64,p]):PV×PV:=(.int .i64 a.1,p.pv a.2)
def RB (s:List SB):SB->fL->Prop
 | .arr r l,b=>b= .arr r.length (l.map (RT.pv r))
 | .box cs,b=> ∃ps,b= .box ps/\RL s cs ps
 | .set l,b=>b= .map (l.map wF)
 | .tab p l,b=>b= .map (l.map (AH p))
 | .dead,b=>b= .dead
structure bI (s:List SB) (p:bH):Prop where
 len:p.length=s.length
 at_: ∀(t:Nat) (b:SB),s[t]? =some b-> ∃q,p[t]? =some q/\RB s b q
def bW (s:List SB):SE->lY->Prop
 | [],e=>e=[]
 |(t,v)::r,e=> ∃p q,e=(t,p)::q/\R s v p/\bW s r q
structure tJ (st:kC) (p:St):Prop where
 env:bW st.sto st.env p.env
 sto:bI st.sto p.sto
 fz:p.fz=st.fz
 kn:p.kn=st.kn
theorem gV: ∀(s l:List SB),apS s l=s++l
 | [],_=>rfl
 |b::r,l=>by simp [apS,gV r l]
theorem wG: ∀(s:List SB) (t:Nat) (b:SB),P5 s t b=s.set t b
 | [],_,_=>by simp [P5]
 |_::_,0,_=>rfl
 |x::r,n+1,b=>by simp [P5,wG r n b]
theorem RL.nil {s:List SB}:RL s [] []:=rfl
theorem RL.cons {s:List SB} {x:SV} {xs:List SV} {p:PV} {q:List PV} (h:R s x p) (k:RL s xs q):RL s (x::xs) (p::q):=⟨p,q,rfl,h,k⟩
theorem RL.cons_inv {s:List SB} {x:SV} {xs:List SV} {ps:List PV} (h:RL s (x::xs) ps): ∃p q,ps=p::q/\R s x p/\RL s xs q:=h
theorem RL.length {s:List SB}: ∀{xs:List SV} {ps:List PV},RL s xs ps->ps.length=xs.length
 | [],ps,h=>by rw [show ps=[] from h];rfl
 |x::xs,ps,h=>by
  obtain ⟨p,q,rfl,_,h2⟩:=h.cons_inv;simp [h2.length]
theorem RL.append {s:List SB}: ∀{xs:List SV} {ps:List PV},RL s xs ps-> ∀{ys:List SV} {qs:List PV},RL s ys qs->RL s (xs++ys) (ps++qs)
 | [],ps,h,_,_,k=>by rw [show ps=[] from h];exact k
 |x::xs,ps,h,_,_,k=>by
  obtain ⟨p,q,rfl,h1,h2⟩:=h.cons_inv;exact RL.cons h1 (h2.append k)
theorem RL.take {s:List SB}: ∀{xs:List SV} {ps:List PV},RL s xs ps-> ∀n,RL s (xs.take n) (ps.take n)
 | [],ps,h,n=>by rw [show ps=[] from h];simp;exact RL.nil
 |x::xs,ps,h,0=>by simp;exact RL.nil
 |x::xs,ps,h,n+1=>by
  obtain ⟨p,q,rfl,h1,h2⟩:=h.cons_inv;exact RL.cons h1 (h2.take n)
theorem RL.drop {s:List SB}: ∀{xs:List SV} {ps:List PV},RL s xs ps-> ∀n,RL s (xs.drop n) (ps.drop n)
 | [],ps,h,n=>by rw [show ps=[] from h];simp;exact RL.nil
 |x::xs,ps,h,0=>h
 |x::xs,ps,h,n+1=>by
  obtain ⟨p,q,rfl,h1,h2⟩:=h.cons_inv;exact h2.drop n
theorem RL.nth {s:List SB}: ∀{xs:List SV} {ps:List PV},RL s xs ps-> ∀{n:Nat} {v:SV},Vm.nth xs n=some v-> ∃p,ps[n]? =some p/\R s v p
 | [],_,_,_,_,e=>by cases e
 |x::xs,ps,h,0,v,e=>by
  obtain ⟨p,q,rfl,h1,_⟩:=h.cons_inv;injection e with e;subst e;exact ⟨p,rfl,h1⟩
 |x::xs,ps,h,n+1,v,e=>by
  obtain ⟨p,q,rfl,_,h2⟩:=h.cons_inv;obtain ⟨p',h3,h4⟩:=h2.nth (n:=n) e;exact ⟨p',by simpa using h3,h4⟩
mutual
theorem KT (s:List SB): ∀v:PV,R s (SP v) v
 | .undef=>rfl
 | .nul=>rfl
 | .nilf=>rfl
 | .int _ _=>rfl
 | .bool _=>rfl
 | .str _=>rfl
 | .agg cs=>⟨cs,rfl,ofPVL_R s cs⟩
 | .tup cs=>⟨cs,rfl,ofPVL_R s cs⟩
 | .sl e c rows=>by
  cases rows with
  |nil=>exact rfl
  |cons _ _=>trivial
 | .clo f a b=>⟨a,b,rfl,ofPVL_R s a,ofPVL_R s b⟩
 | .own .. =>trivial
 | .ptr .. =>trivial
 | .rptr .. =>trivial
 | .mp _=>trivial
theorem ofPVL_R (s:List SB): ∀l:List PV,RL s (ofPVL l) l
 | []=>rfl
 |x::xs=>RL.cons (KT s x) (ofPVL_R s xs)
end
theorem bW.lk {s:List SB}: ∀{e:SE} {p:lY},bW s e p-> ∀t,R s (DU t e) (Vm.lk t p)
 | [],p,h,t=>by rw [show p=[] from h];rfl
 |(u,v)::r,p,h,t=>by
  obtain ⟨q,qs,rfl,h1,h2⟩:=h;simp only [DU,Vm.lk];cases hb:Nat.beq u t with
  |true=>exact h1
  |false=>exact bW.lk h2 t
theorem bW.setS {s:List SB}: ∀{e:SE} {p:lY},bW s e p-> ∀{t:Nat} {v:SV},R s v (Vm.lk t p)->bW s (Vm.setS t v e) p
 | [],p,h,t,v,_=>h
 |(u,x)::r,p,h,t,v,hv=>by
  obtain ⟨q,qs,rfl,h1,h2⟩:=h;simp only [Vm.setS];simp only [Vm.lk] at hv;cases hb:Nat.beq u t with
  |true=>rw [hb] at hv;exact ⟨q,qs,rfl,hv,h2⟩
  |false=>rw [hb] at hv;exact ⟨q,qs,rfl,h1,bW.setS h2 hv⟩
theorem bU {s:List SB} {e:SE} {p:lY} (h:bW s e p): ∀x:cY,R s (bC e x) (x.ev p)
 | .t n=>h.lk n
 | .c v=>KT s v
theorem sK {s:List SB} {e:SE} {p:lY} (h:bW s e p): ∀l:List cY,RL s (fG e l) (A1 p l)
 | []=>rfl
 |x::xs=>RL.cons (bU h x) (sK h xs)
def Fr (bad:List Nat) (s s':List SB):Prop:= ∀(t:Nat) (b:SB),s[t]? =some b->match b with
 | .arr r l=>(∃l',s'[t]? =some (.arr r l')/\l'.length=l.length/\(has bad t=false->l'=l))\/s'[t]? =some .dead
 | .dead=>s'[t]? =some .dead
 |_=>True
theorem Fr.refl (bad:List Nat) (s:List SB):Fr bad s s:=fun t b h=>by
 cases b with
 |arr r l=>exact .inl ⟨l,h,rfl,fun _=>rfl⟩
 |dead=>exact h
 |_=>trivial
theorem Fr.app (bad:List Nat) (s l:List SB):Fr bad s (s++l):=fun t b h=>by
 have h':(s++l)[t]? =some b:=by
  have:=(List.getElem?_eq_some_iff.1 h).1
  rw [List.getElem?_append_left this];exact h
 cases b with
 |arr r l=>exact .inl ⟨l,h',rfl,fun _=>rfl⟩
 |dead=>exact h'
 |_=>trivial
theorem Fr.trans {bad:List Nat} {a b c:List SB} (h:Fr bad a b) (k:Fr bad b c):Fr bad a c:=fun t x hx=>by
 have h1:=h t x hx;cases x with
 |arr r l=>
  rcases h1 with ⟨l',h2,h3,h4⟩|h2
  · have k1:=k t _ h2
    rcases k1 with ⟨l2,k2,k3,k4⟩|k2
    · exact .inl ⟨l2,k2,k3.trans h3,fun hb=>(k4 hb).trans (h4 hb)⟩
    · exact .inr k2
  · exact .inr (k t _ h2)
 |dead=>exact k t _ h1
 |_=>trivial
theorem zI {α:Type} {l m:List α} {i:Int} (h:(aK l i).isSome=true) (hl:m.length=l.length):(aK m i).isSome=true:=by
 cases i with
 |ofNat n=>
  simp only [aK] at h ⊢;rw [Option.isSome_iff_exists] at h;obtain ⟨a,ha⟩:=h
  have:=(List.getElem?_eq_some_iff.1 ha).1
  rw [List.getElem?_eq_getElem (by omega)];rfl
 |negSucc n=>simp [aK] at h
mutual
theorem R.fr {bad:List Nat} {s s':List SB} (hf:Fr bad s s'): ∀{v:SV} {p:PV},R s v p->R s' (SF bad v) p
 | .junk,_,_=>trivial
 | .undef,_,h=>h
 | .nul,_,h=>h
 | .nilf,_,h=>h
 | .int _ _,_,h=>h
 | .bool _,_,h=>h
 | .str _,_,h=>h
 | .agg cs,_,h=>by obtain ⟨ps,rfl,h⟩:=h;exact ⟨ps,rfl,RL.fr hf h⟩
 | .tup cs,_,h=>by obtain ⟨ps,rfl,h⟩:=h;exact ⟨ps,rfl,RL.fr hf h⟩
 | .sl _ _,_,h=>h
 | .nil _ _,_,h=>h
 | .own t ex,_,h=>by
  obtain ⟨e,n,rfl,h⟩:=h;refine ⟨e,n,rfl,?_⟩;rcases h with ⟨r,l,h1,h2,h3⟩|h1
  · rcases hf t _ h1 with ⟨l',k1,k2,_⟩|k1
    · exact .inl ⟨r,l',k1,h2,by rw [h3,k2]⟩
    · exact .inr k1
  · exact .inr (hf t _ h1)
 | .pre t len cap ex,_,h=>by
  obtain ⟨e,rfl,h⟩:=h;refine ⟨e,rfl,?_⟩;rcases h with ⟨r,l,h1,h2⟩|h1
  · rcases hf t _ h1 with ⟨l',k1,_,_⟩|k1
    · exact .inl ⟨r,l',k1,h2⟩
    · exact .inr k1
  · exact .inr (hf t _ h1)
 | .part t off len cap ex,_,h=>by
  obtain ⟨e,rfl,h⟩:=h;refine ⟨e,rfl,?_⟩;rcases h with ⟨r,l,h1,h2⟩|h1
  · rcases hf t _ h1 with ⟨l',k1,_,_⟩|k1
    · exact .inl ⟨r,l',k1,h2⟩
    · exact .inr k1
  · exact .inr (hf t _ h1)
 | .pa t r i a off,_,h=>by
  obtain ⟨rfl,h⟩:=h;simp only [SF];cases hb:has bad t with
  |true=>
   refine ⟨_,rfl,?_⟩;rcases h with ⟨l,h1,h2⟩|h1
   · rcases hf t _ h1 with ⟨l',k1,k2,_⟩|k1
     · exact .inl ⟨r,l',k1,zI (by rw [h2];rfl) k2⟩
     · exact .inr k1
   · exact .inr (hf t _ h1)
  |false=>
   refine ⟨rfl,?_⟩;rcases h with ⟨l,h1,h2⟩|h1
   · rcases hf t _ h1 with ⟨l',k1,_,k3⟩|k1
     · exact .inl ⟨l',k1,by rw [k3 hb];exact h2⟩
     · exact .inr k1
   · exact .inr (hf t _ h1)
 | .pb t i off,_,h=>by
  obtain ⟨e,rfl,h⟩:=h;refine ⟨e,rfl,?_⟩;rcases h with ⟨r,l,h1,h2⟩|h1
  · rcases hf t _ h1 with ⟨l',k1,k2,_⟩|k1
    · exact .inl ⟨r,l',k1,zI h2 k2⟩
    · exact .inr k1
  · exact .inr (hf t _ h1)
 | .bp _ _ _,_,h=>h
 | .rptr cs off,_,h=>by obtain ⟨ps,rfl,h⟩:=h;exact ⟨ps,rfl,RL.fr hf h⟩
 | .clo f a b,_,h=>by obtain ⟨pa,pb,rfl,h1,h2⟩:=h;exact ⟨pa,pb,rfl,RL.fr hf h1,RL.fr hf h2⟩
 | .mp _,_,h=>h
theorem RL.fr {bad:List Nat} {s s':List SB} (hf:Fr bad s s'): ∀{v:List SV} {p:List PV},RL s v p->RL s' (dgL bad v) p
 | [],_,h=>h
 |x::xs,_,h=>by
  obtain ⟨p,q,rfl,h1,h2⟩:=h.cons_inv;exact RL.cons (R.fr hf h1) (RL.fr hf h2)
end
mutual
theorem L5: ∀v:SV,SF [] v=v
 | .junk| .undef| .nul| .nilf| .int _ _| .bool _| .str _| .sl _ _| .nil _ _| .own _ _| .pre _ _ _ _| .part _ _ _ _ _| .pb _ _ _| .bp _ _ _| .mp _=>rfl
 | .agg cs=>by simp only [SF,dgL_nil cs]
 | .tup cs=>by simp only [SF,dgL_nil cs]
 | .rptr cs _=>by simp only [SF,dgL_nil cs]
 | .clo _ a b=>by simp only [SF,dgL_nil a,dgL_nil b]
 | .pa t r i a off=>by simp [SF,has]
theorem dgL_nil: ∀v:List SV,dgL [] v=v
 | []=>rfl
 |x::xs=>by simp only [dgL,L5 x,dgL_nil xs]
end
theorem R.ext {s s':List SB} (hf:Fr [] s s') {v:SV} {p:PV} (h:R s v p):R s' v p:=by
 have:=R.fr hf h
 rwa [L5] at this
theorem RL.ext {s s':List SB} (hf:Fr [] s s') {v:List SV} {p:List PV} (h:RL s v p):RL s' v p:=by
 have:=RL.fr hf h
 rwa [dgL_nil] at this
theorem RB.fr {bad:List Nat} {s s':List SB} (hf:Fr bad s s') {b:SB} {p:fL} (h:RB s b p):RB s' (SW bad b) p:=by
 cases b with
 |box cs=>obtain ⟨ps,rfl,h⟩:=h;exact ⟨ps,rfl,RL.fr hf h⟩
 |_=>exact h
theorem RB.ext {s s':List SB} (hf:Fr [] s s') {b:SB} {p:fL} (h:RB s b p):RB s' b p:=by
 cases b with
 |box cs=>obtain ⟨ps,rfl,h⟩:=h;exact ⟨ps,rfl,RL.ext hf h⟩
 |_=>exact h
theorem bW.fr {bad:List Nat} {s s':List SB} (hf:Fr bad s s'): ∀{e:SE} {p:lY},bW s e p->bW s' (dgE bad e) p
 | [],_,h=>h
 |(t,v)::r,_,h=>by
  obtain ⟨p,q,rfl,h1,h2⟩:=h;exact ⟨p,q,rfl,R.fr hf h1,bW.fr hf h2⟩
theorem bW.ext {s s':List SB} (hf:Fr [] s s'): ∀{e:SE} {p:lY},bW s e p->bW s' e p
 | [],_,h=>h
 |(t,v)::r,_,h=>by
  obtain ⟨p,q,rfl,h1,h2⟩:=h;exact ⟨p,q,rfl,R.ext hf h1,bW.ext hf h2⟩
theorem bI.app {s:List SB} {p:bH} (h:bI s p) {l:List SB} {q:bH} (hl:q.length=l.length) (hb: ∀(j:Nat) (b:SB),l[j]? =some b-> ∃x,q[j]? =some x/\RB (s++l) b x):bI (s++l) (p++q) where
 len:=by simp [h.len,hl]
 at_:=fun t b ht=>by
  rcases Nat.lt_or_ge t s.length with hlt|hge
  · rw [List.getElem?_append_left hlt] at ht
    obtain ⟨x,h1,h2⟩:=h.at_ t b ht;exact ⟨x,by rw [List.getElem?_append_left (by rw [h.len];exact hlt)];exact h1,h2.ext (Fr.app [] s l)⟩
  · rw [List.getElem?_append_right hge] at ht
    obtain ⟨x,h1,h2⟩:=hb _ b ht;exact ⟨x,by rw [List.getElem?_append_right (by rw [h.len];exact hge),h.len];exact h1,h2⟩
theorem oV (ts:List Nat): ∀(s:List SB) (t:Nat),(yC ts s)[t]? =(s[t]?).map (SW ts)
 | [],t=>by simp [yC]
 |b::r,0=>by simp [yC]
 |b::r,t+1=>by simp [yC,oV ts r t]
theorem sL (ts:List Nat): ∀(s:List SB),(yC ts s).length=s.length
 | []=>rfl
 |b::r=>by simp [yC,sL ts r]
theorem Fr.dg {bad ts:List Nat} {s s':List SB} (h:Fr bad s s'):Fr bad s (yC ts s'):=fun t b hb=>by
 have h1:=h t b hb;cases b with
 |arr r l=>
  rcases h1 with ⟨l',h2,h3,h4⟩|h2
  · exact .inl ⟨l',by rw [oV,h2];rfl,h3,h4⟩
  · exact .inr (by rw [oV,h2];rfl)
 |dead=>show (yC ts s')[t]? =_;rw [oV,h1];rfl
 |_=>trivial
theorem EN {s:List SB}: ∀(r:List PT) (a:RT r),RL s (RT.sv r a) (RT.pv r a)
 | [],_=>rfl
 | [p],a=>by refine RL.cons ?_ RL.nil;cases p<;>rfl
 |p::q::r,a=>by refine RL.cons ?_ (EN (q::r) a.2);cases p<;>rfl
theorem sM {s:List SB}: ∀(r:List PT) (a:RT r) {ps:List PV},RL s (RT.sv r a) ps->ps=RT.pv r a
 | [],_,ps,h=>h
 | [p],a,ps,h=>by
  obtain ⟨x,q,rfl,h1,h2⟩:=h.cons_inv;have h2':q=[]:=h2;subst h2';cases p<;>(have h1':=h1;simp only [PT.sv,R] at h1';rw [h1'];rfl)
 |p::q::r,a,ps,h=>by
  obtain ⟨x,qs,rfl,h1,h2⟩:=h.cons_inv;rw [sM (q::r) a.2 h2];cases p<;>(have h1':=h1;simp only [PT.sv,R] at h1';rw [h1'];rfl)
theorem RT.plain: ∀(r:List PT) (a:RT r),(RT.pv r a).all PV.plain=true
 | [],_=>rfl
 | [p],a=>by cases p<;>rfl
 |p::q::r,a=>by
  have:=RT.plain (q::r) a.2
  cases p<;>(simp only [RT.pv,List.all_cons,this,Bool.and_true];rfl)
theorem R.cells {s:List SB} {v:SV} {p:PV} (h:R s v p) (hj:v≠ .junk):RL s v.cells p.cells:=by
 cases v with
 |junk=>exact absurd rfl hj
 |agg cs=>obtain ⟨ps,rfl,h⟩:=h;exact h
 |undef=>rw [show p= .undef from h];exact RL.cons rfl RL.nil
 |nul=>rw [show p= .nul from h];exact RL.cons rfl RL.nil
 |nilf=>rw [show p= .nilf from h];exact RL.cons rfl RL.nil
 |int k n=>rw [show p= .int k n from h];exact RL.cons rfl RL.nil
 |bool b=>rw [show p= .bool b from h];exact RL.cons rfl RL.nil
 |str x=>rw [show p= .str x from h];exact RL.cons rfl RL.nil
 |sl r l=>rw [show p=_ from h];exact RL.cons rfl RL.nil
 |nil e c=>rw [show p=_ from h];exact RL.cons rfl RL.nil
 |bp t n o=>rw [show p=_ from h];exact RL.cons rfl RL.nil
 |mp t=>rw [show p=_ from h];exact RL.cons rfl RL.nil
 |tup cs=>obtain ⟨ps,rfl,h⟩:=h;exact RL.cons ⟨ps,rfl,h⟩ RL.nil
 |own t ex=>obtain ⟨e,n,rfl,h⟩:=h;exact RL.cons ⟨e,n,rfl,h⟩ RL.nil
 |pre t a b c=>obtain ⟨e,rfl,h⟩:=h;exact RL.cons ⟨e,rfl,h⟩ RL.nil
 |part t o a b c=>obtain ⟨e,rfl,h⟩:=h;exact RL.cons ⟨e,rfl,h⟩ RL.nil
 |pa t r i a o=>obtain ⟨rfl,h⟩:=h;exact RL.cons ⟨rfl,h⟩ RL.nil
 |pb t i o=>obtain ⟨e,rfl,h⟩:=h;exact RL.cons ⟨e,rfl,h⟩ RL.nil
 |rptr cs o=>obtain ⟨ps,rfl,h⟩:=h;exact RL.cons ⟨ps,rfl,h⟩ RL.nil
 |clo f a b=>obtain ⟨pa,pb,rfl,h⟩:=h;exact RL.cons ⟨pa,pb,rfl,h⟩ RL.nil
theorem R.isOne {s:List SB} {v:SV} {p:PV} (h:R s v p) (ho:v.isOne=true):p.isOne=true:=by
 cases v with
 |junk|undef|nul|agg _|tup _=>cases ho
 |nilf|int _ _|bool _|str _|sl _ _|nil _ _|bp _ _ _|mp _=>rw [show p=_ from h];rfl
 |own t ex=>obtain ⟨e,n,rfl,h⟩:=h;rfl
 |pre t a b c=>obtain ⟨e,rfl,h⟩:=h;rfl
 |part t o a b c=>obtain ⟨e,rfl,h⟩:=h;rfl
 |pa t r i a o=>obtain ⟨rfl,h⟩:=h;rfl
 |pb t i o=>obtain ⟨e,rfl,h⟩:=h;rfl
 |rptr cs o=>obtain ⟨ps,rfl,h⟩:=h;rfl
 |clo f a b=>obtain ⟨pa,pb,rfl,h⟩:=h;rfl
theorem RL.allOne {s:List SB}: ∀{cs:List SV} {ps:List PV},RL s cs ps->Vm.allOne cs=true->ps.all PV.isOne=true
 | [],ps,h,_=>by rw [show ps=[] from h];rfl
 |x::xs,ps,h,ho=>by
  obtain ⟨p,q,rfl,h1,h2⟩:=h.cons_inv;simp only [Vm.allOne,Bool.and_eq_true] at ho;simp only [List.all_cons,Bool.and_eq_true];exact ⟨h1.isOne ho.1,h2.allOne ho.2⟩
theorem R.stored {s:List SB} {v:SV} {p:PV} {w:List SV} (h:R s v p) (hs:v.stored=some w): ∃q,p.stored=some q/\RL s w q:=by
 unfold SV.stored at hs;cases ha:Vm.allOne v.cells with
 |false=>rw [ha] at hs;cases hs
 |true=>
  rw [ha] at hs;injection hs with hs;subst hs;have hj:v≠ .junk:=by intro e;subst e;cases ha
  have hc:=h.cells hj;exact ⟨p.cells,by unfold PV.stored;rw [if_pos (hc.allOne ha)],hc⟩
theorem R.ofRow {s:List SB} {v:SV} {p:PV} {r:List PT} {a:RT r} (h:R s v p) (hr:RT.of r v.cells=some a):p.storedPlain=some (RT.pv r a)/\v.cells.length=r.length:=by
 have hc:=RT.of_some hr;have hl:v.cells.length=r.length:=by rw [hc,RT.sv_len]
 refine ⟨?_,hl⟩;have hj:v≠ .junk:=by
  intro e;subst e;cases r with
  |nil=>simp [SV.cells,RT.of] at hr
  |cons p q=>cases q with
   |nil=>cases p<;>simp [SV.cells,RT.of,PT.of] at hr
   |cons _ _=>simp only [SV.cells,RT.of] at hr;split at hr<;>cases hr<;>(rename_i x y h1 h2;simp at h2)
 have h1:=h.cells hj;rw [hc] at h1;have h2:=sM r a h1;unfold PV.storedPlain;rw [h2,if_pos (RT.plain r a)]
theorem mN {s:List SB} {agg:Option Nat} {off:Nat} {cs:List SV} {ps:List PV} {v:SV} (h:RL s cs ps) (hp:tD agg off cs=some v): ∃p,part agg off ps=some p/\R s v p:=by
 cases agg with
 |none=>
  obtain ⟨p,h1,h2⟩:=h.nth hp;exact ⟨p,h1,h2⟩
 |some n=>
  simp only [tD] at hp;cases hb:Nat.ble (off+n) cs.length with
  |false=>rw [hb] at hp;cases hp
  |true=>
   rw [hb] at hp;injection hp with hp;subst hp
   have:off+n<=ps.length:=by rw [h.length];exact Nat.le_of_ble_eq_true hb
   exact ⟨.agg ((ps.drop off).take n),by simp only [part,if_pos this],_,rfl,(h.drop off).take n⟩
theorem sN {s:List SB} {off:Nat} {new old:List SV} {pn po:List PV} (h:RL s new pn) (k:RL s old po):RL s (jR off new old) (jG off pn po):=by
 unfold jR jG;rw [h.length];exact ((k.take off).append h).append (k.drop _)
theorem L6 {s:List SB} {ps:bH} {v:SV} {p:PV} {r:List PT} {l:List (RT r)} (hs:bI s ps) (h:R s v p) (hc:tF s v=some ⟨r,l⟩):
 iQ ps r.length p=some (l.map (RT.pv r))/\eP p=oT v:=by
 cases v with
 |sl q m=>
  have hc':(⟨q,m⟩:Rows)=⟨r,l⟩:=by injection hc
  cases hc';rw [show p=_ from h];refine ⟨?_,rfl⟩;cases l with
  |nil=>rfl
  |cons a l=>simp [iQ]
 |own t ex=>
  simp only [tF,bE] at hc;split at hc
  · rename_i q m hst
    have hc':(⟨q,m⟩:Rows)=⟨r,l⟩:=by injection hc
    cases hc';obtain ⟨e,n,rfl,hat⟩:=h;rcases hat with ⟨q',m',h1,rfl,rfl⟩|h1
    · rw [hst] at h1
      injection h1 with h1;cases h1;obtain ⟨b,h2,h3⟩:=hs.at_ t _ hst;rw [show b=_ from h3] at h2;refine ⟨?_,rfl⟩;simp only [iQ,Nat.beq_refl,if_true,h2,List.drop_zero];rw [List.take_of_length_le (by simp)]
    · rw [hst] at h1;cases h1
  · cases hc
 |pre t len cap ex=>
  simp only [tF,bE] at hc;split at hc
  · rename_i q m hst
    have hc':(⟨q,m.take len⟩:Rows)=⟨r,l⟩:=by injection hc
    cases hc';obtain ⟨e,rfl,hat⟩:=h;rcases hat with ⟨q',m',h1,rfl⟩|h1
    · rw [hst] at h1
      injection h1 with h1;cases h1;obtain ⟨b,h2,h3⟩:=hs.at_ t _ hst;rw [show b=_ from h3] at h2;refine ⟨?_,rfl⟩;simp only [iQ,Nat.beq_refl,if_true,h2];simp
    · rw [hst] at h1;cases h1
  · cases hc
 |part t off len cap ex=>
  simp only [tF,bE] at hc;split at hc
  · rename_i q m hst
    have hc':(⟨q,(m.drop off).take len⟩:Rows)=⟨r,l⟩:=by injection hc
    cases hc';obtain ⟨e,rfl,hat⟩:=h;rcases hat with ⟨q',m',h1,rfl⟩|h1
    · rw [hst] at h1
      injection h1 with h1;cases h1;obtain ⟨b,h2,h3⟩:=hs.at_ t _ hst;rw [show b=_ from h3] at h2;refine ⟨?_,rfl⟩;simp only [iQ,Nat.beq_refl,if_true,h2];simp
    · rw [hst] at h1;cases h1
  · cases hc
 |_=>cases hc
end Go.Vm
/- Operation by operation: what the typed machine does, the logical machine does; the easy ones. -/
namespace Go.Vm
structure eB (s:List SB) (ps:bH) (sr:dG) (pr:jB):Prop where
 rd:pr.rd=sr.rd
 fr:pr.fr=sr.fr
 wr:pr.wr.map (·.1)=qZ sr.wr
 nw:oJ pr.wr=true
 nl:pr.news.length=sr.news.length
 sto:bI (sr.stoOf s) (J1 (dK pr.wr ps) pr.news)
 v:R (sr.stoOf s) sr.v pr.v
 fra:Fr (qZ sr.wr) s (sr.stoOf s)
section
variable {s : List SB} {ps : bH}
theorem eB.val (hS:bI s ps) {v:SV} {p:PV} {rd fr:List Nat} (hv:R s v p):eB s ps {v,rd,fr} {v:=p,rd,fr} where
 rd:=rfl
 fr:=rfl
 wr:=rfl
 nw:=rfl
 nl:=rfl
 sto:=by simp only [dG.stoOf,gV,List.append_nil,dK,J1];exact hS
 v:=by simp only [dG.stoOf,gV,List.append_nil];exact hv
 fra:=by simp only [dG.stoOf,gV,List.append_nil];exact Fr.refl _ _
theorem eB.news (hS:bI s ps) {v:SV} {p:PV} {l:List SB} {q:bH} {rd:List Nat} (hl:q.length=l.length) (hb: ∀(j:Nat) (b:SB),l[j]? =some b-> ∃x,q[j]? =some x/\RB (s++l) b x) (hv:R (s++l) v p):
 eB s ps {v,news:=l,rd} {v:=p,news:=q,rd} where
 rd:=rfl
 fr:=rfl
 wr:=rfl
 nw:=rfl
 nl:=hl
 sto:=by simp only [dG.stoOf,gV,dK,kW];exact hS.app hl hb
 v:=by simp only [dG.stoOf,gV];exact hv
 fra:=by simp only [dG.stoOf,gV];exact Fr.app _ _ _
theorem eB.new (hS:bI s ps) {v:SV} {p:PV} {b:SB} {q:fL} {rd:List Nat} (hb:RB (s++[b]) b q) (hv:R (s++[b]) v p):eB s ps {v,news:=[b],rd} {v:=p,news:=[q],rd}:=
 eB.news hS rfl (fun j x h=>by
  cases j with
  |zero=>simp at h;subst h;exact ⟨q,rfl,hb⟩
  |succ j=>simp at h) hv
def L7 (b0 b:SB):Prop:=
 match b0 with
 | .arr r l=>(∃l',b= .arr r l'/\l'.length=l.length)\/b= .dead
 | .dead=>b= .dead
 |_=>True
theorem Fr.set {t:Nat} {b0 b:SB} (h0:s[t]? =some b0) (hk:L7 b0 b):Fr [t] s (s.set t b):=fun u x hu=>by
 by_cases hut:t=u
 · subst hut
   rw [h0] at hu;injection hu with hu;subst hu;have hlt:=(List.getElem?_eq_some_iff.1 h0).1;have hb:(s.set t b)[t]? =some b:=by simp [hlt]
   cases b0 with
   |arr r l=>
    rcases hk with ⟨l',rfl,hl⟩|rfl
    · exact .inl ⟨l',hb,hl,fun h=>by simp [has] at h⟩
    · exact .inr hb
   |dead=>rw [show b= .dead from hk] at hb ⊢;exact hb
   |_=>trivial
 · have hb:(s.set t b)[u]? =some x:=by rw [List.getElem?_set];simp [hut,hu]
   cases x with
   |arr r l=>exact .inl ⟨l,hb,rfl,fun _=>rfl⟩
   |dead=>exact hb
   |_=>trivial
theorem bI.put (hS:bI s ps) {t:Nat} {b0 b:SB} {q:fL} (h0:s[t]? =some b0) (hk:L7 b0 b) (hq:RB (yC [t] (s.set t b)) (SW [t] b) q):bI (yC [t] (s.set t b)) (ps.set t q) where
 len:=by simp [sL,hS.len]
 at_:=fun u x hu=>by
  have hlt:=(List.getElem?_eq_some_iff.1 h0).1;rw [oV] at hu
  by_cases hut:t=u
  · subst hut
    have hb:(s.set t b)[t]? =some b:=by simp [hlt]
    rw [hb] at hu;simp at hu;subst hu;exact ⟨q,by rw [List.getElem?_set];simp [hS.len,hlt],hq⟩
  · rw [List.getElem?_set] at hu
    simp only [hut,if_false,Option.map_eq_some_iff] at hu;obtain ⟨y,hy,rfl⟩:=hu;obtain ⟨q',h1,h2⟩:=hS.at_ u y hy;exact ⟨q',by rw [List.getElem?_set];simp [hut,h1],h2.fr (Fr.dg (Fr.set h0 hk))⟩
theorem eB.put (hS:bI s ps) {v:SV} {p:PV} {t:Nat} {b0 b:SB} {q:fL} {l:List SB} {ql:bH} {rd:List Nat} (h0:s[t]? =some b0) (hk:L7 b0 b) (hq:RB (yC [t] (s.set t b)) (SW [t] b) q)
 (hl:ql.length=l.length) (hb: ∀(j:Nat) (x:SB),l[j]? =some x-> ∃y,ql[j]? =some y/\RB (yC [t] (s.set t b)++l) x y) (hv:R (yC [t] (s.set t b)++l) v p):
 eB s ps {v,wr:=[(t,b)],news:=l,rd} {v:=p,wr:=[(t,q)],news:=ql,rd} where
 rd:=rfl
 fr:=rfl
 wr:=rfl
 nw:=rfl
 nl:=hl
 sto:=by
  simp only [dG.stoOf,gV,dK,kW,qZ,kN,wG];exact (hS.put h0 hk hq).app hl hb
 v:=by simp only [dG.stoOf,gV,qZ,kN,wG];exact hv
 fra:=by
  simp only [dG.stoOf,gV,qZ,kN,wG];exact (Fr.dg (Fr.set h0 hk)).trans (Fr.app _ _ _)
theorem eB.put0 (hS:bI s ps) {t:Nat} {b0 b:SB} {q:fL} {rd:List Nat} (h0:s[t]? =some b0) (hk:L7 b0 b) (hq:RB (yC [t] (s.set t b)) (SW [t] b) q):
 eB s ps {v:= .undef,wr:=[(t,b)],rd} {v:= .undef,wr:=[(t,q)],rd}:=
 eB.put hS h0 hk hq rfl (fun j x h=>by simp at h) rfl
end
section
variable {R' ρ : Type} {w : R' -> ρ} {y : ρ}
theorem aW {α:Type} {x:Option α} {k:α->dT R'} (h:gL x k ρ w=some y): ∃a,x=some a/\k a ρ w=some y:=by
 cases x with
 |none=>cases h
 |some a=>exact ⟨a,rfl,h⟩
theorem bK {α:Type} {x:Option α} {k:α->dT R'} (h:gK x k ρ w=some y): ∃a,x=some a/\k a ρ w=some y:=KG h
theorem cM {c:Bool} {a b:dT R'} (h:dO c a b ρ w=some y):(c=true/\a ρ w=some y)\/(c=false/\b ρ w=some y):=KH h
theorem bJ {c:Bool} {a:dT R'} (h:(bif c then a else aI) ρ w=some y):c=true/\a ρ w=some y:=by
 cases c
 · cases h
 · exact ⟨rfl,h⟩
theorem lC {c:Bool} {a:dT R'} (h:(bif c then aI else a) ρ w=some y):c=false/\a ρ w=some y:=by
 cases c
 · exact ⟨rfl,h⟩
 · cases h
theorem eG {c:Bool} {a:dT R'} (h:dO c a aI ρ w=some y):c=true/\a ρ w=some y:=by
 rcases cM h with ⟨h1,h2⟩|⟨_,h2⟩
 · exact ⟨h1,h2⟩
 · cases h2
theorem oW {c:Bool} {a:dT R'} (h:dO c aI a ρ w=some y):c=false/\a ρ w=some y:=by
 rcases cM h with ⟨_,h2⟩|⟨h1,h2⟩
 · cases h2
 · exact ⟨h1,h2⟩
end
def dU {R':Type} (s:List SB) (ps:bH) (po:Option jB) (k:dG->dT R') (ρ:Type) (w:R'->ρ) (y:ρ):Prop:=
 ∃sr pr,po=some pr/\eB s ps sr pr/\k sr ρ w=some y
section
variable {R' ρ : Type} {w : R' -> ρ} {y : ρ} {s : List SB} {ps : bH} {e : SE} {pe : lY} {z : List Nat} {k : dG -> dT R'}
theorem dU.val (hS:bI s ps) {po:Option jB} {v:SV} {p:PV} (h:k {v} ρ w=some y) (hp:po=some {v:=p}) (hv:R s v p):dU s ps po k ρ w y:=
 ⟨_,_,hp,eB.val hS hv,h⟩
theorem dU.rd (hS:bI s ps) {po:Option jB} {v:SV} {p:PV} {rd:List Nat} (h:k {v,rd} ρ w=some y) (hp:po=some {v:=p,rd}) (hv:R s v p):dU s ps po k ρ w y:=
 ⟨_,_,hp,eB.val hS hv,h⟩
theorem hZ (hE:bW s e pe) {x:cY} {a:IntKind} {n:Int} (h:bC e x= .int a n):x.ev pe= .int a n:=by
 have:=bU hE x;rw [h] at this;exact this
theorem wH (hE:bW s e pe) {x:cY} {b:Bool} (h:bC e x= .bool b):x.ev pe= .bool b:=by
 have:=bU hE x;rw [h] at this;exact this
theorem N9 (hE:bW s e pe) {x:cY} {v:SV} (h:bC e x=v):R s v (x.ev pe):=by
 have:=bU hE x;rwa [h] at this
theorem IE (k:IntKind):cP k k=true:=by cases k<;>rfl
theorem KU (hS:bI s ps) {op:BinOp} {a:IntKind} {m n:Int} (h:KJ op a m n (ofV k) ρ w=some y): ∃p,G2 op a m n=some p/\dU s ps (some {v:=p}) k ρ w y:=by
 cases op with
 |quo=>
  obtain ⟨h1,h2⟩:=oW h;have hn:n≠0:=by intro e;subst e;cases h1
  exact ⟨_,by simp only [G2,if_neg hn],dU.val hS h2 rfl rfl⟩
 |rem=>
  obtain ⟨h1,h2⟩:=oW h;have hn:n≠0:=by intro e;subst e;cases h1
  exact ⟨_,by simp only [G2,if_neg hn],dU.val hS h2 rfl rfl⟩
 |shl=>cases h
 |shr=>cases h
 |_=>exact ⟨_,rfl,dU.val hS h rfl rfl⟩
theorem S0 (hE:bW s e pe) (hS:bI s ps) {op:BinOp} {a b:cY} (h:hG e s z (.bin op a b) k ρ w=some y):dU s ps (aV pe ps z (.bin op a b)) k ρ w y:=by
 simp only [hG] at h;generalize ha:bC e a=va at h;cases va with
 |int ka m=>
  generalize hb:bC e b=vb at h;cases vb with
  |int kb n=>
   have h1:=hZ hE ha;have h2:=hZ hE hb;have key:(op≠ .shl)->(op≠ .shr)->(bif cP ka kb then KJ op ka m n (ofV k) else aI) ρ w=some y->dU s ps (aV pe ps z (.bin op a b)) k ρ w y:=by
    intro n1 n2 h;obtain ⟨hk,h⟩:=bJ h;obtain ⟨p,hp,hs⟩:=KU hS h
    have:aV pe ps z (.bin op a b)=some {v:=p}:=by
     simp only [aV,h1,h2];cases op<;>first|exact absurd rfl n1|exact absurd rfl n2|(simp only [NM,hk,if_true,hp];rfl)
    rw [this];exact hs
   cases op with
   |shl=>
    obtain ⟨hc,h⟩:=oW h;have hc': ¬n<0:=by simpa using hc
    exact dU.val hS h (by simp only [aV,h1,h2,NM,xI,if_neg hc'];rfl) rfl
   |shr=>
    obtain ⟨hc,h⟩:=oW h;have hc': ¬n<0:=by simpa using hc
    exact dU.val hS h (by simp only [aV,h1,h2,NM,xI,if_neg hc'];rfl) rfl
   |_=>exact key (by intro e;cases e) (by intro e;cases e) h
  |_=>cases h
 |_=>cases h
theorem QC (hE:bW s e pe) (hS:bI s ps) {neg:Bool} {a b:cY} (h:hG e s z (.binb neg a b) k ρ w=some y):dU s ps (aV pe ps z (.binb neg a b)) k ρ w y:=by
 simp only [hG] at h;generalize ha:bC e a=va at h;cases va with
 |bool x=>
  generalize hb:bC e b=vb at h;cases vb with
  |bool x'=>
   refine dU.val hS h ?_ rfl;simp only [aV,wH hE ha,wH hE hb];cases neg<;>rfl
  |_=>cases h
 |_=>cases h
theorem QD: ∀{xs ys:List SV} {ps qs:List PV} {r:Bool},RL s xs ps->RL s ys qs->eqS xs ys=some r->bP ps qs=some r
 | [],[],ps,qs,r,h1,h2,h=>by rw [show ps=[] from h1,show qs=[] from h2];exact h
 |x::xs,b::ys,ps,qs,r,h1,h2,h=>by
  obtain ⟨p,ps,rfl,a1,a2⟩:=h1.cons_inv;obtain ⟨q,qs,rfl,b1,b2⟩:=h2.cons_inv;simp only [eqS] at h;split at h
  · rename_i ka m kb n
    have a1':p= .int ka m:=a1;have b1':q= .int kb n:=b1;subst a1' b1';cases hk:cP ka kb with
    |false=>rw [hk] at h;cases h
    |true=>
     rw [hk] at h;have hc:kI (.int ka m) (.int kb n)=some (m==n):=by simp only [kI,hk,if_true]
     simp only [bP,hc];cases xs with
     |nil=>
      cases ys with
      |nil=>
       simp only [cond_true,Option.some.injEq] at h;subst h;rw [show ps=[] from a2,show qs=[] from b2];cases m==n<;>rfl
      |cons _ _=>cases h
     |cons x2 xs2=>
      simp only [cond_true] at h;split at h
      · rename_i r' hr
        injection h with h;subst h;rw [QD a2 b2 hr];cases m==n<;>rfl
      · cases h
  · cases h
 | [],_::_,ps,qs,r,h1,h2,h=>by cases h
 |_::_,[],ps,qs,r,h1,h2,h=>by cases h
theorem S1 (hE:bW s e pe) (hS:bI s ps) {n:Nat} {neg:Bool} {a b:cY} (h:hG e s z (.eqc n neg a b) k ρ w=some y):dU s ps (aV pe ps z (.eqc n neg a b)) k ρ w y:=by
 simp only [hG] at h;generalize ha:bC e a=va at h;cases va with
 |agg xs=>
  generalize hb:bC e b=vb at h;cases vb with
  |agg ys=>
   obtain ⟨hl,h⟩:=bJ h;obtain ⟨r,hr,h⟩:=aW h;obtain ⟨p,hp,h1⟩:=N9 hE ha;obtain ⟨q,hq,h2⟩:=N9 hE hb;refine dU.val hS h ?_ rfl;simp only [aV,hp,hq,h1.length,h2.length];rw [if_pos hl,QD h1 h2 hr];cases neg<;>rfl
  |_=>cases h
 |_=>cases h
theorem aCD (hE:bW s e pe) (hS:bI s ps) {op:UnOp} {a:cY} (h:hG e s z (.un op a) k ρ w=some y):dU s ps (aV pe ps z (.un op a)) k ρ w y:=by
 simp only [hG] at h;cases op with
 |neg=>
  dsimp only at h;generalize ha:bC e a=va at h;cases va with
  |int ka n=>exact dU.val hS h (by simp only [aV,hZ hE ha];rfl) rfl
  |_=>cases h
 |not=>
  dsimp only at h;generalize ha:bC e a=va at h;cases va with
  |bool b=>exact dU.val hS h (by simp only [aV,wH hE ha];rfl) rfl
  |_=>cases h
 |_=>cases h
theorem QE (hE:bW s e pe) (hS:bI s ps) {a:IntKind} {x:cY} (h:hG e s z (.conv a x) k ρ w=some y):dU s ps (aV pe ps z (.conv a x)) k ρ w y:=by
 simp only [hG] at h;generalize ha:bC e x=va at h;cases va with
 |int ka n=>exact dU.val hS h (by simp only [aV,hZ hE ha]) rfl
 |_=>cases h
theorem S2 (hE:bW s e pe) (hS:bI s ps) {x:cY} (h:hG e s z (.len x) k ρ w=some y):dU s ps (aV pe ps z (.len x)) k ρ w y:=by
 simp only [hG] at h;have hx:=bU hE x;generalize bC e x=v at h hx;cases v with
 |nil e' c=>exact dU.val hS h (by simp only [aV,show x.ev pe= .sl e' c [] from hx];rfl) rfl
 |pre t len cap ex=>
  obtain ⟨e',hx,_⟩:=hx;exact dU.val hS h (by simp only [aV,hx]) rfl
 |part t off len cap ex=>
  obtain ⟨e',hx,_⟩:=hx;exact dU.val hS h (by simp only [aV,hx]) rfl
 |sl q m=>
  exact dU.val hS h (by simp only [aV,show x.ev pe=_ from hx,List.length_map]) rfl
 |own t ex=>
  obtain ⟨c,hc,h⟩:=aW h;simp only [tF,bE] at hc;split at hc
  · rename_i q m hst
    injection hc with hc;subst hc;obtain ⟨e',n,hx,hat⟩:=hx;rcases hat with ⟨q',m',h1,rfl,rfl⟩|h1
    · rw [hst] at h1;injection h1 with h1;cases h1
      exact dU.val hS h (by simp only [aV,hx]) rfl
    · rw [hst] at h1;cases h1
  · cases hc
 |_=>obtain ⟨c,hc,h⟩:=aW h;cases hc
theorem wI: ∀{l:List (Nat×Nat×SV)} {pl:List (Nat×Nat×PV)} {cs:List SV} {pc:List PV} {r:List SV},
 (pl.length=l.length/\ ∀(j:Nat) (a:Nat×Nat×SV),l[j]? =some a-> ∃b,pl[j]? =some (a.1,a.2.1,b)/\R s a.2.2 b)->RL s cs pc->oU l cs=some r-> ∃q,iF pl pc=some q/\RL s r q
 | [],pl,cs,pc,r,hl,hc,h=>by
  have:pl=[]:=List.length_eq_zero_iff.1 hl.1
  subst this;injection h with h;subst h;exact ⟨pc,rfl,hc⟩
 |(off,sz,v)::l,pl,cs,pc,r,hl,hc,h=>by
  cases pl with
  |nil=>simp at hl
  |cons p pl=>
   obtain ⟨b,h1,h2⟩:=hl.2 0 _ rfl;simp at h1;subst h1;simp only [oU] at h;split at h
   · rename_i w hw
     obtain ⟨q,hq,hqr⟩:=h2.stored hw;cases hcnd:(Nat.beq w.length sz&&Nat.ble (off+sz) cs.length) with
     |false=>rw [hcnd] at h;cases h
     |true=>
      rw [hcnd] at h;simp only [cond_true] at h;obtain ⟨q2,h3,h4⟩:=wI (pl:=pl) ⟨by simpa using hl.1,fun j a ha=>hl.2 (j+1) a (by simpa using ha)⟩ (sN hqr hc) h
      refine ⟨q2,?_,h4⟩;simp only [iF,hq,hqr.length,hc.length];rw [if_pos hcnd];exact h3
   · cases h
theorem IF (hE:bW s e pe): ∀(l:List (Nat×Nat×cY)),((l.map fun p=>(p.1,p.2.1,p.2.2.ev pe)).length=(qX e l).length/\ ∀(j:Nat) (a:Nat×Nat×SV),(qX e l)[j]? =some a-> ∃b,(l.map fun p=>(p.1,p.2.1,p.2.2.ev pe))[j]? =some (a.1,a.2.1,b)/\R s a.2.2 b)
 | []=>⟨rfl,fun j a h=>by simp [qX] at h⟩
 |p::l=>by
  obtain ⟨h1,h2⟩:=IF hE l;refine ⟨by simp [qX] at h1 ⊢;omega,fun j a h=>?_⟩
  cases j with
  |zero=>simp [qX] at h;subst h;exact ⟨_,rfl,bU hE _⟩
  |succ j=>simp only [qX,List.getElem?_cons_succ] at h;obtain ⟨b,h3,h4⟩:=h2 j a h;exact ⟨b,by simpa using h3,h4⟩
theorem OA (hE:bW s e pe) (hS:bI s ps) {zero:List PV} {parts:List (Nat×Nat×cY)} (h:hG e s z (.build zero parts) k ρ w=some y):dU s ps (aV pe ps z (.build zero parts)) k ρ w y:=by
 simp only [hG] at h;obtain ⟨cs,hc,h⟩:=aW h;obtain ⟨q,hq,hr⟩:=wI (IF hE parts) (ofPVL_R s zero) hc;exact dU.val hS h (by simp only [aV,hq];rfl) ⟨q,rfl,hr⟩
theorem S3 (hE:bW s e pe) (hS:bI s ps) {x:cY} (h:hG e s z (.box x) k ρ w=some y):dU s ps (aV pe ps z (.box x)) k ρ w y:=by
 simp only [hG] at h;obtain ⟨cs,hc,h⟩:=aW h;obtain ⟨q,hq,hr⟩:=(bU hE x).stored hc;refine ⟨_,_,?_,eB.new hS (b:= .box cs) (q:= .box q) (v:= .bp s.length cs.length 0) (p:= .ptr s.length cs.length 0 0) (rd:=[]) ⟨q,rfl,hr.ext (Fr.app _ _ _)⟩ rfl,h⟩;simp only [aV,hq,hS.len,hr.length]
theorem OB (hS:bI s ps) {cells:List PV} (h:hG e s z (.alloc cells) k ρ w=some y):dU s ps (aV pe ps z (.alloc cells)) k ρ w y:=by
 simp only [hG] at h;refine ⟨_,_,?_,eB.new hS (b:= .box (ofPVL cells)) (q:= .box cells) (v:= .bp s.length cells.length 0) (p:= .ptr s.length cells.length 0 0) (rd:=[]) ⟨cells,rfl,ofPVL_R _ _⟩ rfl,h⟩;simp only [aV,hS.len]
theorem QF (hE:bW s e pe) (hS:bI s ps) {x:cY} (h:hG e s z (.nilc x) k ρ w=some y):dU s ps (aV pe ps z (.nilc x)) k ρ w y:=by
 simp only [hG] at h;have hx:=bU hE x;generalize bC e x=v at h hx;cases v with
 |pa t r i a o=>exact dU.val hS h (by simp only [aV,hx.1]) ⟨rfl,hx.2⟩
 |pb t i o=>
  obtain ⟨e',h1,h2⟩:=hx;exact dU.val hS h (by simp only [aV,h1]) ⟨e',rfl,h2⟩
 |bp t n o=>exact dU.val hS h (by simp only [aV,show x.ev pe=_ from hx]) rfl
 |rptr c o=>
  obtain ⟨q,h1,h2⟩:=hx;exact dU.val hS h (by simp only [aV,h1]) ⟨q,rfl,h2⟩
 |clo f a b=>
  obtain ⟨pa,pb,h1,h2⟩:=hx;exact dU.val hS h (by simp only [aV,h1]) ⟨pa,pb,rfl,h2⟩
 |_=>cases h
theorem QG (hE:bW s e pe) (hS:bI s ps) {off:Nat} {x:cY} (h:hG e s z (.fadr off x) k ρ w=some y):dU s ps (aV pe ps z (.fadr off x)) k ρ w y:=by
 simp only [hG] at h;have hx:=bU hE x;generalize bC e x=v at h hx;cases v with
 |pa t r i a o=>exact dU.val hS h (by simp only [aV,hx.1]) ⟨rfl,hx.2⟩
 |pb t i o=>
  obtain ⟨e',h1,h2⟩:=hx;exact dU.val hS h (by simp only [aV,h1]) ⟨e',rfl,h2⟩
 |bp t n o=>exact dU.val hS h (by simp only [aV,show x.ev pe=_ from hx]) rfl
 |rptr c o=>
  obtain ⟨q,h1,h2⟩:=hx;exact dU.val hS h (by simp only [aV,h1]) ⟨q,rfl,h2⟩
 |_=>cases h
theorem S4 (hE:bW s e pe) (hS:bI s ps) {agg:Option Nat} {off:Nat} {x:cY} (h:hG e s z (.fld agg off x) k ρ w=some y):dU s ps (aV pe ps z (.fld agg off x)) k ρ w y:=by
 simp only [hG] at h;generalize hv:bC e x=v at h;cases v with
 |agg cs=>
  obtain ⟨v,h1,h⟩:=aW h;obtain ⟨q,h2,h3⟩:=N9 hE hv;obtain ⟨p,h4,h5⟩:=mN h3 h1;exact dU.val hS h (by simp only [aV,h2,h4];rfl) h5
 |_=>cases h
theorem S5 (hE:bW s e pe) (hS:bI s ps) {i:Nat} {x:cY} (h:hG e s z (.ext i x) k ρ w=some y):dU s ps (aV pe ps z (.ext i x)) k ρ w y:=by
 simp only [hG] at h;generalize hv:bC e x=v at h;cases v with
 |tup cs=>
  obtain ⟨v,h1,h⟩:=aW h;obtain ⟨q,h2,h3⟩:=N9 hE hv;obtain ⟨p,h4,h5⟩:=h3.nth h1;exact dU.val hS h (by simp only [aV,h2,h4];rfl) h5
 |_=>cases h
theorem S6 (hE:bW s e pe) (hS:bI s ps) {f:FuncId} {a b:List cY} (h:hG e s z (.mkf f a b) k ρ w=some y):dU s ps (aV pe ps z (.mkf f a b)) k ρ w y:=by
 simp only [hG] at h;exact dU.val hS h rfl ⟨_,_,rfl,sK hE a,sK hE b⟩
theorem S7 (hS:bI s ps) {m:Option PV} (h:hG e s z (.mkm m) k ρ w=some y):dU s ps (aV pe ps z (.mkm m)) k ρ w y:=by
 simp only [hG] at h;cases m with
 |none=>
  refine ⟨_,_,?_,eB.new hS (b:= .set []) (q:= .map []) (v:= .mp s.length) (p:= .mp s.length) (rd:=[]) rfl rfl,h⟩;simp only [aV,hS.len]
 |some m=>
  obtain ⟨p,_,h⟩:=aW h;refine ⟨_,_,?_,eB.new hS (b:= .tab p []) (q:= .map []) (v:= .mp s.length) (p:= .mp s.length) (rd:=[]) rfl rfl,h⟩;simp only [aV,hS.len]
theorem aCj: ∀{l:List SV} {q:List PV} {m:Bool} {a:IntKind} {n:Int} {v:SV},RL s l q->mmS m a n l=some v-> ∃p,mmE m a n q=some p/\R s v p
 | [],q,m,a,n,v,hl,h=>by
  rw [show q=[] from hl];injection h with h;subst h;exact ⟨_,rfl,rfl⟩
 |x::l,q,m,a,n,v,hl,h=>by
  obtain ⟨p,q,rfl,h1,h2⟩:=hl.cons_inv;simp only [mmS] at h;split at h
  · rename_i b c
    have h1':p= .int b c:=h1;subst h1';cases hk:cP a b with
    |true=>
     rw [hk] at h;obtain ⟨p,h3,h4⟩:=aCj h2 h;refine ⟨p,?_,h4⟩;simp only [mmE,hk,if_true];rw [<- h3];cases m<;>rfl
    |false=>rw [hk] at h;cases h
  · cases h
theorem aCE (hE:bW s e pe) (hS:bI s ps) {m:Bool} {x:cY} {xs:List cY} (h:hG e s z (.mm m x xs) k ρ w=some y):dU s ps (aV pe ps z (.mm m x xs)) k ρ w y:=by
 simp only [hG] at h;generalize hv:bC e x=v at h;cases v with
 |int a n=>
  obtain ⟨v,h1,h⟩:=aW h;obtain ⟨p,h2,h3⟩:=aCj (sK hE xs) h1;exact dU.val hS h (by simp only [aV,hZ hE hv,h2];rfl) h3
 |_=>cases h
theorem QH (hE:bW s e pe) (hS:bI s ps) {c a b:cY} (h:hG e s z (.pick c a b) k ρ w=some y):dU s ps (aV pe ps z (.pick c a b)) k ρ w y:=by
 simp only [hG] at h;generalize hv:bC e c=v at h;cases v with
 |bool x=>
  rcases cM h with ⟨rfl,h⟩|⟨rfl,h⟩
  · exact dU.val hS h (by simp only [aV,wH hE hv]) (bU hE a)
  · exact dU.val hS h (by simp only [aV,wH hE hv]) (bU hE b)
 |_=>cases h
end
end Go.Vm
/- Operation by operation, second part: elements, blocks, slices, sets. -/
namespace Go.Vm
section
variable {R' ρ : Type} {w : R' -> ρ} {y : ρ} {s : List SB} {ps : bH} {e : SE} {pe : lY} {z : List Nat} {k : dG -> dT R'}
theorem bI.arr (hS:bI s ps) {t:Nat} {r:List PT} {l:List (RT r)} (h:s[t]? =some (.arr r l)):ps[t]? =some (.arr r.length (l.map (RT.pv r))):=by
 obtain ⟨q,h1,h2⟩:=hS.at_ t _ h;rw [show q=_ from h2] at h1;exact h1
theorem bI.box (hS:bI s ps) {t:Nat} {cs:List SV} (h:s[t]? =some (.box cs)): ∃q,ps[t]? =some (.box q)/\RL s cs q:=by
 obtain ⟨q,h1,q',rfl,h2⟩:=hS.at_ t _ h;exact ⟨q',h1,h2⟩
theorem bI.set_ (hS:bI s ps) {t:Nat} {l:List (List Int)} (h:s[t]? =some (.set l)):ps[t]? =some (.map (l.map wF)):=by
 obtain ⟨q,h1,h2⟩:=hS.at_ t _ h;rw [show q=_ from h2] at h1;exact h1
theorem bI.tab_ (hS:bI s ps) {t:Nat} {p:PT} {l:List (RT [.i .i64,p])} (h:s[t]? =some (.tab p l)):ps[t]? =some (.map (l.map (AH p))):=by
 obtain ⟨q,h1,h2⟩:=hS.at_ t _ h;rw [show q=_ from h2] at h1;exact h1
theorem QA.inv {t e n:Nat} {r:List PT} {l:List (RT r)} (h:QA s t e n) (hs:s[t]? =some (.arr r l)):e=r.length/\n=l.length:=by
 rcases h with ⟨q,m,h1,rfl,rfl⟩|h1
 · rw [hs] at h1;injection h1 with h1;cases h1;exact ⟨rfl,rfl⟩
 · rw [hs] at h1;cases h1
theorem tI.inv {t e:Nat} {r:List PT} {l:List (RT r)} (h:tI s t e) (hs:s[t]? =some (.arr r l)):e=r.length:=by
 rcases h with ⟨q,m,h1,rfl⟩|h1
 · rw [hs] at h1;injection h1 with h1;cases h1;rfl
 · rw [hs] at h1;cases h1
theorem QB.inv {t:Nat} {q r:List PT} {i:Int} {a:RT q} {l:List (RT r)} (h:QB s t q i a) (hs:s[t]? =some (.arr r l)): ∃e:q=r,aK l i=some (e▸a):=by
 rcases h with ⟨m,h1,h2⟩|h1
 · rw [hs] at h1;injection h1 with h1;cases h1;exact ⟨rfl,h2⟩
 · rw [hs] at h1;cases h1
theorem aCC.inv {t:Nat} {r:List PT} {i:Int} {l:List (RT r)} (h:aCC s t i) (hs:s[t]? =some (.arr r l)):(aK l i).isSome=true:=by
 rcases h with ⟨q,m,h1,h2⟩|h1
 · rw [hs] at h1;injection h1 with h1;cases h1;exact h2
 · rw [hs] at h1;cases h1
theorem EO {α:Type} {l:List α} {n:Nat} {i:Int} {a:α} (h:aK (l.take n) i=some a): ∃m:Nat,i=Int.ofNat m/\m<n/\l[m]? =some a:=by
 obtain ⟨m,rfl,hm⟩:=iK h;have hlt:=(List.getElem?_eq_some_iff.1 hm).1;rw [List.length_take] at hlt;have hmn:m<n:=by omega
 rw [List.getElem?_take_of_lt hmn] at hm;exact ⟨m,rfl,hmn,hm⟩
theorem QI (hE:bW s e pe) (hS:bI s ps) {esz:Nat} {x i:cY} (h:hG e s z (.iadr esz x i) k ρ w=some y):dU s ps (aV pe ps z (.iadr esz x i)) k ρ w y:=by
 simp only [hG] at h;generalize hi:bC e i=vi at h;cases vi with
 |int ki n=>
  have hi:=hZ hE hi;have hx:=bU hE x;dsimp only at h;unfold aCc at h;generalize bC e x=v at h hx;cases v with
  |sl r l=>
   obtain ⟨he,h⟩:=bJ h;obtain ⟨a,ha,hk⟩:=bK h;obtain ⟨m,rfl,hm⟩:=iK ha;refine dU.val hS (p:= .rptr (RT.pv r a) 0) hk ?_ ⟨_,rfl,EN r a⟩;have hr:(l.map (RT.pv r))[m]? =some (RT.pv r a):=by simp [hm]
   simp only [aV,hi,fN,show x.ev pe=_ from hx,hr,he,if_true]
  |own t ex=>
   simp only [bE] at h;generalize hst:s[t]? =b at h;cases b with
   |none=>cases h
   |some b=>
    cases b with
    |arr r l=>
     obtain ⟨he,h⟩:=bJ h;obtain ⟨a,ha,hk⟩:=bK h;obtain ⟨m,rfl,hm⟩:=iK ha;obtain ⟨e',n',hx,hat⟩:=hx;obtain ⟨rfl,rfl⟩:=hat.inv hst;have hlt:=(List.getElem?_eq_some_iff.1 hm).1;have h1:Nat.blt m l.length=true:=by simpa using hlt
     refine dU.val hS (p:= .ptr t r.length m 0) hk ?_ ⟨rfl,.inl ⟨l,hst,ha⟩⟩;simp only [aV,hi,fN,hx,h1,he,Bool.and_self,if_true,Nat.zero_add]
    |_=>cases h
  |pre t len cap ex=>
   simp only [bE] at h;generalize hst:s[t]? =b at h;cases b with
   |none=>cases h
   |some b=>
    cases b with
    |arr r l=>
     obtain ⟨he,h⟩:=bJ h;obtain ⟨a,ha,hk⟩:=bK h;obtain ⟨m,rfl,hlt,hm⟩:=EO ha;obtain ⟨e',hx,hat⟩:=hx
     have:=hat.inv hst
     subst this;have h1:Nat.blt m len=true:=by simpa using hlt
     refine dU.val hS (p:= .ptr t r.length m 0) hk ?_ ⟨rfl,.inl ⟨l,hst,hm⟩⟩;simp only [aV,hi,fN,hx,h1,he,Bool.and_self,if_true,Nat.zero_add]
    |_=>cases h
  |part t off len cap ex=>
   simp only [bE] at h;generalize hst:s[t]? =b at h;cases b with
   |none=>cases h
   |some b=>
    cases b with
    |arr r l=>
     obtain ⟨he,h⟩:=bJ h;obtain ⟨a,ha,hk⟩:=bK h;obtain ⟨m,rfl,hlt,hm⟩:=EO ha;rw [List.getElem?_drop] at hm;obtain ⟨e',hx,hat⟩:=hx
     have:=hat.inv hst
     subst this;have h1:Nat.blt m len=true:=by simpa using hlt
     refine dU.val hS (p:= .ptr t r.length (off+m) 0) hk ?_ ⟨rfl,.inl ⟨l,hst,hm⟩⟩;simp only [aV,hi,fN,hx,h1,he,Bool.and_self,if_true]
    |_=>cases h
  |_=>cases h
 |_=>cases h
theorem uP {n:Nat} {i:Int} {j:Nat} {f:Nat->dT R'}:HX n i j f ρ w=some y-> ∃m,i=Int.ofNat m/\j<=m/\m<j+n/\f m ρ w=some y:=by
 induction n generalizing j with
 |zero=>intro h;cases h
 |succ n ih=>
  intro h;rcases cM h with ⟨h1,h2⟩|⟨_,h2⟩
  · exact ⟨j,by simpa using h1,Nat.le_refl _,by omega,h2⟩
  · obtain ⟨m,h3,h4,h5,h6⟩:=ih h2
    exact ⟨m,h3,by omega,by omega,h6⟩
theorem OC (hE:bW s e pe) (hS:bI s ps) {n esz:Nat} {p i:cY} (h:hG e s z (.iadra n esz p i) k ρ w=some y):dU s ps (aV pe ps z (.iadra n esz p i)) k ρ w y:=by
 simp only [hG] at h;generalize hi:bC e i=vi at h;cases vi with
 |int ki j=>
  have hi:=hZ hE hi;have hx:=bU hE p;generalize bC e p=v at h hx;cases v with
  |bp t m o=>
   obtain ⟨j',rfl,_,h2,h⟩:=uP h;have h1:Nat.blt j' n=true:=by simp;omega
   exact dU.val hS h (by simp only [aV,hi,fN,h1,if_true,show p.ev pe=_ from hx]) rfl
  |rptr c o=>
   obtain ⟨j',rfl,_,h2,h⟩:=uP h;have h1:Nat.blt j' n=true:=by simp;omega
   obtain ⟨q,hq,hr⟩:=hx;exact dU.val hS h (by simp only [aV,hi,fN,h1,if_true,hq]) ⟨q,rfl,hr⟩
  |_=>cases h
 |_=>cases h
theorem S8 (hE:bW s e pe) (hS:bI s ps) {n esz:Nat} {agg:Option Nat} {x i:cY} (h:hG e s z (.idx n esz agg x i) k ρ w=some y):dU s ps (aV pe ps z (.idx n esz agg x i)) k ρ w y:=by
 simp only [hG] at h;generalize hi:bC e i=vi at h;cases vi with
 |int ki j=>
  have hi:=hZ hE hi;generalize hx:bC e x=v at h;cases v with
  |agg cs=>
   obtain ⟨j',rfl,_,h2,h⟩:=uP h;have h1:Nat.blt j' n=true:=by simp;omega
   obtain ⟨v,hv,h⟩:=aW h;obtain ⟨q,hq,hr⟩:=N9 hE hx;obtain ⟨p,hp,hpr⟩:=mN hr hv;exact dU.val hS h (by simp only [aV,hi,fN,h1,if_true,hq,hp];rfl) hpr
  |_=>cases h
 |_=>cases h
theorem QJ (hE:bW s e pe) (hS:bI s ps) {x i:cY} (h:hG e s z (.sidx x i) k ρ w=some y):dU s ps (aV pe ps z (.sidx x i)) k ρ w y:=by
 simp only [hG] at h;generalize hi:bC e i=vi at h;cases vi with
 |int ki j=>
  have hi:=hZ hE hi;generalize hx:bC e x=v at h;cases v with
  |str t=>
   obtain ⟨b,hb,h⟩:=bK h;have hx:=N9 hE hx;cases j with
   |negSucc _=>cases hb
   |ofNat m=>
    simp only [aCb,Option.map_eq_some_iff] at hb;obtain ⟨c,hc,rfl⟩:=hb;exact dU.val hS h (by simp only [aV,hi,fN,show x.ev pe=_ from hx,hc]) rfl
  |_=>cases h
 |_=>cases h
theorem QK (hE:bW s e pe) (hS:bI s ps) {agg:Option Nat} {p:cY} (h:hG e s z (.load agg p) k ρ w=some y):dU s ps (aV pe ps z (.load agg p)) k ρ w y:=by
 simp only [hG] at h;have hx:=bU hE p;unfold aCd at h;generalize bC e p=v at h hx;cases v with
 |bp t n off=>
  simp only [bE] at h;generalize hst:s[t]? =b at h;cases b with
  |none=>cases h
  |some b=>
   cases b with
   |box cs=>
    obtain ⟨v,hv,h⟩:=aW h;obtain ⟨q,h1,h2⟩:=hS.box hst;obtain ⟨u,h3,h4⟩:=mN h2 hv;refine dU.rd hS h ?_ h4;show jC ps agg (p.ev pe)=_;rw [show p.ev pe=_ from hx];simp only [jC,h1,Nat.beq_refl,if_true,h3];rfl
   |_=>cases h
 |pa t r i a off=>
  simp only [bE] at h;generalize hst:s[t]? =b at h;cases b with
  |none=>cases h
  |some b=>
   cases b with
   |arr q l=>
    obtain ⟨v,hv,hk⟩:=aW h;obtain ⟨hx,hat⟩:=hx;obtain ⟨rfl,hg⟩:=hat.inv hst;obtain ⟨u,h3,h4⟩:=mN (EN r a) hv;obtain ⟨m,rfl,hm⟩:=iK hg;refine dU.rd hS hk ?_ h4;show jC ps agg (p.ev pe)=_;rw [hx];have hm':(l.map (RT.pv r))[m]? =some (RT.pv r a):=by simp [hm]
    have e1:(Int.ofNat m).toNat=m:=rfl;simp only [jC,hS.arr hst,e1,hm',h3];rfl
   |_=>cases h
 |pb t i off=>
  simp only [bE] at h;generalize hst:s[t]? =b at h;cases b with
  |none=>cases h
  |some b=>
   cases b with
   |arr r l=>
    obtain ⟨a,ha,h⟩:=bK h;obtain ⟨v,hv,hk⟩:=aW h;obtain ⟨e',hx,hat⟩:=hx;obtain ⟨u,h3,h4⟩:=mN (EN r a) hv;obtain ⟨m,rfl,hm⟩:=iK ha;refine dU.rd hS hk ?_ h4;show jC ps agg (p.ev pe)=_;rw [hx];have hm':(l.map (RT.pv r))[m]? =some (RT.pv r a):=by simp [hm]
    have e1:(Int.ofNat m).toNat=m:=rfl;simp only [jC,hS.arr hst,e1,hm',h3];rfl
   |_=>cases h
 |rptr cs off=>
  obtain ⟨v,hv,h⟩:=aW h;obtain ⟨q,hq,hr⟩:=hx;obtain ⟨u,h3,h4⟩:=mN hr hv;refine dU.val hS h ?_ h4;show jC ps agg (p.ev pe)=_;rw [hq];simp only [jC,h3];rfl
 |_=>cases h
theorem F3 (hS:bI s ps) {t:Nat} {r:List PT} {l:List (RT r)} (hst:s[t]? =some (.arr r l)) {i:Int} {b:RT r} {rd:List Nat}:
 eB s ps {v:= .undef,wr:=[(t,.arr r (bM l i b))],rd} {v:= .undef,wr:=[(t,.arr r.length ((l.map (RT.pv r)).set i.toNat (RT.pv r b)))],rd}:=
 eB.put0 hS hst (.inl ⟨_,rfl,by simp⟩) (by show _=_;simp [bM,List.map_set])
theorem OD (hE:bW s e pe) (hS:bI s ps) {sz:Nat} {p x:cY} (h:hG e s z (.store sz p x) k ρ w=some y):dU s ps (aV pe ps z (.store sz p x)) k ρ w y:=by
 simp only [hG] at h;have hx:=bU hE p;have hv:=bU hE x;unfold PX at h;generalize bC e p=v at h hx;generalize bC e x=u at h hv;cases v with
 |bp t n off=>
  simp only [bE] at h;generalize hst:s[t]? =b at h;cases b with
  |none=>cases h
  |some b=>
   cases b with
   |box cs=>
    obtain ⟨w',hw,h⟩:=aW h;obtain ⟨hc,h⟩:=bJ h;obtain ⟨q,h1,h2⟩:=hv.stored hw;obtain ⟨b,h3,h4⟩:=hS.box hst;have hfr:=Fr.dg (ts:=[t]) (Fr.set (b:= .box (jR off w' cs)) hst trivial);refine ⟨_,_,?_,eB.put0 hS (b:= .box (jR off w' cs)) (q:= .box (jG off q b)) (rd:=[]) hst trivial ⟨_,rfl,RL.fr hfr (sN h2 h4)⟩,h⟩
    · show lF ps z sz (x.ev pe) (p.ev pe)=_
      rw [show p.ev pe=_ from hx];simp only [lF,h3,h1,h2.length,h4.length];rw [if_pos (by simpa using hc)]
   |_=>cases h
 |pa t r i a off=>
  simp only [bE] at h;generalize hst:s[t]? =b at h;cases b with
  |none=>cases h
  |some b=>
   cases b with
   |arr q l=>
    obtain ⟨hc,h⟩:=bJ h;obtain ⟨a',ha',hk⟩:=aW h;obtain ⟨hx,hat⟩:=hx;obtain ⟨rfl,hg⟩:=hat.inv hst;obtain ⟨m,rfl,hm⟩:=iK hg;refine ⟨_,_,?_,F3 hS hst (rd:=[]),hk⟩;show lF ps z sz (x.ev pe) (p.ev pe)=_;rw [hx];have hm':(l.map (RT.pv r))[m]? =some (RT.pv r a):=by simp [hm]
    have e1:(Int.ofNat m).toNat=m:=rfl;simp only [Bool.and_eq_true,Bool.not_eq_true'] at hc;obtain ⟨⟨c1,c2⟩,c3⟩:=hc;have hj:u≠ .junk:=by
     intro e;subst e
     have:=RT.of_some ha'
     have hq:=congrArg (fun l=>l[off]?) this
     have hle:=Nat.le_of_ble_eq_true c2;have hsz:sz=1:=by have:=Nat.eq_of_beq_eq_true c1;simpa [SV.cells] using this.symm
     have hlt:off<r.length:=by omega
     have hl1:off<(RT.sv r a).length:=by rw [RT.sv_len];exact hlt
     simp only [jR,SV.cells] at hq;rw [List.getElem?_append_left (by simp;omega),List.getElem?_append_right (by simp;omega)] at hq
     simp only [List.length_take,Nat.min_eq_left (Nat.le_of_lt hl1),Nat.sub_self,List.getElem?_cons_zero] at hq
     have: ∀(r:List PT) (b:RT r) (n:Nat),(RT.sv r b)[n]?≠some .junk:=by
      intro r
      induction r with
      |nil=>intro b n h;simp [RT.sv] at h
      |cons p rest ih=>
       intro b n;cases rest with
       |nil=>cases n<;>cases p<;>simp [RT.sv,PT.sv]
       |cons p2 rest2=>cases n with
        |zero=>cases p<;>simp [RT.sv,PT.sv]
        |succ n=>simpa [RT.sv] using ih b.2 n
     exact this r a' off hq.symm
    have hcells:=hv.cells hj;have hrow:=RT.of_some ha';have h5:RL s (RT.sv r a') (jG off (x.ev pe).cells (RT.pv r a)):=by
     rw [<- hrow];exact sN hcells (EN r a)
    have h6:=sM r a' h5;have hplain:(x.ev pe).storedPlain=some (x.ev pe).cells:=by
     unfold PV.storedPlain;rw [if_pos ?_];have hall:=RT.plain r a';rw [<- h6] at hall;unfold jG at hall;simp only [List.all_append,Bool.and_eq_true] at hall;exact hall.1.2
    simp only [lF,hS.arr hst,e1,hm',hplain,hcells.length,RT.pv_len];rw [if_pos (by simp [c1,c2,c3])]
    simp only [h6]
   |_=>cases h
 |pb t i off=>
  simp only [bE] at h;generalize hst:s[t]? =b at h;cases b with
  |none=>cases h
  |some b=>
   cases b with
   |arr r l=>
    obtain ⟨hc,h⟩:=bJ h;obtain ⟨e',hx,hat⟩:=hx;have hin:=hat.inv hst;rw [Option.isSome_iff_exists] at hin;obtain ⟨a0,hg⟩:=hin;obtain ⟨m,rfl,hm⟩:=iK hg;have hm':(l.map (RT.pv r))[m]? =some (RT.pv r a0):=by simp [hm]
    have e1:(Int.ofNat m).toNat=m:=rfl;simp only [Bool.and_eq_true,Bool.not_eq_true'] at hc;obtain ⟨⟨c1,c2⟩,c3⟩:=hc;cases hsz:Nat.beq sz r.length with
    |true=>
     rw [hsz] at h;obtain ⟨a',ha',hk⟩:=aW h;obtain ⟨hp,hl⟩:=hv.ofRow ha';have hszr:=Nat.eq_of_beq_eq_true hsz;have hoff:off=0:=by have:=Nat.le_of_ble_eq_true c2;omega
     subst hoff;refine ⟨_,_,?_,F3 hS hst (rd:=[]),hk⟩;show lF ps z sz (x.ev pe) (p.ev pe)=_;rw [hx];simp only [lF,hS.arr hst,e1,hm',hp,RT.pv_len];rw [if_pos (by rw [Nat.zero_add,hszr];simp [c3])]
     have:jG 0 (RT.pv r a') (RT.pv r a0)=RT.pv r a':=by
      unfold jG;rw [RT.pv_len,List.drop_of_length_le (by rw [RT.pv_len];omega)];simp
     rw [this]
    |false=>
     rw [hsz] at h;obtain ⟨a,ha,h⟩:=bK h;obtain ⟨a',ha',hk⟩:=aW h;rw [hg] at ha;injection ha with ha;subst ha;refine ⟨_,_,?_,F3 hS hst (rd:=[]),hk⟩;show lF ps z sz (x.ev pe) (p.ev pe)=_;rw [hx];have hj:u≠ .junk:=by
      intro e;subst e
      have:=RT.of_some ha'
      have hq:=congrArg (fun l=>l[off]?) this
      have hle:=Nat.le_of_ble_eq_true c2;have hsz:sz=1:=by have:=Nat.eq_of_beq_eq_true c1;simpa [SV.cells] using this.symm
      have hlt:off<r.length:=by omega
      have hl1:off<(RT.sv r a0).length:=by rw [RT.sv_len];exact hlt
      simp only [jR,SV.cells] at hq;rw [List.getElem?_append_left (by simp;omega),List.getElem?_append_right (by simp;omega)] at hq
      simp only [List.length_take,Nat.min_eq_left (Nat.le_of_lt hl1),Nat.sub_self,List.getElem?_cons_zero] at hq
      have: ∀(r:List PT) (b:RT r) (n:Nat),(RT.sv r b)[n]?≠some .junk:=by
       intro r
       induction r with
       |nil=>intro b n h;simp [RT.sv] at h
       |cons p rest ih=>
        intro b n;cases rest with
        |nil=>cases n<;>cases p<;>simp [RT.sv,PT.sv]
        |cons p2 rest2=>cases n with
         |zero=>cases p<;>simp [RT.sv,PT.sv]
         |succ n=>simpa [RT.sv] using ih b.2 n
      exact this r a' off hq.symm
     have hcells:=hv.cells hj;have hrow:=RT.of_some ha';have h5:RL s (RT.sv r a') (jG off (x.ev pe).cells (RT.pv r a0)):=by
      rw [<- hrow];exact sN hcells (EN r a0)
     have h6:=sM r a' h5;have hplain:(x.ev pe).storedPlain=some (x.ev pe).cells:=by
      unfold PV.storedPlain;rw [if_pos ?_];have hall:=RT.plain r a';rw [<- h6] at hall;unfold jG at hall;simp only [List.all_append,Bool.and_eq_true] at hall;exact hall.1.2
     simp only [lF,hS.arr hst,e1,hm',hplain,hcells.length,RT.pv_len];rw [if_pos (by simp [c1,c2,c3])]
     simp only [h6]
   |_=>cases h
 |_=>cases h
end
end Go.Vm
/- Operation by operation, third part: slices, new blocks, append, sets; all of them together. -/
namespace Go.Vm
section
variable {R' ρ : Type} {w : R' -> ρ} {y : ρ} {s : List SB} {ps : bH} {e : SE} {pe : lY} {z : List Nat} {k : dG -> dT R'}
def B9 (pe:lY) (o:Option cY):Option (Option Nat):=match o with|none=>some none|some a=>(fN (a.ev pe)).map some
theorem nV (hE:bW s e pe) {o:Option cY} {d a:Int} {n:Nat} (h:xZ e d o=some a) (hd:d=Int.ofNat n) (h0:0<=a): ∃b,B9 pe o=some b/\b.getD n=a.toNat:=by
 cases o with
 |none=>
  injection h with h;subst h hd;exact ⟨none,rfl,rfl⟩
 |some x=>
  simp only [xZ] at h;split at h
  · rename_i ka m hx
    injection h with h;subst h;obtain ⟨b,rfl⟩:=Int.eq_ofNat_of_zero_le h0;refine ⟨some b,?_,rfl⟩;simp only [B9,hZ hE hx];rfl
  · cases h
theorem uQ {esz:Nat} {x:cY} {lo hi mx:Option cY} {l h m:Option Nat} {v:PV} (he:nG esz (x.ev pe)=true) (h1:B9 pe lo=some l) (h2:B9 pe hi=some h) (h3:B9 pe mx=some m) (hv:kJ (x.ev pe) l h m=some v):
 aV pe ps z (.slc esz x lo hi mx)=some {v:=v}:=by
 have e:aV pe ps z (.slc esz x lo hi mx)=(match B9 pe lo,B9 pe hi,B9 pe mx with|some l,some h,some m=>(kJ (x.ev pe) l h m).map fun v=>({v}:jB)|_,_,_=>none):=by
  simp only [aV,he,Bool.not_true,Bool.false_eq_true,if_false];rfl
 rw [e,h1,h2,h3];simp only [hv];rfl
theorem CA {α:Type} {l r:List α} {lo hi:Int} (h:fZ l lo hi=some r): ∃a b:Nat,lo=Int.ofNat a/\hi=Int.ofNat b/\a<=b/\b<=l.length/\r=(l.drop a).take (b-a):=by
 unfold fZ at h;split at h
 · rename_i hc
   obtain ⟨a,rfl⟩:=Int.eq_ofNat_of_zero_le hc.1;obtain ⟨b,rfl⟩:=Int.eq_ofNat_of_zero_le (Int.le_trans hc.1 hc.2.1);injection h with h;exact ⟨a,b,rfl,rfl,by omega,by omega,by rw [<- h];simp⟩
 · cases h
theorem F4 (hE:bW s e pe) (hS:bI s ps) {esz t off len cap:Nat} {ex:Bool} {x:cY} {lo hi mx:Option cY} (hx:x.ev pe= .own t esz off len cap ex) (hat:tI s t esz) (h:KK e t off len cap ex lo hi mx k ρ w=some y):
 dU s ps (aV pe ps z (.slc esz x lo hi mx)) k ρ w y:=by
 unfold KK at h;obtain ⟨a,ha,h⟩:=aW h;obtain ⟨b,hb,h⟩:=aW h;have he:nG esz (x.ev pe)=true:=by rw [hx];simp [nG]
 cases mx with
 |none=>
  obtain ⟨hc,h⟩:=eG h;simp only [Bool.and_eq_true,decide_eq_true_eq] at hc;obtain ⟨⟨c1,c2⟩,c3⟩:=hc;obtain ⟨l,h1,h2⟩:=nV hE (n:=0) ha rfl c1;obtain ⟨u,h3,h4⟩:=nV hE (n:=len) hb rfl (Int.le_trans c1 c2);refine dU.val hS h (uQ he h1 h3 (m:=none) rfl ?_) ⟨esz,rfl,hat⟩;rw [hx];have c4:(Nat.ble a.toNat b.toNat&&Nat.ble b.toNat cap)=true:=by
   have c3':b<=(cap:Int):=c3
   simp;omega
  simp only [kJ,h2,h4,c4,if_true]
 |some mo=>
  dsimp only at h;generalize hm:bC e mo=vm at h;cases vm with
  |int km c=>
   obtain ⟨hc,h⟩:=eG h;simp only [Bool.and_eq_true,decide_eq_true_eq] at hc;obtain ⟨⟨⟨c1,c2⟩,c3⟩,c4⟩:=hc;obtain ⟨l,h1,h2⟩:=nV hE (n:=0) ha rfl c1;obtain ⟨u,h3,h4⟩:=nV hE (n:=len) hb rfl (Int.le_trans c1 c2);have hc0:0<=c:=Int.le_trans (Int.le_trans c1 c2) c3;obtain ⟨c,rfl⟩:=Int.eq_ofNat_of_zero_le hc0
   refine dU.val hS h (uQ he h1 h3 (m:=some c) (by simp only [B9,hZ hE hm];rfl) ?_) ⟨esz,rfl,hat⟩
   rw [hx];have c5:(Nat.ble a.toNat b.toNat&&Nat.ble b.toNat c&&Nat.ble c cap)=true:=by
    have c4':(c:Int)<=(cap:Int):=c4
    simp;omega
   simp only [kJ,h2,h4,c5,if_true];rfl
  |_=>cases h
theorem S9 (hE:bW s e pe) (hS:bI s ps) {esz:Nat} {x:cY} {lo hi mx:Option cY} (h:hG e s z (.slc esz x lo hi mx) k ρ w=some y):dU s ps (aV pe ps z (.slc esz x lo hi mx)) k ρ w y:=by
 simp only [hG] at h;have hx:=bU hE x;unfold aHF at h;generalize bC e x=v at h hx;cases v with
 |sl r l=>
  cases mx with
  |some _=>cases h
  |none=>
   dsimp only at h;obtain ⟨he,h⟩:=bJ h;have he:=Nat.eq_of_beq_eq_true he;obtain ⟨a,ha,h⟩:=aW h;obtain ⟨b,hb,h⟩:=aW h;obtain ⟨m,hm,hk⟩:=bK h;obtain ⟨n1,n2,rfl,rfl,c1,c2,rfl⟩:=CA hm;obtain ⟨u1,h1,h2⟩:=nV hE (n:=0) ha rfl (by simp)
   obtain ⟨u2,h3,h4⟩:=nV hE (n:=l.length) hb rfl (by simp)
   have hx':x.ev pe= .sl r.length false (l.map (RT.pv r)):=hx;subst he;refine dU.val hS (p:= .sl r.length false ((((l.drop n1).take (n2-n1))).map (RT.pv r))) hk (uQ (m:=none) (by rw [hx'];simp [nG]) h1 h3 rfl ?_) rfl
   rw [hx'];have h2':u1.getD 0=n1:=by rw [h2];rfl
   have h4':u2.getD (l.map (RT.pv r)).length=n2:=by rw [List.length_map,h4];rfl
   have c3:(Nat.ble n1 n2&&Nat.ble n2 (l.map (RT.pv r)).length)=true:=by simp [c1,c2]
   simp only [kJ,h2',h4',c3,if_true,Bool.false_and,List.map_take,List.map_drop]
 |own t ex=>
  simp only [bE] at h;generalize hst:s[t]? =b at h;cases b with
  |none=>cases h
  |some b=>
   cases b with
   |arr r l=>
    dsimp only at h;obtain ⟨he,hk⟩:=bJ h;have he:=Nat.eq_of_beq_eq_true he;obtain ⟨e',n',hx,hat⟩:=hx;obtain ⟨rfl,rfl⟩:=hat.inv hst;subst he;have hesz:tI s t r.length:= .inl ⟨r,l,hst,rfl⟩;have gen:KK e t 0 l.length l.length ex lo hi mx k ρ w=some y->dU s ps (aV pe ps z (.slc r.length x lo hi mx)) k ρ w y:=fun h=>F4 hE hS hx hesz h
    have he:nG r.length (x.ev pe)=true:=by rw [hx];simp [nG]
    cases mx with
    |some m=>cases lo<;>cases hi<;>exact gen hk
    |none=>
     cases lo with
     |some _=>cases hi<;>exact gen hk
     |none=>
      cases hi with
      |none=>
       refine dU.val hS hk (uQ (l:=none) (h:=none) (m:=none) he rfl rfl rfl ?_) ⟨r.length,l.length,rfl,hat⟩;rw [hx];simp [kJ]
      |some ho=>
       dsimp only at hk;generalize hh:bC e ho=vh at hk;cases vh with
       |int kh b=>
        obtain ⟨m,hm,hk⟩:=bK hk;obtain ⟨n1,n2,h0,rfl,c1,c2,rfl⟩:=CA hm;refine dU.val hS hk (uQ (l:=none) (h:=some n2) (m:=none) he rfl (by simp only [B9,hZ hE hh];rfl) rfl ?_) ⟨r.length,rfl,hesz⟩
        rw [hx];have c3:(Nat.ble 0 n2&&Nat.ble n2 l.length)=true:=by simp [c2]
        simp only [kJ,Option.getD_none,Option.getD_some,c3,if_true];rfl
       |_=>cases hk
   |_=>cases h
 |pre t len cap ex=>
  simp only [bE] at h;generalize hst:s[t]? =b at h;cases b with
  |none=>cases h
  |some b=>
   cases b with
   |arr r l=>
    dsimp only at h;obtain ⟨he,hk⟩:=bJ h;have he:=Nat.eq_of_beq_eq_true he;obtain ⟨e',hx,hat⟩:=hx
    have:=hat.inv hst
    subst this;subst he;have gen:KK e t 0 len cap ex lo hi mx k ρ w=some y->dU s ps (aV pe ps z (.slc r.length x lo hi mx)) k ρ w y:=fun h=>F4 hE hS hx hat h
    have he:nG r.length (x.ev pe)=true:=by rw [hx];simp [nG]
    cases mx with
    |some m=>cases lo<;>cases hi<;>exact gen hk
    |none=>
     cases lo with
     |some _=>cases hi<;>exact gen hk
     |none=>
      cases hi with
      |none=>
       obtain ⟨hlc,hk⟩:=eG hk;refine dU.val hS hk (uQ (l:=none) (h:=none) (m:=none) he rfl rfl rfl ?_) ⟨r.length,rfl,hat⟩;rw [hx];have c3:(Nat.ble 0 len&&Nat.ble len cap)=true:=by simp [hlc]
       simp only [kJ,Option.getD_none,c3,if_true];simp
      |some ho=>
       dsimp only at hk;generalize hh:bC e ho=vh at hk;cases vh with
       |int kh b=>
        obtain ⟨hc,hk⟩:=eG hk;simp only [Bool.and_eq_true,decide_eq_true_eq] at hc;obtain ⟨c1,c2⟩:=hc;obtain ⟨b,rfl⟩:=Int.eq_ofNat_of_zero_le c1;refine dU.val hS hk (uQ (l:=none) (h:=some b) (m:=none) he rfl (by simp only [B9,hZ hE hh];rfl) rfl ?_) ⟨r.length,rfl,hat⟩
        rw [hx];have c3:(Nat.ble 0 b&&Nat.ble b cap)=true:=by
         have c2':(b:Int)<=(cap:Int):=c2
         simp;omega
        simp only [kJ,Option.getD_none,Option.getD_some,c3,if_true];rfl
       |_=>cases hk
   |_=>cases h
 |part t off len cap ex=>
  simp only [bE] at h;generalize hst:s[t]? =b at h;cases b with
  |none=>cases h
  |some b=>
   cases b with
   |arr r l=>
    dsimp only at h;obtain ⟨he,hk⟩:=bJ h;have he:=Nat.eq_of_beq_eq_true he;obtain ⟨e',hx,hat⟩:=hx
    have:=hat.inv hst
    subst this;subst he;exact F4 hE hS hx hat hk
   |_=>cases h
 |_=>cases h
theorem kE {b:SB}:(s++[b])[s.length]? =some b:=by simp
theorem TA: ∀{v:PV} {p:PT},PW v=some p->p.pv p.zero=v
 | .int k n,p,h=>by
  simp only [PW] at h;split at h
  · injection h with h;subst h;rfl
  · cases h
 | .bool b,p,h=>by
  simp only [PW] at h;split at h
  · injection h with h;subst h;rfl
  · cases h
 | .undef,_,h| .nul,_,h| .str _,_,h| .agg _,_,h| .tup _,_,h| .sl _ _ _,_,h| .own _ _ _ _ _ _,_,h| .ptr _ _ _ _,_,h| .rptr _ _,_,h| .mp _,_,h| .clo _ _ _,_,h| .nilf,_,h=>by cases h
theorem wJ : ∀ {l : List PV} {r : List PT}, BX l = some r -> RT.pv r (RT.zero r) = l
  | [], r, h => by injection h with h; subst h; rfl
  | v :: vs, r, h => by
    simp only [BX] at h
    split at h
    · rename_i p q h1 h2
      injection h with h; subst h
      have e1 := TA h1
      have e2 := wJ h2
      cases q with
      | nil =>
        have : vs = [] := by
          cases vs with
          | nil => rfl
          | cons a b => simp only [RT.pv] at e2; cases e2
        subst this
        show [p.pv p.zero] = _
        rw [e1]
      | cons p2 q2 =>
        show p.pv p.zero :: RT.pv (p2 :: q2) (RT.zero (p2 :: q2)) = _
        rw [e1, e2]
    · cases h
theorem TB (hE:bW s e pe) (hS:bI s ps) {esz:Nat} {zero:iP} {l c:cY} (h:hG e s z (.mks esz zero l c) k ρ w=some y):dU s ps (aV pe ps z (.mks esz zero l c)) k ρ w y:=by
 simp only [hG] at h;generalize hl:bC e l=vl at h;cases vl with
 |int kl n=>
  generalize hc:bC e c=vc at h;cases vc with
  |int kc m=>
   obtain ⟨hnm,h1⟩:=eG h;obtain ⟨r,hr,h2⟩:=aW h1;obtain ⟨he,h3⟩:=bJ h2;obtain ⟨x,hx,hk⟩:=bK h3;have hnm:n=m:=by simpa using hnm
   subst hnm;have he:=Nat.eq_of_beq_eq_true he;subst he;unfold nS at hx;split at hx
   · rename_i hc2
     injection hx with hx;subst hx;obtain ⟨a,rfl⟩:=Int.eq_ofNat_of_zero_le hc2.1;have h1:(Nat.ble a a&&Nat.ble a iO)=true:=by simp [iO];omega
     refine ⟨_,_,?_,eB.new hS (b:= .arr r (List.replicate (Int.ofNat a).toNat (RT.zero r))) (q:= .arr r.length (List.replicate a zero)) (v:= .own s.length true) (p:= .own s.length r.length 0 a a true) (rd:=[]) ?_ ?_,hk⟩
     · have e1:fN (.int kl (a:Int))=some a:=rfl
       have e2:fN (.int kc (a:Int))=some a:=rfl;simp only [aV,hZ hE hl,hZ hE hc,e1,e2];rw [if_pos h1,hS.len]
     · show _=_
       simp [wJ hr]
     · exact ⟨r.length,a,rfl,.inl ⟨r,_,kE,rfl,by simp⟩⟩
   · cases hx
  |_=>cases h
 |_=>cases h
def oX {α:Type}:List α->List (Nat×α)->List α
 |l,[]=>l
 |l,(i,a)::r=>oX (l.set i a) r
theorem CB {α : Type} : ∀ (q : List (Nat × α)) (l : List α) (i : Nat), (oX l q)[i]? = (l[i]?).map fun z => zF i z q
  | [], l, i => by simp [oX, zF]
  | (j, a) :: q, l, i => by
    simp only [oX, zF]
    rw [CB q (l.set j a) i, List.getElem?_set]
    by_cases hji : j = i
    · subst hji
      cases hl : l[j]? with
      | none =>
        have : ¬ j < l.length := by intro h; rw [List.getElem?_eq_getElem h] at hl; cases hl
        simp [this]
      | some z =>
        have : j < l.length := (List.getElem?_eq_some_iff.1 hl).1
        simp [this]
    · have : Nat.beq j i = false := by
        cases hb : Nat.beq j i with
        | false => rfl
        | true => exact absurd (Nat.eq_of_beq_eq_true hb) hji
      simp [hji, this]
theorem IG {α:Type} (f:Nat->α): ∀(n i j:Nat),(FX f i n)[j]? =if j<n then some (f (i+j)) else none
 |0,i,j=>by simp [FX]
 |n+1,i,0=>by simp [FX]
 |n+1,i,j+1=>by
  simp only [FX,List.getElem?_cons_succ];rw [IG f n (i+1) j,show i+1+j=i+(j+1) by omega]
  by_cases h:j<n
  · simp [h]
  · simp [h]
theorem CC {α:Type} (z:α) (n:Nat) (q:List (Nat×α)):oX (List.replicate n z) q=FX (fun i=>zF i z q) 0 n:=by
 apply List.ext_getElem?;intro i;rw [CB,IG]
 by_cases h:i<n
 · simp [h]
 · simp [h]
theorem CD (hE:bW s e pe) {r:List PT} {n:Nat}: ∀{parts:List (Nat×cY)} {q:List (Nat×RT r)} {l:List (RT r)},LV r e n parts=some q->l.length=n->
 jU (parts.map fun p=>(p.1,p.2.ev pe)) (l.map (RT.pv r)) r.length=some ((oX l q).map (RT.pv r))
 | [],q,l,h,hl=>by injection h with h;subst h;rfl
 |p::parts,q,l,h,hl=>by
  simp only [LV] at h;split at h
  · rename_i a q' h1 h2
    cases hb:Nat.blt p.1 n with
    |false=>rw [hb] at h;cases h
    |true=>
     rw [hb] at h;injection h with h;subst h;have hp:=((bU hE p.2).ofRow h1).1;simp only [List.map_cons,jU,hp,RT.pv_len,List.length_map,hl,hb,Nat.beq_refl,Bool.and_self,if_true,oX];rw [<- List.map_set];exact CD hE h2 (by simp [hl])
  · cases h
theorem OE (hE:bW s e pe) (hS:bI s ps) {esz n:Nat} {zero:iP} {parts:List (Nat×cY)} (h:hG e s z (.mkrow esz n zero parts) k ρ w=some y):dU s ps (aV pe ps z (.mkrow esz n zero parts)) k ρ w y:=by
 simp only [hG] at h;obtain ⟨r,hr,h1⟩:=aW h;obtain ⟨he,h2⟩:=bJ h1;obtain ⟨q,hq,hk⟩:=aW h2;have he:=Nat.eq_of_beq_eq_true he;subst he;have hf:=CD hE (l:=List.replicate n (RT.zero r)) hq (by simp)
 rw [CC] at hf;have hz:(List.replicate n (RT.zero r)).map (RT.pv r)=List.replicate n zero:=by simp [wJ hr]
 rw [hz] at hf;refine ⟨_,_,?_,eB.new hS (b:= .arr r (FX (fun i=>zF i (RT.zero r) q) 0 n)) (q:= .arr r.length ((FX (fun i=>zF i (RT.zero r) q) 0 n).map (RT.pv r))) (v:= .own s.length true) (p:= .own s.length r.length 0 n n true) (rd:=[]) rfl ?_,hk⟩
 · simp only [aV,hf,hS.len]
   rfl
 · refine ⟨r.length,n,rfl,.inl ⟨r,_,kE,rfl,?_⟩⟩
   rw [<- CC]
   have: ∀(q:List (Nat×RT r)) (l:List (RT r)),(oX l q).length=l.length:=by
    intro q
    induction q with
    |nil=>intro l;rfl
    |cons p q ih=>intro l;simp [oX,ih]
   rw [this];simp
theorem L8: ∀{cs:List SV} {q:List PV} {l:List Int},RL s cs q->LW cs=some l->q=l.map (.int .i64)
 | [],q,l,h,hi=>by injection hi with hi;subst hi;exact h
 |x::xs,q,l,h,hi=>by
  obtain ⟨p,q,rfl,h1,h2⟩:=h.cons_inv;simp only [LW] at hi;split at hi
  · rename_i n l' hx
    injection hi with hi;subst hi;rw [show p= .int .i64 n from h1,L8 h2 hx];rfl
  · cases hi
theorem QL {v:SV} {p:PV} {n:Option Nat} {l:List Int} (h:R s v p) (hk:SS n v=some l):p=mE l/\fB n (mE l)=true/\(mE l).storedPlain=some (mE l).cells/\(mE l).cells=l.map (.int .i64)/\(n=none->l.length=1)/\(∀m,n=some m->l.length=m/\m≠1):=by
 cases n with
 |none=>
  cases v with
  |int kk a=>
   cases kk with
   |i64=>
    injection hk with hk;subst hk;exact ⟨h,rfl,rfl,rfl,fun _=>rfl,fun m hm=>by cases hm⟩
   |_=>cases hk
  |_=>cases hk
 |some m=>
  cases v with
  |agg cs=>
   simp only [SS] at hk;cases hc:(Nat.beq cs.length m&&!Nat.beq m 1) with
   |false=>rw [hc] at hk;cases hk
   |true=>
    rw [hc] at hk;simp only [cond_true] at hk;simp only [Bool.and_eq_true,Nat.beq_eq,Bool.not_eq_true'] at hc;obtain ⟨c1,c2⟩:=hc;obtain ⟨q,rfl,hq⟩:=h;have hq':=L8 hq hk;have hlen:l.length=m:=by have:=hq.length;rw [hq'] at this;simp at this;omega
    have hm1:m≠1:=by intro e;subst e;cases c2
    have hkl:mE l= .agg (l.map (.int .i64)):=by
     unfold mE;split
     · simp at hlen;omega
     · rfl
    refine ⟨by rw [hkl,hq'],by rw [hkl];simp [fB,hlen],?_,by rw [hkl];rfl,(fun h=>(by cases h)),fun m' hm=>by injection hm with hm;subst hm;exact ⟨hlen,hm1⟩⟩
    rw [hkl];unfold PV.storedPlain;rw [if_pos];simp [PV.cells,PV.plain]
  |_=>cases hk
theorem oY: ∀(a b:List Int),a.length=b.length->bP (a.map (.int .i64)) (b.map (.int .i64))=some (a==b)
 | [],[],_=>rfl
 |x::a,y::b,h=>by
  have ih:=oY a b (by simpa using h)
  simp only [List.map_cons,bP,kI,IE,if_true];cases hxy:x==y with
  |true=>simp only [ih];simp [List.cons_beq_cons,hxy]
  |false=>simp [List.cons_beq_cons,hxy]
 | [],_::_,h=>by simp at h
 |_::_,[],h=>by simp at h
theorem yE {n : Option Nat} {a : List Int} (ha : (mE a).cells = a.map (.int .i64)) (hn : (n = none -> a.length = 1) /\ (∀ m, n = some m -> a.length = m /\ m ≠ 1)) : ∀ (l : List (List Int)) (i : Nat), (∀ r, cO n (mE a) (l.map wF) i = some r -> (match r with | none => HW l a = false | some j => i <= j /\ HW l a = true /\ l[j - i]? = some a))
  | [], i, r, h => by
    simp only [List.map_nil, cO, Option.some.injEq] at h
    subst h; rfl
  | b :: l, i, r, h => by
    simp only [List.map_cons, wF, cO] at h
    split at h
    · rename_i hk
      have hb : (mE b).cells = b.map (.int .i64) /\ a.length = b.length := by
        cases n with
        | none =>
          have hl := hn.1 rfl
          unfold mE at hk ⊢
          split at hk
          · exact ⟨rfl, by simpa using hl⟩
          · cases hk
        | some m =>
          obtain ⟨hl, hm⟩ := hn.2 m rfl
          unfold mE at hk ⊢
          split at hk
          · cases hk
          · simp only [fB, List.length_map, Nat.beq_eq] at hk
            exact ⟨rfl, by omega⟩
      rw [ha, hb.1, oY a b hb.2] at h
      cases hab : a == b with
      | true =>
        rw [hab] at h
        injection h with h; subst h
        have : a = b := by simpa using hab
        subst this
        exact ⟨Nat.le_refl _, by simp [HW], by simp⟩
      | false =>
        rw [hab] at h
        have := yE ha hn l (i + 1) r h
        cases r with
        | none => simpa [HW, hab] using this
        | some j =>
          obtain ⟨h1, h2, h3⟩ := this
          refine ⟨by omega, by simp only [HW] at h2; simp [HW, h2], ?_⟩
          rw [show j - i = (j - (i + 1)) + 1 by omega]; simpa using h3
    · cases h
theorem wK {n:Option Nat} {a:List Int} (ha:(mE a).cells=a.map (.int .i64)) (hn:(n=none->a.length=1)/\(∀m,n=some m->a.length=m/\m≠1)) {l:List (List Int)} (hl:l.all (fun b=>fB n (mE b))=true): ∀i,∃r,cO n (mE a) (l.map wF) i=some r:=by
 induction l with
 |nil=>intro i;exact ⟨none,rfl⟩
 |cons b l ih=>
  intro i;simp only [List.all_cons,Bool.and_eq_true] at hl;obtain ⟨r,hr⟩:=ih hl.2 (i+1);simp only [List.map_cons,wF,cO,hl.1,if_true];have hb:(mE b).cells=b.map (.int .i64)/\a.length=b.length:=by
   have hk:=hl.1;cases n with
   |none=>
    have hl':=hn.1 rfl;unfold mE at hk ⊢;split at hk
    · exact ⟨rfl,by simpa using hl'⟩
    · cases hk
   |some m=>
    obtain ⟨hl',hm⟩:=hn.2 m rfl;unfold mE at hk ⊢;split at hk
    · cases hk
    · simp only [fB,List.length_map,Nat.beq_eq] at hk
      exact ⟨rfl,by omega⟩
  rw [ha,hb.1,oY a b hb.2];cases hab:a==b with
  |true=>exact ⟨some i,rfl⟩
  |false=>exact ⟨r,hr⟩
theorem zJ {n:Option Nat} {a:List Int} (hn:(n=none->a.length=1)/\(∀m,n=some m->a.length=m/\m≠1)) {l:List (List Int)} (hl: ∀b∈l,b.length=a.length):l.all (fun b=>fB n (mE b))=true:=by
 rw [List.all_eq_true];intro b hb;have hlen:=hl b hb;cases n with
 |none=>
  have h1:=hn.1 rfl;rw [h1] at hlen
  match b,hlen with
  | [x],_=>rfl
 |some m=>
  obtain ⟨h1,h2⟩:=hn.2 m rfl;unfold mE;split
  · rename_i x;simp at hlen;omega
  · simp [fB];omega
theorem wL {a:List Int} {l:List (List Int)} (h:qW a l=true): ∀b∈l,b.length=a.length:=by
 intro b hb;exact Nat.eq_of_beq_eq_true (List.all_eq_true.1 h b hb)
theorem PT.of_R {s:List SB} {p:PT} {v:SV} {q:PV} {a:p.T} (h:R s v q) (ho:p.of v=some a):q=p.pv a:=by
 cases p with
 |i k=>
  cases v with
  |int l n=>
   simp only [PT.of] at ho;cases hk:cP l k with
   |false=>rw [hk] at ho;cases ho
   |true=>
    rw [hk] at ho;obtain rfl:=cL.1 hk;injection ho with ho;subst ho;exact h
  |_=>cases ho
 |b=>
  cases v with
  |bool x=>
   injection ho with ho;subst ho;exact h
  |_=>cases ho
theorem CE {β:Type} (g:Int×β->PV×PV) (hg: ∀x,(g x).1= .int .i64 x.1) (k:Int): ∀(l:List (Int×β)) (i:Nat),
 (∃j x,cO none (.int .i64 k) (l.map g) i=some (some (i+j))/\l[j]? =some x/\(∀z,tC z l k=x.2)/\ ∀a,nT l k a=l.set j (k,a))\/
 (cO none (.int .i64 k) (l.map g) i=some none/\(∀z,tC z l k=z)/\ ∀a,nT l k a=l++[(k,a)])
 | [],i=> .inr ⟨rfl,fun _=>rfl,fun _=>rfl⟩
 |x::l,i=>by
  have hk:fB none (g x).1=true:=by rw [hg];rfl
  have he:bP (PV.int .i64 k).cells (g x).1.cells=some (k==x.1):=by
   rw [hg];show bP [.int .i64 k] [.int .i64 x.1]=_;simp only [bP,kI,cP,if_true];cases k==x.1<;>rfl
  have hf:cO none (.int .i64 k) ((x::l).map g) i=(match some (k==x.1) with
   |some true=>some (some i)
   |some false=>cO none (.int .i64 k) (l.map g) (i+1)
   |none=>none):=by
   rw [List.map_cons];show (if fB none (g x).1 then _ else none)=_
   rw [if_pos hk,he];cases k==x.1<;>rfl
  cases hb:k==x.1 with
  |true=>
   rw [hb] at hf;exact .inl ⟨0,x,hf,rfl,fun z=>by simp only [tC,hb,cond_true],fun a=>by simp only [nT,hb,cond_true,List.set_cons_zero]⟩
  |false=>
   rw [hb] at hf;rcases CE g hg k l (i+1) with ⟨j,y,h1,h2,h3,h4⟩|⟨h1,h2,h3⟩
   · refine .inl ⟨j+1,y,?_,by simpa using h2,fun z=>?_,fun a=>?_⟩
     · rw [hf];show cO none (.int .i64 k) (l.map g) (i+1)=_
       rw [h1,show i+1+j=i+(j+1) by omega]
     · simp only [tC,hb,cond_false,h3]
     · simp only [nT,hb,cond_false,h4,List.set_cons_succ]
   · exact .inr ⟨hf.trans h1,fun z=>by simp only [tC,hb,cond_false,h2],fun a=>by simp only [nT,hb,cond_false,h3,List.cons_append]⟩
theorem CF (p:PT) (k:Int) (l:List (RT [.i .i64,p])):
 (∃(j:Nat) (x:RT [.i .i64,p]),cO none (.int .i64 k) (l.map (AH p)) 0=some (some j)/\l[j]? =some x/\(∀z,p.get z l k=x.2)/\ ∀a,p.put l k a=l.set j (k,a))\/
 (cO none (.int .i64 k) (l.map (AH p)) 0=some none/\(∀z,p.get z l k=z)/\ ∀a,p.put l k a=l++[(k,a)]):=by
 cases p with
 |i d=>
  rcases CE (β:=Int) (AH (.i d)) (fun _=>rfl) k l 0 with ⟨j,x,h1,h2,h3,h4⟩|h
  · exact .inl ⟨j,x,by rw [h1,Nat.zero_add],h2,h3,h4⟩
  · exact .inr h
 |b=>
  rcases CE (β:=Bool) (AH .b) (fun _=>rfl) k l 0 with ⟨j,x,h1,h2,h3,h4⟩|h
  · exact .inl ⟨j,x,by rw [h1,Nat.zero_add],h2,h3,h4⟩
  · exact .inr h
theorem PT.sv_R {s:List SB} (p:PT) (a:p.T):R s (p.sv a) (p.pv a):=by cases p<;>rfl
theorem PT.pv_plain (p:PT) (a:p.T):(p.pv a).storedPlain=some [p.pv a]:=by cases p<;>rfl
theorem KV (hE:bW s e pe) (hS:bI s ps) {n:Option Nat} {zero:PV} {ok:Bool} {m q:cY} (h:hG e s z (.lookup n zero ok m q) k ρ w=some y):dU s ps (aV pe ps z (.lookup n zero ok m q)) k ρ w y:=by
 simp only [hG] at h;have hx:=bU hE m;generalize bC e m=v at h hx;cases v with
 |mp t=>
  simp only [bE] at h;generalize hst:s[t]? =b at h;cases b with
  |none=>cases h
  |some b=>
   cases b with
   |set l=>
    dsimp only at h;unfold LY at h;cases zero with
    |bool b=>
     cases b with
     |true=>cases h
     |false=>
      cases ok with
      |true=>cases h
      |false=>
       obtain ⟨a,ha,h1⟩:=aW h;obtain ⟨b,hb,hk⟩:=bK h1;obtain ⟨k1,k2,k3,k4,k5⟩:=QL (bU hE q) ha;unfold SN at hb;cases hlk:qW a l with
       |false=>rw [hlk] at hb;cases hb
       |true=>
        rw [hlk] at hb;injection hb with hb;subst hb;obtain ⟨r,hr⟩:=wK k4 k5 (zJ k5 (wL hlk)) 0;have hf:=yE k4 k5 l 0 r hr;refine dU.rd hS hk ?_ rfl;show mF ps n (.bool false) false (m.ev pe) (q.ev pe)=_;rw [show m.ev pe=_ from hx,k1];simp only [mF,hS.set_ hst,k2,if_true,hr];cases r with
        |none=>simp only at hf;simp [hf]
        |some j=>
         obtain ⟨_,h2,h3⟩:=hf
         have:(l.map wF)[j]? =some (wF a):=by simp at h3;simp [h3]
         simp [this,h2,wF]
    |_=>cases h
   |tab p l=>
    dsimp only at h;unfold LZ at h;cases n with
    |some _=>cases h
    |none=>
     cases ok with
     |true=>cases h
     |false=>
      have hq:=bU hE q;generalize bC e q=u at h hq;cases u with
      |int d a=>
       cases d with
       |i64=>
        obtain ⟨zv,hz,hk⟩:=aW h;have hzero:=PT.of_R (KT s zero) hz;refine dU.rd hS hk ?_ (PT.sv_R p _);show mF ps none zero false (m.ev pe) (q.ev pe)=_;rw [show m.ev pe=_ from hx,show q.ev pe=_ from hq];rcases CF p a l with ⟨j,x,h1,h2,h3,_⟩|⟨h1,h2,_⟩
        · have h5:(l.map (AH p))[j]? =some (AH p x):=by simp [h2]
          simp only [mF,hS.tab_ hst,fB,if_true,h1,h5,h3,AH,Bool.false_eq_true,if_false]
        · simp only [mF,hS.tab_ hst,fB,if_true,h1,h2,hzero,Bool.false_eq_true,if_false]
       |_=>cases h
      |_=>cases h
   |_=>cases h
 |_=>cases h
theorem QM (hE:bW s e pe) (hS:bI s ps) {n:Option Nat} {m q x:cY} (h:hG e s z (.mapu n m q x) k ρ w=some y):dU s ps (aV pe ps z (.mapu n m q x)) k ρ w y:=by
 simp only [hG] at h;have hx:=bU hE m;generalize bC e m=v at h hx;cases v with
 |mp t=>
  simp only [bE] at h;generalize hst:s[t]? =b at h;cases b with
  |none=>cases h
  |some b=>
   cases b with
   |set l=>
    obtain ⟨hz,h0⟩:=lC h;unfold PZ at h0;have hv:=bU hE x;generalize bC e x=u at h0 hv;cases u with
    |bool b=>
     cases b with
     |false=>cases h0
     |true=>
      obtain ⟨a,ha,h1⟩:=aW h0;obtain ⟨b,hb,hk⟩:=bK h1;obtain ⟨k1,k2,k3,k4,k5⟩:=QL (bU hE q) ha;unfold SO at hb;cases hlk:qW a l with
      |false=>rw [hlk] at hb;cases hb
      |true=>
       rw [hlk] at hb;injection hb with hb;subst hb;obtain ⟨r,hr⟩:=wK k4 k5 (zJ k5 (wL hlk)) 0;have hf:=yE k4 k5 l 0 r hr;refine ⟨_,_,?_,eB.put0 hS (b:= .set (PU l a)) (q:= .map ((PU l a).map wF)) (rd:=[]) hst trivial rfl,hk⟩;show yZ ps z n (m.ev pe) (q.ev pe) (x.ev pe)=_;rw [show m.ev pe=_ from hx,k1,show x.ev pe= .bool true from hv]
       have p2:(PV.bool true).storedPlain=some [.bool true]:=rfl;simp only [yZ,hS.set_ hst,k2,hz,Bool.not_false,Bool.and_self,if_true,k3,p2,hr];cases r with
       |none=>simp only at hf;simp [PU,hf,wF]
       |some j=>
        obtain ⟨_,h2,h3⟩:=hf;have h5:l[j]? =some a:=by simpa using h3
        have:(l.map wF).set j (mE a,.bool true)=l.map wF:=by
         apply List.ext_getElem?;intro i;rw [List.getElem?_set];split
         · rename_i hij
           subst hij;have hlt:=(List.getElem?_eq_some_iff.1 h5).1;have h6:l[j]=a:=(List.getElem?_eq_some_iff.1 h5).2;simp [hlt,h6,wF]
         · rfl
        simp [PU,h2,this]
    |_=>cases h0
   |tab p l=>
    obtain ⟨hz,h0⟩:=lC h;unfold P0 at h0;cases n with
    |some _=>cases h0
    |none=>
     have hq:=bU hE q;generalize bC e q=u at h0 hq;cases u with
     |int d a=>
      cases d with
      |i64=>
       obtain ⟨xv,hxv,hk⟩:=aW h0;have hval:=PT.of_R (bU hE x) hxv;refine ⟨_,_,?_,eB.put0 hS (b:= .tab p (p.put l a xv)) (q:= .map ((p.put l a xv).map (AH p))) (rd:=[]) hst trivial rfl,hk⟩;show yZ ps z none (m.ev pe) (q.ev pe) (x.ev pe)=_;rw [show m.ev pe=_ from hx,show q.ev pe=_ from hq,hval];have p1:(PV.int .i64 a).storedPlain=some [.int .i64 a]:=rfl
       rcases CF p a l with ⟨j,x,h1,_,_,h3⟩|⟨h1,_,h3⟩
       · simp only [yZ,hS.tab_ hst,fB,hz,Bool.not_false,Bool.and_self,if_true,p1,PT.pv_plain,h1,h3,List.map_set,AH]
       · simp only [yZ,hS.tab_ hst,fB,hz,Bool.not_false,Bool.and_self,if_true,p1,PT.pv_plain,h1,h3,List.map_append,List.map_cons,List.map_nil,AH]
      |_=>cases h0
     |_=>cases h0
   |_=>cases h
 |_=>cases h
theorem tI.fr' {s s':List SB} {bad:List Nat} {t e:Nat} (h:tI s t e) (hf:Fr bad s s'):tI s' t e:=by
 rcases h with ⟨r,l,h1,h2⟩|h1
 · rcases hf t _ h1 with ⟨l',k1,_,_⟩|k1
   · exact .inl ⟨r,l',k1,h2⟩
   · exact .inr k1
 · exact .inr (hf t _ h1)
theorem uR {α:Type} {l r:List α} (h:bB l=some r):r=l/\l.length<=1048576:=by
 unfold bB at h;split at h
 · injection h with h;exact ⟨h.symm,by assumption⟩
 · cases h
theorem rA {α:Type} {l m r:List α} (h:bD l m=some r):r=l++m/\l.length+m.length<=1048576:=by
 unfold bD at h;split at h
 · injection h with h;exact ⟨h.symm,by assumption⟩
 · cases h
theorem mO: ∀(m l:List iP) (n:Nat),n+m.length<=l.length->gB n m l=eN l n m
 | [],l,n,h=>by simp [gB,eN]
 |a::m,l,n,h=>by
  simp only [List.length_cons] at h;rw [gB,mO m (l.set n a) (n+1) (by simp;omega)]
  unfold eN;rw [List.take_set,List.drop_set];have hn:n<l.length:=by omega
  have h1: ¬(n+1+m.length<=n):=by omega
  rw [if_pos (by omega)]
  have:(l.take (n+1)).set n a=l.take n++[a]:=by
   rw [List.take_succ_eq_append_getElem hn,List.set_append_right _ _ (by simp;omega)]
   simp [Nat.min_eq_left (Nat.le_of_lt hn)]
  rw [this];simp only [List.append_assoc,List.cons_append,List.nil_append,List.length_cons];rw [show n+1+m.length=n+(m.length+1) by omega]
theorem CG {α β:Type} (f:α->β) (l m:List α) (n:Nat):(eN l n m).map f=eN (l.map f) n (m.map f):=by
 simp [eN,List.map_take,List.map_drop]
theorem wM {α:Type} (l m:List α) (n:Nat) (h:n+m.length<=l.length):(eN l n m).length=l.length:=by
 simp [eN];omega
theorem KW (hE:bW s e pe) (hS:bI s ps) {esz:Nat} {x yy:cY} (h:hG e s z (.append esz x yy) k ρ w=some y):dU s ps (aV pe ps z (.append esz x yy)) k ρ w y:=by
 simp only [hG] at h;have hx:=bU hE x;have hyv:=bU hE yy;unfold LX at h;generalize bC e yy=vy at h hyv;cases hc:tF s vy with
 |none=>rw [hc] at h;cases h
 |some cc=>
  obtain ⟨q,m⟩:=cc;rw [hc] at h;dsimp only at h;obtain ⟨he,h⟩:=bJ h;have he:=Nat.eq_of_beq_eq_true he;obtain ⟨hro,htk⟩:=L6 hS hyv hc;rw [he] at hro;have pe_app:aV pe ps z (.append esz x yy)=eQ ps z esz (x.ev pe) (yy.ev pe):=rfl;generalize bC e x=v at h hx;cases v with
  |nil e' c=>
   dsimp only at h;obtain ⟨hcl,h⟩:=bJ h;obtain ⟨m',hm',hk⟩:=bK h;obtain ⟨rfl,hle⟩:=uR hm';refine ⟨_,_,?_,eB.new hS (b:= .arr q m') (q:= .arr esz (m'.map (RT.pv q))) (v:= .own s.length false) (p:= .own s.length esz 0 m'.length m'.length false) (rd:=oT vy) (by rw [<- he];rfl) ⟨esz,m'.length,rfl,.inl ⟨q,m',kE,he.symm,rfl⟩⟩,hk⟩
   rw [pe_app];have hcl':c=true:=hcl;subst hcl';rw [show x.ev pe= .sl e' true [] from hx];unfold eQ;rw [hro];cases m' with
   |nil=>simp [hS.len,htk]
   |cons a m'=>
    have h2:Nat.ble ((a::m').length) iO=true:=by simp [iO] at hle ⊢;omega
    simp only [List.length_cons] at h2;simp [hS.len,htk,h2]
  |own t ex=>
   dsimp only at h;simp only [bE] at h;generalize hst:s[t]? =b at h;cases b with
   |none=>cases h
   |some b=>
    cases b with
    |arr r l=>
     dsimp only at h;cases hca:mL q r m with
     |none=>rw [hca] at h;cases h
     |some m2=>
      rw [hca] at h;dsimp only at h;obtain ⟨rfl,hmp,hml⟩:=wE hca;obtain ⟨e',n',hx,hat⟩:=hx;obtain ⟨rfl,rfl⟩:=hat.inv hst;rw [<- hmp] at hro;have harr:=hS.arr hst;cases ex with
      |true=>
       dsimp only at h;rcases cM h with ⟨hl,h⟩|⟨hl,h⟩
       · obtain ⟨m',hm',hk⟩:=bK h
         obtain ⟨rfl,hle⟩:=uR hm';have hl:l=[]:=by simpa using hl
         subst hl;refine ⟨_,_,?_,eB.new hS (b:= .arr q m') (q:= .arr q.length (m'.map (RT.pv q))) (v:= .own s.length false) (p:= .own s.length q.length 0 m'.length m'.length false) (rd:=t::oT vy) rfl ⟨q.length,m'.length,rfl,.inl ⟨q,m',kE,rfl,rfl⟩⟩,hk⟩;rw [pe_app,hx];unfold eQ;rw [hro];subst he;cases m' with
         |nil=>simp [hS.len,htk]
         |cons a m'=>
          have h2:Nat.ble ((a::m').length) iO=true:=by simp [iO] at hle ⊢;omega
          simp only [List.length_cons] at h2;simp [hS.len,htk,h2,harr]
       · have hl:l≠[]:=by intro e;subst e;cases hl
         have hl0:l.length≠0:=by intro e;exact hl (List.length_eq_zero_iff.1 e)
         have hb0:Nat.beq l.length 0=false:=by
          cases hb:Nat.beq l.length 0 with
          |false=>rfl
          |true=>exact absurd (Nat.eq_of_beq_eq_true hb) hl0
         rcases cM h with ⟨hm,h⟩|⟨hm,h⟩
         · have hm:m2=[]:=by simpa using hm
           subst hm;refine dU.rd hS h ?_ ⟨_,_,rfl,hat⟩;rw [pe_app,hx];unfold eQ;rw [hro];simp [hb0,htk]
         · obtain ⟨l',hl',hk⟩:=bK h
           obtain ⟨rfl,hle⟩:=rA hl';refine ⟨_,_,?_,eB.new hS (b:= .arr q (l++m2)) (q:= .arr q.length ((l++m2).map (RT.pv q))) (v:= .own s.length false) (p:= .own s.length q.length 0 (l++m2).length (l++m2).length false) (rd:=t::oT vy) rfl ⟨q.length,(l++m2).length,rfl,.inl ⟨q,l++m2,kE,rfl,rfl⟩⟩,hk⟩;rw [pe_app,hx];unfold eQ;rw [hro];subst he;cases m2 with
           |nil=>cases hm
           |cons a m2=>
            have h2:Nat.ble (l.length+(a::m2).length) iO=true:=by simp [iO] at hle ⊢;omega
            have h3:Nat.ble (l.length+(m2.length+1)) l.length=false:=by
             cases hb:Nat.ble (l.length+(m2.length+1)) l.length with
             |false=>rfl
             |true=>have:=Nat.le_of_ble_eq_true hb;omega
            simp only [List.length_cons] at h2;simp [hS.len,htk,h2,h3,harr,List.take_of_length_le]
      |false=>
       dsimp only at h;rcases cM h with ⟨hm,h⟩|⟨hm,h⟩
       · have hm:m2=[]:=by simpa using hm
         subst hm;refine dU.rd hS h ?_ ⟨_,_,rfl,hat⟩;rw [pe_app,hx];unfold eQ;rw [hro];simp [htk]
       · obtain ⟨hz,h⟩:=lC h
         obtain ⟨l',hl',hk⟩:=bK h;obtain ⟨rfl,hle⟩:=rA hl';have hlen:(yC [t] (s.set t .dead)).length=s.length:=by rw [sL];simp
         refine ⟨_,_,?_,eB.put hS (b:= .dead) (q:= .dead) (l:=[.arr q (l++m2)]) (ql:=[.arr q.length ((l++m2).map (RT.pv q))]) (v:= .own s.length false) (p:= .own s.length q.length 0 (l++m2).length (l++m2).length false) (rd:=oT vy) hst (.inr rfl) rfl rfl
          (fun j b hj=>by
           cases j with
           |zero=>simp at hj;subst hj;exact ⟨_,rfl,rfl⟩
           |succ j=>simp at hj)
          ⟨q.length,(l++m2).length,rfl,.inl ⟨q,l++m2,by rw [<- hlen];exact kE,rfl,rfl⟩⟩,hk⟩
         rw [pe_app,hx];unfold eQ;rw [hro];subst he;cases m2 with
         |nil=>cases hm
         |cons a m2=>
          have h2:Nat.ble (l.length+(a::m2).length) iO=true:=by simp [iO] at hle ⊢;omega
          have h3:Nat.ble (l.length+(m2.length+1)) l.length=false:=by
           cases hb:Nat.ble (l.length+(m2.length+1)) l.length with
           |false=>rfl
           |true=>have:=Nat.le_of_ble_eq_true hb;omega
          simp only [List.length_cons] at h2;simp [hS.len,htk,h2,h3,harr,hz,List.take_of_length_le]
    |_=>cases h
  |pre t len cap ex=>
   dsimp only at h;simp only [bE] at h;generalize hst:s[t]? =b at h;cases b with
   |none=>cases h
   |some b=>
    cases b with
    |arr r l=>
     dsimp only at h;cases hca:mL q r m with
     |none=>rw [hca] at h;cases h
     |some m2=>
      rw [hca] at h;dsimp only at h;obtain ⟨rfl,hmp,hml⟩:=wE hca;obtain ⟨e',hx,hat⟩:=hx
      have:=hat.inv hst
      subst this;rw [<- hmp] at hro;have harr:=hS.arr hst;obtain ⟨hex,h⟩:=lC h;subst hex;rcases cM h with ⟨hm,h⟩|⟨hm,h⟩
      · have hm:m2=[]:=by simpa using hm
        subst hm;refine dU.rd hS h ?_ ⟨_,rfl,hat⟩;rw [pe_app,hx];unfold eQ;rw [hro];simp [htk]
      · rcases cM h with ⟨c1,h⟩|⟨c1,h⟩
        · obtain ⟨hc2,hk⟩:=eG h
          simp only [Bool.and_eq_true,Bool.not_eq_true'] at hc2;obtain ⟨c2,c3⟩:=hc2;have c2':=Nat.le_of_ble_eq_true c2
          refine ⟨_,_,?_,eB.put hS (b:= .arr q (eN l len m2)) (q:= .arr q.length ((eN l len m2).map (RT.pv q))) (l:=[]) (ql:=[]) (v:= .pre t (len+m2.length) cap false) (p:= .own t q.length 0 (len+m2.length) cap false) (rd:=oT vy) hst (.inl ⟨_,rfl,wM _ _ _ c2'⟩) rfl rfl
           (fun j b hj=>by simp at hj) ⟨q.length,rfl,?_⟩,hk⟩
          · rw [pe_app,hx]
            unfold eQ;rw [hro];subst he;have hsr:gB (0+len) (m2.map (RT.pv q)) (l.map (RT.pv q))=(eN l len m2).map (RT.pv q):=by
             rw [mO _ _ _ (by simp;omega),CG,Nat.zero_add]
            cases m2 with
            |nil=>cases hm
            |cons a m2=>
             simp only [List.length_cons] at c1;simp only [List.map_cons] at hsr ⊢;simp only [harr,Nat.beq_refl,Bool.not_true,Bool.false_eq_true,if_false,List.length_cons,List.length_map,c1,if_true,c3,hsr,htk]
          · have:=tI.fr' (s:=s) (s':=yC [t] (s.set t (.arr q (eN l len m2)))++[]) hat ((Fr.dg (ts:=[t]) (Fr.set hst (.inl ⟨_,rfl,wM _ _ _ c2'⟩))).trans (Fr.app [t] _ []))
            exact this
        · obtain ⟨hz0,h⟩:=lC h
          have hz:has z t=false:=by
           cases hh:has z t with
           |false=>rfl
           |true=>rw [hh] at hz0;cases hz0
          obtain ⟨l',hl',h⟩:=bK h;obtain ⟨hll,hk⟩:=eG h;obtain ⟨hl'e,hle⟩:=rA hl';subst hl'e;have hll':=Nat.le_of_ble_eq_true hll;have htl:(l.take len).length=len:=by rw [List.length_take];omega
          rw [htl] at hle;have hlen:(yC [t] (s.set t .dead)).length=s.length:=by rw [sL];simp
          have hal:(l.take len++m2).length=len+m2.length:=by rw [List.length_append,htl]
          refine ⟨_,_,?_,eB.put hS (b:= .dead) (q:= .dead) (l:=[.arr q (l.take len++m2)]) (ql:=[.arr q.length ((l.take len++m2).map (RT.pv q))]) (v:= .own s.length false) (p:= .own s.length q.length 0 (l.take len++m2).length (l.take len++m2).length false) (rd:=oT vy) hst (.inr rfl) rfl rfl
           (fun j b hj=>by
            cases j with
            |zero=>simp at hj;subst hj;exact ⟨_,rfl,rfl⟩
            |succ j=>simp at hj)
           ⟨q.length,(l.take len++m2).length,rfl,.inl ⟨q,l.take len++m2,by rw [<- hlen];exact kE,rfl,rfl⟩⟩,hk⟩
          rw [pe_app,hx];unfold eQ;rw [hro];subst he;cases m2 with
          |nil=>cases hm
          |cons a m2=>
           have h2:Nat.ble (len+(m2.length+1)) iO=true:=by simp [iO] at hle ⊢;omega
           simp only [List.length_cons] at c1 hal;simp only [List.map_cons,List.length_cons,List.length_map,harr,Nat.beq_refl,Bool.not_true,Bool.false_eq_true,if_false,c1,h2,hz,hS.len,htk,hal,List.drop_zero,List.map_append,List.map_take]
    |_=>cases h
  |_=>cases h
end
end Go.Vm
/- Operation by operation: all of them. -/
namespace Go.Vm
section
variable {R' ρ : Type} {w : R' -> ρ} {y : ρ} {s : List SB} {ps : bH} {e : SE} {pe : lY} {z : List Nat} {k : dG -> dT R'}
theorem OF (hE:bW s e pe) (hS:bI s ps) {esz:Nat} {zero:iP} {x:cY} (h:hG e s z (.clear esz zero x) k ρ w=some y):dU s ps (aV pe ps z (.clear esz zero x)) k ρ w y:=by
 simp only [hG] at h;have hx:=bU hE x;unfold PY at h;generalize bC e x=v at h hx;cases v with
 |part t off len cap ex=>
  simp only [bE] at h;generalize hst:s[t]? =b at h;cases b with
  |none=>cases h
  |some b=>
   cases b with
   |arr r l=>
    dsimp only at h;cases hq:BX zero with
    |none=>rw [hq] at h;cases h
    |some q=>
     rw [hq] at h;dsimp only at h;obtain ⟨hc,h1⟩:=bJ h;simp only [Bool.and_eq_true] at hc;obtain ⟨hqr,he⟩:=hc;have hqr:=nU hqr;have he:=Nat.eq_of_beq_eq_true he;obtain ⟨e',hx,hat⟩:=hx
     have:=hat.inv hst
     subst this;subst hqr;subst he;rcases cM h1 with ⟨hl,hk⟩|⟨hl,hk⟩
     · have hl:=Nat.eq_of_beq_eq_true hl
       subst hl;exact dU.val hS hk (by simp only [aV,hx]) rfl
     · obtain ⟨hc2,hk⟩:=eG hk
       simp only [Bool.and_eq_true,Bool.not_eq_true'] at hc2;obtain ⟨c1,c2⟩:=hc2;have c1':=Nat.le_of_ble_eq_true c1;have hlen:=wM l (List.replicate len (RT.zero q)) off (by simpa using c1')
       refine ⟨_,_,?_,eB.put0 hS (b:= .arr q (eN l off (List.replicate len (RT.zero q)))) (q:= .arr q.length ((eN l off (List.replicate len (RT.zero q))).map (RT.pv q))) (rd:=[]) hst (.inl ⟨_,rfl,hlen⟩) rfl,hk⟩;cases len with
       |zero=>cases hl
       |succ len=>
        have hsr:gB off (List.replicate (len+1) zero) (l.map (RT.pv q))=(eN l off (List.replicate (len+1) (RT.zero q))).map (RT.pv q):=by
         rw [CG,mO _ _ _ (by simpa using c1')]
         simp [wJ hq]
        simp only [aV,hx,hS.arr hst,Nat.beq_refl,c2,Bool.not_false,Bool.and_self,if_true,hsr]
   |_=>cases h
 |_=>cases h
theorem uS (hS:bI s ps) {t off len cap:Nat} {ex:Bool} {r:List PT} {l:List (RT r)} {x yy:cY} {vy:SV} (hst:s[t]? =some (.arr r l)) (hx:x.ev pe= .own t r.length off len cap ex) (hyv:R s vy (yy.ev pe))
 (h:BY s z t r l off len vy k ρ w=some y):dU s ps (aV pe ps z (.copy r.length x yy)) k ρ w y:=by
 unfold BY at h;cases hc:tF s vy with
 |none=>rw [hc] at h;cases h
 |some cc=>
  obtain ⟨q,m⟩:=cc;rw [hc] at h;dsimp only at h;cases hca:mL q r m with
  |none=>rw [hca] at h;cases h
  |some m2=>
   rw [hca] at h;dsimp only at h;obtain ⟨hqr,hmp,hml⟩:=wE hca;subst hqr;obtain ⟨hro,htk⟩:=L6 hS hyv hc;rw [<- hmp] at hro;have htake:(m2.map (RT.pv q)).take len=(m2.take len).map (RT.pv q):=by rw [List.map_take]
   generalize m2.take len=mm at h htake;rcases cM h with ⟨hm,hk⟩|⟨hm,hk⟩
   · have hm:mm=[]:=by simpa using hm
     subst hm;refine dU.rd hS hk ?_ rfl;simp only [aV,hro,hx,htake,List.map_nil,htk]
   · obtain ⟨hc2,hk⟩:=eG hk
     simp only [Bool.and_eq_true,Bool.not_eq_true'] at hc2;obtain ⟨c1,c2⟩:=hc2;have c1':=Nat.le_of_ble_eq_true c1;have hlen:=wM l mm off c1'
     refine ⟨_,_,?_,eB.put hS (b:= .arr q (eN l off mm)) (q:= .arr q.length ((eN l off mm).map (RT.pv q))) (l:=[]) (ql:=[]) (v:= .int .i64 (.ofNat mm.length)) (p:= .int .i64 (.ofNat mm.length)) (rd:=oT vy) hst (.inl ⟨_,rfl,hlen⟩) rfl rfl (fun j b hj=>by simp at hj) rfl,hk⟩
     have hsr:gB off (mm.map (RT.pv q)) (l.map (RT.pv q))=(eN l off mm).map (RT.pv q):=by
      rw [CG,mO _ _ _ (by simpa using c1')]
     cases mm with
     |nil=>cases hm
     |cons a mm=>
      simp only [List.map_cons] at hsr htake;simp only [aV,hro,hx,htake,hS.arr hst,Nat.beq_refl,c2,Bool.not_false,Bool.and_self,if_true,hsr,htk,List.length_map,List.length_cons]
theorem QN (hE:bW s e pe) (hS:bI s ps) {esz:Nat} {x yy:cY} (h:hG e s z (.copy esz x yy) k ρ w=some y):dU s ps (aV pe ps z (.copy esz x yy)) k ρ w y:=by
 simp only [hG] at h;have hx:=bU hE x;have hyv:=bU hE yy;unfold aCe at h;generalize bC e yy=vy at h hyv;generalize bC e x=v at h hx;cases v with
 |own t ex=>
  simp only [bE] at h;generalize hst:s[t]? =b at h;cases b with
  |none=>cases h
  |some b=>
   cases b with
   |arr r l=>
    obtain ⟨he,hk⟩:=bJ h;have he:=Nat.eq_of_beq_eq_true he;subst he;obtain ⟨e',n',hx,hat⟩:=hx;obtain ⟨rfl,rfl⟩:=hat.inv hst;exact uS hS hst hx hyv hk
   |_=>cases h
 |pre t len cap ex=>
  simp only [bE] at h;generalize hst:s[t]? =b at h;cases b with
  |none=>cases h
  |some b=>
   cases b with
   |arr r l=>
    obtain ⟨he,hk⟩:=bJ h;have he:=Nat.eq_of_beq_eq_true he;subst he;obtain ⟨e',hx,hat⟩:=hx
    have:=hat.inv hst
    subst this;exact uS hS hst hx hyv hk
   |_=>cases h
 |part t off len cap ex=>
  simp only [bE] at h;generalize hst:s[t]? =b at h;cases b with
  |none=>cases h
  |some b=>
   cases b with
   |arr r l=>
    obtain ⟨he,hk⟩:=bJ h;have he:=Nat.eq_of_beq_eq_true he;subst he;obtain ⟨e',hx,hat⟩:=hx
    have:=hat.inv hst
    subst this;exact uS hS hst hx hyv hk
   |_=>cases h
 |_=>cases h
theorem TC (hE:bW s e pe) (hS:bI s ps) {op:gE} (h:hG e s z op k ρ w=some y):dU s ps (aV pe ps z op) k ρ w y:=by
 cases op with
 |mov x=>exact dU.val hS h rfl (bU hE x)
 |pick c a b=>exact QH hE hS h
 |bin op a b=>exact S0 hE hS h
 |binb n a b=>exact QC hE hS h
 |eqc n g a b=>exact S1 hE hS h
 |un op a=>exact aCD hE hS h
 |conv a x=>exact QE hE hS h
 |len x=>exact S2 hE hS h
 |lenc n=>exact dU.val hS h rfl rfl
 |box x=>exact S3 hE hS h
 |alloc c=>exact OB hS h
 |build z p=>exact OA hE hS h
 |mkrow a b c d=>exact OE hE hS h
 |load a p=>exact QK hE hS h
 |store a p x=>exact OD hE hS h
 |nilc x=>exact QF hE hS h
 |fadr o x=>exact QG hE hS h
 |fld a o x=>exact S4 hE hS h
 |iadr a x i=>exact QI hE hS h
 |iadra n a x i=>exact OC hE hS h
 |idx n a g x i=>exact S8 hE hS h
 |sidx x i=>exact QJ hE hS h
 |slc a x l h' m=>exact S9 hE hS h
 |mks a z l c=>exact TB hE hS h
 |mkf f a b=>exact S6 hE hS h
 |mkm m=>exact S7 hS h
 |lookup n z o m q=>exact KV hE hS h
 |mapu n m q x=>exact QM hE hS h
 |ext i x=>exact S5 hE hS h
 |append a x b=>exact KW hE hS h
 |copy a x b=>exact QN hE hS h
 |clear a z x=>exact OF hE hS h
 |mm m x xs=>exact aCE hE hS h
 |call m f a=>cases h
 |callv x a=>cases h
 |bad=>cases h
mutual
theorem aHI {bx:Nat->Option (List SV)} {pbx:Nat->Option (List PV)} (hS:bI s ps) (hb: ∀t l,bx t=some l-> ∃q,pbx t=some q/\pvL l=some q): ∀{v u:SV} {p:PV},R s v p->EI s bx v=some u-> ∃q,xJ ps pbx p=some q/\lI u=some q
 | .int k n,u,p,h,hx=>by injection hx with hx;subst hx;rw [show p=_ from h];exact ⟨_,rfl,rfl⟩
 | .bool b,u,p,h,hx=>by injection hx with hx;subst hx;rw [show p=_ from h];exact ⟨_,rfl,rfl⟩
 | .str x,u,p,h,hx=>by injection hx with hx;subst hx;rw [show p=_ from h];exact ⟨_,rfl,rfl⟩
 | .nilf,u,p,h,hx=>by injection hx with hx;subst hx;rw [show p=_ from h];exact ⟨_,rfl,rfl⟩
 | .agg cs,u,p,h,hx=>by
  obtain ⟨q,rfl,h⟩:=h;simp only [EI] at hx;split at hx
  · rename_i l hl
    injection hx with hx;subst hx;obtain ⟨q',h1,h2⟩:=exVL_R hS hb h hl;exact ⟨.agg q',by simp only [xJ,h1];rfl,by simp only [lI,h2]⟩
  · cases hx
 | .tup cs,u,p,h,hx=>by
  obtain ⟨q,rfl,h⟩:=h;simp only [EI] at hx;split at hx
  · rename_i l hl
    injection hx with hx;subst hx;obtain ⟨q',h1,h2⟩:=exVL_R hS hb h hl;exact ⟨.tup q',by simp only [xJ,h1];rfl,by simp only [lI,h2]⟩
  · cases hx
 | .sl r l,u,p,h,hx=>by injection hx with hx;subst hx;rw [show p=_ from h];exact ⟨_,rfl,rfl⟩
 | .nil e c,u,p,h,hx=>by injection hx with hx;subst hx;rw [show p=_ from h];exact ⟨_,rfl,rfl⟩
 | .own t ex,u,p,h,hx=>by
  simp only [EI,bE] at hx;split at hx
  · rename_i r l hst
    injection hx with hx;subst hx;obtain ⟨e,n,rfl,hat⟩:=h;obtain ⟨rfl,rfl⟩:=hat.inv hst;refine ⟨.sl r.length false (l.map (RT.pv r)),?_,rfl⟩;simp only [xJ,hS.arr hst,List.drop_zero];rw [List.take_of_length_le (by simp)]
  · cases hx
 | .pre t len cap ex,u,p,h,hx=>by
  simp only [EI,bE] at hx;split at hx
  · rename_i r l hst
    injection hx with hx;subst hx;obtain ⟨e,rfl,hat⟩:=h
    have:=hat.inv hst
    subst this;refine ⟨.sl r.length false ((l.take len).map (RT.pv r)),?_,rfl⟩;simp only [xJ,hS.arr hst,List.drop_zero,List.map_take]
  · cases hx
 | .part t off len cap ex,u,p,h,hx=>by
  simp only [EI,bE] at hx;split at hx
  · rename_i r l hst
    injection hx with hx;subst hx;obtain ⟨e,rfl,hat⟩:=h
    have:=hat.inv hst
    subst this;refine ⟨.sl r.length false (((l.drop off).take len).map (RT.pv r)),?_,rfl⟩;simp only [xJ,hS.arr hst,List.map_take,List.map_drop]
  · cases hx
 | .pa t r i a off,u,p,h,hx=>by
  simp only [EI,bE] at hx;split at hx
  · rename_i q l hst
    injection hx with hx;subst hx;obtain ⟨rfl,hat⟩:=h;obtain ⟨rfl,hg⟩:=hat.inv hst;obtain ⟨m,rfl,hm⟩:=iK hg;refine ⟨.rptr (RT.pv r a) off,?_,by simp only [lI,RT.pv_sv]⟩
    have hm':(l.map (RT.pv r))[m]? =some (RT.pv r a):=by simp [hm]
    have e1:(Int.ofNat m).toNat=m:=rfl;simp only [xJ,hS.arr hst,e1,hm'];rfl
  · cases hx
 | .bp t n off,u,p,h,hx=>by
  simp only [EI,bE] at hx;split at hx
  · rename_i cs hst
    split at hx
    · rename_i l hl
      injection hx with hx;subst hx;rw [show p=_ from h];obtain ⟨q,h1,h2⟩:=hb t l hl;obtain ⟨c,h3,_⟩:=hS.box hst;refine ⟨.rptr q off,?_,by simp only [lI,h2]⟩
      simp only [xJ,h3,Nat.beq_refl,if_true,h1];rfl
    · cases hx
  · cases hx
 | .rptr cs off,u,p,h,hx=>by
  obtain ⟨q,rfl,h⟩:=h;simp only [EI] at hx;split at hx
  · rename_i l hl
    injection hx with hx;subst hx;obtain ⟨q',h1,h2⟩:=exVL_R hS hb h hl;exact ⟨.rptr q' off,by simp only [xJ,h1];rfl,by simp only [lI,h2]⟩
  · cases hx
 | .clo f a b,u,p,h,hx=>by
  obtain ⟨pa,pb,rfl,h1,h2⟩:=h;simp only [EI] at hx;split at hx
  · rename_i x y' h3 h4
    injection hx with hx;subst hx;obtain ⟨qa,h5,h6⟩:=exVL_R hS hb h1 h3;obtain ⟨qb,h7,h8⟩:=exVL_R hS hb h2 h4;exact ⟨.clo f qa qb,by simp only [xJ,h5,h7],by simp only [lI,h6,h8]⟩
  · cases hx
 | .junk,_,_,_,hx| .undef,_,_,_,hx| .nul,_,_,_,hx| .pb _ _ _,_,_,_,hx| .mp _,_,_,_,hx=>by cases hx
theorem exVL_R {bx:Nat->Option (List SV)} {pbx:Nat->Option (List PV)} (hS:bI s ps) (hb: ∀t l,bx t=some l-> ∃q,pbx t=some q/\pvL l=some q): ∀{v u:List SV} {p:List PV},RL s v p->exVL s bx v=some u-> ∃q,exL ps pbx p=some q/\pvL u=some q
 | [],u,p,h,hx=>by injection hx with hx;subst hx;rw [show p=_ from h];exact ⟨_,rfl,rfl⟩
 |x::xs,u,p,h,hx=>by
  obtain ⟨q,qs,rfl,h1,h2⟩:=h.cons_inv;simp only [exVL] at hx;split at hx
  · rename_i y' ys h3 h4
    injection hx with hx;subst hx;obtain ⟨a,h5,h6⟩:=aHI hS hb h1 h3;obtain ⟨as,h7,h8⟩:=exVL_R hS hb h2 h4;exact ⟨a::as,by simp only [exL,h5,h7],cA.2 ⟨a,as,rfl,h6,h8⟩⟩
  · cases hx
end
theorem AU (hS:bI s ps): ∀(n t:Nat) (l:List SV),fV s n t=some l-> ∃q,sQ ps n t=some q/\pvL l=some q
 |0,t,l,h=>by cases h
 |n+1,t,l,h=>by
  simp only [fV,bE] at h;split at h
  · rename_i cs hst
    obtain ⟨q,h1,h2⟩:=hS.box hst;obtain ⟨u,h3,h4⟩:=exVL_R hS (AU hS n) h2 h;exact ⟨u,by simp only [sQ,h1,h3],h4⟩
  · cases h
mutual
theorem QO {bx pbx:Nat->List Nat} (hb: ∀t,bx t=pbx t): ∀{v:SV} {p:PV},R s v p->v.sure=true->KM bx v=eW pbx p
 | .junk,_,_,h=>by cases h
 | .undef,p,h,_| .nul,p,h,_| .nilf,p,h,_| .int _ _,p,h,_| .bool _,p,h,_| .str _,p,h,_| .sl _ _,p,h,_| .nil _ _,p,h,_=>by rw [show p=_ from h];rfl
 | .agg cs,p,h,hs=>by obtain ⟨q,rfl,h⟩:=h;exact tkVL_R hb h hs
 | .tup cs,p,h,hs=>by obtain ⟨q,rfl,h⟩:=h;exact tkVL_R hb h hs
 | .own t ex,p,h,_=>by obtain ⟨e,n,rfl,_⟩:=h;rfl
 | .pre t a b c,p,h,_=>by obtain ⟨e,rfl,_⟩:=h;rfl
 | .part t o a b c,p,h,_=>by obtain ⟨e,rfl,_⟩:=h;rfl
 | .pa t r i a o,p,h,_=>by obtain ⟨rfl,_⟩:=h;simp only [KM,eW,hb]
 | .pb t i o,p,h,_=>by obtain ⟨e,rfl,_⟩:=h;simp only [KM,eW,hb]
 | .bp t n o,p,h,_=>by rw [show p=_ from h];simp only [KM,eW,hb]
 | .rptr cs o,p,h,hs=>by obtain ⟨q,rfl,h⟩:=h;exact tkVL_R hb h hs
 | .mp t,p,h,_=>by rw [show p=_ from h];rfl
 | .clo f a b,p,h,hs=>by
  obtain ⟨pa,pb,rfl,h1,h2⟩:=h;simp only [SV.sure,Bool.and_eq_true] at hs;simp only [KM,eW,tkVL_R hb h1 hs.1,tkVL_R hb h2 hs.2]
theorem tkVL_R {bx pbx:Nat->List Nat} (hb: ∀t,bx t=pbx t): ∀{v:List SV} {p:List PV},RL s v p->sureL v=true->tkVL bx v=toksL pbx p
 | [],p,h,_=>by rw [show p=_ from h];rfl
 |x::xs,p,h,hs=>by
  obtain ⟨q,qs,rfl,h1,h2⟩:=h.cons_inv;simp only [sureL,Bool.and_eq_true] at hs;simp only [tkVL,toksL,QO hb h1 hs.1,tkVL_R hb h2 hs.2]
end
end
end Go.Vm
/- The head of a loop: what the typed machine keeps there, the logical machine keeps there. -/
namespace Go.Vm
section
variable {s : List SB} {ps : bH}
mutual
theorem aHJ {n:Nat} (hS:bI s ps) (hB: ∀t l,fV s n t=some l->qH s n t=bN ps n t): ∀{v u:SV} {p:PV},R s v p->EI s (fV s n) v=some u->KM (qH s n) v=eW (bN ps n) p
 | .int _ _,_,p,h,_| .bool _,_,p,h,_| .str _,_,p,h,_| .nilf,_,p,h,_| .sl _ _,_,p,h,_| .nil _ _,_,p,h,_=>by rw [show p=_ from h];rfl
 | .agg cs,u,p,h,hx=>by
  obtain ⟨q,rfl,h⟩:=h;simp only [EI] at hx;split at hx
  · rename_i l hl;exact tkExL hS hB h hl
  · cases hx
 | .tup cs,u,p,h,hx=>by
  obtain ⟨q,rfl,h⟩:=h;simp only [EI] at hx;split at hx
  · rename_i l hl;exact tkExL hS hB h hl
  · cases hx
 | .own t ex,_,p,h,_=>by obtain ⟨e,n,rfl,_⟩:=h;rfl
 | .pre t a b c,_,p,h,_=>by obtain ⟨e,rfl,_⟩:=h;rfl
 | .part t o a b c,_,p,h,_=>by obtain ⟨e,rfl,_⟩:=h;rfl
 | .pa t r i a o,_,p,h,hx=>by
  obtain ⟨rfl,hat⟩:=h;simp only [EI,bE] at hx;split at hx
  · rename_i q l hst
    simp only [KM,eW];cases n with
    |zero=>rfl
    |succ n=>simp only [qH,bN,bE,hst,hS.arr hst]
  · cases hx
 | .bp t m o,u,p,h,hx=>by
  rw [show p=_ from h];simp only [EI,bE] at hx;split at hx
  · split at hx
    · rename_i l hl
      simp only [KM,eW,hB t l hl]
    · cases hx
  · cases hx
 | .rptr cs o,u,p,h,hx=>by
  obtain ⟨q,rfl,h⟩:=h;simp only [EI] at hx;split at hx
  · rename_i l hl;exact tkExL hS hB h hl
  · cases hx
 | .clo f a b,u,p,h,hx=>by
  obtain ⟨pa,pb,rfl,h1,h2⟩:=h;simp only [EI] at hx;split at hx
  · rename_i x y h3 h4
    simp only [KM,eW,tkExL hS hB h1 h3,tkExL hS hB h2 h4]
  · cases hx
 | .junk,_,_,_,hx| .undef,_,_,_,hx| .nul,_,_,_,hx| .pb _ _ _,_,_,_,hx| .mp _,_,_,_,hx=>by cases hx
theorem tkExL {n:Nat} (hS:bI s ps) (hB: ∀t l,fV s n t=some l->qH s n t=bN ps n t): ∀{v u:List SV} {p:List PV},RL s v p->exVL s (fV s n) v=some u->tkVL (qH s n) v=toksL (bN ps n) p
 | [],_,p,h,_=>by rw [show p=_ from h];rfl
 |x::xs,u,p,h,hx=>by
  obtain ⟨q,qs,rfl,h1,h2⟩:=h.cons_inv;simp only [exVL] at hx;split at hx
  · rename_i a b h3 h4
    simp only [tkVL,toksL,aHJ hS hB h1 h3,tkExL hS hB h2 h4]
  · cases hx
end
theorem QP {n:Nat} (hS:bI s ps) (hB: ∀t l,fV s n t=some l->qH s n t=bN ps n t): ∀{v:List SV} {p:List PV},RL s v p->KL s (fV s n) v=true->tkVL (qH s n) v=toksL (bN ps n) p
 | [],p,h,_=>by rw [show p=[] from h];rfl
 |x::xs,p,h,hx=>by
  obtain ⟨a,as,rfl,h1,h2⟩:=h.cons_inv;have other: ∀u,EI s (fV s n) x=some u->KL s (fV s n) xs=true->tkVL (qH s n) (x::xs)=toksL (bN ps n) (a::as):=fun u h3 h4=>by
   simp only [tkVL,toksL,aHJ hS hB h1 h3,QP hS hB h2 h4]
  unfold KL at hx;split at hx
  · rename_i t
    rw [show a= .mp t from h1];simp only [tkVL,toksL,KM,eW,QP hS hB h2 hx]
  · split at hx
    · rename_i u h3
      exact other u h3 hx
    · cases hx
theorem CH (hS:bI s ps): ∀(n t:Nat) (l:List SV),fV s n t=some l->qH s n t=bN ps n t
 |0,t,l,h=>rfl
 |n+1,t,l,h=>by
  simp only [fV,bE] at h;split at h
  · rename_i cs hst
    obtain ⟨q,h1,h2⟩:=hS.box hst;simp only [qH,bN,bE,hst,h1];exact tkExL hS (CH hS n) h2 h
  · cases h
theorem F5 {b:SB} {q:fL} (h:RB s b q) (hs:sI b=true):BZ b=kT q:=by
 cases b with
 |box cs=>obtain ⟨c,rfl,h⟩:=h;exact tkVL_R (fun _=>rfl) h hs
 |arr r l=>rw [show q=_ from h];rfl
 |set l=>rw [show q=_ from h];rfl
 |tab p l=>rw [show q=_ from h];rfl
 |dead=>rw [show q=_ from h];rfl
theorem CI (hS:bI s ps): ∀(n:Nat) (ts seen m:List Nat),yA s n ts seen=some m->vK ps n ts seen=some m
 |n,[],seen,m,h=>by
  cases n<;>(simp only [yA] at h;exact h)
 |0,_::_,_,_,h=>by cases h
 |n+1,t::ts,seen,m,h=>by
  simp only [yA,bE] at h;simp only [vK];cases hh:has seen t with
  |true=>rw [hh] at h;simp only [cond_true] at h;simp only [if_true];exact CI hS n ts seen m h
  |false=>
   rw [hh] at h;simp only [cond_false] at h;simp only [Bool.false_eq_true,if_false];split at h
   · rename_i b hst
     obtain ⟨q,h1,h2⟩:=hS.at_ t b hst;cases hb:sI b with
     |false=>rw [hb] at h;cases h
     |true=>
      rw [hb] at h;simp only [cond_true] at h;rw [h1,F5 h2 hb] at*;exact CI hS n _ _ m h
   · cases h
theorem CJ: ∀{t u:Nat} {m:List Nat},jV t m=some u->m[u]? =some t
 |t,u,[],h=>by cases h
 |t,u,x::m,h=>by
  simp only [jV] at h;cases hb:Nat.beq x t with
  |true=>rw [hb] at h;simp at h;subst h;simp [Nat.eq_of_beq_eq_true hb]
  |false=>
   rw [hb] at h;simp only [Bool.false_eq_true,if_false,Option.map_eq_some_iff] at h;obtain ⟨v,hv,rfl⟩:=h;simpa using CJ hv
def CK (m:List Nat) (s s':List SB):Prop:= ∀(t u:Nat) (b:SB),jV t m=some u->s[t]? =some b->match b with
 | .arr r l=>s'[u]? =some (.arr r l)
 | .dead=>s'[u]? =some .dead
 |_=>True
mutual
theorem QQ {m:List Nat} {s':List SB} (hr:CK m s s'): ∀{v u:SV} {p:PV},R s v p->kD m v=some u-> ∃q,vL m p=some q/\R s' u q
 | .junk,_,_,_,hx=>by cases hx
 | .undef,u,p,h,hx| .nul,u,p,h,hx| .nilf,u,p,h,hx| .int _ _,u,p,h,hx| .bool _,u,p,h,hx| .str _,u,p,h,hx| .sl _ _,u,p,h,hx| .nil _ _,u,p,h,hx=>by
  injection hx with hx;subst hx;rw [show p=_ from h];exact ⟨_,rfl,rfl⟩
 | .agg cs,u,p,h,hx=>by
  obtain ⟨q,rfl,h⟩:=h;simp only [kD] at hx;split at hx
  · rename_i l hl
    injection hx with hx;subst hx;obtain ⟨q',h1,h2⟩:=renVL_R hr h hl;exact ⟨.agg q',by simp only [vL,h1];rfl,q',rfl,h2⟩
  · cases hx
 | .tup cs,u,p,h,hx=>by
  obtain ⟨q,rfl,h⟩:=h;simp only [kD] at hx;split at hx
  · rename_i l hl
    injection hx with hx;subst hx;obtain ⟨q',h1,h2⟩:=renVL_R hr h hl;exact ⟨.tup q',by simp only [vL,h1];rfl,q',rfl,h2⟩
  · cases hx
 | .own t ex,u,p,h,hx=>by
  obtain ⟨e,n,rfl,hat⟩:=h;simp only [kD] at hx;split at hx
  · rename_i v hv
    injection hx with hx;subst hx;refine ⟨.own v e 0 n n ex,by simp only [vL,hv];rfl,e,n,rfl,?_⟩
    rcases hat with ⟨r,l,h1,h2,h3⟩|h1
    · exact .inl ⟨r,l,hr t v _ hv h1,h2,h3⟩
    · exact .inr (hr t v _ hv h1)
  · cases hx
 | .pre t len cap ex,u,p,h,hx=>by
  obtain ⟨e,rfl,hat⟩:=h;simp only [kD] at hx;split at hx
  · rename_i v hv
    injection hx with hx;subst hx;refine ⟨.own v e 0 len cap ex,by simp only [vL,hv];rfl,e,rfl,?_⟩
    rcases hat with ⟨r,l,h1,h2⟩|h1
    · exact .inl ⟨r,l,hr t v _ hv h1,h2⟩
    · exact .inr (hr t v _ hv h1)
  · cases hx
 | .part t off len cap ex,u,p,h,hx=>by
  obtain ⟨e,rfl,hat⟩:=h;simp only [kD] at hx;split at hx
  · rename_i v hv
    injection hx with hx;subst hx;refine ⟨.own v e off len cap ex,by simp only [vL,hv];rfl,e,rfl,?_⟩
    rcases hat with ⟨r,l,h1,h2⟩|h1
    · exact .inl ⟨r,l,hr t v _ hv h1,h2⟩
    · exact .inr (hr t v _ hv h1)
  · cases hx
 | .pa t r i a off,u,p,h,hx=>by
  obtain ⟨rfl,hat⟩:=h;simp only [kD] at hx;split at hx
  · rename_i v hv
    injection hx with hx;subst hx;refine ⟨.ptr v r.length i.toNat off,by simp only [vL,hv];rfl,r.length,rfl,?_⟩
    rcases hat with ⟨l,h1,h2⟩|h1
    · exact .inl ⟨r,l,hr t v _ hv h1,by rw [h2];rfl⟩
    · exact .inr (hr t v _ hv h1)
  · cases hx
 | .pb t i off,u,p,h,hx=>by
  obtain ⟨e,rfl,hat⟩:=h;simp only [kD] at hx;split at hx
  · rename_i v hv
    injection hx with hx;subst hx;refine ⟨.ptr v e i.toNat off,by simp only [vL,hv];rfl,e,rfl,?_⟩
    rcases hat with ⟨r,l,h1,h2⟩|h1
    · exact .inl ⟨r,l,hr t v _ hv h1,h2⟩
    · exact .inr (hr t v _ hv h1)
  · cases hx
 | .bp t n off,u,p,h,hx=>by
  rw [show p=_ from h];simp only [kD] at hx;split at hx
  · rename_i v hv
    injection hx with hx;subst hx;exact ⟨.ptr v n 0 off,by simp only [vL,hv];rfl,rfl⟩
  · cases hx
 | .rptr cs off,u,p,h,hx=>by
  obtain ⟨q,rfl,h⟩:=h;simp only [kD] at hx;split at hx
  · rename_i l hl
    injection hx with hx;subst hx;obtain ⟨q',h1,h2⟩:=renVL_R hr h hl;exact ⟨.rptr q' off,by simp only [vL,h1];rfl,q',rfl,h2⟩
  · cases hx
 | .mp t,u,p,h,hx=>by
  rw [show p=_ from h];simp only [kD] at hx;split at hx
  · rename_i v hv
    injection hx with hx;subst hx;exact ⟨.mp v,by simp only [vL,hv];rfl,rfl⟩
  · cases hx
 | .clo f a b,u,p,h,hx=>by
  obtain ⟨pa,pb,rfl,h1,h2⟩:=h;simp only [kD] at hx;split at hx
  · rename_i x y h3 h4
    injection hx with hx;subst hx;obtain ⟨qa,h5,h6⟩:=renVL_R hr h1 h3;obtain ⟨qb,h7,h8⟩:=renVL_R hr h2 h4;exact ⟨.clo f qa qb,by simp only [vL,h5,h7],qa,qb,rfl,h6,h8⟩
  · cases hx
theorem renVL_R {m:List Nat} {s':List SB} (hr:CK m s s'): ∀{v u:List SV} {p:List PV},RL s v p->renVL m v=some u-> ∃q,renL m p=some q/\RL s' u q
 | [],u,p,h,hx=>by injection hx with hx;subst hx;rw [show p=_ from h];exact ⟨_,rfl,rfl⟩
 |x::xs,u,p,h,hx=>by
  obtain ⟨q,qs,rfl,h1,h2⟩:=h.cons_inv;simp only [renVL] at hx;split at hx
  · rename_i a b h3 h4
    injection hx with hx;subst hx;obtain ⟨a',h5,h6⟩:=QQ hr h1 h3;obtain ⟨b',h7,h8⟩:=renVL_R hr h2 h4;exact ⟨a'::b',by simp only [renL,h5,h7],RL.cons h6 h8⟩
  · cases hx
end
theorem aCF {m:List Nat} {s':List SB} (hr:CK m s s') {b c:SB} {q:fL} (h:RB s b q) (hx:P2 m b=some c): ∃q',iR m q=some q'/\RB s' c q':=by
 cases b with
 |box cs=>
  obtain ⟨p,rfl,h⟩:=h;simp only [P2] at hx;split at hx
  · rename_i l hl
    injection hx with hx;subst hx;obtain ⟨q',h1,h2⟩:=renVL_R hr h hl;exact ⟨.box q',by simp only [iR,h1];rfl,q',rfl,h2⟩
  · cases hx
 |arr r l=>injection hx with hx;subst hx;rw [show q=_ from h];exact ⟨_,rfl,rfl⟩
 |set l=>injection hx with hx;subst hx;rw [show q=_ from h];exact ⟨_,rfl,rfl⟩
 |tab p l=>injection hx with hx;subst hx;rw [show q=_ from h];exact ⟨_,rfl,rfl⟩
 |dead=>injection hx with hx;subst hx;rw [show q=_ from h];exact ⟨_,rfl,rfl⟩
theorem rB {m:List Nat}: ∀{ts:List Nat} {s1:List SB},DY s m ts=some s1->s1.length=ts.length/\ ∀(j t:Nat),ts[j]? =some t-> ∃b c,s[t]? =some b/\P2 m b=some c/\s1[j]? =some c
 | [],s1,h=>by injection h with h;subst h;exact ⟨rfl,fun j t h=>by simp at h⟩
 |t::ts,s1,h=>by
  simp only [DY,bE] at h;split at h
  · rename_i b hb
    split at h
    · rename_i c r hc hr
      injection h with h;subst h;obtain ⟨h1,h2⟩:=rB hr;refine ⟨by simp [h1],fun j u hj=>?_⟩
      cases j with
      |zero=>simp at hj;subst hj;exact ⟨b,c,hb,hc,rfl⟩
      |succ j=>simpa using h2 j u (by simpa using hj)
    · cases h
  · cases h
theorem yF (hS:bI s ps) {m:List Nat} {s':List SB} (hr:CK m s s'): ∀{ts:List Nat} {s1:List SB},DY s m ts=some s1-> ∃p1,qK ps m ts=some p1/\p1.length=s1.length/\ ∀(j:Nat) (b:SB),s1[j]? =some b-> ∃q,p1[j]? =some q/\RB s' b q
 | [],s1,h=>by injection h with h;subst h;exact ⟨[],rfl,rfl,fun j b h=>by simp at h⟩
 |t::ts,s1,h=>by
  simp only [DY,bE] at h;split at h
  · rename_i b hb
    split at h
    · rename_i c r hc hr'
      injection h with h;subst h;obtain ⟨q,h1,h2⟩:=hS.at_ t b hb;obtain ⟨q',h3,h4⟩:=aCF hr h2 hc;obtain ⟨p1,h5,h6,h7⟩:=yF hS hr hr';refine ⟨q'::p1,by simp only [qK,h1,h3,h5],by simp [h6],fun j x hj=>?_⟩
      cases j with
      |zero=>simp at hj;subst hj;exact ⟨q',rfl,h4⟩
      |succ j=>simpa using h7 j x (by simpa using hj)
    · cases h
  · cases h
theorem CK.of {m:List Nat} {s1 l:List SB} (h:DY s m m=some s1):CK m s (s1++l):=fun t u b hu hb=>by
 have hm:=CJ hu;obtain ⟨h1,h2⟩:=rB h;obtain ⟨b',c,h3,h4,h5⟩:=h2 u t hm;rw [hb] at h3;injection h3 with h3;subst h3;have hlt:=(List.getElem?_eq_some_iff.1 h5).1;cases b with
 |arr r l'=>injection h4 with h4;subst h4;rw [List.getElem?_append_left hlt];exact h5
 |dead=>injection h4 with h4;subst h4;rw [List.getElem?_append_left hlt];exact h5
 |_=>trivial
theorem nW: ∀(rk:List (Nat×List PT)) (n:Nat),(qA rk n).length=n
 | [],n=>by simp [qA]
 |(m,r)::q,n=>by
  simp only [qA];cases hc:(Nat.beq m n&&Nat.beq r.length n) with
  |true=>simp only [Bool.and_eq_true] at hc;exact Nat.eq_of_beq_eq_true hc.2
  |false=>exact nW q n
theorem yG {rk:List (Nat×List PT)} {e:SE} {m:List Nat}: ∀{live:List (Nat×Option Nat)} {nx:Nat} {e1:SE} {s2:List SB},qB rk e m nx live=some (e1,s2)-> ∀(j:Nat) (b:SB),s2[j]? =some b-> ∃r,b= .arr r []
 | [],nx,e1,s2,h,j,b,hj=>by
  simp only [qB,Option.some.injEq,Prod.mk.injEq] at h;rw [<- h.2] at hj;simp at hj
 |(t,k)::live,nx,e1,s2,h,j,b,hj=>by
  simp only [qB] at h;split at h
  · split at h
    · rename_i p hp
      simp only [Option.some.injEq,Prod.mk.injEq] at h;obtain ⟨rfl,rfl⟩:=h;cases j with
      |zero=>simp at hj;exact ⟨_,hj.symm⟩
      |succ j=>exact yG (e1:=p.1) (s2:=p.2) hp j b (by simpa using hj)
    · cases h
  · split at h
    · rename_i v' p hv hp
      simp only [Option.some.injEq,Prod.mk.injEq] at h;obtain ⟨rfl,rfl⟩:=h;exact yG (e1:=p.1) (s2:=p.2) hp j b hj
    · cases h
mutual
theorem yH {m:List Nat}: ∀{v u:SV},kD m v=some u->u.sure=true
 | .junk,_,h=>by cases h
 | .undef,u,h| .nul,u,h| .nilf,u,h| .int _ _,u,h| .bool _,u,h| .str _,u,h| .sl _ _,u,h| .nil _ _,u,h=>by injection h with h;subst h;rfl
 | .agg cs,u,h=>by
  simp only [kD] at h;split at h
  · rename_i l hl;injection h with h;subst h;exact renVL_sure hl
  · cases h
 | .tup cs,u,h=>by
  simp only [kD] at h;split at h
  · rename_i l hl;injection h with h;subst h;exact renVL_sure hl
  · cases h
 | .rptr cs _,u,h=>by
  simp only [kD] at h;split at h
  · rename_i l hl;injection h with h;subst h;exact renVL_sure hl
  · cases h
 | .own _ _,u,h=>by simp only [kD] at h;split at h<;>first|(injection h with h;subst h;rfl)|cases h
 | .pre _ _ _ _,u,h=>by simp only [kD] at h;split at h<;>first|(injection h with h;subst h;rfl)|cases h
 | .part _ _ _ _ _,u,h=>by simp only [kD] at h;split at h<;>first|(injection h with h;subst h;rfl)|cases h
 | .pa _ _ _ _ _,u,h=>by simp only [kD] at h;split at h<;>first|(injection h with h;subst h;rfl)|cases h
 | .pb _ _ _,u,h=>by simp only [kD] at h;split at h<;>first|(injection h with h;subst h;rfl)|cases h
 | .bp _ _ _,u,h=>by simp only [kD] at h;split at h<;>first|(injection h with h;subst h;rfl)|cases h
 | .mp _,u,h=>by simp only [kD] at h;split at h<;>first|(injection h with h;subst h;rfl)|cases h
 | .clo f a b,u,h=>by
  simp only [kD] at h;split at h
  · rename_i x y h1 h2
    injection h with h;subst h;simp only [SV.sure,renVL_sure h1,renVL_sure h2,Bool.and_self]
  · cases h
theorem renVL_sure {m:List Nat}: ∀{v u:List SV},renVL m v=some u->sureL u=true
 | [],u,h=>by injection h with h;subst h;rfl
 |x::xs,u,h=>by
  simp only [renVL] at h;split at h
  · rename_i a b h1 h2
    injection h with h;subst h;simp only [sureL,yH h1,renVL_sure h2,Bool.and_self]
  · cases h
end
theorem TD {s:List SB} {v:SV} {p:PV} (h:R s v p): ∀k:Option Nat,v.sure=true->R s (FY k v) (exOff k p)
 |none,_=>h
 |some _,hs=>by
  cases v with
  |own t ex=>obtain ⟨e,n,rfl,h⟩:=h;exact ⟨e,n,rfl,h⟩
  |pre t l c ex=>obtain ⟨e,rfl,h⟩:=h;exact ⟨e,rfl,h⟩
  |part t o l c ex=>obtain ⟨e,rfl,h⟩:=h;exact ⟨e,rfl,h⟩
  |junk=>cases hs
  |undef|nul|nilf|int _ _|bool _|str _|bp _ _ _|mp _|sl _ _|nil _ _=>rw [show p=_ from h];rfl
  |agg _|tup _|rptr _ _=>obtain ⟨q,rfl,h⟩:=h;exact ⟨q,rfl,h⟩
  |clo _ _ _=>obtain ⟨q,q2,rfl,h⟩:=h;exact ⟨q,q2,rfl,h⟩
  |pa _ _ _ _ _=>obtain ⟨rfl,h⟩:=h;exact ⟨rfl,h⟩
  |pb _ _ _=>obtain ⟨q,rfl,h⟩:=h;exact ⟨q,rfl,h⟩
theorem KX {v:SV} (h:v.sure=true) (k:Option Nat):(FY k v).sure=true:=by
 unfold FY;split<;>first|rfl|exact h
theorem F6 {rk:List (Nat×List PT)} {e:SE} {pe:lY} (hE:bW s e pe) {m:List Nat} {s':List SB} (hr:CK m s s'): ∀{live:List (Nat×Option Nat)} {nx:Nat} {e1:SE} {s2:List SB},qB rk e m nx live=some (e1,s2)->(∀(j:Nat) (b:SB),s2[j]? =some b->s'[nx+j]? =some b)->
 ∃p1 q2,kU pe m nx live=some (p1,q2)/\bW s' e1 p1/\q2.length=s2.length/\ ∀(j:Nat) (b:SB),s2[j]? =some b-> ∃q,q2[j]? =some q/\RB s' b q
 | [],nx,e1,s2,h,_=>by
  simp only [qB,Option.some.injEq,Prod.mk.injEq] at h;obtain ⟨rfl,rfl⟩:=h;exact ⟨[],[],rfl,rfl,rfl,fun j b h=>by simp at h⟩
 |(t,k)::live,nx,e1,s2,h,hs=>by
  have hlk:=hE.lk t;simp only [qB] at h;split at h
  · rename_i kk esz en hv
    split at h
    · rename_i p hp
      simp only [Option.some.injEq,Prod.mk.injEq] at h;obtain ⟨rfl,rfl⟩:=h;rw [hv] at hlk;obtain ⟨p1,q2,h1,h2,h3,h4⟩:=F6 (live:=live) (nx:=nx+1) (e1:=p.1) (s2:=p.2) hE hr hp (fun j b hj=>by
       have:=hs (j+1) b (by simpa using hj)
       rw [show nx+1+j=nx+(j+1) by omega];exact this)
      refine ⟨(t,.own nx esz 0 0 0 false)::p1,.arr esz []::q2,?_,⟨_,_,rfl,⟨esz,0,rfl,.inl ⟨qA rk esz,[],by simpa using hs 0 _ rfl,(nW rk esz).symm,rfl⟩⟩,h2⟩,by simp [h3],fun j b hj=>?_⟩
      · have hlk':lk t pe= .sl en true []:=hlk
        simp only [kU,hlk',h1];rfl
      · cases j with
        |zero=>simp at hj;subst hj;exact ⟨_,rfl,by show _=_;rw [nW];rfl⟩
        |succ j=>simpa using h4 j b (by simpa using hj)
    · cases h
  · rename_i hne
    split at h
    · rename_i v' p hv hp
      simp only [Option.some.injEq,Prod.mk.injEq] at h;obtain ⟨rfl,rfl⟩:=h;obtain ⟨q',h5,h6⟩:=QQ hr hlk hv;obtain ⟨p1,q2,h1,h2,h3,h4⟩:=F6 (live:=live) (e1:=p.1) (s2:=p.2) hE hr hp hs;refine ⟨(t,exOff _ q')::p1,q2,?_,⟨_,_,rfl,TD h6 _ (yH hv),h2⟩,h3,h4⟩;simp only [kU];split
      · rename_i esz x hx
        exfalso;rw [hx] at hlk;generalize DU t e=v0 at hlk hv hne;cases v0 with
        |junk=>cases hv
        |nil e' c=>
         have hlk':PV.sl x true []= .sl e' c []:=hlk;injection hlk' with h1 h2;subst h2;exact hne _ _ rfl rfl
        |undef|nul|nilf|int _ _|bool _|str _|bp _ _ _|mp _=>cases (show PV.sl x true []=_ from hlk)
        |sl r l=>cases (show PV.sl x true []=_ from hlk)
        |agg _|tup _|rptr _ _=>obtain ⟨q,hq,_⟩:=hlk;cases hq
        |clo _ _ _=>obtain ⟨q,q2,hq,_⟩:=hlk;cases hq
        |own _ _=>obtain ⟨q,q2,hq,_⟩:=hlk;cases hq
        |pre _ _ _ _=>obtain ⟨q,hq,_⟩:=hlk;cases hq
        |part _ _ _ _ _=>obtain ⟨q,hq,_⟩:=hlk;cases hq
        |pa _ _ _ _ _=>obtain ⟨hq,_⟩:=hlk;cases hq
        |pb _ _ _=>obtain ⟨q,hq,_⟩:=hlk;cases hq
      · simp only [h5,h1]
    · cases h
def aCk (s:List SB):Prop:= ∀(t:Nat) (cs:List SV),s[t]? =some (.box cs)->sureL cs=true
def EP:SE->Prop
 | []=>True
 |(_,v)::r=>v.sure=true/\EP r
theorem EP.lk: ∀{e:SE},EP e-> ∀t,(DU t e).sure=true
 | [],_,t=>rfl
 |(u,v)::r,h,t=>by
  simp only [DU];cases hb:Nat.beq u t with
  |true=>exact h.1
  |false=>exact EP.lk h.2 t
theorem uT {rk:List (Nat×List PT)} {e:SE} {m:List Nat}: ∀{live:List (Nat×Option Nat)} {nx:Nat} {e1:SE} {s2:List SB},qB rk e m nx live=some (e1,s2)->EP e1
 | [],nx,e1,s2,h=>by
  simp only [qB,Option.some.injEq,Prod.mk.injEq] at h;rw [<- h.1];trivial
 |(t,k)::live,nx,e1,s2,h=>by
  simp only [qB] at h;split at h
  · split at h
    · rename_i p hp
      simp only [Option.some.injEq,Prod.mk.injEq] at h;obtain ⟨rfl,rfl⟩:=h;exact ⟨rfl,uT (e1:=p.1) (s2:=p.2) hp⟩
    · cases h
  · split at h
    · rename_i v' p hv hp
      simp only [Option.some.injEq,Prod.mk.injEq] at h;obtain ⟨rfl,rfl⟩:=h;exact ⟨KX (yH hv) _,uT (e1:=p.1) (s2:=p.2) hp⟩
    · cases h
theorem EQ: ∀{l:List SV},sureL l=true-> ∀{n:Nat} {v:SV},nth l n=some v->v.sure=true
 | [],_,_,_,h=>by cases h
 |x::xs,hs,0,v,h=>by injection h with h;subst h;simp only [sureL,Bool.and_eq_true] at hs;exact hs.1
 |x::xs,hs,n+1,v,h=>by simp only [sureL,Bool.and_eq_true] at hs;exact EQ hs.2 (n:=n) h
theorem ES: ∀{l:List SV},sureL l=true-> ∀(n:Nat) {v:SV},v.sure=true->sureL (l.set n v)=true
 | [],_,n,v,_=>rfl
 |x::xs,hs,0,v,h=>by simp only [sureL,Bool.and_eq_true] at hs;simp [sureL,h,hs.2]
 |x::xs,hs,n+1,v,h=>by simp only [sureL,Bool.and_eq_true] at hs;simp [sureL,hs.1,ES hs.2 n h]
theorem RL.set {s:List SB}: ∀{xs:List SV} {ps:List PV},RL s xs ps-> ∀(n:Nat) {v:SV} {p:PV},R s v p->RL s (xs.set n v) (ps.set n p)
 | [],ps,h,n,v,p,_=>by rw [show ps=[] from h];exact RL.nil
 |x::xs,ps,h,0,v,p,hv=>by
  obtain ⟨a,q,rfl,h1,h2⟩:=h.cons_inv;exact RL.cons hv h2
 |x::xs,ps,h,n+1,v,p,hv=>by
  obtain ⟨a,q,rfl,h1,h2⟩:=h.cons_inv;exact RL.cons h1 (RL.set h2 n hv)
structure TE (st:kC) (p:St):Prop where
 r:tJ st p
 s:aCk st.sto
 e:EP st.env
theorem KY {rk:List (Nat×List PT)} {st:kC} {p:St} (h:TE st p) (t c esz:Nat):TE (B0 rk st t c esz) (kV p t c esz):=by
 unfold B0 kV;rw [bE];cases hst:st.sto[t]? with
 |none=>
  have:p.sto[t]? =none:=by
   rw [List.getElem?_eq_none_iff] at hst ⊢;rw [h.r.sto.len];exact hst
  rw [this];exact h
 |some b=>
  obtain ⟨q,h1,h2⟩:=h.r.sto.at_ t b hst;rw [h1];cases b with
  |arr r l=>rw [show q=_ from h2];exact h
  |set l=>rw [show q=_ from h2];exact h
  |tab p l=>rw [show q=_ from h2];exact h
  |dead=>rw [show q=_ from h2];exact h
  |box cs=>
   obtain ⟨pc,rfl,h3⟩:=h2;dsimp only;cases hc:nth cs c with
   |none=>
    have:pc[c]? =none:=by
     rw [bE,List.getElem?_eq_none_iff] at hc;rw [List.getElem?_eq_none_iff,h3.length];exact hc
    rw [this];exact h
   |some v=>
    obtain ⟨pv,h4,h5⟩:=h3.nth hc;rw [h4];have hsure:=EQ (h.s t cs hst) hc;have hcs:=h.s t cs hst;have other:(∀e,pv≠ .sl e true [])->(∀e,v≠ .nil e true)->TE (match some v with
     |some (.nil _ true)=>{st with sto:=st.sto.set t (.box (cs.set c (.own st.sto.length false)))++[.arr (qA rk esz) []]}
     |_=>st) (match some pv with
     |some (.sl _ true [])=>{p with sto:=p.sto.set t (.box (pc.set c (.own p.sto.length esz 0 0 0 false)))++[.arr esz []]}
     |_=>p):=by
     intro n1 n2;split
     · rename_i e he;injection he with he;exact absurd he (n2 e)
     · split
       · rename_i e he;injection he with he;exact absurd he (n1 e)
       · exact h
    cases v with
    |junk=>cases hsure
    |nil e' cl=>
     have h5':pv= .sl e' cl []:=h5;subst h5';cases cl with
     |false=>exact other (fun e he=>by cases he) (fun e he=>by cases he)
     |true=>
      dsimp only;have hlt:=(List.getElem?_eq_some_iff.1 hst).1;have hfr:Fr [] st.sto (st.sto.set t (.box (cs.set c (.own st.sto.length false)))++[.arr (qA rk esz) []]):=fun u x hu=>by
       by_cases hut:t=u
       · subst hut;rw [hst] at hu;injection hu with hu;subst hu;trivial
       · have hul:=(List.getElem?_eq_some_iff.1 hu).1
         have:(st.sto.set t (.box (cs.set c (.own st.sto.length false)))++[.arr (qA rk esz) []])[u]? =some x:=by
          rw [List.getElem?_append_left (by simpa using hul),List.getElem?_set];simp [hut,hu]
         cases x with
         |arr r l=>exact .inl ⟨l,this,rfl,fun _=>rfl⟩
         |dead=>exact this
         |_=>trivial
      have hlen:(st.sto.set t (.box (cs.set c (.own st.sto.length false)))).length=st.sto.length:=by simp
      have hown:R (st.sto.set t (.box (cs.set c (.own st.sto.length false)))++[.arr (qA rk esz) []]) (.own st.sto.length false) (.own p.sto.length esz 0 0 0 false):=by
       refine ⟨esz,0,by rw [h.r.sto.len],.inl ⟨qA rk esz,[],?_,(nW rk esz).symm,rfl⟩⟩
       rw [List.getElem?_append_right (by simp)];simp
      refine ⟨⟨bW.ext hfr h.r.env,⟨by simp [h.r.sto.len],fun u x hu=>?_⟩,h.r.fz,h.r.kn⟩,fun u x hu=>?_,h.e⟩
      · rcases Nat.lt_or_ge u st.sto.length with hul|hul
        · rw [List.getElem?_append_left (by simpa using hul),List.getElem?_set] at hu
          by_cases hut:t=u
          · subst hut
            simp [hlt] at hu;subst hu;refine ⟨.box (pc.set c (.own p.sto.length esz 0 0 0 false)),?_,_,rfl,RL.set (RL.ext hfr h3) c hown⟩;rw [List.getElem?_append_left (by simp [h.r.sto.len,hul]),List.getElem?_set]
            simp [h.r.sto.len,hul]
          · simp [hut] at hu
            obtain ⟨q,h6,h7⟩:=h.r.sto.at_ u x hu;refine ⟨q,?_,h7.ext hfr⟩;rw [List.getElem?_append_left (by simp [h.r.sto.len,hul]),List.getElem?_set]
            simp [hut,h6]
        · rw [List.getElem?_append_right (by simpa using hul)] at hu
          simp only [hlen] at hu;have hu0:u-st.sto.length=0:=by
           rcases Nat.eq_zero_or_pos (u-st.sto.length) with h|h
           · exact h
           · rw [List.getElem?_eq_none (by simp;omega)] at hu;cases hu
          rw [hu0] at hu;simp at hu;subst hu;refine ⟨.arr esz [],?_,by show _=_;rw [nW];rfl⟩
          rw [List.getElem?_append_right (by simp [h.r.sto.len];omega)]
          simp [h.r.sto.len,hu0]
      · rcases Nat.lt_or_ge u st.sto.length with hul|hul
        · rw [List.getElem?_append_left (by simpa using hul),List.getElem?_set] at hu
          by_cases hut:t=u
          · subst hut
            simp [hlt] at hu;subst hu;exact ES hcs c rfl
          · simp [hut] at hu;exact h.s u x hu
        · rw [List.getElem?_append_right (by simpa using hul)] at hu
          cases hj:u- (st.sto.set t (.box (cs.set c (.own st.sto.length false)))).length with
          |zero=>rw [hj] at hu;simp at hu
          |succ j=>rw [hj] at hu;simp at hu
    |undef|nul|nilf|int _ _|bool _|str _|bp _ _ _|mp _=>exact other (fun e he=>by rw [show pv=_ from h5] at he;cases he) (fun e he=>by cases he)
    |sl r l=>exact other (fun e he=>by rw [show pv=_ from h5] at he;cases he) (fun e he=>by cases he)
    |agg _|tup _|rptr _ _=>exact other (fun e he=>by obtain ⟨q,hq,_⟩:=h5;rw [hq] at he;cases he) (fun e he=>by cases he)
    |clo _ _ _=>exact other (fun e he=>by obtain ⟨q,q2,hq,_⟩:=h5;rw [hq] at he;cases he) (fun e he=>by cases he)
    |own _ _=>exact other (fun e he=>by obtain ⟨q,q2,hq,_⟩:=h5;rw [hq] at he;cases he) (fun e he=>by cases he)
    |pre _ _ _ _|part _ _ _ _ _|pb _ _ _=>exact other (fun e he=>by obtain ⟨q,hq,_⟩:=h5;rw [hq] at he;cases he) (fun e he=>by cases he)
    |pa _ _ _ _ _=>exact other (fun e he=>by obtain ⟨hq,_⟩:=h5;rw [hq] at he;cases he) (fun e he=>by cases he)
theorem F7 {p:St} {t c esz:Nat} (h: ∀cs,p.sto[t]?≠some (.box cs)):kV p t c esz=p:=by
 unfold kV;split
 · rename_i cs hcs;exact absurd hcs (h cs)
 · rfl
theorem QR {st:kC} {p:St} (h:TE st p) {v:SV} {q:PV} (hv:R st.sto v q) (hs:v≠ .junk):(∃t,P3 v=some t/\A2 q=some t)\/(P3 v=none/\ ∀t,A2 q=some t-> ∀cs,p.sto[t]?≠some (.box cs)):=by
 cases v with
 |junk=>exact absurd rfl hs
 |bp u m off=>
  have hq:q= .ptr u m 0 off:=hv;subst hq;cases off with
  |zero=>exact .inl ⟨u,rfl,rfl⟩
  |succ off=>exact .inr ⟨rfl,fun t ht=>by cases ht⟩
 |pb u i off=>
  obtain ⟨e',hq,hat⟩:=hv;subst hq;refine .inr ⟨rfl,fun t ht cs hcs=>?_⟩
  have:t=u:=by
   unfold A2 at ht;split at ht
   · rename_i heq;injection heq with e1;injection ht with ht;rw [<- ht,e1]
   · cases ht
  subst this;rcases hat with ⟨r,l,h1,_⟩|h1
  · rw [h.r.sto.arr h1] at hcs;cases hcs
  · obtain ⟨q,h2,h3⟩:=h.r.sto.at_ t _ h1
    rw [hcs] at h2;injection h2 with h2;subst h2;cases (show fL.box cs= .dead from h3)
 |pa u r i a off=>
  obtain ⟨hq,hat⟩:=hv;subst hq;refine .inr ⟨rfl,fun t ht cs hcs=>?_⟩
  have:t=u:=by
   unfold A2 at ht;split at ht
   · rename_i heq;injection heq with e1;injection ht with ht;rw [<- ht,e1]
   · cases ht
  subst this;rcases hat with ⟨l,h1,_⟩|h1
  · rw [h.r.sto.arr h1] at hcs;cases hcs
  · obtain ⟨q,h2,h3⟩:=h.r.sto.at_ t _ h1
    rw [hcs] at h2;injection h2 with h2;subst h2;cases (show fL.box cs= .dead from h3)
 |undef|nul|nilf|int _ _|bool _|str _|mp _|sl _ _|nil _ _=>exact .inr ⟨rfl,fun t ht=>by rw [show q=_ from hv] at ht;cases ht⟩
 |agg _|tup _|rptr _ _=>exact .inr ⟨rfl,fun t ht=>by obtain ⟨_,rfl,_⟩:=hv;cases ht⟩
 |clo _ _ _=>exact .inr ⟨rfl,fun t ht=>by obtain ⟨_,_,rfl,_⟩:=hv;cases ht⟩
 |own _ _=>exact .inr ⟨rfl,fun t ht=>by obtain ⟨_,_,rfl,_⟩:=hv;cases ht⟩
 |pre _ _ _ _|part _ _ _ _ _=>exact .inr ⟨rfl,fun t ht=>by obtain ⟨_,rfl,_⟩:=hv;cases ht⟩
theorem aCG {st:kC} {p:St} (h:TE st p) {v:SV} {q:PV} (hv:R st.sto v q) (hs:v.sure=true):(∃t,ST v=some t/\G3 q=some t)\/(ST v=none/\ ∀t,G3 q=some t-> ∀cs,p.sto[t]?≠some (.box cs)):=by
 have hj:v≠ .junk:=fun e=>by subst e;cases hs
 by_cases hc: ∃f a b,v= .clo f a b
 · obtain ⟨f,a,b,rfl⟩:=hc
   obtain ⟨pa,pb,rfl,h1,h2⟩:=hv;cases b with
   |nil=>
    have:pb=[]:=h2
    subst this;exact .inr ⟨rfl,fun t ht=>by cases ht⟩
   |cons y ys=>
    obtain ⟨z,zs,rfl,g1,g2⟩:=h2;exact QR h g1 (fun e=>by subst e;simp [SV.sure,sureL] at hs)
 · have e1:ST v=P3 v:=by
    cases v with
    |clo f a b=>exact absurd ⟨f,a,b,rfl⟩ hc
    |_=>rfl
   have e2:G3 q=A2 q:=by
    cases q with
    |clo f a b=>
     exfalso;cases v with
     |junk=>exact hj rfl
     |clo f a b=>exact hc ⟨f,a,b,rfl⟩
     |bp _ _ _|undef|nul|nilf|int _ _|bool _|str _|mp _|sl _ _|nil _ _=>cases (show PV.clo f a b=_ from hv)
     |agg _|tup _|rptr _ _|pre _ _ _ _|part _ _ _ _ _|pb _ _ _=>obtain ⟨_,hq,_⟩:=hv;cases hq
     |own _ _=>obtain ⟨_,_,hq,_⟩:=hv;cases hq
     |pa _ _ _ _ _=>obtain ⟨hq,_⟩:=hv;cases hq
    |_=>rfl
   rw [e1,e2];exact QR h hv hj
theorem iL {rk:List (Nat×List PT)}: ∀(live:List (Nat×Option Nat)) {st:kC} {p:St},TE st p->TE (gS rk live st) (fT live p)
 | [],st,p,h=>h
 |(t,k)::live,st,p,h=>by
  cases k with
  |none=>simp only [gS,fT];exact iL live h
  |some n=>
   simp only [gS,fT];cases hn:Nat.ble 1000 n with
   |false=>simp only [cond_false,Bool.false_eq_true,if_false];exact iL live h
   |true=>
    simp only [cond_true,if_true];have hlk:=h.r.env.lk t;have hsu:=h.e.lk t;rcases aCG h hlk hsu with ⟨u,e1,e2⟩|⟨e1,e2⟩
    · rw [e1,e2]
      exact iL live (KY h u _ _)
    · rw [e1]
      cases hb:G3 (lk t p.env) with
      |none=>exact iL live h
      |some u=>
       show TE (gS rk live st) (fT live (kV p u (n / 1000-1) (n%1000)));rw [F7 (e2 u hb)];exact iL live h
theorem IH {e:SE} {pe:lY} (hE:bW s e pe): ∀{live:List (Nat×Option Nat)},wA e live=true->B1 e live=live.flatMap fun p=>eW lZ (lk p.1 pe)
 | [],_=>rfl
 |(t,k)::live,h=>by
  simp only [wA,Bool.and_eq_true] at h;simp only [B1,List.flatMap_cons,IH hE h.2];rw [QO (fun _=>rfl) (hE.lk t) h.1]
theorem QS: ∀{s':List SB} {s:List SB} {ps:bH} (n:Nat),(ps.length=s.length/\ ∀(t:Nat) (b:SB),s[t]? =some b-> ∃q,ps[t]? =some q/\RB s' b q)->B2 s n=true->KN s n=(ps.take n).flatMap kT
 |s',[],ps,n,h,_=>by
  have:ps=[]:=List.length_eq_zero_iff.1 (by simpa using h.1)
  subst this;cases n<;>simp [KN]
 |s',b::s,ps,0,h,_=>by simp [KN]
 |s',b::s,ps,n+1,h,hk=>by
  cases ps with
  |nil=>have:=h.1;simp at this
  |cons q ps=>
   simp only [B2,Bool.and_eq_true] at hk;obtain ⟨q',h1,h2⟩:=h.2 0 b rfl;simp at h1;subst h1;simp only [KN,List.take_succ_cons,List.flatMap_cons,F5 h2 hk.1];rw [QS (s':=s') (ps:=ps) n ⟨by simpa using h.1,fun t x hx=>by simpa using h.2 (t+1) x (by simpa using hx)⟩ hk.2]
theorem L9 {s:List SB} {v:SV} {p:PV} (h:R s v p):R s (EJ s v) p:=by
 unfold EJ;split
 · rename_i t ex
   rw [bE];split
   · rename_i r l hst
     obtain ⟨e,n,rfl,hat⟩:=h;obtain ⟨rfl,rfl⟩:=hat.inv hst;exact ⟨r.length,rfl,.inl ⟨r,l,hst,rfl⟩⟩
   · exact h
 · exact h
theorem MA {s:List SB} (c:Nat): ∀{e:SE} {p:lY},bW s e p->bW s (L0 s c e) p
 | [],_,h=>h
 |(t,v)::r,_,h=>by
  obtain ⟨q,qs,rfl,h1,h2⟩:=h;simp only [L0];cases hb:Nat.beq t c with
  |true=>exact ⟨q,qs,rfl,L9 h1,h2⟩
  |false=>exact ⟨q,qs,rfl,h1,MA c h2⟩
theorem yI: ∀(live:List (Nat×Option Nat)) {st:kC} {p:St},tJ st p->tJ (vZ live st) p
 | [],st,p,h=>h
 |(t,k)::r,st,p,h=>by
  simp only [vZ];cases hn:Nat.ble 1000000 t with
  |true=>exact yI r ⟨MA _ h.env,h.sto,h.fz,h.kn⟩
  |false=>exact yI r h
theorem II {rk:List (Nat×List PT)} {live:List (Nat×Option Nat)} {st st1:kC} {p:St} (h:tJ st p) (hn:B3 rk live st=some st1): ∃p1,A3 live p=some p1/\tJ st1 p1:=by
 unfold B3 at hn;cases hc:(wA st.env live&&B2 st.sto st.kn) with
 |false=>rw [hc] at hn;cases hn
 |true=>
  rw [hc] at hn;simp only [cond_true] at hn;simp only [Bool.and_eq_true] at hc;split at hn
  · cases hn
  · rename_i m hm
    split at hn
    · rename_i s1 e1 s2 h1 h2
      injection hn with hn;subst hn;have ht:KN st.sto st.kn++B1 st.env live=(p.sto.take p.kn).flatMap kT++live.flatMap fun q=>eW lZ (lk q.1 p.env):=by
       rw [IH h.env hc.1,QS (s':=st.sto) st.kn ⟨h.sto.len,h.sto.at_⟩ hc.2,h.kn]
      rw [ht] at hm;have hm':=CI h.sto _ _ _ _ hm;have hr:CK m st.sto (s1++s2):=CK.of h1;obtain ⟨p1,a1,a2,a3⟩:=yF h.sto hr h1;have hlen:s1.length=m.length:=(rB h1).1;obtain ⟨pe1,q2,b1,b2,b3,b4⟩:=F6 h.env hr h2 (fun j b hj=>by rw [<- hlen,List.getElem?_append_right (by omega)];simpa using hj)
      have hsto:bI (s1++s2) (p1++q2):=⟨by simp [a2,b3],fun t b ht=>by
       rcases Nat.lt_or_ge t s1.length with hl|hl
       · rw [List.getElem?_append_left hl] at ht
         obtain ⟨q,c1,c2⟩:=a3 t b ht;exact ⟨q,by rw [List.getElem?_append_left (by omega)];exact c1,c2⟩
       · rw [List.getElem?_append_right hl] at ht
         obtain ⟨q,c1,c2⟩:=b4 _ b ht;exact ⟨q,by rw [List.getElem?_append_right (by omega),a2];exact c1,c2⟩⟩
      have hs:aCk (s1++s2):=fun t cs ht=>by
       rcases Nat.lt_or_ge t s1.length with hl|hl
       · rw [List.getElem?_append_left hl] at ht
         obtain ⟨b,c,d1,d2,d3⟩:=(rB h1).2 t (m[t]'(by omega)) (List.getElem?_eq_getElem (by omega))
         rw [ht] at d3;injection d3 with d3;subst d3;cases b with
         |box x=>
          simp only [P2] at d2;split at d2
          · rename_i l hl';injection d2 with d2;injection d2 with d2;subst d2;exact renVL_sure hl'
          · cases d2
         |arr _ _=>injection d2 with d2;cases d2
         |set _=>injection d2 with d2;cases d2
         |tab _ _=>injection d2 with d2;cases d2
         |dead=>injection d2 with d2;cases d2
       · rw [List.getElem?_append_right hl] at ht
         obtain ⟨r,hr'⟩:=yG h2 _ _ ht;cases hr'
      have hR:TE {env:=e1,sto:=s1++s2,fz:=qL st.fz 0 m,kn:=st.kn} {env:=pe1,sto:=p1++q2,fz:=qL p.fz 0 m,kn:=p.kn}:=
       ⟨⟨b2,hsto,by rw [h.fz],h.kn⟩,hs,uT h2⟩
      refine ⟨_,?_,yI live (iL live hR).r⟩;unfold A3;rw [h.kn] at hm';rw [h.kn];rw [hm'];dsimp only;rw [a1,b1]
    · cases hn
theorem MB {rk:List (Nat×List PT)} {live:List (Nat×Option Nat)} {st st1:kC} {p:St} (h:tJ st p) (hn:B4 rk live st=some st1): ∃p1,AG live p=some p1/\tJ st1 p1:=by
 unfold B4 at hn;cases h1:B3 rk live st with
 |none=>rw [h1] at hn;cases hn
 |some s=>
  rw [h1] at hn;dsimp only at hn;obtain ⟨p1,h2,h3⟩:=II h h1;unfold AG;rw [h2];dsimp only;cases ha:(live.any fun p=>p.2.isSome) with
  |true=>
   rw [ha] at hn;simp only [cond_true] at hn;rw [if_pos rfl];exact II h3 hn
  |false=>
   rw [ha] at hn;injection hn with hn;subst hn;exact ⟨p1,by rw [if_neg (by simp)],h3⟩
mutual
theorem AV: ∀{a b:SV} (q:List qJ),qD a b=true->mD a (yB b++q)=(b,q)
 | .undef,.undef,q,_=>rfl
 | .nul,.nul,q,_=>rfl
 | .nilf,.nilf,q,_=>rfl
 | .int k _,.int l n,q,h=>by rw [cL.1 h];rfl
 | .bool _,.bool _,q,_=>rfl
 | .agg a,.agg b,q,h=>by simp only [mD,yB,put_atsL q h]
 | .tup a,.tup b,q,h=>by simp only [mD,yB,put_atsL q h]
 | .sl r _,.sl r' l,q,h=>rfl
 | .nil e c,.nil f d,q,h=>by
  simp only [qD,Bool.and_eq_true,beq_iff_eq] at h;rw [Nat.eq_of_beq_eq_true h.1,h.2];rfl
 | .own t x,.own u y,q,h=>by
  simp only [qD,Bool.and_eq_true,beq_iff_eq] at h;rw [Nat.eq_of_beq_eq_true h.1,h.2];rfl
 | .pre t _ _ x,.pre u _ _ y,q,h=>by
  simp only [qD,Bool.and_eq_true,beq_iff_eq] at h;rw [Nat.eq_of_beq_eq_true h.1,h.2];rfl
 | .part t _ _ _ x,.part u _ _ _ y,q,h=>by
  simp only [qD,Bool.and_eq_true,beq_iff_eq] at h;rw [Nat.eq_of_beq_eq_true h.1,h.2];rfl
 | .pb t _ o,.pb u _ p,q,h=>by
  simp only [qD,Bool.and_eq_true] at h;rw [Nat.eq_of_beq_eq_true h.1,Nat.eq_of_beq_eq_true h.2];rfl
 | .bp t n o,.bp u m p,q,h=>by
  simp only [qD,Bool.and_eq_true] at h;rw [Nat.eq_of_beq_eq_true h.1.1,Nat.eq_of_beq_eq_true h.1.2,Nat.eq_of_beq_eq_true h.2];rfl
 | .rptr a o,.rptr b p,q,h=>by
  simp only [qD,Bool.and_eq_true] at h;simp only [mD,yB,put_atsL q h.1,Nat.eq_of_beq_eq_true h.2]
 | .clo f a b,.clo g c d,q,h=>by
  simp only [qD,Bool.and_eq_true] at h;simp only [mD,yB,List.append_assoc,put_atsL _ h.1.2,put_atsL q h.2,Nat.eq_of_beq_eq_true h.1.1]
 | .mp t,.mp u,q,h=>by rw [Nat.eq_of_beq_eq_true h];rfl
theorem put_atsL: ∀{a b:List SV} (q:List qJ),likeL a b=true->putL a (atsL b++q)=(b,q)
 | [],[],q,_=>rfl
 |x::xs,y::ys,q,h=>by
  simp only [likeL,Bool.and_eq_true] at h;simp only [putL,atsL,List.append_assoc,AV _ h.1,put_atsL q h.2]
 | [],_::_,_,h=>by cases h
 |_::_,[],_,h=>by cases h
end
theorem QT: ∀{a b:SB} (q:List qJ),aCf a b=true->KO a (P4 b++q)=(b,q)
 | .arr r _,.arr r' l,q,h=>rfl
 | .box a,.box b,q,h=>by simp only [KO,P4,put_atsL q h]
 | .set _,.set _,q,_=>rfl
 | .tab p _,.tab p' l,q,h=>by obtain rfl:p=p':=PT.same_eq h;rfl
 | .dead,.dead,q,_=>rfl
 | .arr _ _,.box _,_,h| .arr _ _,.set _,_,h| .arr _ _,.dead,_,h| .box _,.arr _ _,_,h| .box _,.set _,_,h| .box _,.dead,_,h| .set _,.arr _ _,_,h| .set _,.box _,_,h| .set _,.dead,_,h| .dead,.arr _ _,_,h| .dead,.box _,_,h| .dead,.set _,_,h
 | .tab _ _,.arr _ _,_,h| .tab _ _,.box _,_,h| .tab _ _,.set _,_,h| .tab _ _,.dead,_,h| .arr _ _,.tab _ _,_,h| .box _,.tab _ _,_,h| .set _,.tab _ _,_,h| .dead,.tab _ _,_,h=>by cases h
theorem wN: ∀{a b:List SB} (q:List qJ),B5 a b=true->uO a (FZ b++q)=(b,q)
 | [],[],q,_=>rfl
 |x::xs,y::ys,q,h=>by
  simp only [B5,Bool.and_eq_true] at h;simp only [uO,FZ,List.append_assoc,QT _ h.1,wN q h.2]
 | [],_::_,_,h=>by cases h
 |_::_,[],_,h=>by cases h
theorem IJ: ∀{a b:SE} (q:List qJ),L1 a b=true->HY a (N8 b++q)=(b,q)
 | [],[],q,_=>rfl
 |(t,x)::xs,(u,y)::ys,q,h=>by
  simp only [L1,Bool.and_eq_true] at h;simp only [HY,N8,List.append_assoc,AV _ h.1.2,IJ q h.2,Nat.eq_of_beq_eq_true h.1.1]
 | [],_::_,_,h=>by cases h
 |_::_,[],_,h=>by cases h
theorem IK: ∀{a b:List Nat},L2 a b=true->a=b
 | [],[],_=>rfl
 |x::xs,y::ys,h=>by
  simp only [L2,Bool.and_eq_true] at h;rw [Nat.eq_of_beq_eq_true h.1,IK h.2]
 | [],_::_,h=>by cases h
 |_::_,[],h=>by cases h
theorem OG {a b:kC} (h:B6 a b=true):tG a (qC b)=b:=by
 obtain ⟨e1,s1,z1,k1⟩:=a;obtain ⟨e2,s2,z2,k2⟩:=b;simp only [B6,Bool.and_eq_true] at h;obtain ⟨⟨⟨h1,h2⟩,h3⟩,h4⟩:=h;have hs:=wN [] h2;rw [List.append_nil] at hs;simp only [tG,qC,IJ _ h1,hs,IK h3,Nat.eq_of_beq_eq_true h4]
theorem AK.of_at: ∀{a:AK} {x:qJ} {y:a.T},a.of x=some y->a.at y=x
 | .i,.i _,y,h=>by injection h with h;subst h;rfl
 | .b,.b _,y,h=>by injection h with h;subst h;rfl
 | .n,.n _,y,h=>by injection h with h;subst h;rfl
 | .l r,.l q x,y,h=>by obtain ⟨rfl,rfl⟩:=lJ h;rfl
 | .s,.s _,y,h=>by injection h with h;subst h;rfl
 | .i,.b _,_,h| .i,.n _,_,h| .i,.l _ _,_,h| .i,.s _,_,h| .b,.i _,_,h| .b,.n _,_,h| .b,.l _ _,_,h| .b,.s _,_,h| .n,.i _,_,h| .n,.b _,_,h| .n,.l _ _,_,h| .n,.s _,_,h
 | .l _,.i _,_,h| .l _,.b _,_,h| .l _,.n _,_,h| .l _,.s _,_,h| .s,.i _,_,h| .s,.b _,_,h| .s,.n _,_,h| .s,.l _ _,_,h=>by cases h
theorem lL: ∀{ks:List AK} {l:List qJ} {y:fP ks},kM ks l=some y->hJ ks y=l
 | [],[],y,_=>rfl
 | [a],[x],y,h=>by
  have:=AK.of_at (a:=a) h
  simp only [hJ,this]
 |a::q::r,x::xs,y,h=>by
  simp only [kM] at h;split at h
  · rename_i u v h1 h2
    injection h with h;subst h;simp only [hJ,AK.of_at h1,lL h2]
  · cases h
 | [],_::_,_,h=>by cases h
 | [_],[],_,h=>by cases h
 | [_],_::_::_,_,h=>by cases h
 |_::_::_,[],_,h=>by cases h
end
end Go.Vm
/- What is known of functions, and what a call of one comes to. -/
namespace Go.Vm
mutual
def CL:Nat->PV->Option (PV×bH)
 |_,.int k n=>some (.int k n,[])
 |_,.bool b=>some (.bool b,[])
 |nx,.agg cs=>match ownPL nx cs with|some r=>some (.agg r.1,r.2)|none=>none
 |nx,.tup cs=>match ownPL nx cs with|some r=>some (.tup r.1,r.2)|none=>none
 |nx,.sl e false rows=>some (.own nx e 0 rows.length rows.length false,[.arr e rows])
 |_,_=>none
def ownPL:Nat->List PV->Option (List PV×bH)
 |_,[]=>some ([],[])
 |nx,x::xs=>match CL nx x with
  |some a=>match ownPL (nx+a.2.length) xs with
   |some b=>some (a.1::b.1,a.2++b.2)
   |none=>none
  |none=>none
end
def oZ (s:List SB) (n:Nat) (l:List SB):Prop:= ∀(j:Nat) (b:SB),l[j]? =some b->s[n+j]? =some b
theorem oZ.left {s:List SB} {n:Nat} {l m:List SB} (h:oZ s n (l++m)):oZ s n l:=fun j b hj=>h j b (by
 rw [List.getElem?_append_left (List.getElem?_eq_some_iff.1 hj).1];exact hj)
theorem oZ.right {s:List SB} {n:Nat} {l m:List SB} (h:oZ s n (l++m)):oZ s (n+l.length) m:=fun j b hj=>by
 have:=h (l.length+j) b (by rw [List.getElem?_append_right (by omega)];simpa using hj)
 rwa [Nat.add_assoc]
def KZ (s:List SB) (l:List SB) (q:bH):Prop:=q.length=l.length/\ ∀(j:Nat) (b:SB),l[j]? =some b-> ∃x,q[j]? =some x/\RB s b x
theorem KZ.append {s l m:List SB} {q r:bH} (h:KZ s l q) (k:KZ s m r):KZ s (l++m) (q++r):=by
 refine ⟨by simp [h.1,k.1],fun j b hj=>?_⟩
 rcases Nat.lt_or_ge j l.length with hl|hl
 · rw [List.getElem?_append_left hl] at hj
   obtain ⟨x,h1,h2⟩:=h.2 j b hj;exact ⟨x,by rw [List.getElem?_append_left (by rw [h.1];exact hl)];exact h1,h2⟩
 · rw [List.getElem?_append_right hl] at hj
   obtain ⟨x,h1,h2⟩:=k.2 _ b hj;exact ⟨x,by rw [List.getElem?_append_right (by rw [h.1];exact hl),h.1];exact h1,h2⟩
theorem KZ.nil {s:List SB}:KZ s [] []:=⟨rfl,fun j b h=>by simp at h⟩
theorem KZ.one {s:List SB} {b:SB} {x:fL} (h:RB s b x):KZ s [b] [x]:=⟨rfl,fun j c hc=>by
 cases j with
 |zero=>simp at hc;subst hc;exact ⟨x,rfl,h⟩
 |succ j=>simp at hc⟩
mutual
theorem MC: ∀{v:SV} {nx:Nat} {p0 p:PV} {q:bH},lI v=some p0->CL nx p0=some (p,q)-> ∀{s:List SB},oZ s nx (qY nx v).2->R s (qY nx v).1 p/\KZ s (qY nx v).2 q
 | .int k n,nx,p0,p,q,h0,h,s,_=>by injection h0 with h0;subst h0;injection h with h;injection h with h1 h2;subst h1 h2;exact ⟨rfl,KZ.nil⟩
 | .bool b,nx,p0,p,q,h0,h,s,_=>by injection h0 with h0;subst h0;injection h with h;injection h with h1 h2;subst h1 h2;exact ⟨rfl,KZ.nil⟩
 | .agg cs,nx,p0,p,q,h0,h,s,hb=>by
  simp only [lI] at h0;split at h0
  · rename_i l hl
    injection h0 with h0;subst h0;simp only [CL] at h;split at h
    · rename_i r hr
      injection h with h;injection h with h1 h2;subst h1 h2;obtain ⟨h3,h4⟩:=ownOfL_R (p:=r.1) (q:=r.2) hl hr hb;exact ⟨⟨r.1,rfl,h3⟩,h4⟩
    · cases h
  · cases h0
 | .tup cs,nx,p0,p,q,h0,h,s,hb=>by
  simp only [lI] at h0;split at h0
  · rename_i l hl
    injection h0 with h0;subst h0;simp only [CL] at h;split at h
    · rename_i r hr
      injection h with h;injection h with h1 h2;subst h1 h2;obtain ⟨h3,h4⟩:=ownOfL_R (p:=r.1) (q:=r.2) hl hr hb;exact ⟨⟨r.1,rfl,h3⟩,h4⟩
    · cases h
  · cases h0
 | .sl r l,nx,p0,p,q,h0,h,s,hb=>by
  injection h0 with h0;subst h0;injection h with h;injection h with h1 h2;subst h1 h2;refine ⟨⟨r.length,l.length,by simp,.inl ⟨r,l,hb 0 _ rfl,rfl,rfl⟩⟩,KZ.one rfl⟩
 | .nil e c,nx,p0,p,q,h0,h,s,hb=>by
  injection h0 with h0;subst h0;cases c with
  |true=>simp [CL] at h
  |false=>
   injection h with h;injection h with h1 h2;subst h1 h2;exact ⟨⟨e,0,rfl,.inl ⟨_,[],hb 0 _ rfl,by simp,rfl⟩⟩,KZ.one (by show _=_;simp)⟩
 | .str _,nx,p0,p,q,h0,h,s,_=>by injection h0 with h0;subst h0;cases h
 | .nilf,nx,p0,p,q,h0,h,s,_=>by injection h0 with h0;subst h0;cases h
 | .rptr cs o,nx,p0,p,q,h0,h,s,_=>by
  simp only [lI] at h0;split at h0
  · injection h0 with h0;subst h0;cases h
  · cases h0
 | .clo f a b,nx,p0,p,q,h0,h,s,_=>by
  simp only [lI] at h0;split at h0
  · injection h0 with h0;subst h0;cases h
  · cases h0
 | .junk,_,_,_,_,h0,_,_,_| .undef,_,_,_,_,h0,_,_,_| .nul,_,_,_,_,h0,_,_,_| .own _ _,_,_,_,_,h0,_,_,_| .pre _ _ _ _,_,_,_,_,h0,_,_,_| .part _ _ _ _ _,_,_,_,_,h0,_,_,_
 | .pa _ _ _ _ _,_,_,_,_,h0,_,_,_| .pb _ _ _,_,_,_,_,h0,_,_,_| .bp _ _ _,_,_,_,_,h0,_,_,_| .mp _,_,_,_,_,h0,_,_,_=>by cases h0
theorem ownOfL_R: ∀{v:List SV} {nx:Nat} {p0 p:List PV} {q:bH},pvL v=some p0->ownPL nx p0=some (p,q)-> ∀{s:List SB},oZ s nx (ownOfL nx v).2->RL s (ownOfL nx v).1 p/\KZ s (ownOfL nx v).2 q
 | [],nx,p0,p,q,h0,h,s,_=>by injection h0 with h0;subst h0;injection h with h;injection h with h1 h2;subst h1 h2;exact ⟨rfl,KZ.nil⟩
 |x::xs,nx,p0,p,q,h0,h,s,hb=>by
  obtain ⟨a,as,rfl,h1,h2⟩:=cA.1 h0;simp only [ownPL] at h;split at h
  · rename_i ra hra
    split at h
    · rename_i rb hrb
      injection h with h;injection h with e1 e2;subst e1 e2;simp only [ownOfL] at hb ⊢;obtain ⟨k1,k2⟩:=MC (p:=ra.1) (q:=ra.2) h1 hra hb.left;rw [k2.1] at hrb;obtain ⟨k3,k4⟩:=ownOfL_R (p:=rb.1) (q:=rb.2) h2 hrb hb.right;exact ⟨RL.cons k1 k3,k2.append k4⟩
    · cases h
  · cases h
end
mutual
theorem QU {s:List SB} {ps:bH} {z:List Nat} (hS:bI s ps): ∀{v v':SV} {p:PV} {seen seen':List Nat} (nx:Nat),R s v p->N7 s z seen v=some (v',seen')-> ∃p0 p' q,lI v'=some p0/\CL nx p0=some (p',q)/\sV ps z nx seen p=some (p',q,seen')
 | .int k n,v',p,seen,seen',nx,h,hx=>by injection hx with hx;injection hx with h1 h2;subst h1 h2;rw [show p=_ from h];exact ⟨_,_,_,rfl,rfl,rfl⟩
 | .bool k,v',p,seen,seen',nx,h,hx=>by injection hx with hx;injection hx with h1 h2;subst h1 h2;rw [show p=_ from h];exact ⟨_,_,_,rfl,rfl,rfl⟩
 | .agg cs,v',p,seen,seen',nx,h,hx=>by
  obtain ⟨q,rfl,h⟩:=h;simp only [N7] at hx;split at hx
  · rename_i r hr
    injection hx with hx;injection hx with h1 h2;subst h1 h2;obtain ⟨p0,p',q',h3,h4,h5⟩:=imOVL_R hS (v':=r.1) (seen':=r.2) nx h hr;exact ⟨.agg p0,.agg p',q',by simp only [lI,h3],by simp only [CL,h4],by simp only [sV,h5];rfl⟩
  · cases hx
 | .tup cs,v',p,seen,seen',nx,h,hx=>by
  obtain ⟨q,rfl,h⟩:=h;simp only [N7] at hx;split at hx
  · rename_i r hr
    injection hx with hx;injection hx with h1 h2;subst h1 h2;obtain ⟨p0,p',q',h3,h4,h5⟩:=imOVL_R hS (v':=r.1) (seen':=r.2) nx h hr;exact ⟨.tup p0,.tup p',q',by simp only [lI,h3],by simp only [CL,h4],by simp only [sV,h5];rfl⟩
  · cases hx
 | .nil e c,v',p,seen,seen',nx,h,hx=>by
  cases c with
  |false=>cases hx
  |true=>injection hx with hx;injection hx with h1 h2;subst h1 h2;rw [show p=_ from h];exact ⟨_,_,_,rfl,rfl,rfl⟩
 | .own t ex,v',p,seen,seen',nx,h,hx=>by
  obtain ⟨e,n,rfl,hat⟩:=h;simp only [N7,bE] at hx;split at hx
  · rename_i r l hst
    obtain ⟨rfl,rfl⟩:=hat.inv hst;cases hc:(has seen t||has z t) with
    |true=>rw [hc] at hx;cases hx
    |false=>
     rw [hc] at hx;injection hx with hx;injection hx with h1 h2;subst h1 h2;refine ⟨_,_,_,rfl,rfl,?_⟩;simp only [sV,hS.arr hst,hc];simp
  · cases hx
 | .junk,_,_,_,_,_,_,hx| .undef,_,_,_,_,_,_,hx| .nul,_,_,_,_,_,_,hx| .nilf,_,_,_,_,_,_,hx| .str _,_,_,_,_,_,_,hx| .sl _ _,_,_,_,_,_,_,hx| .pre _ _ _ _,_,_,_,_,_,_,hx| .part _ _ _ _ _,_,_,_,_,_,_,hx
 | .pa _ _ _ _ _,_,_,_,_,_,_,hx| .pb _ _ _,_,_,_,_,_,_,hx| .bp _ _ _,_,_,_,_,_,_,hx| .rptr _ _,_,_,_,_,_,_,hx| .clo _ _ _,_,_,_,_,_,_,hx| .mp _,_,_,_,_,_,_,hx=>by cases hx
theorem imOVL_R {s:List SB} {ps:bH} {z:List Nat} (hS:bI s ps): ∀{v v':List SV} {p:List PV} {seen seen':List Nat} (nx:Nat),RL s v p->imOVL s z seen v=some (v',seen')-> ∃p0 p' q,pvL v'=some p0/\ownPL nx p0=some (p',q)/\imOL ps z nx seen p=some (p',q,seen')
 | [],v',p,seen,seen',nx,h,hx=>by injection hx with hx;injection hx with h1 h2;subst h1 h2;rw [show p=_ from h];exact ⟨_,_,_,rfl,rfl,rfl⟩
 |x::xs,v',p,seen,seen',nx,h,hx=>by
  obtain ⟨a,as,rfl,h1,h2⟩:=h.cons_inv;simp only [imOVL] at hx;split at hx
  · rename_i r hr
    split at hx
    · rename_i r2 hr2
      injection hx with hx;injection hx with e1 e2;subst e1 e2;obtain ⟨p0,p',q,k1,k2,k3⟩:=QU hS (v':=r.1) (seen':=r.2) nx h1 hr;obtain ⟨p02,p'2,q2,k4,k5,k6⟩:=imOVL_R hS (v':=r2.1) (seen':=r2.2) (nx+q.length) h2 hr2;exact ⟨p0::p02,p'::p'2,q++q2,cA.2 ⟨_,_,rfl,k1,k4⟩,by simp only [ownPL,k2,k5],by simp only [imOL,k3,k6]⟩
    · cases hx
  · cases hx
end
mutual
theorem IL {s:List SB}: ∀{v:SV} {p:PV},R s v p->uN v=true->p.noref=true
 | .int _ _,p,h,_| .bool _,p,h,_| .str _,p,h,_=>by rw [show p=_ from h];rfl
 | .agg cs,p,h,hn=>by obtain ⟨q,rfl,h⟩:=h;exact norefSL_R h hn
 | .tup cs,p,h,hn=>by obtain ⟨q,rfl,h⟩:=h;exact norefSL_R h hn
 | .junk,_,_,h| .undef,_,_,h| .nul,_,_,h| .nilf,_,_,h| .sl _ _,_,_,h| .nil _ _,_,_,h| .own _ _,_,_,h| .pre _ _ _ _,_,_,h| .part _ _ _ _ _,_,_,h| .pa _ _ _ _ _,_,_,h| .pb _ _ _,_,_,h| .bp _ _ _,_,_,h| .rptr _ _,_,_,h| .clo _ _ _,_,_,h| .mp _,_,_,h=>by cases h
theorem norefSL_R {s:List SB}: ∀{v:List SV} {p:List PV},RL s v p->norefSL v=true->norefL p=true
 | [],p,h,_=>by rw [show p=_ from h];rfl
 |x::xs,p,h,hn=>by
  obtain ⟨a,as,rfl,h1,h2⟩:=h.cons_inv;simp only [norefSL,Bool.and_eq_true] at hn;simp only [norefL,IL h1 hn.1,norefSL_R h2 hn.2,Bool.and_self]
end
mutual
theorem ET {s:List SB} {u:SV}: ∀{v:SV} {p:PV},R s v p->uN v=false->P1 s v=some u->p.noref=false
 | .int _ _,p,h,hn,_| .bool _,p,h,hn,_| .str _,p,h,hn,_=>by cases hn
 | .agg cs,p,h,hn,hi=>by
  obtain ⟨q,rfl,h⟩:=h;simp only [P1] at hi;split at hi
  · rename_i l hl;exact yesrefSL_R h hn hl
  · cases hi
 | .tup cs,p,h,hn,hi=>by
  obtain ⟨q,rfl,h⟩:=h;simp only [P1] at hi;split at hi
  · rename_i l hl;exact yesrefSL_R h hn hl
  · cases hi
 | .sl _ _,p,h,_,_=>by rw [show p=_ from h];rfl
 | .nil _ _,p,h,_,_=>by rw [show p=_ from h];rfl
 | .own _ _,p,h,_,_=>by obtain ⟨e,n,rfl,_⟩:=h;rfl
 | .pre _ _ _ _,p,h,_,_=>by obtain ⟨e,rfl,_⟩:=h;rfl
 | .part _ _ _ _ _,p,h,_,_=>by obtain ⟨e,rfl,_⟩:=h;rfl
 | .junk,_,_,_,h| .undef,_,_,_,h| .nul,_,_,_,h| .nilf,_,_,_,h| .pa _ _ _ _ _,_,_,_,h| .pb _ _ _,_,_,_,h| .bp _ _ _,_,_,_,h| .rptr _ _,_,_,_,h| .clo _ _ _,_,_,_,h| .mp _,_,_,_,h=>by cases h
theorem yesrefSL_R {s:List SB}: ∀{v u:List SV} {p:List PV},RL s v p->norefSL v=false->imVL s v=some u->norefL p=false
 | [],u,p,h,hn,_=>by cases hn
 |x::xs,u,p,h,hn,hi=>by
  obtain ⟨a,as,rfl,h1,h2⟩:=h.cons_inv;simp only [imVL] at hi;split at hi
  · rename_i y ys h3 h4
    simp only [norefSL] at hn;simp only [norefL];cases hx:uN x with
    |false=>rw [ET h1 hx h3];rfl
    |true=>rw [hx] at hn;rw [yesrefSL_R h2 (by simpa using hn) h4];simp
  · cases hi
end
mutual
theorem aCl {s:List SB} {ps:bH} (hS:bI s ps): ∀{v u:SV} {p:PV},R s v p->P1 s v=some u-> ∃q,sD ps p=some q/\lI u=some q
 | .int k n,u,p,h,hx=>by injection hx with hx;subst hx;rw [show p=_ from h];exact ⟨_,rfl,rfl⟩
 | .bool b,u,p,h,hx=>by injection hx with hx;subst hx;rw [show p=_ from h];exact ⟨_,rfl,rfl⟩
 | .str x,u,p,h,hx=>by injection hx with hx;subst hx;rw [show p=_ from h];exact ⟨_,rfl,rfl⟩
 | .agg cs,u,p,h,hx=>by
  obtain ⟨q,rfl,h⟩:=h;simp only [P1] at hx;split at hx
  · rename_i l hl
    injection hx with hx;subst hx;obtain ⟨q',h1,h2⟩:=imVL_R hS h hl;exact ⟨.agg q',by simp only [sD,h1];rfl,by simp only [lI,h2]⟩
  · cases hx
 | .tup cs,u,p,h,hx=>by
  obtain ⟨q,rfl,h⟩:=h;simp only [P1] at hx;split at hx
  · rename_i l hl
    injection hx with hx;subst hx;obtain ⟨q',h1,h2⟩:=imVL_R hS h hl;exact ⟨.tup q',by simp only [sD,h1];rfl,by simp only [lI,h2]⟩
  · cases hx
 | .sl r l,u,p,h,hx=>by injection hx with hx;subst hx;rw [show p=_ from h];exact ⟨_,rfl,rfl⟩
 | .nil e c,u,p,h,hx=>by injection hx with hx;subst hx;rw [show p=_ from h];exact ⟨_,rfl,rfl⟩
 | .own t ex,u,p,h,hx=>by
  simp only [P1,bE] at hx;split at hx
  · rename_i r l hst
    injection hx with hx;subst hx;obtain ⟨e,n,rfl,hat⟩:=h;obtain ⟨rfl,rfl⟩:=hat.inv hst;refine ⟨.sl r.length false (l.map (RT.pv r)),?_,rfl⟩;simp only [sD,hS.arr hst,List.drop_zero];rw [List.take_of_length_le (by simp)]
  · cases hx
 | .pre t len cap ex,u,p,h,hx=>by
  simp only [P1,bE] at hx;split at hx
  · rename_i r l hst
    injection hx with hx;subst hx;obtain ⟨e,rfl,hat⟩:=h
    have:=hat.inv hst
    subst this;refine ⟨.sl r.length false ((l.take len).map (RT.pv r)),?_,rfl⟩;simp only [sD,hS.arr hst,List.drop_zero,List.map_take]
  · cases hx
 | .part t off len cap ex,u,p,h,hx=>by
  simp only [P1,bE] at hx;split at hx
  · rename_i r l hst
    injection hx with hx;subst hx;obtain ⟨e,rfl,hat⟩:=h
    have:=hat.inv hst
    subst this;refine ⟨.sl r.length false (((l.drop off).take len).map (RT.pv r)),?_,rfl⟩;simp only [sD,hS.arr hst,List.map_take,List.map_drop]
  · cases hx
 | .junk,_,_,_,hx| .undef,_,_,_,hx| .nul,_,_,_,hx| .nilf,_,_,_,hx| .pa _ _ _ _ _,_,_,_,hx| .pb _ _ _,_,_,_,hx| .bp _ _ _,_,_,_,hx| .rptr _ _,_,_,_,hx| .clo _ _ _,_,_,_,hx| .mp _,_,_,_,hx=>by cases hx
theorem imVL_R {s:List SB} {ps:bH} (hS:bI s ps): ∀{v u:List SV} {p:List PV},RL s v p->imVL s v=some u-> ∃q,imFL ps p=some q/\pvL u=some q
 | [],u,p,h,hx=>by injection hx with hx;subst hx;rw [show p=_ from h];exact ⟨_,rfl,rfl⟩
 |x::xs,u,p,h,hx=>by
  obtain ⟨a,as,rfl,h1,h2⟩:=h.cons_inv;simp only [imVL] at hx;split at hx
  · rename_i y ys h3 h4
    injection hx with hx;subst hx;obtain ⟨q,h5,h6⟩:=aCl hS h1 h3;obtain ⟨qs,h7,h8⟩:=imVL_R hS h2 h4;exact ⟨q::qs,by simp only [imFL,h5,h7],cA.2 ⟨_,_,rfl,h6,h8⟩⟩
  · cases hx
end
mutual
theorem QV {s:List SB}: ∀{v:SV} {p:PV},lI v=some p->R s v p
 | .int _ _,p,h| .bool _,p,h| .str _,p,h| .nilf,p,h| .sl _ _,p,h| .nil _ _,p,h=>by injection h with h;exact h.symm
 | .agg cs,p,h=>by
  simp only [lI] at h;split at h
  · rename_i l hl;injection h with h;exact ⟨l,h.symm,pvL_R hl⟩
  · cases h
 | .tup cs,p,h=>by
  simp only [lI] at h;split at h
  · rename_i l hl;injection h with h;exact ⟨l,h.symm,pvL_R hl⟩
  · cases h
 | .rptr cs o,p,h=>by
  simp only [lI] at h;split at h
  · rename_i l hl;injection h with h;exact ⟨l,h.symm,pvL_R hl⟩
  · cases h
 | .clo f a b,p,h=>by
  simp only [lI] at h;split at h
  · rename_i x y h1 h2;injection h with h;exact ⟨x,y,h.symm,pvL_R h1,pvL_R h2⟩
  · cases h
 | .junk,_,h| .undef,_,h| .nul,_,h| .own _ _,_,h| .pre _ _ _ _,_,h| .part _ _ _ _ _,_,h| .pa _ _ _ _ _,_,h| .pb _ _ _,_,h| .bp _ _ _,_,h| .mp _,_,h=>by cases h
theorem pvL_R {s:List SB}: ∀{v:List SV} {p:List PV},pvL v=some p->RL s v p
 | [],p,h=>by injection h with h;exact h.symm
 |x::xs,p,h=>by
  obtain ⟨a,as,rfl,h1,h2⟩:=cA.1 h;exact RL.cons (QV h1) (pvL_R h2)
end
def aCm (kd:Kd) (n:Nat) (tk:List Nat) (v:SV) (r:jB):Prop:=
 match kd with
 | .pure=> ∃p,lI v=some p/\r={v:=p,rd:=tk}
 | .frz=> ∃p,lI v=some p/\r={v:=p,rd:=tk,fr:=tk}
 | .own=> ∃p0 p q,lI v=some p0/\CL n p0=some (p,q)/\r={v:=p,news:=q,rd:=tk}
def aB (F : iE) (f : FuncId) (c : aU) : Prop :=
  ∀ (a : c.α) (b : c.β) (as args : List PV) (sto : bH) (fz : List Nat), c.fn a = some b -> pvL (c.args.enc a) = some args -> exL sto (sQ sto cE) as = some args ->
    ∃ n r, callPure F (run F n) c.ow f as sto fz = some r /\ aCm c.kd sto.length (toksL (bN sto cE) as) (c.res.enc b) r
def bV.va (c:bV) (a:fP c.ka):List SV:=(putL c.ta (hJ c.ka a)).1
def bV.sa (c:bV) (a:fP c.ka):List SB:=(uO c.tb (putL c.ta (hJ c.ka a)).2).1
def bV.vb (c:bV) (b:fP c.ko):SV:=(mD c.tv (hJ c.ko b)).1
def bV.sb (c:bV) (b:fP c.ko):List SB:=(uO c.to (mD c.tv (hJ c.ko b)).2).1
def QW:SB->SB->Prop
 | .arr r l,.arr q m=>r=q/\m.length=l.length
 | .box _,.box _=>True
 | .set _,.set _=>True
 | .tab _ _,.tab _ _=>True
 | .dead,.dead=>True
 |_,_=>False
def fW (F : iE) (f : FuncId) (c : bV) : Prop :=
  ∀ (a : fP c.ka) (b : fP c.ko) (pa : List PV) (ps : bH), c.fn a = some b -> RL (c.sa a) (c.va a) pa -> bI (c.sa a) ps ->
    ∃ n v s, run F n (.func f pa ps []) = some (.func v s []) /\ eF (c.sa a).length v s = true /\ R (c.sb b) (c.vb b) v /\ bI (c.sb b) (s.take (c.sa a).length) /\ (c.sb b).length = (c.sa a).length /\
      ∀ (t : Nat) (x y : SB), (c.sa a)[t]? = some x -> (c.sb b)[t]? = some y -> QW x y
def uU (F:iE):List (Nat×aU)->Prop
 | []=>True
 |(f,c)::r=>aB F f c/\uU F r
def EU (F:iE):List (Nat×bV)->Prop
 | []=>True
 |(f,c)::r=>fW F f c/\EU F r
def wO (F:iE):List (Nat×Cd)->Prop
 | []=>True
 |(f,x)::r=>F f=some x.ent/\wO F r
structure aL (F:iE) (cx:O0):Prop where
 con: ∀f c,c∈cx.con f->aB F f c
 fpc: ∀f c,c∈cx.fpc f->fW F f c
 code: ∀f x,cx.code f=some x->F f=some x.ent
theorem uU.mem {F:iE}: ∀{l:List (Nat×aU)},uU F l-> ∀f c,c∈IC l f->aB F f c
 | [],_,f,c,h=>by cases h
 |(g,d)::r,hl,f,c,h=>by
  simp only [IC] at h;cases hb:Nat.beq g f with
  |true=>
   rw [hb] at h
   have:=Nat.eq_of_beq_eq_true hb
   subst this;simp only [cond_true] at h;rcases h with _|⟨_,h⟩
   · exact hl.1
   · exact uU.mem hl.2 _ c h
  |false=>rw [hb] at h;exact uU.mem hl.2 f c h
theorem EU.mem {F:iE}: ∀{l:List (Nat×bV)},EU F l-> ∀f c,c∈ID l f->fW F f c
 | [],_,f,c,h=>by cases h
 |(g,d)::r,hl,f,c,h=>by
  simp only [ID] at h;cases hb:Nat.beq g f with
  |true=>
   rw [hb] at h
   have:=Nat.eq_of_beq_eq_true hb
   subst this;simp only [cond_true] at h;rcases h with _|⟨_,h⟩
   · exact hl.1
   · exact EU.mem hl.2 _ c h
  |false=>rw [hb] at h;exact EU.mem hl.2 f c h
theorem wO.mem {F:iE}: ∀{l:List (Nat×Cd)},wO F l-> ∀f x,F2 l f=some x->F f=some x.ent
 | [],_,f,c,h=>by cases h
 |(g,d)::r,hl,f,c,h=>by
  simp only [F2] at h;cases hb:Nat.beq g f with
  |true=>
   rw [hb] at h
   have:=Nat.eq_of_beq_eq_true hb
   subst this;injection h with h;subst h;exact hl.1
  |false=>rw [hb] at h;exact wO.mem hl.2 f c h
theorem aL.make {F:iE} {lp:Option Nat} {c:List (Nat×aU)} {p:List (Nat×bV)} {x:List (Nat×Cd)} {rk:List (Nat×List PT)} (h1:uU F c) (h2:EU F p) (h3:wO F x):aL F (aN lp c p x rk):=
 ⟨h1.mem,h2.mem,h3.mem⟩
section
variable {F : iE} {R' ρ : Type} {w : R' -> ρ} {y : ρ} {s : List SB} {ps : bH} {z : List Nat}
theorem rC {f:FuncId} {m:Bool} {tk:List Nat} {vs:List SV} {k:XRS->dT R'} (hS:bI s ps) {as args:List PV} (hx:exL ps (sQ ps cE) as=some args) (hv:pvL vs=some args) (htk:tk=toksL (bN ps cE) as):
 ∀{l:List aU},(∀c∈l,aB F f c)->KQ f m s tk vs k l ρ w=some y-> ∃sr pr,(∃n,callPure F (run F n) m f as ps z=some pr)/\eB s ps sr pr/\k (.loc sr) ρ w=some y
 | [],_,h=>by cases h
 |c::l,hl,h=>by
  simp only [KQ] at h;cases hd:c.args.dec vs with
  |none=>rw [hd] at h;exact rC hS hx hv htk (fun c hc=>hl c (List.mem_cons_of_mem _ hc)) h
  |some a=>
   rw [hd] at h;cases hmo:(m==c.ow) with
   |false=>
    rw [hmo] at h;exact rC hS hx hv htk (fun c hc=>hl c (List.mem_cons_of_mem _ hc)) h
   |true=>
   rw [hmo] at h;obtain ⟨b,hb,h2⟩:=bK h;have hm:m=c.ow:=by simpa using hmo
   subst hm;have henc:=c.args.law hd hv;obtain ⟨n,r,hr,hres⟩:=hl c (List.mem_cons_self ..) a b as args ps z hb henc hx;cases hkd:c.kd with
   |pure=>
    rw [hkd] at h2 hres;obtain ⟨p,h3,rfl⟩:=hres;exact ⟨_,_,⟨n,hr⟩,by rw [<- htk];exact eB.val hS (QV h3),h2⟩
   |frz=>
    rw [hkd] at h2 hres;obtain ⟨p,h3,rfl⟩:=hres;exact ⟨_,_,⟨n,hr⟩,by rw [<- htk];exact eB.val hS (QV h3),h2⟩
   |own=>
    rw [hkd] at h2 hres;obtain ⟨p0,p,q,h3,h4,rfl⟩:=hres;rw [hS.len] at h4;have hbh:oZ (s++(qY s.length (c.res.enc b)).2) s.length (qY s.length (c.res.enc b)).2:=fun j x hj=>by
     rw [List.getElem?_append_right (by omega)];simpa using hj
    obtain ⟨k1,k2⟩:=MC h3 h4 hbh;exact ⟨_,_,⟨n,hr⟩,by rw [<- htk];exact eB.news hS k2.1 k2.2 k1,h2⟩
end
end Go.Vm
/- A call of a function that works on the blocks that are lent to it. -/
namespace Go.Vm
def kO {α:Type}:List (Nat×α)->List α->List α
 | [],s=>s
 |(t,b)::r,s=>kO r (s.set t b)
theorem pA: ∀(l:List (Nat×SB)) (s:List SB),kN l s=kO l s
 | [],s=>rfl
 |(t,b)::r,s=>by simp only [kN,kO,wG,pA r]
theorem zK: ∀(l:List (Nat×fL)) (s:bH),dK l s=kO l s
 | [],s=>rfl
 |(t,b)::r,s=>by simp only [dK,kO,zK r]
theorem uV {α:Type}: ∀(l:List (Nat×α)) (s:List α),(kO l s).length=s.length
 | [],s=>rfl
 |(t,b)::r,s=>by simp [kO,uV r]
theorem pB {α:Type}: ∀(l:List (Nat×α)) (s:List α) (t:Nat),t∉l.map (·.1)->(kO l s)[t]? =s[t]?
 | [],s,t,_=>rfl
 |(u,b)::r,s,t,h=>by
  simp only [List.map_cons,List.mem_cons,not_or] at h;simp only [kO];rw [pB r _ t h.2,List.getElem?_set];simp [Ne.symm h.1]
theorem yJ {α:Type}: ∀(l:List (Nat×α)) (s:List α) (j t:Nat) (b:α),(l.map (·.1)).Nodup->l[j]? =some (t,b)->t<s.length->(kO l s)[t]? =some b
 | [],s,j,t,b,_,h,_=>by simp at h
 |(u,c)::r,s,0,t,b,hn,h,ht=>by
  simp at h;obtain ⟨rfl,rfl⟩:=h;simp only [List.map_cons,List.nodup_cons] at hn;simp only [kO];rw [pB r _ u hn.1,List.getElem?_set];simp [ht]
 |(u,c)::r,s,j+1,t,b,hn,h,ht=>by
  simp only [List.map_cons,List.nodup_cons] at hn;simp only [kO];exact yJ r _ j t b hn.2 (by simpa using h) (by simpa using ht)
theorem wP: ∀(l:List (Nat×SB)),qZ l=l.map (·.1)
 | []=>rfl
 |(t,b)::r=>by simp [qZ,wP r]
theorem EV (g:Nat->Nat): ∀(tk:List Nat) (s:List SB),s.length=tk.length->(tH g tk s).map (·.1)=tk/\ ∀(j t:Nat) (b:SB),tk[j]? =some t->s[j]? =some b->(tH g tk s)[j]? =some (t,P7 g b)
 | [],s,h=>⟨by simp [tH],fun j t b hj=>by simp at hj⟩
 |t::tk,[],h=>by simp at h
 |t::tk,b::s,h=>by
  obtain ⟨h1,h2⟩:=EV g tk s (by simpa using h)
  refine ⟨by simp [tH,h1],fun j u c hj hc=>?_⟩
  cases j with
  |zero=>simp at hj hc;subst hj hc;rfl
  |succ j=>simp only [tH,List.getElem?_cons_succ];exact h2 j u c (by simpa using hj) (by simpa using hc)
theorem CN (g:Nat->Nat): ∀(tk:List Nat) (s:bH),tk.length<=s.length->(jH g tk s).map (·.1)=tk/\ ∀(j t:Nat) (b:fL),tk[j]? =some t->s[j]? =some b->(jH g tk s)[j]? =some (t,sW g b)
 | [],s,h=>⟨by simp [jH],fun j t b hj=>by simp at hj⟩
 |t::tk,[],h=>by simp at h
 |t::tk,b::s,h=>by
  obtain ⟨h1,h2⟩:=CN g tk s (by simpa using h)
  refine ⟨by simp [jH,h1],fun j u c hj hc=>?_⟩
  cases j with
  |zero=>simp at hj hc;subst hj hc;rfl
  |succ j=>simp only [jH,List.getElem?_cons_succ];exact h2 j u c (by simpa using hj) (by simpa using hc)
theorem EW: ∀{l:List (Nat×fL)},(l.map (·.1)).Nodup->oJ l=true
 | [],_=>rfl
 |p::r,h=>by
  simp only [List.map_cons,List.nodup_cons] at h;simp only [oJ,Bool.and_eq_true,List.all_eq_true,Bool.not_eq_true'];refine ⟨fun q hq=>?_,EW h.2⟩
  cases hb:Nat.beq q.1 p.1 with
  |false=>rfl
  |true=>exact absurd (List.mem_map.2 ⟨q,hq,Nat.eq_of_beq_eq_true hb⟩) h.1
theorem F8: ∀(s:List SB),yC [] s=s
 | []=>rfl
 |b::r=>by
  simp only [yC,F8 r];cases b<;>simp [SW,dgL_nil]
theorem IM (s:List SB) (r:dG):r.stoOf s=yC (qZ r.wr) (kN r.wr s)++r.news:=by
 unfold dG.stoOf;split
 · rename_i h;rw [h];simp only [qZ,kN,F8,gV]
 · simp only [gV]
def aCH (g:Nat->Nat) (s s2:List SB):Prop:= ∀(u:Nat) (x:SB),s[u]? =some x->match x with
 | .arr r l=>s2[g u]? =some (.arr r l)
 | .dead=>s2[g u]? =some .dead
 |_=>True
mutual
theorem MD {g:Nat->Nat} {s s2:List SB} (hb:aCH g s s2): ∀{v:SV} {p:PV},R s v p->R s2 (HZ g v) (renF g p)
 | .junk,_,_=>trivial
 | .undef,p,h| .nul,p,h| .nilf,p,h| .int _ _,p,h| .bool _,p,h| .str _,p,h| .sl _ _,p,h| .nil _ _,p,h| .bp _ _ _,p,h| .mp _,p,h=>by rw [show p=_ from h];rfl
 | .agg cs,p,h=>by obtain ⟨q,rfl,h⟩:=h;exact ⟨_,rfl,backL_R hb h⟩
 | .tup cs,p,h=>by obtain ⟨q,rfl,h⟩:=h;exact ⟨_,rfl,backL_R hb h⟩
 | .rptr cs o,p,h=>by obtain ⟨q,rfl,h⟩:=h;exact ⟨_,rfl,backL_R hb h⟩
 | .clo f a b,p,h=>by obtain ⟨pa,pb,rfl,h1,h2⟩:=h;exact ⟨_,_,rfl,backL_R hb h1,backL_R hb h2⟩
 | .own t ex,p,h=>by
  obtain ⟨e,n,rfl,hat⟩:=h;refine ⟨e,n,rfl,?_⟩;rcases hat with ⟨r,l,h1,h2,h3⟩|h1
  · exact .inl ⟨r,l,hb t _ h1,h2,h3⟩
  · exact .inr (hb t _ h1)
 | .pre t a b c,p,h=>by
  obtain ⟨e,rfl,hat⟩:=h;refine ⟨e,rfl,?_⟩;rcases hat with ⟨r,l,h1,h2⟩|h1
  · exact .inl ⟨r,l,hb t _ h1,h2⟩
  · exact .inr (hb t _ h1)
 | .part t o a b c,p,h=>by
  obtain ⟨e,rfl,hat⟩:=h;refine ⟨e,rfl,?_⟩;rcases hat with ⟨r,l,h1,h2⟩|h1
  · exact .inl ⟨r,l,hb t _ h1,h2⟩
  · exact .inr (hb t _ h1)
 | .pa t r i a o,p,h=>by
  obtain ⟨rfl,hat⟩:=h;refine ⟨_,rfl,?_⟩;rcases hat with ⟨l,h1,h2⟩|h1
  · exact .inl ⟨r,l,hb t _ h1,by rw [h2];rfl⟩
  · exact .inr (hb t _ h1)
 | .pb t i o,p,h=>by
  obtain ⟨e,rfl,hat⟩:=h;refine ⟨e,rfl,?_⟩;rcases hat with ⟨r,l,h1,h2⟩|h1
  · exact .inl ⟨r,l,hb t _ h1,h2⟩
  · exact .inr (hb t _ h1)
theorem backL_R {g:Nat->Nat} {s s2:List SB} (hb:aCH g s s2): ∀{v:List SV} {p:List PV},RL s v p->RL s2 (backL g v) (renFL g p)
 | [],p,h=>by rw [show p=_ from h];rfl
 |x::xs,p,h=>by
  obtain ⟨a,as,rfl,h1,h2⟩:=h.cons_inv;exact RL.cons (MD hb h1) (backL_R hb h2)
end
theorem CO: ∀{a b:bH},(∀(t:Nat) (x:fL),a[t]? =some x-> ∃y,b[t]? =some y/\x.solid=y.solid)->oI a b=true
 | [],b,_=>by cases b<;>rfl
 |x::a,[],h=>by obtain ⟨y,hy,_⟩:=h 0 x rfl;simp at hy
 |x::a,y::b,h=>by
  obtain ⟨y',h1,h2⟩:=h 0 x rfl;simp at h1;subst h1
  have:=CO (a:=a) (b:=b) (fun t x hx=>by simpa using h (t+1) x (by simpa using hx))
  simp only [oI,this,Bool.and_true,h2];cases y.solid<;>rfl
section
variable {F : iE} {R' ρ : Type} {w : R' -> ρ} {y : ρ} {s : List SB} {ps : bH} {z : List Nat}
theorem ME {f:FuncId} {tk:List Nat} {vals vs:List SV} {s0:List SB} {k:XRS->dT R'} (hS:bI s ps) {pas:List PV} (hv:RL s vals pas) (htk:tk=jD (toksL (bN ps cE) pas)) (hz:(tk.all fun t=>!has z t)=true)
 (h1:renVL tk vals=some vs) (h2:DY s tk tk=some s0):
 ∀{l:List bV},(∀c∈l,fW F f c)->fpS f s.length tk vs s0 k l ρ w=some y-> ∃sr pr,(∃n,mS (run F n) f pas ps z=some pr)/\eB s ps sr pr/\k (.loc sr) ρ w=some y
 | [],_,h=>by cases h
 |c::l,hl,h=>by
  have next:fpS f s.length tk vs s0 k l ρ w=some y-> ∃sr pr,(∃n,mS (run F n) f pas ps z=some pr)/\eB s ps sr pr/\k (.loc sr) ρ w=some y:=
   fun h=>ME hS hv htk hz h1 h2 (fun c hc=>hl c (List.mem_cons_of_mem _ hc)) h
  simp only [fpS] at h;cases hlk:(likeL c.ta vs&&B5 c.tb s0) with
  |false=>rw [hlk] at h;exact next h
  |true=>
   rw [hlk] at h;simp only [cond_true] at h;cases hpo:kM c.ka (atsL vs++FZ s0) with
   |none=>rw [hpo] at h;exact next h
   |some a=>
    rw [hpo] at h;obtain ⟨b,hb,h3⟩:=bK h;simp only [Bool.and_eq_true] at hlk;have hats:=lL hpo;have hva:c.va a=vs:=by unfold bV.va;rw [hats,put_atsL _ hlk.1]
    have hsa:c.sa a=s0:=by
     unfold bV.sa;rw [hats,put_atsL _ hlk.1]
     have:=wN [] hlk.2
     rw [List.append_nil] at this;rw [this]
    have hren:CK tk s s0:=by have:=CK.of (l:=[]) h2;rwa [List.append_nil] at this
    obtain ⟨pa',a1,a2⟩:=renVL_R hren hv h1;obtain ⟨p0,b1,b2,b3⟩:=yF hS hren h2;have hs0:bI s0 p0:=⟨b2,b3⟩;obtain ⟨hs0l,hs0g⟩:=rB h2;obtain ⟨n,v,sr,r1,r2,r3,r4,r5,r6⟩:=hl c (List.mem_cons_self ..) a b pa' p0 hb (by rw [hva,hsa];exact a2) (by rw [hsa];exact hs0)
    rw [hsa] at r2 r4 r5 r6;have hnd:tk.Nodup:=by rw [htk];exact mK
    have htl: ∀t∈tk,t<s.length:=fun t ht=>by
     obtain ⟨j,hj,he⟩:=List.getElem_of_mem ht;obtain ⟨x,c',d1,_,_⟩:=hs0g j t (by rw [List.getElem?_eq_getElem hj,he])
     exact (List.getElem?_eq_some_iff.1 d1).1
    have hsbl:(c.sb b).length=tk.length:=by rw [r5,hs0l]
    have hsrl:tk.length<=sr.length:=by
     have:=r4.len
     rw [List.length_take,hsbl] at this;rw [hs0l] at this;omega
    have htake: ∀j,j<tk.length->(sr.take s0.length)[j]? =sr[j]?:=fun j hj=>List.getElem?_take_of_lt (by rw [hs0l];exact hj)
    have hfirm:oI p0 sr=true:=CO (fun t x hx=>by
     have htl':t<s0.length:=by have:=(List.getElem?_eq_some_iff.1 hx).1;rw [b2] at this;exact this
     obtain ⟨x0,hx0⟩: ∃x0,s0[t]? =some x0:=⟨s0[t],List.getElem?_eq_getElem htl'⟩;obtain ⟨q,q1,q2⟩:=b3 t x0 hx0;rw [hx] at q1;injection q1 with q1;subst q1;obtain ⟨y0,hy0⟩: ∃y0,(c.sb b)[t]? =some y0:=⟨(c.sb b)[t]'(by omega),List.getElem?_eq_getElem (by omega)⟩
     obtain ⟨q',q3,q4⟩:=r4.at_ t y0 hy0;rw [htake t (by omega)] at q3
     refine ⟨q',q3,?_⟩;have hfm:=r6 t x0 y0 hx0 hy0;cases x0 with
     |arr r l=>cases y0 with
      |arr r' l'=>
       obtain ⟨rfl,hll⟩:=hfm;rw [show x=_ from q2,show q'=_ from q4];cases l<;>cases l'<;>simp_all [fL.solid]
      |_=>exact hfm.elim
     |box cs=>cases y0 with
      |box cs'=>obtain ⟨_,rfl,_⟩:=q2;obtain ⟨_,rfl,_⟩:=q4;rfl
      |_=>exact hfm.elim
     |set l=>cases y0 with
      |set l'=>rw [show x=_ from q2,show q'=_ from q4];rfl
      |_=>exact hfm.elim
     |tab p l=>cases y0 with
      |tab p' l'=>rw [show x=_ from q2,show q'=_ from q4];rfl
      |_=>exact hfm.elim
     |dead=>cases y0 with
      |dead=>rw [show x=_ from q2,show q'=_ from q4]
      |_=>exact hfm.elim)
    let g:=fQ tk s.length
    have hg: ∀j t,tk[j]? =some t->g j=t:=fun j t hj=>by show fQ tk s.length j=t;unfold fQ;rw [hj]
    obtain ⟨w1,w2⟩:=EV g tk (c.sb b) hsbl;obtain ⟨u1,u2⟩:=CN g tk sr hsrl
    let s2:=yC tk (kN (tH g tk (c.sb b)) s)
    have hin: ∀(j t:Nat) (x:SB),tk[j]? =some t->(c.sb b)[j]? =some x->s2[t]? =some (SW tk (P7 g x)):=fun j t x hj hx=>by
     show (yC tk _)[t]? =_;rw [oV,pA,yJ _ s j t _ (by rw [w1];exact hnd) (w2 j t x hj hx) (htl t (List.mem_of_getElem? hj))]
     rfl
    have hout: ∀(t:Nat),t∉tk->s2[t]? =(s[t]?).map (SW tk):=fun t ht=>by
     show (yC tk _)[t]? =_;rw [oV,pA,pB _ s t (by rw [w1];exact ht)]
    have hmem: ∀t∈tk,∃j,tk[j]? =some t:=fun t ht=>by
     obtain ⟨j,hj,he⟩:=List.getElem_of_mem ht;exact ⟨j,by rw [List.getElem?_eq_getElem hj,he]⟩
    have hfr:Fr tk s s2:=fun t x hx=>by
     by_cases ht:t∈tk
     · obtain ⟨j,hj⟩:=hmem t ht
       have hjl:j<tk.length:=(List.getElem?_eq_some_iff.1 hj).1;obtain ⟨x',c',d1,d2,d3⟩:=hs0g j t hj;rw [hx] at d1;injection d1 with d1;subst d1;obtain ⟨y0,hy0⟩: ∃y0,(c.sb b)[j]? =some y0:=⟨(c.sb b)[j]'(by omega),List.getElem?_eq_getElem (by omega)⟩
       have hfm:=r6 j c' y0 d3 hy0;have hs2:=hin j t y0 hj hy0;cases x with
       |arr r l=>
        injection d2 with d2;subst d2;cases y0 with
        |arr r' l'=>
         obtain ⟨rfl,hll⟩:=hfm;refine .inl ⟨l',hs2,hll,fun hb=>?_⟩
         exfalso
         have:has tk t=true:=by unfold has;rw [List.any_eq_true];exact ⟨t,ht,by simp⟩
         rw [this] at hb;cases hb
        |_=>exact hfm.elim
       |dead=>
        injection d2 with d2;subst d2;cases y0 with
        |dead=>exact hs2
        |_=>exact hfm.elim
       |_=>trivial
     · have:=hout t ht
       rw [hx] at this;cases x with
       |arr r l=>exact .inl ⟨l,this,rfl,fun _=>rfl⟩
       |dead=>exact this
       |_=>trivial
    have hback:aCH g (c.sb b) s2:=fun u x hx=>by
     have hul:u<tk.length:=by have:=(List.getElem?_eq_some_iff.1 hx).1;omega
     have hj:tk[u]? =some tk[u]:=List.getElem?_eq_getElem hul
     have:=hin u _ x hj hx
     rw [hg u _ hj];cases x with
     |arr r l=>exact this
     |dead=>exact this
     |_=>trivial
    have hRes:(∃n,mS (run F n) f pas ps z=some {v:=renF g v,wr:=jH g tk sr}):=by
     refine ⟨n,?_⟩;unfold mS SG;rw [<- htk,if_pos hz,a1,b1];dsimp only;rw [r1];dsimp only;unfold A5;rw [if_pos hfirm,hS.len]
     have:eF tk.length v sr=true:=by rw [<- hs0l];exact r2
     rw [if_pos this]
    refine ⟨{v:=HZ g (c.vb b),wr:=tH g tk (c.sb b)},_,hRes,?_,h3⟩;have hst:dG.stoOf s {v:=HZ g (c.vb b),wr:=tH g tk (c.sb b)}=s2:=by
     rw [IM,List.append_nil,wP,w1]
    exact {
     rd:=rfl
     fr:=rfl
     wr:=by rw [wP,w1];exact u1
     nw:=EW (by rw [u1];exact hnd)
     nl:=rfl
     sto:=by
      rw [hst];show bI s2 (dK (jH g tk sr) ps);rw [zK];refine ⟨by rw [uV,sL,pA,uV,hS.len],fun t x hx=>?_⟩
      by_cases ht:t∈tk
      · obtain ⟨j,hj⟩:=hmem t ht
        have hjl:j<tk.length:=(List.getElem?_eq_some_iff.1 hj).1;obtain ⟨y0,hy0⟩: ∃y0,(c.sb b)[j]? =some y0:=⟨(c.sb b)[j]'(by omega),List.getElem?_eq_getElem (by omega)⟩
        have hs2:=hin j t y0 hj hy0;rw [hx] at hs2;injection hs2 with hs2;subst hs2;obtain ⟨q',q3,q4⟩:=r4.at_ j y0 hy0;rw [htake j hjl] at q3;refine ⟨sW g q',yJ _ ps j t _ (by rw [u1];exact hnd) (u2 j t q' hj q3) (by rw [hS.len];exact htl t ht),?_⟩
        cases y0 with
        |box cs=>
         obtain ⟨pc,rfl,hpc⟩:=q4;exact ⟨_,rfl,RL.fr (Fr.refl tk s2) (backL_R hback hpc)⟩
        |arr r l=>rw [show q'=_ from q4];rfl
        |set l=>rw [show q'=_ from q4];rfl
        |tab p l=>rw [show q'=_ from q4];rfl
        |dead=>rw [show q'=_ from q4];rfl
      · rw [hout t ht,Option.map_eq_some_iff] at hx
        obtain ⟨x0,hx0,rfl⟩:=hx;obtain ⟨q,q1,q2⟩:=hS.at_ t x0 hx0;exact ⟨q,by rw [pB _ ps t (by rw [u1];exact ht)];exact q1,q2.fr hfr⟩
     v:=by rw [hst];exact MD hback r3
     fra:=by rw [hst,wP,w1];exact hfr}
end
end Go.Vm
/- What the typed machine makes of a function is what the logical machine runs. -/
namespace Go.Vm
section
variable {F : iE}
theorem WO.shrAny {o:bA} {r:List bA} {st:St} {tr:List Tr} {Q:St->List Tr->Prop} {f:FuncId} {args:List PV}
 (hw:wanted o.guard st.env=some true) (hop: ∀n,pS F (run F n) st.env st.sto st.fz o.op=dD (run F n) f args st.sto st.fz)
 (h:vN F f args st.sto st.fz fun v s z=>(Nat.ble st.sto.length s.length&&st.fz.all (has z))=true/\WO F r {st with env:=eM o.dst v st.env,sto:=s,fz:=z} (P6::tr) Q):
 WO F (o::r) st tr Q:=by
 obtain ⟨n,v,s,z,hr,hc,hk⟩:=h;refine WO.call (.shr v s z) hw ⟨n,?_⟩ rfl hk;rw [hop];simp only [dD,hr];rw [if_pos hc]
theorem WP.again {live:List (Nat×Option Nat)} {b:fM} {st s1:St} {Q:eA->St->Prop} (h0:AG live st=some s1) (h:WP F b s1 (AP (fun s=>WP F (.loop live b) s Q) Q)):WP F (.loop live b) st Q:=by
 obtain ⟨m,e,s,he,hq⟩:=h;cases e with
 |normal=>
  obtain ⟨k,e',s',he',hq'⟩:=hq;refine ⟨max m k+1,e',s',?_,hq'⟩;simp only [mB] at he' ⊢;rw [gZ];simp only [step,h0];rw [jX (jY F (Nat.le_max_left m k)) _ _ _ he];dsimp only;split at he'
  · rename_i e1 s1 hr1
    rw [jY F (Nat.le_max_right m k) _ _ hr1];exact he'
  · cases he'
 |exit i=>exact ⟨m+1,.exit i,s,by simp only [mB];rw [gZ];simp only [step,h0,he],hq⟩
 |ret=>exact ⟨m+1,.ret,s,by simp only [mB];rw [gZ];simp only [step,h0,he],hq⟩
def IN (F : iE) (inl : SX) : Prop :=
  ∀ (f : FuncId) (args : List SV) (s : List SB) (z : List Nat) (R' : Type) (k : SV -> List SB -> List Nat -> dT R') (ρ : Type) (w : R' -> ρ) (y : ρ) (pa : List PV) (ps : bH) (Q : R' -> PV -> bH -> List Nat -> Prop),
    RL s args pa -> bI s ps -> inl f args s z R' k ρ w = some y ->
    (∀ v s' z' p ps' ρ' (w' : R' -> ρ') y', R s' v p -> bI s' ps' -> k v s' z' ρ' w' = some y' -> ∃ r, y' = w' r /\ Q r p ps' z') ->
    ∃ r, y = w r /\ vN F f pa ps z (fun p ps' z' => Q r p ps' z')
def MF:SB->SB->Prop
 | .arr r l,b=>(∃l',b= .arr r l'/\l'.length=l.length)\/b= .dead
 | .dead,b=>b= .dead
 |_,_=>True
theorem wQ {R' ρ:Type} {w:R'->ρ} {y:ρ}: ∀{s s':List SB} {k:dT R'},mM s s' k ρ w=some y->k ρ w=some y/\s.length<=s'.length/\
 ∀(t:Nat) (b:SB),s[t]? =some b-> ∃b',s'[t]? =some b'/\MF b b'
 | [],s',k,h=>⟨by cases s'<;>exact h,Nat.zero_le _,fun t b ht=>by simp at ht⟩
 |x::xs,[],k,h=>by cases h
 |x::xs,y'::ys,k,h=>by
  have step: ∀(_:mM xs ys k ρ w=some y) (_:MF x y'),k ρ w=some y/\(x::xs).length<=(y'::ys).length/\ ∀(t:Nat) (b:SB),(x::xs)[t]? =some b-> ∃b',(y'::ys)[t]? =some b'/\MF b b':=by
   intro h hx;obtain ⟨h1,h2,h3⟩:=wQ h;refine ⟨h1,by simpa using h2,fun t b ht=>?_⟩
   cases t with
   |zero=>simp at ht;subst ht;exact ⟨y',rfl,hx⟩
   |succ t=>simpa using h3 t b (by simpa using ht)
  cases x with
  |arr r l=>
   cases y' with
   |arr q m=>
    obtain ⟨hr,h2⟩:=bJ (a:=dO (m.length==l.length) (mM xs ys k) aI) h;obtain ⟨hl,h3⟩:=eG h2
    have:=nU hr
    subst this;exact step h3 (.inl ⟨m,rfl,by simpa using hl⟩)
   |dead=>exact step h (.inr rfl)
   |_=>cases h
  |dead=>
   cases y' with
   |dead=>exact step h rfl
   |_=>cases h
  |box cs=>exact step h trivial
  |set l=>exact step h trivial
  |tab p l=>exact step h trivial
theorem QX {n t:Nat} (h:t<n):has (nH n) t=true:=by
 induction n with
 |zero=>omega
 |succ n ih=>
  unfold has at ih ⊢;rw [List.any_eq_true] at*;simp only [nH,List.mem_append,List.mem_singleton];rcases Nat.lt_or_ge t n with h1|h1
  · obtain ⟨x,h2,h3⟩:=ih h1
    exact ⟨x,.inl h2,h3⟩
  · have:t=n:=by omega
    subst this;exact ⟨t,.inr rfl,by simp⟩
theorem K0 {s s':List SB} (h: ∀(t:Nat) (b:SB),s[t]? =some b-> ∃b',s'[t]? =some b'/\MF b b'):Fr (nH s.length) s s':=fun t b hb=>by
 obtain ⟨b',h1,h2⟩:=h t b hb;have hlt:=(List.getElem?_eq_some_iff.1 hb).1;cases b with
 |arr r l=>
  rcases h2 with ⟨l',rfl,h3⟩|rfl
  · exact .inl ⟨l',h1,h3,fun hx=>by rw [QX hlt] at hx;cases hx⟩
  · exact .inr h1
 |dead=>rw [show b'= .dead from h2] at h1;exact h1
 |_=>trivial
theorem aHK {s:List SB} {ps:bH} {sr:dG} {pr:jB} (G:eB s ps sr pr) (hS:bI s ps):(XR.loc pr).tr ps.length=sr.tr s.length:=by
 simp only [XR.tr,dG.tr,G.rd,G.fr,hS.len,<- G.wr,G.nl,List.all_map]
 have:pr.news.isEmpty=sr.news.isEmpty:=by
  have:=G.nl
  cases h1:pr.news<;>cases h2:sr.news<;>simp_all
 rw [this];rfl
theorem aCI {st:kC} {p:St} (h:tJ st p) {sr:dG} {pr:jB} (G:eB st.sto p.sto sr pr) (d:Option Nat):tJ (sr.next d st) ((XR.loc pr).next d p):=by
 have hput: ∀{s:List SB} {e:SE} {pe:lY} {v:SV} {q:PV},bW s e pe->R s v q->bW s (F1 d v e) (eM d q pe):=by
  intro s e pe v q he hv;cases d with
  |none=>exact he
  |some t=>exact ⟨q,pe,rfl,hv,he⟩
 have hs:=IM st.sto sr;unfold dG.next
 split
 · rename_i hw
   rw [hw] at hs;simp only [qZ,kN,F8] at hs;have hsto:=G.sto;have hv:=G.v;have hfr:=G.fra;rw [hs] at hsto hv hfr;rw [hw] at hfr;exact ⟨by simp only [gV];exact hput (bW.ext hfr h.env) hv,by simp only [gV];exact hsto,by simp only [XR.next,G.fr,h.fz],h.kn⟩
 · have hsto:=G.sto
   have hv:=G.v;have hfr:=G.fra;rw [hs] at hsto hv hfr;exact ⟨by simp only [gV];exact hput (bW.fr hfr h.env) hv,by simp only [gV];exact hsto,by simp only [XR.next,G.fr,h.fz],h.kn⟩
theorem aHL {s:List SB} {ps:bH} {sr:dG} {pr:jB} (G:eB s ps sr pr) {z:List Nat} (h:sr.ok z=true):(XR.loc pr).ok z=true:=by
 simp only [XR.ok,G.nw,Bool.and_true];unfold dG.ok at h;rw [<- G.wr,List.all_map] at h;exact h
section
variable {cx : O0} {inl : SX} {R' : Type}
def aJn (_F:iE) (k:kC->List Tr->dT R') (Q:R'->St->List Tr->Prop):Prop:=
 ∀st p tr ρ (w:R'->ρ) y,tJ st p->k st tr ρ w=some y-> ∃r,y=w r/\Q r p tr
theorem pC {o:bA} {l:List bA} {st:kC} {p:St} {tr:List Tr} {k:kC->List Tr->dT R'} {ρ:Type} {w:R'->ρ} {y:ρ} {Q:R'->St->List Tr->Prop}
 (hl: ∀st p tr ρ (w:R'->ρ) y,tJ st p->k st tr ρ w=some y-> ∃r,y=w r/\WO F l p tr (Q r)) (h:tJ st p) {sr:dG} {pr:jB} (hw:wanted o.guard p.env=some true)
 (hx: ∃n,pS F (run F n) p.env p.sto p.fz o.op=some (.loc pr)) (G:eB st.sto p.sto sr pr) (hg:L3 o.dst st tr k (.loc sr) ρ w=some y): ∃r,y=w r/\WO F (o::l) p tr (Q r):=by
 unfold L3 at hg;dsimp only at hg;obtain ⟨hok,hg⟩:=bJ hg;rw [FW] at hg;have hR:=aCI h G o.dst;obtain ⟨r,hr,hwo⟩:=hl _ _ _ _ _ _ hR hg;refine ⟨r,hr,WO.call (.loc pr) hw hx (by rw [h.fz];exact aHL G hok) ?_⟩
 rw [aHK G h.sto];exact hwo
theorem IP (hcx:aL F cx) (hinl:IN F inl) {o:bA} {l:List bA} {st:kC} {p:St} {tr:List Tr} {k:kC->List Tr->dT R'} {ρ:Type} {w:R'->ρ} {y:ρ} {Q:R'->St->List Tr->Prop}
 (hl: ∀st p tr ρ (w:R'->ρ) y,tJ st p->k st tr ρ w=some y-> ∃r,y=w r/\WO F l p tr (Q r)) (h:tJ st p) (hw:wanted o.guard p.env=some true)
 (hg:EK cx inl st.env st.sto st.fz o.op (L3 o.dst st tr k) ρ w=some y): ∃r,y=w r/\WO F (o::l) p tr (Q r):=by
 have hS:=h.sto;have hE:=h.env;have shr: ∀(f:FuncId) (vals:List SV) (pas:List PV),RL st.sto vals pas->(∀n,pS F (run F n) p.env p.sto p.fz o.op=dD (run F n) f pas p.sto p.fz)->
  inl f vals st.sto st.fz R' (fun v s' z'=>L3 o.dst st tr k (.shr v s' z')) ρ w=some y-> ∃r,y=w r/\WO F (o::l) p tr (Q r):=by
  intro f vals pas hv hop hi;obtain ⟨r,hr,hd⟩:=hinl f vals st.sto st.fz R' _ ρ w y pas p.sto (fun r v s z=>(Nat.ble p.sto.length s.length&&p.fz.all (has z))=true/\WO F l {p with env:=eM o.dst v p.env,sto:=s,fz:=z} (P6::tr) (Q r)) hv hS hi
   (fun v s' z' pv ps' ρ' w' y' hR hS' hk=>by
    unfold L3 at hk;dsimp only at hk;rw [FW] at hk;obtain ⟨hk,hlen,hsame⟩:=wQ hk;obtain ⟨hz,hk⟩:=bJ hk;have hfr:=K0 hsame;have hput:bW s' (F1 o.dst v (dgE (nH st.sto.length) st.env)) (eM o.dst pv p.env):=by
     cases o.dst with
     |none=>exact bW.fr hfr hE
     |some t=>exact ⟨pv,p.env,rfl,hR,bW.fr hfr hE⟩
    have hR':tJ {env:=F1 o.dst v (dgE (nH st.sto.length) st.env),sto:=s',fz:=z',kn:=st.kn} {p with env:=eM o.dst pv p.env,sto:=ps',fz:=z'}:=⟨hput,hS',rfl,h.kn⟩;obtain ⟨r,hr,hwo⟩:=hl _ _ _ _ _ _ hR' hk;refine ⟨r,hr,?_,hwo⟩;rw [h.fz,hz,Bool.and_true,hS.len,hS'.len];simpa using hlen)
  refine ⟨r,hr,WO.shrAny hw hop ?_⟩;rw [h.fz];rw [h.fz] at hd;exact hd
 have loc: ∀{k':dG->dT R'},hG st.env st.sto st.fz o.op k' ρ w=some y->xY o.op=false->(∀sr,k' sr=L3 o.dst st tr k (.loc sr))-> ∃r,y=w r/\WO F (o::l) p tr (Q r):=by
  intro k' hv hc hk;obtain ⟨sr,pr,h1,G,h2⟩:=TC hE hS (pe:=p.env) hv;rw [hk] at h2;exact pC hl h hw ⟨0,by rw [FU hc,h.fz,h1];rfl⟩ G h2
 generalize hop:o.op=op at hg;cases op with
 |call m f args=>
  have hargs:=sK hE args;simp only [EK] at hg;cases m with
  |pur=>
   dsimp only at hg;cases hx:exVL st.sto (fV st.sto cE) (fG st.env args) with
   |none=>rw [hx] at hg;cases hg
   |some vs=>
    rw [hx] at hg;obtain ⟨q,h1,h2⟩:=exVL_R hS (AU hS cE) hargs hx;obtain ⟨sr,pr,⟨n,h3⟩,G,h4⟩:=rC (f:=f) (z:=st.fz) hS h1 h2 (tkExL hS (CH hS cE) hargs hx) (fun c hc=>hcx.con f c hc) hg
    exact pC hl h hw ⟨n,by rw [hop,h.fz];simp only [pS,h3];rfl⟩ G h4
  |own=>
   dsimp only at hg;cases hx:exVL st.sto (fV st.sto cE) (fG st.env args) with
   |none=>rw [hx] at hg;cases hg
   |some vs=>
    rw [hx] at hg;obtain ⟨q,h1,h2⟩:=exVL_R hS (AU hS cE) hargs hx;obtain ⟨sr,pr,⟨n,h3⟩,G,h4⟩:=rC (f:=f) (z:=st.fz) hS h1 h2 (tkExL hS (CH hS cE) hargs hx) (fun c hc=>hcx.con f c hc) hg
    exact pC hl h hw ⟨n,by rw [hop,h.fz];simp only [pS,h3];rfl⟩ G h4
  |shr=>exact shr f _ _ hargs (fun n=>by rw [hop];rfl) hg
  |fp=>
   dsimp only at hg;cases hx:KL st.sto (fV st.sto cE) (fG st.env args) with
   |false=>rw [hx] at hg;cases hg
   |true=>
    rw [hx] at hg;dsimp only at hg;obtain ⟨hz,hg⟩:=bJ hg;cases h1:renVL (jD (tkVL (qH st.sto cE) (fG st.env args))) (fG st.env args) with
    |none=>rw [h1] at hg;cases hg
    |some vs=>
     cases h2:DY st.sto (jD (tkVL (qH st.sto cE) (fG st.env args))) (jD (tkVL (qH st.sto cE) (fG st.env args))) with
     |none=>rw [h1,h2] at hg;cases hg
     |some s0=>
      rw [h1,h2] at hg;obtain ⟨sr,pr,⟨n,h3⟩,G,h4⟩:=ME (f:=f) (z:=st.fz) hS hargs (by rw [QP hS (CH hS cE) hargs hx]) hz h1 h2 (fun c hc=>hcx.fpc f c hc) hg
      exact pC hl h hw ⟨n,by rw [hop,h.fz];simp only [pS,h3];rfl⟩ G h4
 |callv x args=>
  have hargs:=sK hE args;simp only [EK] at hg;have hx:=bU hE x;generalize bC st.env x=v at hg hx;cases v with
  |clo f a b=>
   dsimp only at hg;obtain ⟨pa,pb,hx,ha,hb⟩:=hx;have hany: ∀{vs:List SV} {q:List PV},RL st.sto vs q->(anyPtr vs=true->q.any A4=true):=by
    intro vs
    induction vs with
    |nil=>intro q _ h;cases h
    |cons v vs ih=>
     intro q hq hp;obtain ⟨a,as,rfl,h1,h2⟩:=hq.cons_inv;simp only [anyPtr,Bool.or_eq_true] at hp;simp only [List.any_cons,Bool.or_eq_true];rcases hp with hp|hp
     · left
       cases v with
       |own _ _=>obtain ⟨_,_,rfl,_⟩:=h1;rfl
       |pre _ _ _ _=>obtain ⟨_,rfl,_⟩:=h1;rfl
       |part _ _ _ _ _=>obtain ⟨_,rfl,_⟩:=h1;rfl
       |pa _ _ _ _ _=>obtain ⟨rfl,_⟩:=h1;rfl
       |pb _ _ _=>obtain ⟨_,rfl,_⟩:=h1;rfl
       |bp _ _ _=>rw [show a=_ from h1];rfl
       |mp _=>rw [show a=_ from h1];rfl
       |_=>cases hp
     · right;exact ih h2 hp
   cases hp:anyPtr (fG st.env args++b) with
   |true=>
    rw [hp] at hg
    have:=hany (hargs.append hb) hp
    exact shr f _ _ ((ha.append hargs).append hb) (fun n=>by rw [hop];simp only [pS,hx,this,if_true]) hg
   |false=>
    rw [hp] at hg;simp only [cond_false] at hg;cases hxx:exVL st.sto (fV st.sto cE) (a++fG st.env args++b) with
    |none=>rw [hxx] at hg;cases hg
    |some vs=>
     rw [hxx] at hg;have hno: ∀{vs u:List SV} {q:List PV},RL st.sto vs q->anyPtr vs=false->exVL st.sto (fV st.sto cE) vs=some u->q.any A4=false:=by
      intro vs
      induction vs with
      |nil=>intro u q hq _ _;rw [show q=[] from hq];rfl
      |cons v vs ih=>
       intro u q hq hp hu;obtain ⟨a,as,rfl,h1,h2⟩:=hq.cons_inv;simp only [anyPtr,Bool.or_eq_false_iff] at hp;simp only [exVL] at hu;split at hu
       · rename_i y1 y2 e1 e2
         simp only [List.any_cons,ih h2 hp.2 e2,Bool.or_false];cases v with
         |agg _|tup _|rptr _ _=>obtain ⟨_,rfl,_⟩:=h1;rfl
         |clo _ _ _=>obtain ⟨_,_,rfl,_⟩:=h1;rfl
         |int _ _|bool _|str _|nilf|sl _ _|nil _ _|undef|nul=>rw [show a=_ from h1];rfl
         |junk=>cases e1
         |own _ _|pre _ _ _ _|part _ _ _ _ _|pa _ _ _ _ _|pb _ _ _|bp _ _ _|mp _=>cases hp.1
       · cases hu
     have hsplit: ∃u2,exVL st.sto (fV st.sto cE) (fG st.env args++b)=some u2:=by
      have: ∀(l:List SV) {m u:List SV},exVL st.sto (fV st.sto cE) (l++m)=some u-> ∃u2,exVL st.sto (fV st.sto cE) m=some u2:=by
       intro l
       induction l with
       |nil=>intro m u h;exact ⟨u,h⟩
       |cons x l ih=>
        intro m u h;simp only [List.cons_append,exVL] at h;split at h
        · rename_i e1 e2;exact ih e2
        · cases h
      rw [List.append_assoc] at hxx;exact this a hxx
     obtain ⟨u2,hu2⟩:=hsplit;have hno':=hno (hargs.append hb) hp hu2;have hall:=(ha.append hargs).append hb;obtain ⟨q,h1,h2⟩:=exVL_R hS (AU hS cE) hall hxx;obtain ⟨sr,pr,⟨n,h3⟩,G,h4⟩:=rC (f:=f) (z:=st.fz) hS h1 h2 (tkExL hS (CH hS cE) hall hxx) (fun c hc=>hcx.con f c hc) hg
     exact pC hl h hw ⟨n,by rw [hop,h.fz];simp only [pS,hx,hno',Bool.false_eq_true,if_false,h3];rfl⟩ G h4
  |_=>cases hg
 |_=>exact loc (k':=fun r=>L3 o.dst st tr k (.loc r)) (by rw [hop];exact hg) (by rw [hop];rfl) (fun _=>rfl)
theorem pD (hcx:aL F cx) (hinl:IN F inl): ∀(ops:List bA) {st:kC} {p:St} {tr:List Tr} {k:kC->List Tr->dT R'} {ρ:Type} {w:R'->ρ} {y:ρ} {Q:R'->St->List Tr->Prop},
 aJn F k Q->tJ st p->jL cx inl ops st tr k ρ w=some y-> ∃r,y=w r/\WO F ops p tr (Q r)
 | [],st,p,tr,k,ρ,w,y,Q,hk,h,he=>by
  obtain ⟨r,hr,hq⟩:=hk st p tr ρ w y h he;exact ⟨r,hr,WO.nil hq⟩
 |o::l,st,p,tr,k,ρ,w,y,Q,hk,h,he=>by
  have hl: ∀st p tr ρ (w:R'->ρ) y,tJ st p->jL cx inl l st tr k ρ w=some y-> ∃r,y=w r/\WO F l p tr (Q r):=fun st p tr ρ w y h he=>pD hcx hinl l hk h he
  have setR: ∀{st:kC} {c:Nat} {v:SV},tJ st p->R st.sto v (lk c p.env)->tJ {st with env:=setS c v st.env} p:=fun h hv=>⟨h.env.setS hv,h.sto,h.fz,h.kn⟩
  have run': ∀{st:kC},tJ st p->wanted o.guard p.env=some true->(match o.op with
   | .pick (.t c) a b=>match DU c st.env with
    | .bool x=>dO x (L3 o.dst {st with env:=setS c (.bool true) st.env} tr (jL cx inl l · · k) (.loc {v:=bC st.env a}))
     (L3 o.dst {st with env:=setS c (.bool false) st.env} tr (jL cx inl l · · k) (.loc {v:=bC st.env b}))
    |_=>aI
   |op=>EK cx inl st.env st.sto st.fz op (L3 o.dst st tr (jL cx inl l · · k))) ρ w=some y-> ∃r,y=w r/\WO F (o::l) p tr (Q r):=by
   intro st h hw he;have plain:EK cx inl st.env st.sto st.fz o.op (L3 o.dst st tr (jL cx inl l · · k)) ρ w=some y-> ∃r,y=w r/\WO F (o::l) p tr (Q r):=fun he=>IP hcx hinl hl h hw he
   generalize hop:o.op=op at he;cases op with
   |pick c a b=>
    cases c with
    |c v=>exact plain (by rw [hop];exact he)
    |t c=>
     dsimp only at he;generalize hv:DU c st.env=v at he;cases v with
     |bool x=>
      have hx:lk c p.env= .bool x:=by have:=h.env.lk c;rw [hv] at this;exact this
      rcases cM he with ⟨rfl,he⟩|⟨rfl,he⟩
      · have hR:=setR h (c:=c) (v:= .bool true) hx
        exact pC (o:=o) hl hR hw ⟨0,by rw [hop];simp only [pS,aV,cY.ev,hx];rfl⟩ (eB.val hR.sto (bU h.env a)) he
      · have hR:=setR h (c:=c) (v:= .bool false) hx
        exact pC (o:=o) hl hR hw ⟨0,by rw [hop];simp only [pS,aV,cY.ev,hx];rfl⟩ (eB.val hR.sto (bU h.env b)) he
     |_=>cases he
   |_=>exact plain (by rw [hop];exact he)
  have skip': ∀{st:kC},tJ st p->wanted o.guard p.env=some false->jL cx inl l {st with env:=F1 o.dst .nul st.env} (Tr.idle::tr) k ρ w=some y-> ∃r,y=w r/\WO F (o::l) p tr (Q r):=by
   intro st h hw he;have hR:tJ {st with env:=F1 o.dst .nul st.env} {p with env:=eM o.dst .nul p.env}:=by
    refine ⟨?_,h.sto,h.fz,h.kn⟩;cases o.dst with
    |none=>exact h.env
    |some t=>exact ⟨.nul,p.env,rfl,rfl,h.env⟩
   obtain ⟨r,hr,hwo⟩:=hl _ _ _ _ _ _ hR he;exact ⟨r,hr,WO.skip hw hwo⟩
  simp only [jL] at he;cases hgd:o.guard with
  |none=>
   rw [hgd] at he;exact run' h (by rw [hgd];rfl) he
  |some g=>
   obtain ⟨c,want⟩:=g;rw [hgd] at he;dsimp only at he;generalize hv:DU c st.env=v at he;cases v with
   |bool x=>
    have hx:lk c p.env= .bool x:=by have:=h.env.lk c;rw [hv] at this;exact this
    have hwx: ∀b,x=b->wanted o.guard p.env=some (b==want):=fun b hb=>by rw [hgd];simp only [wanted,hx,hb]
    cases want with
    |true=>
     simp only [cond_true] at he;rcases cM he with ⟨rfl,he⟩|⟨rfl,he⟩
     · exact run' (setR h (v:= .bool true) hx) (hwx true rfl) he
     · exact skip' (setR h (v:= .bool false) hx) (hwx false rfl) he
    |false=>
     simp only [cond_false] at he;rcases cM he with ⟨rfl,he⟩|⟨rfl,he⟩
     · exact skip' (setR h (v:= .bool true) hx) (hwx true rfl) he
     · exact run' (setR h (v:= .bool false) hx) (hwx false rfl) he
   |nul=>
    have hx:lk c p.env= .nul:=by have:=h.env.lk c;rw [hv] at this;exact this
    exact skip' h (by rw [hgd];simp only [wanted,hx]) he
   |_=>cases he
theorem CP {e:SE}: ∀{keep:List Nat} {k:SE->dT R'} {ρ:Type} {w:R'->ρ} {y:ρ},IA e keep k ρ w=some y->k (keep.map fun s=>(s,DU s e)) ρ w=some y
 | [],k,ρ,w,y,h=>h
 |s::r,k,ρ,w,y,h=>by
  simp only [IA] at h;rw [FW] at h
  have:=CP h
  exact this
theorem QY {s:List SB} {e:SE} {pe:lY} (h:bW s e pe): ∀(keep:List Nat),bW s (keep.map fun t=>(t,DU t e)) (keep.map fun t=>(t,lk t pe))
 | []=>rfl
 |t::r=>⟨_,_,rfl,h.lk t,QY h r⟩
end
mutual
theorem EX: ∀(v:SV) (q:List qJ),mD v (yB v++q)=(v,q)
 | .junk,q| .undef,q| .nul,q| .nilf,q| .int _ _,q| .bool _,q| .str _,q| .sl _ _,q| .nil _ _,q| .own _ _,q| .pre _ _ _ _,q| .part _ _ _ _ _,q| .pa _ _ _ _ _,q| .pb _ _ _,q| .bp _ _ _,q| .mp _,q=>rfl
 | .agg cs,q=>by simp only [mD,yB,put_selfL]
 | .tup cs,q=>by simp only [mD,yB,put_selfL]
 | .rptr cs o,q=>by simp only [mD,yB,put_selfL]
 | .clo f a b,q=>by simp only [mD,yB,List.append_assoc,put_selfL]
theorem put_selfL: ∀(v:List SV) (q:List qJ),putL v (atsL v++q)=(v,q)
 | [],q=>rfl
 |x::xs,q=>by simp only [putL,atsL,List.append_assoc,EX,put_selfL]
end
theorem EY: ∀(v:List SB) (q:List qJ),uO v (FZ v++q)=(v,q)
 | [],q=>rfl
 |x::xs,q=>by
  have: ∀q,KO x (P4 x++q)=(x,q):=by
   intro q;cases x<;>first|rfl|simp only [KO,P4,put_selfL]
  simp only [uO,FZ,List.append_assoc,this,EY]
theorem EZ: ∀(v:SE) (q:List qJ),HY v (N8 v++q)=(v,q)
 | [],q=>rfl
 |(t,x)::xs,q=>by simp only [HY,N8,List.append_assoc,EX,EZ]
theorem K1 (st:kC):tG st (qC st)=st:=by
 have hs:=EY st.sto [];rw [List.append_nil] at hs;simp only [tG,qC,EZ,hs]
theorem OH {cx:O0} {inl:SX} (hcx:aL F cx) (hinl:IN F inl): ∀(c:fM) (R':Type) {st:kC} {p:St} {k:eA->kC->dT R'} {ρ:Type} {w:R'->ρ} {y:ρ} {Q:R'->eA->St->Prop},
 (∀e st p ρ (w:R'->ρ) y,tJ st p->k e st ρ w=some y-> ∃r,y=w r/\Q r e p)->tJ st p->wC cx inl c R' st k ρ w=some y-> ∃r,y=w r/\WP F c p (Q r):=by
 intro c
 induction c with
 |skip=>
  intro R' st p k ρ w y Q hk h he;obtain ⟨r,hr,hq⟩:=hk _ _ _ _ _ _ h he;exact ⟨r,hr,WP.skip hq⟩
 |ret=>
  intro R' st p k ρ w y Q hk h he;obtain ⟨r,hr,hq⟩:=hk _ _ _ _ _ _ h he;exact ⟨r,hr,WP.ret hq⟩
 |exit id=>
  intro R' st p k ρ w y Q hk h he;obtain ⟨r,hr,hq⟩:=hk _ _ _ _ _ _ h he;exact ⟨r,hr,WP.exit hq⟩
 |region d ops keep=>
  intro R' st p k ρ w y Q hk h he;simp only [wC] at he;have fin: ∀st p ρ (w:R'->ρ) y,tJ st p->IA st.env keep (fun e=>k .normal {st with env:=e}) ρ w=some y-> ∃r,y=w r/\Q r .normal (jZ keep p):=by
   intro st p ρ w y h he
   have:=CP he
   have hR:tJ {st with env:=keep.map fun t=>(t,DU t st.env)} (jZ keep p):=⟨QY h.env keep,h.sto,h.fz,h.kn⟩
   exact hk _ _ _ _ _ _ hR this
  cases d with
  |none=>
   obtain ⟨r,hr,hwo⟩:=pD hcx hinl ops (Q:=fun r s _=>Q r .normal (jZ keep s)) (fun st p tr ρ w y h he=>fin st p ρ w y h he) h he
   exact ⟨r,hr,WP.region hwo⟩
  |some bf=>
   obtain ⟨r,hr,hwo⟩:=pD hcx hinl ops (Q:=fun r s t=>kX 0 (t.reverse.zip bf)=true/\Q r .normal (jZ keep s)) (fun st p tr ρ w y h he=>by
    dsimp only at he;cases ho:kX 0 (tr.reverse.zip bf) with
    |false=>rw [ho] at he;cases he
    |true=>
     rw [ho] at he;obtain ⟨r,hr,hq⟩:=fin st p ρ w y h he;exact ⟨r,hr,ho,hq⟩) h he
   exact ⟨r,hr,WP.regionD hwo⟩
 |seq a b iha ihb=>
  intro R' st p k ρ w y Q hk h he;simp only [wC] at he;obtain ⟨r,hr,hwp⟩:=iha R' (Q:=fun r=>AP (fun s=>WP F b s (Q r)) (Q r)) (fun e st p ρ w y h he=>by
   cases e with
   |normal=>exact ihb R' hk h he
   |exit i=>exact hk _ _ _ _ _ _ h he
   |ret=>exact hk _ _ _ _ _ _ h he) h he
  exact ⟨r,hr,WP.seq hwp⟩
 |cond c a b iha ihb=>
  intro R' st p k ρ w y Q hk h he;simp only [wC] at he;have hx:=bU h.env c;generalize bC st.env c=v at he hx;cases v with
  |bool x=>
   rcases cM he with ⟨rfl,he⟩|⟨rfl,he⟩
   · obtain ⟨r,hr,hwp⟩:=iha R' hk h he
     exact ⟨r,hr,WP.condT hx hwp⟩
   · obtain ⟨r,hr,hwp⟩:=ihb R' hk h he
     exact ⟨r,hr,WP.condF hx hwp⟩
  |_=>cases he
 |block id b ih=>
  intro R' st p k ρ w y Q hk h he;simp only [wC] at he;obtain ⟨r,hr,hwp⟩:=ih R' (Q:=fun r=>inBlock id (Q r)) (fun e st p ρ w y h he=>by
   cases e with
   |normal=>exact hk _ _ _ _ _ _ h he
   |ret=>exact hk _ _ _ _ _ _ h he
   |exit j=>
    dsimp only at he;cases hj:Nat.beq j id with
    |true=>
     rw [hj] at he;obtain ⟨r,hr,hq⟩:=hk _ _ _ _ _ _ h he;have hji:=Nat.eq_of_beq_eq_true hj;exact ⟨r,hr,by simpa [inBlock,hji] using hq⟩
    |false=>
     rw [hj] at he;obtain ⟨r,hr,hq⟩:=hk _ _ _ _ _ _ h he
     have:j≠id:=by intro e;subst e;simp at hj
     exact ⟨r,hr,by simpa [inBlock,this] using hq⟩) h he
  exact ⟨r,hr,WP.block hwp⟩
 |loop live b ih=>
  intro R' st p k ρ w y Q hk h he;simp only [wC] at he;cases hn:B4 cx.rk live st with
  |none=>rw [hn] at he;cases he
  |some st1=>
   rw [hn] at he;dsimp only at he;have ksK_eq: ∀{β:Type 1} (l:List AK) (c:List AK->β),ksK l c=c l:=by
    intro β l;have rK_eq: ∀{β:Type 1} (l:List PT) (c:List PT->β),rK l c=c l:=by
     intro β l
     induction l with
     |nil=>intro c;rfl
     |cons p r ih=>intro c;cases p<;>simp only [rK,ptK,ih]
    induction l with
    |nil=>intro c;rfl
    |cons a r ih=>intro c;cases a<;>simp only [ksK,rK_eq,ih]
   rw [ksK_eq] at he;generalize aCx (qC st1)=ks at he;cases hp:kM ks (qC st1) with
   |none=>rw [hp] at he;cases he
   |some y0=>
    rw [hp] at he;dsimp only at he;obtain ⟨p1,hp1,hR1⟩:=MB h hn;have hlike: ∀(st3:kC) (y':fP ks),B6 st1 st3=true->kM ks (qC st3)=some y'->tG st1 (hJ ks y')=st3:=fun st3 y' h1 h2=>by
     rw [lL h2,OG h1]
    obtain ⟨n,hit⟩:=PR he;have h0:tJ (tG st1 (hJ ks y0)) p1:=by rw [lL hp,K1];exact hR1
    clear he hp hn h hR1
    induction n generalizing y0 p p1 with
    |zero=>cases hit
    |succ n ihn=>
     have body: ∀zr,wC cx inl b (aY (fP ks) ρ) (tG st1 (hJ ks y0)) (fun e st2=>match e with
      | .normal=>match B4 cx.rk live st2 with
       |some st3=>bif B6 st1 st3 then (match kM ks (qC st3) with
        |some y'=>EH (.next y')
        |none=>aI) else aI
       |none=>aI
      |e=>fun ρ' w'=>k e st2 ρ' fun r=>w' (.done (w r))) (aY (fP ks) ρ) (fun z=>z)=some zr->
      WP F b p1 (fun e s=>match zr with
       | .next y'=>e= .normal/\ ∃p3,AG live s=some p3/\tJ (tG st1 (hJ ks y')) p3
       | .done x=>e≠ .normal/\ ∃r,x=w r/\Q r e s):=by
      intro zr hbody;obtain ⟨zr',hzr,hwp⟩:=ih (aY (fP ks) ρ) (Q:=fun zr e s=>match zr with
       | .next y'=>e= .normal/\ ∃p3,AG live s=some p3/\tJ (tG st1 (hJ ks y')) p3
       | .done x=>e≠ .normal/\ ∃r,x=w r/\Q r e s) (fun e st2 p2 ρ' w' y2 h2 he2=>by
       cases e with
       |normal=>
        dsimp only at he2;cases hn3:B4 cx.rk live st2 with
        |none=>rw [hn3] at he2;cases he2
        |some st3=>
         rw [hn3] at he2;obtain ⟨hlk,he2⟩:=bJ he2;cases hp3:kM ks (qC st3) with
         |none=>rw [hp3] at he2;cases he2
         |some y3=>
          rw [hp3] at he2;injection he2 with he2;obtain ⟨p3,hp3',hR3⟩:=MB h2 hn3;exact ⟨.next y3,he2.symm,rfl,p3,hp3',by rw [hlike st3 y3 hlk hp3];exact hR3⟩
       |exit i=>
        obtain ⟨r,hr,hq⟩:=hk _ _ _ _ _ _ h2 he2;exact ⟨.done (w r),hr,(by intro e;cases e),r,rfl,hq⟩
       |ret=>
        obtain ⟨r,hr,hq⟩:=hk _ _ _ _ _ _ h2 he2;exact ⟨.done (w r),hr,(by intro e;cases e),r,rfl,hq⟩) h0 hbody
      subst hzr;exact hwp
     simp only [jE] at hit;split at hit
     · rename_i y' hbody
       obtain ⟨m,e,s,hrun,rfl,p3,hp3,hR3⟩:=body _ hbody;obtain ⟨r,hr,hwp⟩:=ihn y' p3 hp3 hit hR3;exact ⟨r,hr,WP.again hp1 ⟨m,.normal,s,hrun,hwp⟩⟩
     · rename_i x hbody
       injection hit with hit;obtain ⟨m,e,s,hrun,hne,r,hr,hq⟩:=body _ hbody;refine ⟨r,by rw [<- hit];exact hr,WP.again hp1 ⟨m,e,s,hrun,?_⟩⟩
       cases e with
       |normal=>exact absurd rfl hne
       |exit i=>exact hq
       |ret=>exact hq
     · cases hit
end
end Go.Vm
/- Contracts from the typed machine. -/
namespace Go.Vm
section
variable {F : iE} {cx : O0} {inl : SX}
theorem IQ {s:List SB}: ∀{l:List SV} {q:List PV} (i:Nat),RL s l q->bW s (KS i l) (nI i q)
 | [],q,i,h=>by rw [show q=[] from h];rfl
 |x::xs,q,i,h=>by
  obtain ⟨a,as,rfl,h1,h2⟩:=h.cons_inv;exact ⟨a,nI (i+1) as,rfl,h1,IQ (i+1) h2⟩
theorem QZ {st:kC} {p:St} (h:tJ st p) {r:RV} {v:SV} (hr:KR st r=some v): ∃q,A6 p r=some q/\R st.sto v q:=by
 cases r with
 |tmp t=>injection hr with hr;subst hr;exact ⟨_,rfl,h.env.lk t⟩
 |cell t agg=>
  simp only [KR] at hr;have hlk:=h.env.lk t;split at hr
  · rename_i u n off hv
    rw [hv] at hlk;rw [bE] at hr;split at hr
    · rename_i cs hst
      obtain ⟨q,h1,h2⟩:=h.sto.box hst;obtain ⟨x,h3,h4⟩:=mN h2 hr;refine ⟨x,?_,h4⟩;simp only [A6,show lk t p.env=_ from hlk,jC,h1,Nat.beq_refl,if_true,h3];rfl
    · cases hr
  · rename_i cs off hv
    rw [hv] at hlk;obtain ⟨q,h1,h2⟩:=hlk;obtain ⟨x,h3,h4⟩:=mN h2 hr;refine ⟨x,?_,h4⟩;simp only [A6,h1,jC,h3];rfl
  · cases hr
theorem E0 {st:kC} {p:St} (h:tJ st p): ∀{l:List RV} {vs:List SV},sJ st l=some vs-> ∃q,iS p l=some q/\RL st.sto vs q
 | [],vs,hr=>by injection hr with hr;subst hr;exact ⟨[],rfl,rfl⟩
 |r::l,vs,hr=>by
  simp only [sJ] at hr;split at hr
  · rename_i v vs' h1 h2
    injection hr with hr;subst hr;obtain ⟨q,h3,h4⟩:=QZ h h1;obtain ⟨qs,h5,h6⟩:=E0 h h2;exact ⟨q::qs,by simp only [iS,h3,h5],RL.cons h4 h6⟩
  · cases hr
theorem IR {s:List SB} {vs:List SV} {q:List PV} (h:RL s vs q):R s (yD vs) (jW q):=by
 match vs,q,h with
 | [],q,h=>rw [show q=[] from h];exact ⟨[],rfl,rfl⟩
 | [v],q,h=>
  obtain ⟨a,as,rfl,h1,h2⟩:=h.cons_inv;rw [show as=[] from h2];exact h1
 |v::u::r,q,h=>
  have hall:=h;obtain ⟨a,as,rfl,h1,h2⟩:=h.cons_inv;obtain ⟨b,bs,rfl,h3,h4⟩:=h2.cons_inv;exact ⟨_,rfl,hall⟩
theorem rD (hcx:aL F cx) (hinl:IN F inl) {f:FuncId} {x:aF} (hf:F f=some (.code x)) {R':Type} {args:List SV} {s:List SB} {z:List Nat} {k:SV->List SB->List Nat->dT R'} {ρ:Type} {w:R'->ρ} {y:ρ} {pa:List PV} {ps:bH}
 {Q:R'->PV->bH->List Nat->Prop} (ha:RL s args pa) (hS:bI s ps) (he:IB cx inl x R' args s z k ρ w=some y)
 (hk: ∀v s' z' p ps' ρ' (w':R'->ρ') y',R s' v p->bI s' ps'->k v s' z' ρ' w'=some y'-> ∃r,y'=w' r/\Q r p ps' z'): ∃r,y=w r/\vN F f pa ps z (fun p ps' z'=>Q r p ps' z'):=by
 unfold IB at he;obtain ⟨hn,he⟩:=bJ he;have fin: ∀st p ρ' (w':R'->ρ') y',tJ st p->(match sJ st x.res with
  |some vs=>k (yD vs) st.sto st.fz
  |none=>aI) ρ' w'=some y'-> ∃r,y'=w' r/\ ∃vs,iS p x.res=some vs/\Q r (jW vs) p.sto p.fz:=by
  intro st p ρ' w' y' h he;cases hr:sJ st x.res with
  |none=>rw [hr] at he;cases he
  |some vs=>
   rw [hr] at he;obtain ⟨q,h1,h2⟩:=E0 h hr;obtain ⟨r,h3,h4⟩:=hk _ _ _ _ _ _ _ _ (IR h2) h.sto he;exact ⟨r,h3,q,h1,by rw [h.fz];exact h4⟩
 obtain ⟨r,hr,hwp⟩:=OH hcx hinl x.code R' (Q:=fun r=>FG x fun p ps' z'=>Q r p ps' z') (p:={env:=nI 0 pa,sto:=ps,fz:=z,kn:=ps.length}) (fun e st p ρ' w' y' h he=>by
  cases e with
  |normal=>exact fin st p ρ' w' y' h he
  |ret=>exact fin st p ρ' w' y' h he
  |exit i=>cases he) ⟨IQ 0 ha,hS,rfl,hS.len⟩ he
 exact ⟨r,hr,vN.of hf (by rw [ha.length];exact hn) hwp⟩
theorem F9 {α:Type} {l m r:List α} {i:Int} (h:FV l i m=some r):0<=i/\i.toNat<=l.length/\m.length=1/\l.length+1<=1048576/\r=l.take i.toNat++m++l.drop i.toNat:=by
 unfold FV at h;split at h
 · rename_i hc
   injection h with h;exact ⟨hc.1,hc.2.1,hc.2.2.1,hc.2.2.2,h.symm⟩
 · cases h
theorem OI {e:Nat} {args:List SV} {s:List SB} {z:List Nat} {a:aHH} (h:SY e args s z=some a):
 ∃x u x2 m,args=[.own a.t x,.int .i64 a.i,.own u x2]/\nth s a.t=some (.arr a.r a.l)/\nth s u=some (.arr a.r m)/\a.m=m/\a.r.length=e/\Nat.beq a.t u=false/\has z a.t=false:=by
 unfold SY at h;split at h
 case h_2=>cases h
 split at h
 case h_2=>cases h
 split at h
 case h_2=>cases h
 split at h
 case h_2=>cases h
 rename_i m' hm;cases hc:(Nat.beq _ e&&_&&_) with
 |false=>rw [hc] at h;cases h
 |true=>
  rw [hc] at h;injection h with h;subst h;simp only [Bool.and_eq_true,Nat.beq_eq,Bool.not_eq_true'] at hc;obtain ⟨rfl,rfl⟩:=lJ hm;exact ⟨_,_,_,_,rfl,by assumption,by assumption,rfl,hc.1.1,hc.1.2,hc.2⟩
theorem K2 {e:Nat} {f:FuncId} (hf:F f=some (.shp (O1 e))) {R':Type} {args:List SV} {s:List SB} {z:List Nat} {k:SV->List SB->List Nat->dT R'} {ρ:Type} {w:R'->ρ} {y:ρ} {pa:List PV} {ps:bH}
 {Q:R'->PV->bH->List Nat->Prop} (ha:RL s args pa) (hS:bI s ps) (he:aCA e args s z k ρ w=some y)
 (hk: ∀v s' z' p ps' ρ' (w':R'->ρ') y',R s' v p->bI s' ps'->k v s' z' ρ' w'=some y'-> ∃r,y'=w' r/\Q r p ps' z'): ∃r,y=w r/\vN F f pa ps z (fun p ps' z'=>Q r p ps' z'):=by
 unfold aCA at he;cases hA:SY e args s z with
 |none=>rw [hA] at he;cases he
 |some a=>
 rw [hA] at he;dsimp only at he;obtain ⟨l',hl,he⟩:=bK he;obtain ⟨x,u,x2,m0,rfl,ht,hu,hm,he1,htu,hz⟩:=OI hA;obtain ⟨t,q,l,i,m⟩:=a;dsimp only at*;subst hm he1;obtain ⟨i0,il,m1,hle,rfl⟩:=F9 hl;obtain ⟨p0,pr0,rfl,h0,ha⟩:=ha;obtain ⟨p1,pr1,rfl,h1,ha⟩:=ha;obtain ⟨p2,pr2,rfl,h2,ha⟩:=ha;obtain rfl:pr2=[]:=ha;obtain rfl:p1= .int .i64 i:=h1
 have ht':s[t]? =some (.arr q l):=by rw [<- bE];exact ht
 have hu':s[u]? =some (.arr q m):=by rw [<- bE];exact hu
 obtain ⟨e0,n0,rfl,o0⟩:=h0;obtain ⟨e2,n2,rfl,o2⟩:=h2;obtain ⟨rfl,rfl⟩:e0=q.length/\n0=l.length:=by
  rcases o0 with ⟨r1,l1,a,b,c⟩|a
  · rw [ht'] at a;injection a with a;injection a with a1 a2;subst a1;subst a2;exact ⟨b,c⟩
  · rw [ht'] at a;cases a
 obtain ⟨rfl,rfl⟩:e2=q.length/\n2=m.length:=by
  rcases o2 with ⟨r1,l1,a,b,c⟩|a
  · rw [hu'] at a;injection a with a;injection a with a1 a2;subst a1;subst a2;exact ⟨b,c⟩
  · rw [hu'] at a;cases a
 obtain ⟨b1,hb1,hb1'⟩:=hS.at_ t _ ht';obtain ⟨b2,hb2,hb2'⟩:=hS.at_ u _ hu';have hb1':b1= .arr q.length (l.map (RT.pv q)):=hb1';have hb2':b2= .arr q.length (m.map (RT.pv q)):=hb2';subst hb1' hb2';have hlen:(yC [t] (s.set t .dead)).length=s.length:=by rw [sL];simp
 obtain ⟨L,hL⟩: ∃L,L=l.take i.toNat++m++l.drop i.toNat:=⟨_,rfl⟩;rw [<- hL] at he;have G:=eB.put hS (b:= .dead) (q:= .dead) (l:=[.arr q L]) (ql:=[.arr q.length (L.map (RT.pv q))]) (v:= .own s.length false)
  (p:= .own s.length q.length 0 L.length L.length false) (rd:=[]) ht' (.inr rfl) rfl rfl
  (fun j b hj=>by
   cases j with
   |zero=>simp at hj;subst hj;exact ⟨_,rfl,rfl⟩
   |succ j=>simp at hj)
  ⟨q.length,L.length,rfl,.inl ⟨q,L,by rw [<- hlen];exact kE,rfl,rfl⟩⟩
 have hll:L.length=l.length+1:=by
  rw [hL];simp only [List.length_append,List.length_take,List.length_drop,m1];omega
 obtain ⟨rr,hr,hq⟩:=hk _ _ _ _ _ _ _ _ G.v G.sto he;refine ⟨rr,hr,1,_,_,_,?_,hq⟩;rw [gZ];have hmost:Nat.ble (l.length+1) iO=true:=by simp [iO];omega
 have hbl:Nat.ble i.toNat l.length=true:=by simpa using il
 have hLm:L.map (RT.pv q)=(l.map (RT.pv q)).take i.toNat++m.map (RT.pv q)++(l.map (RT.pv q)).drop i.toNat:=by
  rw [hL,List.map_append,List.map_append,List.map_take,List.map_drop]
 simp [step,hf,O1,hb1,hb2,m1,htu,hz,i0,hmost,il,hll,hS.len,dK,J1,hLm]
theorem IS: ∀(p:PT) (a:p.T),wB p (p.pv a)=some a
 | .i k,a=>by
  have:cP k k=true:=cL.2 rfl
  simp [wB,PT.pv,this]
 | .b,a=>rfl
theorem MG: ∀(r:List PT) (a:RT r),DZ r (RT.pv r a)=some a
 | [],a=>rfl
 | [p],a=>IS p a
 |p::q::r,a=>by
  show (match wB p (p.pv a.1),DZ (q::r) (RT.pv (q::r) a.2) with
   |some a,some b=>some (a,b)
   |_,_=>none)=_
  rw [IS,MG (q::r)]
theorem IT (r:List PT): ∀l:List (RT r),zG r (l.map (RT.pv r))=some l
 | []=>rfl
 |a::l=>by
  show (match DZ r (RT.pv r a),zG r (l.map (RT.pv r)) with
   |some a,some l=>some (a::l)
   |_,_=>none)=_
  rw [MG,IT r l]
theorem TF {s:List SB} {g:Option FuncId} {a:List SV} {p:List PV} (h:zH g a=true) (hr:RL s a p):SU g p=true:=by
 unfold zH at h;split at h
 · obtain rfl:p=[]:=hr
   rfl
 · obtain ⟨p0,pr,rfl,h0,hr⟩:=hr
   obtain rfl:pr=[]:=hr;obtain ⟨x,y,rfl,hx,hy⟩:=h0;obtain rfl:x=[]:=hx;obtain rfl:y=[]:=hy;exact h
 · cases h
theorem OJ {r:List PT} {g:Option FuncId} {args:List SV} {s:List SB} {z:List Nat} {t:Nat} {o:Option Nat} {l:List (RT r)} (h:SZ r g args s z=some (t,o,l)):
 ∃x a,args=x::a/\nth s t=some (.arr r l)/\has z t=false/\zH g a=true/\((o=none/\ ∃ex,x= .own t ex)\/ ∃len cap ex,o=some len/\x= .pre t len cap ex):=by
 unfold SZ at h;split at h
 · split at h
   · split at h
     · rename_i hm
       cases hc:(!has z _&&zH g _) with
       |false=>rw [hc] at h;cases h
       |true=>
        rw [hc] at h;simp only [cond_true,Option.some.injEq,Prod.mk.injEq] at h;obtain ⟨rfl,rfl,rfl⟩:=h;simp only [Bool.and_eq_true,Bool.not_eq_true'] at hc;obtain ⟨rfl,rfl⟩:=lJ hm;exact ⟨_,_,rfl,by assumption,hc.1,hc.2,.inl ⟨rfl,_,rfl⟩⟩
     · cases h
   · cases h
 · split at h
   · split at h
     · rename_i hm
       cases hc:(!has z _&&zH g _) with
       |false=>rw [hc] at h;cases h
       |true=>
        rw [hc] at h;simp only [cond_true,Option.some.injEq,Prod.mk.injEq] at h;obtain ⟨rfl,rfl,rfl⟩:=h;simp only [Bool.and_eq_true,Bool.not_eq_true'] at hc;obtain ⟨rfl,rfl⟩:=lJ hm;exact ⟨_,_,rfl,by assumption,hc.1,hc.2,.inr ⟨_,_,_,rfl,rfl⟩⟩
     · cases h
   · cases h
 · cases h
theorem K3 {α:Type} {f:List α->Option (List α)} {l m:List α} (h:BW f l=some m):l.length<=1048576/\f l=some m/\m.length=l.length:=by
 unfold BW at h;split at h
 · rename_i hl
   split at h
   · rename_i m' hm
     split at h
     · rename_i he
       injection h with h;subst h;exact ⟨hl,hm,he⟩
     · cases h
   · cases h
 · cases h
theorem GA {α:Type} {f:List α->Option (List α)} {n:Nat} {l m:List α} (h:AT f n l=some m):n<=l.length/\ ∃m',BW f (l.take n)=some m'/\m=m'++l.drop n:=by
 unfold AT at h;split at h
 · rename_i hn
   cases hm:BW f (l.take n) with
   |none=>rw [hm] at h;cases h
   |some m'=>
    rw [hm] at h;injection h with h;exact ⟨hn,m',rfl,h.symm⟩
 · cases h
theorem K4 {q:Srt} {f:FuncId} (hf:F f=some (.shp (F0 q))) {R':Type} {args:List SV} {s:List SB} {z:List Nat} {k:SV->List SB->List Nat->dT R'} {ρ:Type} {w:R'->ρ} {y:ρ} {pa:List PV} {ps:bH}
 {Q:R'->PV->bH->List Nat->Prop} (ha:RL s args pa) (hS:bI s ps) (he:aCB q args s z k ρ w=some y)
 (hk: ∀v s' z' p ps' ρ' (w':R'->ρ') y',R s' v p->bI s' ps'->k v s' z' ρ' w'=some y'-> ∃r,y'=w' r/\Q r p ps' z'): ∃r,y=w r/\vN F f pa ps z (fun p ps' z'=>Q r p ps' z'):=by
 have key: ∀(t len:Nat) (l m':List (RT q.r)) (ex:Bool) (cap:Nat) (pr:List PV) (a:List SV),s[t]? =some (.arr q.r l)->has z t=false->zH q.g a=true->RL s a pr->pa= .own t q.r.length 0 len cap ex::pr->len<=l.length->BW q.fn (l.take len)=some m'->
  k (.tup []) (dG.stoOf s {v:= .tup [],wr:=[(t,.arr q.r (m'++l.drop len))]}) z ρ w=some y-> ∃r,y=w r/\vN F f pa ps z (fun p ps' z'=>Q r p ps' z'):=by
  intro t len l m' ex cap pr a ht hz hg har hpa hlen hso he;subst hpa;obtain ⟨s1,s2,s3⟩:=K3 hso;obtain ⟨b1,hb1,hb1'⟩:=hS.at_ t _ ht;have hb1':b1= .arr q.r.length (l.map (RT.pv q.r)):=hb1';subst hb1';have hll:(l.take len).length=len:=by rw [List.length_take];omega
  have hml:(m'++l.drop len).length=l.length:=by rw [List.length_append,List.length_drop,s3,hll];omega
  have G:=eB.put hS (b:= .arr q.r (m'++l.drop len)) (q:= .arr q.r.length ((m'++l.drop len).map (RT.pv q.r))) (l:=[]) (ql:=[]) (v:= .tup []) (p:= .tup []) (rd:=[]) ht (.inl ⟨_,rfl,hml⟩) rfl rfl
   (fun j b hj=>by simp at hj) ⟨[],rfl,rfl⟩
  obtain ⟨rr,hr,hq⟩:=hk _ _ _ _ _ _ _ _ G.v G.sto he;refine ⟨rr,hr,1,_,_,_,?_,hq⟩;rw [gZ];have hg':=TF hg har;have hrt:zG q.r ((l.map (RT.pv q.r)).take len)=some (l.take len):=by rw [<- List.map_take];exact IT q.r _
  have hbl:Nat.ble len l.length=true:=by simpa using hlen
  have hmo:Nat.ble len iO=true:=by simp [iO];omega
  have hbe:Nat.beq m'.length (l.take len).length=true:=by rw [s3];exact Nat.beq_refl _
  simp only [step,hf,F0,hb1,List.length_map,Nat.beq_refl,hbl,hmo,hz,hg',hrt,s2,hbe,Bool.not_false,Bool.and_true,if_true,Option.map_some,dK,J1,List.map_append,List.map_drop]
 unfold aCB at he;cases hA:SZ q.r q.g args s z with
 |none=>rw [hA] at he;cases he
 |some u=>
  obtain ⟨t,o,l⟩:=u;rw [hA] at he;obtain ⟨x,a,rfl,ht,hz,hg,h⟩:=OJ hA;obtain ⟨p0,pr,rfl,h0,ha⟩:=ha;rw [bE] at ht;rcases h with ⟨rfl,ex,rfl⟩|⟨len,cap,ex,rfl,rfl⟩
  · obtain ⟨m,hm,he⟩:=bK he
    obtain ⟨e0,n0,rfl,o0⟩:=h0;obtain ⟨rfl,rfl⟩:e0=q.r.length/\n0=l.length:=by
     rcases o0 with ⟨r1,l1,a,b,c⟩|a
     · rw [ht] at a;injection a with a;injection a with a1 a2;subst a1;cases a2;exact ⟨b,c⟩
     · rw [ht] at a;cases a
    refine key t l.length l m ex l.length pr a ht hz hg ha rfl (Nat.le_refl _) (by rw [List.take_length];exact hm) ?_
    rw [List.drop_length,List.append_nil];exact he
  · obtain ⟨m,hm,he⟩:=bK he
    obtain ⟨e0,rfl,o0⟩:=h0;obtain rfl:e0=q.r.length:=by
     rcases o0 with ⟨r1,l1,a,b⟩|a
     · rw [ht] at a;injection a with a;injection a with a1 a2;subst a1;exact b
     · rw [ht] at a;cases a
    obtain ⟨hn,m',hso,rfl⟩:=GA hm;exact key t len l m' ex cap pr a ht hz hg ha rfl hn hso he
theorem GB (hcx:aL F cx): ∀n,IN F (P8 cx n)
 |0=>fun f args s z R' k ρ w y pa ps Q _ _ h _=>by cases h
 |n+1=>fun f args s z R' k ρ w y pa ps Q ha hS h hk=>by
  simp only [P8] at h;cases hx:cx.code f with
  |none=>rw [hx] at h;cases h
  |some x=>
   rw [hx] at h;cases x with
   |code x=>exact rD hcx (GB hcx n) (hcx.code f _ hx) ha hS h hk
   |ins e=>exact K2 (hcx.code f _ hx) ha hS h hk
   |srt q=>exact K4 (hcx.code f _ hx) ha hS h hk
def TG:Kd->Bool->Bool
 | .own,b=>b
 |_,b=>!b
def Q0 (kd:Kd) {β:Type} (res:aE β) (b:β) (p:PV) (ps:bH) (z:List Nat):Prop:=
 match kd with
 | .pure=>p.noref=true/\lI (res.enc b)=some p
 | .frz=>p.noref=false/\ ∃q,sD ps p=some q/\lI (res.enc b)=some q
 | .own=> ∀nx,∃p0 p' q seen,sV ps z nx [] p=some (p',q,seen)/\lI (res.enc b)=some p0/\CL nx p0=some (p',q)
mutual
theorem IU {s:List SB}: ∀{v:SV} {p:PV},R s v p->uN v=true->lI v=some p
 | .int _ _,p,h,_| .bool _,p,h,_| .str _,p,h,_=>by rw [show p=_ from h];rfl
 | .agg cs,p,h,hn=>by obtain ⟨q,rfl,h⟩:=h;simp only [lI,pure_pvL h hn]
 | .tup cs,p,h,hn=>by obtain ⟨q,rfl,h⟩:=h;simp only [lI,pure_pvL h hn]
 | .junk,_,_,h| .undef,_,_,h| .nul,_,_,h| .nilf,_,_,h| .sl _ _,_,_,h| .nil _ _,_,_,h| .own _ _,_,_,h| .pre _ _ _ _,_,_,h| .part _ _ _ _ _,_,_,h| .pa _ _ _ _ _,_,_,h| .pb _ _ _,_,_,h| .bp _ _ _,_,_,h| .rptr _ _,_,_,h| .clo _ _ _,_,_,h| .mp _,_,_,h=>by cases h
theorem pure_pvL {s:List SB}: ∀{v:List SV} {p:List PV},RL s v p->norefSL v=true->pvL v=some p
 | [],p,h,_=>by rw [show p=_ from h];rfl
 |x::xs,p,h,hn=>by
  obtain ⟨a,as,rfl,h1,h2⟩:=h.cons_inv;simp only [norefSL,Bool.and_eq_true] at hn;exact cA.2 ⟨_,_,rfl,IU h1 hn.1,pure_pvL h2 hn.2⟩
end
theorem K5 {kd:Kd} {β:Type} {res:aE β} {v:SV} {s:List SB} {z:List Nat} {p:PV} {ps:bH} {ρ:Type} {w:β->ρ} {y:ρ} (hv:R s v p) (hS:bI s ps) (h:P9 kd res v s z ρ w=some y):
 ∃b,y=w b/\Q0 kd res b p ps z:=by
 unfold P9 at h;cases kd with
 |pure=>
  dsimp only at h;obtain ⟨h1,h2⟩:=bJ h;obtain ⟨b,h3,h4⟩:=aW h2;injection h4 with h4;exact ⟨b,h4.symm,IL hv h1,res.law h3 (IU hv h1)⟩
 |frz=>
  dsimp only at h;obtain ⟨h1,h2⟩:=lC h;obtain ⟨u,h3,h4⟩:=aW h2;obtain ⟨b,h5,h6⟩:=aW h4;injection h6 with h6;obtain ⟨q,h7,h8⟩:=aCl hS hv h3;exact ⟨b,h6.symm,ET hv h1 h3,q,h7,res.law h5 h8⟩
 |own=>
  dsimp only at h;obtain ⟨u,h3,h4⟩:=aW h;obtain ⟨b,h5,h6⟩:=aW h4;injection h6 with h6;refine ⟨b,h6.symm,fun nx=>?_⟩
  obtain ⟨p0,p',q,h7,h8,h9⟩:=QU hS (v':=u.1) (seen':=u.2) nx hv h3;exact ⟨p0,p',q,u.2,h9,res.law h5 h7,h8⟩
theorem bI.nil:bI [] []:=⟨rfl,fun t b h=>by simp at h⟩
theorem aB.of {f:FuncId} {x:aF} {α β:Type} {args:aC α} {res:aE β} {kd:Kd} {fn:α->Option β} {ow:Bool} (hf:F f=some (.code x)) (ho:TG kd ow=true) (hcx:aL F cx)
 (h: ∀a,aCi cx x args res kd a=fn a):aB F f ⟨args,res,fn,kd,ow⟩:=by
 intro a b as pa sto fz hb hpa hex;have hb:fn a=some b:=hb;rw [<- h a] at hb;obtain ⟨r,hr,n,v,s,z,hrun,hl⟩:=rD hcx (GB hcx 8) hf (Q:=fun r p ps z=>Q0 kd res r p ps z) (pvL_R hpa) bI.nil hb (fun v s' z' p ps' ρ' w' y' hv hS hk=>K5 hv hS hk)
 have hr':b=r:=hr;subst hr';cases kd with
 |pure=>
  obtain ⟨h1,h2⟩:=hl;have how:ow=false:=by simpa [TG] using ho
  subst how;refine ⟨n,{v:=v,rd:=toksL (bN sto cE) as},?_,v,h2,rfl⟩;simp only [callPure,hex,hf,hrun,Bool.false_eq_true,if_false,h1,if_true]
 |frz=>
  obtain ⟨h1,q,h2,h3⟩:=hl;have how:ow=false:=by simpa [TG] using ho
  subst how;refine ⟨n,{v:=q,rd:=toksL (bN sto cE) as,fr:=toksL (bN sto cE) as},?_,q,h3,rfl⟩;simp only [callPure,hex,hf,hrun,Bool.false_eq_true,if_false,h1,h2]
 |own=>
  have how:ow=true:=ho;subst how;obtain ⟨p0,p',q,seen,h1,h2,h3⟩:=hl sto.length;refine ⟨n,{v:=p',news:=q,rd:=toksL (bN sto cE) as},?_,p0,p',q,h2,h3,rfl⟩;simp only [callPure,hex,hf,hrun,if_true,h1]
theorem IV: ∀(s:List SB) (q:List qJ),(uO s q).1.length=s.length
 | [],q=>rfl
 |b::r,q=>by simp only [uO,List.length_cons,IV r]
mutual
theorem R.take {s:List SB} {k:Nat}: ∀{v:SV} {p:PV},R s v p->(∀t∈KM lZ v,t<k)->R (s.take k) v p
 | .junk,_,_,_=>trivial
 | .undef,_,h,_| .nul,_,h,_| .nilf,_,h,_| .int _ _,_,h,_| .bool _,_,h,_| .str _,_,h,_| .sl _ _,_,h,_| .nil _ _,_,h,_| .bp _ _ _,_,h,_| .mp _,_,h,_=>h
 | .agg cs,_,h,ht=>by obtain ⟨q,rfl,h⟩:=h;exact ⟨q,rfl,RL.takeS h ht⟩
 | .tup cs,_,h,ht=>by obtain ⟨q,rfl,h⟩:=h;exact ⟨q,rfl,RL.takeS h ht⟩
 | .rptr cs o,_,h,ht=>by obtain ⟨q,rfl,h⟩:=h;exact ⟨q,rfl,RL.takeS h ht⟩
 | .clo f a b,_,h,ht=>by
  obtain ⟨pa,pb,rfl,h1,h2⟩:=h;exact ⟨pa,pb,rfl,RL.takeS h1 (fun t h=>ht t (List.mem_append_left _ h)),RL.takeS h2 (fun t h=>ht t (List.mem_append_right _ h))⟩
 | .own t ex,_,h,ht=>by
  obtain ⟨e,n,rfl,hat⟩:=h;have hk:=ht t (List.mem_singleton.2 rfl);refine ⟨e,n,rfl,?_⟩;rcases hat with ⟨r,l,h1,h2,h3⟩|h1
  · exact .inl ⟨r,l,by rw [List.getElem?_take_of_lt hk];exact h1,h2,h3⟩
  · exact .inr (by rw [List.getElem?_take_of_lt hk];exact h1)
 | .pre t a b c,_,h,ht=>by
  obtain ⟨e,rfl,hat⟩:=h;have hk:=ht t (List.mem_singleton.2 rfl);refine ⟨e,rfl,?_⟩;rcases hat with ⟨r,l,h1,h2⟩|h1
  · exact .inl ⟨r,l,by rw [List.getElem?_take_of_lt hk];exact h1,h2⟩
  · exact .inr (by rw [List.getElem?_take_of_lt hk];exact h1)
 | .part t o a b c,_,h,ht=>by
  obtain ⟨e,rfl,hat⟩:=h;have hk:=ht t (List.mem_singleton.2 rfl);refine ⟨e,rfl,?_⟩;rcases hat with ⟨r,l,h1,h2⟩|h1
  · exact .inl ⟨r,l,by rw [List.getElem?_take_of_lt hk];exact h1,h2⟩
  · exact .inr (by rw [List.getElem?_take_of_lt hk];exact h1)
 | .pa t r i a o,_,h,ht=>by
  obtain ⟨rfl,hat⟩:=h;have hk:=ht t (List.mem_cons_self ..);refine ⟨rfl,?_⟩;rcases hat with ⟨l,h1,h2⟩|h1
  · exact .inl ⟨l,by rw [List.getElem?_take_of_lt hk];exact h1,h2⟩
  · exact .inr (by rw [List.getElem?_take_of_lt hk];exact h1)
 | .pb t i o,_,h,ht=>by
  obtain ⟨e,rfl,hat⟩:=h;have hk:=ht t (List.mem_cons_self ..);refine ⟨e,rfl,?_⟩;rcases hat with ⟨r,l,h1,h2⟩|h1
  · exact .inl ⟨r,l,by rw [List.getElem?_take_of_lt hk];exact h1,h2⟩
  · exact .inr (by rw [List.getElem?_take_of_lt hk];exact h1)
theorem RL.takeS {s:List SB} {k:Nat}: ∀{v:List SV} {p:List PV},RL s v p->(∀t∈tkVL lZ v,t<k)->RL (s.take k) v p
 | [],_,h,_=>h
 |x::xs,_,h,ht=>by
  obtain ⟨a,as,rfl,h1,h2⟩:=h.cons_inv;exact RL.cons (R.take h1 (fun t h=>ht t (List.mem_append_left _ h))) (RL.takeS h2 (fun t h=>ht t (List.mem_append_right _ h)))
end
theorem CQ {R' ρ:Type} {w:R'->ρ} {y:ρ}: ∀{s s':List SB} {k:dT R'},wD s s' k ρ w=some y->k ρ w=some y/\s'.length=s.length/\ ∀(t:Nat) (x z:SB),s[t]? =some x->s'[t]? =some z->QW x z
 | [],[],k,h=>⟨h,rfl,fun t x z h=>by simp at h⟩
 | [],_::_,k,h=>by cases h
 |_::_,[],k,h=>by cases h
 |x::xs,y'::ys,k,h=>by
  have step: ∀(_:wD xs ys k ρ w=some y) (_:QW x y'),k ρ w=some y/\(y'::ys).length=(x::xs).length/\ ∀(t:Nat) (a b:SB),(x::xs)[t]? =some a->(y'::ys)[t]? =some b->QW a b:=by
   intro h hx;obtain ⟨h1,h2,h3⟩:=CQ h;refine ⟨h1,by simpa using h2,fun t a b ha hb=>?_⟩
   cases t with
   |zero=>simp at ha hb;subst ha hb;exact hx
   |succ t=>exact h3 t a b (by simpa using ha) (by simpa using hb)
  cases x with
  |arr r l=>
   cases y' with
   |arr q m=>
    obtain ⟨hr,h2⟩:=bJ (a:=dO (m.length==l.length) (wD xs ys k) aI) h;obtain ⟨hl,h3⟩:=eG h2;exact step h3 ⟨nU hr,by simpa using hl⟩
   |_=>cases h
  |dead=>cases y' with
   |dead=>exact step h trivial
   |_=>cases h
  |box cs=>cases y' with
   |box _=>exact step h trivial
   |_=>cases h
  |set l=>cases y' with
   |set _=>exact step h trivial
   |_=>cases h
  |tab p l=>cases y' with
   |tab _ _=>exact step h trivial
   |_=>cases h
theorem CR: ∀{s:List SB},B7 s=true-> ∀(t:Nat) (b:SB),s[t]? =some b->sI b=true
 | [],_,t,b,h=>by simp at h
 |x::xs,hs,0,b,h=>by simp only [B7,Bool.and_eq_true] at hs;simp at h;subst h;exact hs.1
 |x::xs,hs,t+1,b,h=>by simp only [B7,Bool.and_eq_true] at hs;exact CR hs.2 t b (by simpa using h)
theorem fW.of {f:FuncId} {x:aF} {wd:Bool} {ka ko:List AK} {ta:List SV} {tb to:List SB} {tv:SV} {fn:fP ka->Option (fP ko)} (hf:F f=some (.code x)) (hcx:aL F cx)
 (h: ∀a,aJm wd cx x ka ta tb ko tv to a=fn a):fW F f ⟨ka,ta,tb,ko,tv,to,fn⟩:=by
 intro a b pa ps hb ha hS;rw [show (⟨ka,ta,tb,ko,tv,to,fn⟩:bV).fn a=fn a from rfl,<- h a] at hb;have hlen:(bV.sa ⟨ka,ta,tb,ko,tv,to,fn⟩ a).length=tb.length:=IV _ _;obtain ⟨r,hr,n,v,s,z,hrun,hz,hq⟩:=rD hcx (GB hcx 8) hf (Q:=fun (r:fP ko) p ps' z'=>z'=[]/\eF tb.length p ps'=true/\
  R (bV.sb ⟨ka,ta,tb,ko,tv,to,fn⟩ r) (bV.vb ⟨ka,ta,tb,ko,tv,to,fn⟩ r) p/\bI (bV.sb ⟨ka,ta,tb,ko,tv,to,fn⟩ r) (ps'.take tb.length)/\
  (bV.sb ⟨ka,ta,tb,ko,tv,to,fn⟩ r).length=(bV.sa ⟨ka,ta,tb,ko,tv,to,fn⟩ a).length/\
  ∀(t:Nat) (x y:SB),(bV.sa ⟨ka,ta,tb,ko,tv,to,fn⟩ a)[t]? =some x->(bV.sb ⟨ka,ta,tb,ko,tv,to,fn⟩ r)[t]? =some y->QW x y) ha hS hb (fun v s' z' p ps' ρ' w' y' hv hS' hk=>by
  cases z' with
  |cons _ _=>cases hk
  |nil=>
   dsimp only at hk;obtain ⟨hc,hk⟩:=bJ hk;simp only [Bool.and_eq_true] at hc;obtain ⟨⟨⟨⟨c1,c2⟩,c3⟩,c4⟩,c5⟩:=hc;obtain ⟨hk,f1,f2⟩:=CQ hk;obtain ⟨r,hr,hk⟩:=aW hk;injection hk with hk;have hu:R s' (bif wd then EJ s' v else v) p:=by
    cases wd with
    |true=>exact L9 hv
    |false=>exact hv
   generalize (bif wd then EJ s' v else v)=u at c1 c3 c4 hr hu
   have hats:=lL hr;have hvb:bV.vb ⟨ka,ta,tb,ko,tv,to,fn⟩ r=u:=by
    show (mD tv (hJ ko r)).1=u;rw [hats,AV _ c1]
   have hsb:bV.sb ⟨ka,ta,tb,ko,tv,to,fn⟩ r=s'.take tb.length:=by
    show (uO to (mD tv (hJ ko r)).2).1=_;rw [hats,AV _ c1]
    have:=wN [] c2
    rw [List.append_nil] at this;rw [this]
   have hle:tb.length<=s'.length:=by
    have:=f1
    rw [List.length_take] at this;have h2:(bV.sa ⟨ka,ta,tb,ko,tv,to,fn⟩ a).length=tb.length:=hlen;have h3:min tb.length s'.length=tb.length:=by rw [this];exact h2
    omega
   unfold aCh at c3;rw [List.all_eq_true] at c3;have hkv: ∀t∈KM lZ u,t<tb.length:=fun t ht=>by simpa using c3 t (List.mem_append_left _ ht)
   have hkb: ∀b∈s'.take tb.length,∀t∈BZ b,t<tb.length:=fun b hb t ht=>by simpa using c3 t (List.mem_append_right _ (List.mem_flatMap.2 ⟨b,hb,ht⟩))
   have hsto:bI (s'.take tb.length) (ps'.take tb.length):=⟨by simp [hS'.len],fun t x hx=>by
    have hlt:t<tb.length:=by
     have:=(List.getElem?_eq_some_iff.1 hx).1
     rw [List.length_take] at this;omega
    have hx':=hx;rw [List.getElem?_take_of_lt hlt] at hx';obtain ⟨q,q1,q2⟩:=hS'.at_ t x hx';refine ⟨q,by rw [List.getElem?_take_of_lt hlt];exact q1,?_⟩
    cases x with
    |box cs=>
     obtain ⟨pc,rfl,hpc⟩:=q2;exact ⟨pc,rfl,RL.takeS hpc (hkb _ (List.mem_of_getElem? hx))⟩
    |_=>exact q2⟩
   refine ⟨r,hk.symm,rfl,?_,by rw [hvb,hsb];exact R.take hu hkv,by rw [hsb];exact hsto,by rw [hsb];exact f1,by rw [hsb];exact f2⟩
   unfold eF;rw [List.all_eq_true];intro t ht;rw [List.mem_append] at ht;rcases ht with ht|ht
   · rw [<- QO (bx:=lZ) (fun _=>rfl) hu c4] at ht
     simpa using hkv t ht
   · rw [List.mem_flatMap] at ht
     obtain ⟨q,hq,ht⟩:=ht;obtain ⟨j,hj,he⟩:=List.getElem_of_mem hq;have hjl:j<(s'.take tb.length).length:=by rw [<- hsto.len];exact hj
     obtain ⟨x,hx⟩: ∃x,(s'.take tb.length)[j]? =some x:=⟨_,List.getElem?_eq_getElem hjl⟩;obtain ⟨q',q1,q2⟩:=hsto.at_ j x hx;rw [List.getElem?_eq_getElem hj,he] at q1;injection q1 with q1;subst q1;rw [<- F5 q2 (CR c5 j x hx)] at ht;simpa using hkb x (List.mem_of_getElem? hx) t ht)
 have hr':b=r:=hr;subst hr';subst hz;refine ⟨n,v,s,hrun,?_⟩;rw [hlen];obtain ⟨h1,h2,h3,h4,h5⟩:=hq;exact ⟨h1,h2,h3,by rw [h4,hlen],h5⟩
theorem K6 {f:FuncId} {r:List PT} (hf:F f=some (.prim false (cR r.length))) (l:List (RT r)) (hl:l.length<=1048576) {as:List PV} {sto:bH} {fz:List Nat} (hex:exL sto (sQ sto cE) as=some [.sl r.length false (l.map (RT.pv r))]):
 ∃n x,callPure F (run F n) false f as sto fz=some x/\aCm .own sto.length (toksL (bN sto cE) as) (.sl r l) x:=by
 refine ⟨0,{v:= .own sto.length r.length 0 l.length l.length false,news:=[.arr r.length (l.map (RT.pv r))],rd:=toksL (bN sto cE) as},?_,.sl r.length false (l.map (RT.pv r)),.own sto.length r.length 0 l.length l.length false,[.arr r.length (l.map (RT.pv r))],rfl,by simp only [CL,List.length_map],rfl⟩
 simp only [callPure,hex,hf];cases l with
 |nil=>rfl
 |cons a l=>
  have h2:Nat.ble ((l.map (RT.pv r)).length+1) iO=true:=by simp [iO] at hl ⊢;omega
  simp only [List.map_cons,cR,Nat.beq_refl,h2,Bool.and_self,if_true,sV];simp [has]
theorem aB.clone {f:FuncId} {n:Nat} {r:List PT} (hf:F f=some (.prim false (cR n))) (hn:n=r.length):aB F f (aU.clone r):=by
 intro (a:List (RT r)) (b:List (RT r)) as pa sto fz hb hpa hex;subst hn;have hb:bB a=some b:=hb;obtain ⟨rfl,hl⟩:=uR hb;have hpa':pa=[.sl r.length false (b.map (RT.pv r))]:=by
  have:some [PV.sl r.length false (b.map (RT.pv r))]=some pa:=hpa
  exact (Option.some.inj this).symm
 subst hpa';exact K6 hf b hl hex
theorem aB.add64 {f:FuncId} (hf:F f=some (.prim false uE)):aB F f aU.add64:=by
 intro a b as pa sto fz hb hpa hex;obtain ⟨x,y,c⟩:=a;have hb':lK x y c=some b:=hb;unfold lK at hb';cases hc:(decide (0<=x)&&decide (0<=y)&&decide (0<=c)&&decide (c<=1)) with
 |false=>rw [hc] at hb';cases hb'
 |true=>
  rw [hc] at hb';injection hb' with hb';subst hb';simp only [Bool.and_eq_true,decide_eq_true_eq] at hc;obtain ⟨⟨⟨h1,h2⟩,h3⟩,h4⟩:=hc;obtain ⟨x,rfl⟩:=Int.eq_ofNat_of_zero_le h1;obtain ⟨y,rfl⟩:=Int.eq_ofNat_of_zero_le h2;obtain ⟨c,rfl⟩:=Int.eq_ofNat_of_zero_le h3;have hpa':pa=[.int .u64 (.ofNat x),.int .u64 (.ofNat y),.int .u64 (.ofNat c)]:=by
   have:some [PV.int .u64 (x:Int),.int .u64 (y:Int),.int .u64 (c:Int)]=some pa:=hpa
   exact (Option.some.inj this).symm
  subst hpa';have hcb:Nat.ble c 1=true:=by simp;omega
  refine ⟨0,{v:= .tup [.int .u64 (.ofNat ((x+y+c)%18446744073709551616)),.int .u64 (.ofNat ((x+y+c) / 18446744073709551616))],rd:=toksL (bN sto cE) as},?_,_,rfl,rfl⟩;show callPure F (run F 0) false f as sto fz=_;simp only [callPure,hex,hf,uE,hcb,if_true];rfl
theorem aB.run0 {f:FuncId} {x:aF} {fn:Unit->Option Bool} (h:aB F f ⟨aC.nil,aE.bool,fn,.pure,false⟩) (hf:F f=some (.code x)) (hb:fn ()=some true): ∃n s z,run F n (.func f [] [] [])=some (.func (.bool true) s z):=by
 obtain ⟨n,r,h1,p,h2,rfl⟩:=h () true [] [] [] [] hb rfl rfl;have hp:p= .bool true:=(Option.some.inj h2).symm;subst hp;refine ⟨n,?_⟩;simp only [callPure,exL,hf] at h1;split at h1
 · rename_i v s z hr
   simp only [Bool.false_eq_true,if_false] at h1;split at h1
   · injection h1 with h1
     injection h1 with h1;subst h1;exact ⟨s,z,hr⟩
   · rename_i hn
     split at h1
     · rename_i v' hv
       injection h1 with h1;injection h1 with h1;subst h1;exfalso;cases v with
       |bool b=>exact hn rfl
       |int _ _|str _|sl _ _ _=>injection hv with hv;cases hv
       |agg cs=>simp only [sD,Option.map_eq_some_iff] at hv;obtain ⟨_,_,hv⟩:=hv;cases hv
       |tup cs=>simp only [sD,Option.map_eq_some_iff] at hv;obtain ⟨_,_,hv⟩:=hv;cases hv
       |own t e off len cap ex=>simp only [sD] at hv;split at hv<;>first|(injection hv with hv;cases hv)|cases hv
       |_=>cases hv
     · cases h1
 · cases h1
theorem fW.zero {f:FuncId} {c:bV} (h: ∀a,c.fn a=none):fW F f c:=fun a b pa ps hb=>by rw [h a] at hb;cases hb
theorem aB.zero {f:FuncId} {c:aU} (h: ∀a,c.fn a=none):aB F f c:=fun a b as pa sto fz hb=>by rw [h a] at hb;cases hb
end
end Go.Vm
/- A function that puts the rows of a slice in order: what is asked of it in a program, and that the table's entry is then right. -/
namespace Go.Vm
theorem CS: ∀{p:PT} {x:PV} {a:p.T},wB p x=some a->x=p.pv a
 | .i k,.int l n,a,h=>by
  have h:(bif cP l k then some n else none)=some a:=h
  cases hk:cP l k with
  |false=>rw [hk] at h;cases h
  |true=>
   rw [hk] at h;obtain rfl:=cL.1 hk;injection h with h;subst h;rfl
 | .b,.bool x,a,h=>by
  have h:some x=some a:=h;injection h with h;subst h;rfl
theorem E1: ∀{r:List PT} {x:List PV} {a:RT r},DZ r x=some a->x=RT.pv r a
 | [],[],a,h=>rfl
 | [],_::_,a,h=>by cases h
 | [p],[v],a,h=>by rw [CS (show wB p v=some a from h)];rfl
 | [p],[],a,h=>by cases h
 | [p],_::_::_,a,h=>by cases h
 |p::q::r,[],a,h=>by cases h
 |p::q::r,v::vs,a,h=>by
  have h:(match wB p v,DZ (q::r) vs with
   |some a,some b=>some (a,b)
   |_,_=>none)=some a:=h
  cases h1:wB p v with
  |none=>rw [h1] at h;cases h
  |some x=>
   cases h2:DZ (q::r) vs with
   |none=>rw [h1,h2] at h;cases h
   |some y=>
    rw [h1,h2] at h;injection h with h;subst h;rw [CS h1,E1 h2];rfl
theorem CT {r:List PT}: ∀{x:List (List PV)} {l:List (RT r)},zG r x=some l->x=l.map (RT.pv r)
 | [],l,h=>by injection h with h;subst h;rfl
 |v::vs,l,h=>by
  have h:(match DZ r v,zG r vs with
   |some a,some l=>some (a::l)
   |_,_=>none)=some l:=h
  cases h1:DZ r v with
  |none=>rw [h1] at h;cases h
  |some x=>
   cases h2:zG r vs with
   |none=>rw [h1,h2] at h;cases h
   |some y=>
    rw [h1,h2] at h;injection h with h;subst h;rw [E1 h1,CT h2];rfl
def aCJ:Option FuncId->List Value
 |none=>[]
 |some g=>[.func (.func g) ⟨[]⟩ ⟨[]⟩]
structure rE (P:Program) (f:FuncId) (q:Srt):Prop where
 some_: ∀(b off c:Nat) (l m:List (RT q.r)) (arr:Array Value) (el:TypeId) (w:World),0<l.length->l.length<=c->l.length<=1048576->q.fn l=some m->m.length=l.length->w.heap[b]? =some (.cells arr el (0,0))->
  aX (fun k=>arr[k]?) off q.r.length (l.map (RT.pv q.r))->off+l.length*q.r.length<=arr.size->
  Calls P f ⟨.slice (some ⟨b,off,none⟩) l.length c::aCJ q.g⟩ w fun x w'=>x= .returned (.tuple #[])/\(∃fin:Array Value,fin.size=arr.size/\w'.heap[b]? =some (.cells fin el (0,0))/\aX (fun k=>fin[k]?) off q.r.length (m.map (RT.pv q.r))/\
   ∀j:Nat,off+l.length*q.r.length<=j->fin[j]? =arr[j]?)/\(∀b':Nat,b'<w.heap.size->b'≠b->w'.heap[b']? =w.heap[b']?)/\w.heap.size<=w'.heap.size/\w'.os=w.os/\w'.tape=w.tape/\w'.output=w.output
 none_: ∀(a:Option Addr) (c:Nat) (w:World),Calls P f ⟨.slice a 0 c::aCJ q.g⟩ w fun x w'=>x= .returned (.tuple #[])/\w'=w
theorem aCK {im:Im} {loc:bO} {g:Option FuncId} {r:List PV} {us:List Value} (h:SU g r=true) (hu:VRL im loc r us):us=aCJ g:=by
 unfold SU at h;split at h
 · cases hu;rfl
 · rename_i g h'
   have:h'=g:=by simpa using h
   subst this;cases hu with
   |cons _ a _ b h1 h2=>
    cases h2;cases h1 with
    |clo _ _ _ as bs ha hb=>cases ha;cases hb;rfl
 · cases h
theorem OK {P:Program} {im:Im} {loc:bO} {sto:bH} {fz:List Nat} {w w':World} {t e:Nat} {li:LI} {rows rows':List iP} {arr fin:Array Value} {el:TypeId} (hsr:SR im loc sto fz w) (hl:loc t=some li) (hst:sto[t]? =some (.arr e rows)) (hne:rows≠[]) (hf:has fz t=false)
 (ha:w.heap[li.blk]? =some (.cells arr el (0,0))) (hw:w'.heap[li.blk]? =some (.cells fin el (0,0))) (hfr: ∀b':Nat,b'<w.heap.size->b'≠li.blk->w'.heap[b']? =w.heap[b']?) (hsz:w.heap.size<=w'.heap.size) (ho:w'.os=w.os) (ht:w'.tape=w.tape) (hp:w'.output=w.output)
 (he:li.esz=e) (hn:li.n=rows'.length) (hlen:rows'.length=rows.length) (hfs:fin.size=li.sz) (hfit:li.sh+rows'.length*e<=li.sz) (hr:aX (fun k=>fin[k]?) li.sh e rows'):
 nM im loc sto w (.tup []) (sto.set t (.arr e rows')) fz im loc w' (.tuple #[]):=by
 have htl:t<sto.length:=(List.getElem?_eq_some_iff.1 hst).1;have hne':rows'≠[]:=by intro h;subst h;rw [List.length_nil] at hlen;exact hne (List.length_eq_zero_iff.1 hlen.symm)
 have hs0:(fL.arr e rows).solid=true:=iI hne;have hs1:(fL.arr e rows').solid=true:=iI hne';have hfree:=hsr.free t li _ hl hst hs0 hf;have old: ∀{u:Nat} {k:fL},(sto.set t (.arr e rows'))[u]? =some k->(u=t/\k= .arr e rows')\/(u≠t/\sto[u]? =some k):=by
  intro u k h;rw [List.getElem?_set] at h;split at h
  · rename_i e1;subst e1;first|(rw [if_pos htl] at h;injection h with h;exact .inl ⟨rfl,h.symm⟩)|(injection h with h;exact .inl ⟨rfl,h.symm⟩)
  · rename_i hne;exact .inr ⟨fun e=>hne e.symm,h⟩
 have sol: ∀{u:Nat} {k:fL},(sto.set t (.arr e rows'))[u]? =some k->k.solid=true-> ∃k0,sto[u]? =some k0/\k0.solid=true:=by
  intro u k h hs;rcases old h with ⟨rfl,rfl⟩|⟨_,h⟩
  · exact ⟨_,hst,hs0⟩
  · exact ⟨k,h,hs⟩
 have lt: ∀{b:Nat} {o:Obj},w.heap[b]? =some o->b<w.heap.size:=fun h=>(Array.getElem?_eq_some_iff.1 h).1
 exact {
  imle:= .refl _,locle:= .refl _
  vr:= .tup _ _ .nil
  sr:={
   im_ok:=fun b o hb=>by
    have h1:=hsr.im_ok b o hb;have h2:b≠li.blk:=fun h=>by rw [h,hfree] at hb;cases hb
    rw [hfr b (lt h1) h2];exact h1
   blk:=fun u lu hu=>by
    obtain ⟨k,hk,hb⟩:=hsr.blk u lu hu
    by_cases e1:u=t
    · subst e1
      rw [hl] at hu;injection hu with hu;subst hu;exact ⟨_,List.getElem?_set_self htl,he,hn,fun _=>⟨fin,el,hw,hfs,hfit,hr⟩⟩
    · refine ⟨k,by rw [List.getElem?_set_ne (fun h=>e1 h.symm)];exact hk,hb.keep (.refl _) (.refl _) fun hs=>?_⟩
      exact hfr _ (hb.lt hs) fun h=>e1 (hsr.excl _ _ _ _ _ _ hu hl hk hst hs hs0 h)
   excl:=fun u v lu lv k k' hu hv hk hk' hs hs' h=>by
    obtain ⟨k0,a,b⟩:=sol hk hs;obtain ⟨k1,c,d⟩:=sol hk' hs';exact hsr.excl _ _ _ _ _ _ hu hv a c b d h
   free:=fun u lu k hu hk hs hz=>by
    obtain ⟨k0,a,b⟩:=sol hk hs;exact hsr.free _ _ _ hu a b hz}
  os:=ho,tape:=ht,output:=hp,size:=hsz
  frame:=fun b hb h=>hfr b hb fun h2=>h t li _ hl hst hs0 h2.symm
  imnew:=fun b o h=> .inl h
  locs:=fun u lu h=> .inl h
  own:=fun u lu k hu hk hs=>by
   obtain ⟨k0,a,b⟩:=sol hk hs;exact .inr ⟨u,lu,k0,hu,a,b,rfl⟩}
theorem K7 {im:Im} {loc:bO} {sto:bH} {fz:List Nat} {w:World} (hsr:SR im loc sto fz w):nM im loc sto w (.tup []) sto fz im loc w (.tuple #[]) where
 imle:= .refl _
 locle:= .refl _
 vr:= .tup _ _ .nil
 sr:=hsr
 os:=rfl
 tape:=rfl
 output:=rfl
 size:=Nat.le_refl _
 frame:=fun _ _ _=>rfl
 imnew:=fun _ _ h=> .inl h
 locs:=fun _ _ h=> .inl h
 own:=fun t li k hl hk hs=> .inr ⟨t,li,k,hl,hk,hs,rfl⟩
theorem HK.srt {P:Program} {f:FuncId} {q:Srt} {fn:Func} {c:Code} (hf:P.funcs[f]? =some fn) (hname:(fn.name== "runtime.NumGoroutine")=false) (hb:fn.body=some c) (h0:q.fn []=some []) (H:rE P f q):HK P f (F0 q):=by
 refine ⟨fn,c,hf,hname,hb,?_⟩;intro args sto fz v sto' fz' hp im loc w us hsr hus;unfold F0 at hp;split at hp
 case h_2=>cases hp
 rename_i t e1 off len cap ex r;split at hp
 case h_2=>cases hp
 rename_i e3 rows hst;split at hp
 case isFalse=>cases hp
 rename_i hc;simp only [Bool.and_eq_true,Nat.beq_eq,Bool.not_eq_true',Nat.ble_eq] at hc;obtain ⟨⟨⟨⟨⟨q1,rfl⟩,hlen⟩,hmost⟩,hfz⟩,hg⟩:=hc;subst q1;have hmost:len<=1048576:=hmost;split at hp
 case h_2=>cases hp
 rename_i l hl0;split at hp
 case h_2=>cases hp
 rename_i m hm;split at hp
 case isFalse=>cases hp
 rename_i hml;have hml:m.length=l.length:=by simpa using hml
 injection hp with hp;simp only [Prod.mk.injEq] at hp;obtain ⟨rfl,rfl,rfl⟩:=hp;have hrows:=CT hl0;have hll:l.length=len:=by
  have:=congrArg List.length hrows
  rw [List.length_take,List.length_map] at this;omega
 obtain ⟨x0,us1,rfl,hx0,hus⟩: ∃x0 us1,us=x0::us1/\VR im loc (.own t q.r.length 0 len cap ex) x0/\VRL im loc r us1:=by cases hus with|cons _ a _ b h1 h2=>exact ⟨a,b,rfl,h1,h2⟩
 obtain rfl:=aCK hg hus;obtain ⟨li,a,cap',rfl,hl,he,hoff,hlc,hcc,_,hadr⟩:=hx0.own_inv;obtain ⟨k1,hk1,hbr⟩:=hsr.blk t li hl;rw [hst] at hk1;injection hk1 with hk1;subst hk1;obtain ⟨b1,b2,b3⟩:=hbr;obtain rfl:q.r.length=e3:=by rw [<- b1,he]
 refine .inr ⟨fF hf hname hb,?_⟩;rcases Nat.eq_zero_or_pos len with hz|hpos
 · subst hz
   obtain rfl:l=[]:=List.length_eq_zero_iff.1 hll;rw [h0] at hm;injection hm with hm;subst hm;refine (H.none_ a cap' w).mono fun x w' ⟨hx,hw⟩=>⟨_,hx,im,loc,?_⟩
   subst hw
   have:sto.set t (.arr q.r.length (([]:List (RT q.r)).map (RT.pv q.r)++rows.drop 0))=sto:=by
    apply List.ext_getElem?;intro j;rw [List.getElem?_set];split
    · rename_i e;subst e;rw [if_pos (List.getElem?_eq_some_iff.1 hst).1,hst];rfl
    · rfl
   rw [this];exact K7 hsr
 · have hrne:rows≠[]:=by intro h;subst h;simp at hlen;omega
   obtain ⟨arr,el,ha1,ha2,ha3,hat⟩:=b3 hrne;obtain ⟨hn0,rfl,hfit⟩:li.n≠0/\a=some ⟨li.blk,li.sh,none⟩/\li.sh+cap'*q.r.length<=li.sz:=by
    rcases hadr with h|⟨h1,h2,h3⟩
    · omega
    · exact ⟨h1,by simpa using h2,by simpa using h3⟩
   have hle:len*q.r.length<=rows.length*q.r.length:=Nat.mul_le_mul_right _ hlen;subst hll;refine (H.some_ li.blk li.sh cap' l m arr el w hpos (by omega) (by omega) hm hml ha1 (by rw [<- hrows];exact hat.take _) (by omega)).mono fun x w' ⟨hx,⟨fin,f1,f2,f3,f4⟩,hfr,hsz,ho,htp,hpp⟩=>⟨_,hx,im,loc,?_⟩
   have hL:(m.map (RT.pv q.r)++rows.drop l.length).length=rows.length:=by simp only [List.length_append,List.length_map,List.length_drop,hml];omega
   refine OK (P:=P) hsr hl hst hrne hfz ha1 f2 hfr hsz ho htp hpp b1 (by rw [hL];exact b2) hL (by rw [f1];exact ha2) (by rw [hL];exact ha3) ?_
   refine f3.append ?_;rw [List.length_map,hml];intro i r hr;obtain ⟨g1,g2⟩:=(hat.drop l.length) i r hr;refine ⟨g1,fun j c hc=>?_⟩
   obtain ⟨v,v1,v2⟩:=g2 j c hc;refine ⟨v,v1,?_⟩;show fin[_]? =some v;rw [f4 _ (by omega)]
   exact v2
end Go.Vm
/- slices.Sort of numbers: the table's entry, by what the library's law says of the function. -/
namespace Go.Vm
theorem yK (a:Int): ∀l:List Int,(KI a l).Perm (a::l)
 | []=> .refl _
 |b::r=>by
  unfold KI;cases decide (a<=b)
  · exact ((yK a r).cons b).trans (.swap a b r)
  · exact .refl _
theorem uW: ∀l:List Int,(jF l).Perm l
 | []=> .refl _
 |a::r=>(yK a _).trans ((uW r).cons a)
theorem zL (a:Int): ∀{l:List Int},l.Pairwise (· <= ·)->(KI a l).Pairwise (· <= ·)
 | [],_=>by simp [KI]
 |b::r,h=>by
  obtain ⟨h1,h2⟩:=List.pairwise_cons.1 h;unfold KI;cases hc:decide (a<=b)
  · have hc: ¬a<=b:=by simpa using hc
    refine List.pairwise_cons.2 ⟨fun x hx=>?_,zL a h2⟩
    rcases List.mem_cons.1 ((yK a r).mem_iff.1 hx) with rfl|hx
    · omega
    · exact h1 x hx
  · have hc:a<=b:=by simpa using hc
    refine List.pairwise_cons.2 ⟨fun x hx=>?_,h⟩
    rcases List.mem_cons.1 hx with rfl|hx
    · exact hc
    · have:=h1 x hx;omega
theorem wR: ∀l:List Int,(jF l).Pairwise (· <= ·)
 | []=> .nil
 |a::r=>zL a (wR r)
theorem OL (l:List Int):(jF l).length=l.length:=(uW l).length_eq
theorem IW (l:List Int):l.mergeSort (fun x y=>decide (x<=y))=jF l:=by
 refine List.Perm.eq_of_pairwise (le:=(· <= ·)) (fun a b _ _ h1 h2=>Int.le_antisymm h1 h2) ?_ (wR l) ((List.mergeSort_perm _ _).trans (uW l).symm)
 have:=List.pairwise_mergeSort (le:=fun x y:Int=>decide (x<=y)) (fun a b c h1 h2=>by simp at*;omega) (fun a b=>by simp;omega) l
 exact this.imp fun h=>by simpa using h
theorem K8 {P:Program} {f:FuncId}
 (H1: ∀(blk off cap:Nat) (zs:List Int) (w:World),Sort.Holds (Value.int .i64) w blk off zs.toArray->blk<w.heap.size->zs.length<4611686018427387904->
  Calls P f #[.slice (some ⟨blk,off,none⟩) zs.length cap] w fun e w'=>e= .returned (.tuple #[])/\ ∃n os,w'=Sort.grow (Sort.putRow (Value.int .i64) (Sort.ahead w n) blk off (zs.mergeSort fun x y=>decide (x<=y)).toArray) os)
 (b off c:Nat) (l:List Int) (arr:Array Value) (el:TypeId) (w:World) (hmost:l.length<=1048576) (hw:w.heap[b]? =some (.cells arr el (0,0)))
 (hat:aX (fun k=>arr[k]?) off 1 (l.map (RT.pv [.i .i64]))) (hfit:off+l.length*1<=arr.size):
 Calls P f #[.slice (some ⟨b,off,none⟩) l.length c] w fun x w'=>x= .returned (.tuple #[])/\(∃fin:Array Value,fin.size=arr.size/\w'.heap[b]? =some (.cells fin el (0,0))/\aX (fun k=>fin[k]?) off 1 ((jF l).map (RT.pv [.i .i64]))/\
  ∀j:Nat,off+l.length*1<=j->fin[j]? =arr[j]?)/\(∀b':Nat,b'<w.heap.size->b'≠b->w'.heap[b']? =w.heap[b']?)/\w.heap.size<=w'.heap.size/\w'.os=w.os/\w'.tape=w.tape/\w'.output=w.output:=by
 have hblk:b<w.heap.size:=(Array.getElem?_eq_some_iff.1 hw).1;have hfit:off+l.length<=arr.size:=by omega
 have cells: ∀(j:Nat),j<l.length->arr[off+j]? =some (.int .i64 (l.toArray)[j]!):=fun j hj=>by
  have h1:(l.map (RT.pv [.i .i64]))[j]? =some (RT.pv [.i .i64] l[j]):=by rw [List.getElem?_map,List.getElem?_eq_getElem hj];rfl
  obtain ⟨_,h2⟩:=hat j _ h1;obtain ⟨v,v1,v2⟩:=h2 0 (.int .i64 l[j]) rfl;injection v1 with v1;subst v1;rw [show off+j*1+0=off+j by omega] at v2
  have:(l.toArray)[j]! =l[j]:=by rw [getElem!_pos _ j (by simpa using hj)];simp
  rw [this];exact v2
 have hH:Sort.Holds (Value.int .i64) w b off l.toArray:=fun j hj=>by
  have hj:j<l.length:=by simpa using hj
  refine ⟨?_,?_⟩
  · simp only [World.cell?,hw];exact cells j hj
  · simp [World.frozen?,hw]
 refine (H1 b off c l w hH hblk (by omega)).mono fun x w' ⟨hx,n,os,hw'⟩=>⟨hx,?_⟩
 subst hw';rw [IW];have hml:(jF l).length=l.length:=OL l;have hp:(Sort.putRow (Value.int .i64) (Sort.ahead w n) b off (jF l).toArray).heap=w.heap.modify b (Sort.onCells (Sort.putCells (Value.int .i64) off (jF l).toArray)):=rfl;have hsz:(w.heap.modify b (Sort.onCells (Sort.putCells (Value.int .i64) off (jF l).toArray))).size=w.heap.size:=Array.size_modify
 have hget: ∀k:Nat,k<w.heap.size->(Sort.grow (Sort.putRow (Value.int .i64) (Sort.ahead w n) b off (jF l).toArray) os).heap[k]? =(w.heap.modify b (Sort.onCells (Sort.putCells (Value.int .i64) off (jF l).toArray)))[k]?:=fun k hk=>by
  show (_++os)[k]? =_;rw [hp,Array.getElem?_append,if_pos (by rw [hsz];exact hk)]
 refine ⟨⟨Sort.putCells (Value.int .i64) off (jF l).toArray arr,by simp [Sort.putCells],?_,?_,?_⟩,fun k hk hne=>?_,?_,rfl,rfl,rfl⟩
 · rw [hget b hblk,Array.getElem?_modify,if_pos rfl,hw];rfl
 · intro i r hr
   have hr:((jF l).map (RT.pv [.i .i64]))[i]? =some r:=hr;rw [List.getElem?_map,Option.map_eq_some_iff] at hr;obtain ⟨a,ha,rfl⟩:=hr;have hi:i<(jF l).length:=(List.getElem?_eq_some_iff.1 ha).1;refine ⟨rfl,fun j c hc=>?_⟩
   cases j with
   |succ j=>cases hc
   |zero=>
    injection hc with hc;subst hc;refine ⟨_,rfl,?_⟩;show (Sort.putCells _ _ _ _)[off+i*1+0]? =_;rw [show off+i*1+0=off+i by omega]
    unfold Sort.putCells;rw [Array.getElem?_mapIdx,Array.getElem?_eq_getElem (by omega),Option.map_some,if_pos ⟨by omega,by simp;omega⟩,show off+i-off=i by omega]
    have:((jF l).toArray)[i]! =a:=by
     rw [getElem!_pos _ i (by simpa using hi)]
     have:=(List.getElem?_eq_some_iff.1 ha).2
     simpa using this
    rw [this]
 · intro j hj
   have hj:off+l.length<=j:=by omega
   unfold Sort.putCells;rw [Array.getElem?_mapIdx];cases arr[j]? with
   |none=>rfl
   |some x=>
    rw [Option.map_some,if_neg];intro h
    have:=h.2
    simp [hml] at this;omega
 · rw [hget k hk,Array.getElem?_modify,if_neg (fun h=>hne h.symm)]
 · show _<=(_++os).size
   rw [Array.size_append,hp,hsz];omega
theorem rE.int {P:Program} {f:FuncId}
 (H1: ∀(blk off cap:Nat) (zs:List Int) (w:World),Sort.Holds (Value.int .i64) w blk off zs.toArray->blk<w.heap.size->zs.length<4611686018427387904->
  Calls P f #[.slice (some ⟨blk,off,none⟩) zs.length cap] w fun e w'=>e= .returned (.tuple #[])/\ ∃n os,w'=Sort.grow (Sort.putRow (Value.int .i64) (Sort.ahead w n) blk off (zs.mergeSort fun x y=>decide (x<=y)).toArray) os)
 (H0: ∀(p:Option Addr) (cap:Nat) (w:World),Calls P f #[.slice p 0 cap] w fun e w'=>e= .returned (.tuple #[])/\w'=w):rE P f KP where
 none_ a c w:=H0 a c w
 some_ b off c l m arr el w _ _ hmost hfn _ hw hat hfit:=by
  obtain rfl:jF l=m:=by injection hfn
  exact K8 H1 b off c l arr el w hmost hw hat hfit
end Go.Vm
