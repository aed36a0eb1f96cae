/- The logical machine, part 2: VmCall2, VmCall3, VmFp, VmRun, VmInv, VmStep, VmShr, VmOp, VmReg, VmReg2, VmNorm, VmNorm2, VmCode, VmSound, VmPrim, VmIns, VmTab, VmComp, VmLaw, VmSym, SvBase. -/
import Derived.Test.YtmndepnolpbnpaaGreatSVm1
import Derived.Orders
import Derived.Laws.Sem
import Derived.Laws.Externs
import Derived.Lib.SliceRun
import Derived.Laws.CopyRow
import Derived.ProofKit
import Derived.Carry
import Derived.OpenShut
import Derived.Deep.Slices
import Derived.Deep.Grids
open List renaming getElem?_eq_getElem->pm,getElem?_eq_some_iff->v4,getElem?_append_left->ww,getElem?_append_right->AC,mem_append->aag,all_eq_true->aah,mem_singleton->aau,take_of_length_le->ab0,mem_cons_of_mem->ab2,length_append->ab5,mem_cons->ab6,getD_eq_getElem?_getD->abx,pairwise_iff_getElem->abD,flatMap_cons->abH,any_eq_true->abI,drop_of_length_le->abK,mem_append_right->abM,getElem?_set_ne->abN,mem_append_left->abO,mem_of_mem_take->abR,mem_of_mem_drop->abS,flatMap_append->abV,nodup_append->abY,getElem?_set->abZ,length_set->aca,drop_zero->acd,replicate->ace,length->ach
open Option.some renaming injEq->pp,inj->abL
open Bool renaming and_eq_true->rc,false_eq_true->EQ,not_eq_true'->If,or_eq_true->ab9,true->acn,false->acr
open Option renaming map_eq_some_iff->ut,some->acl,none->acm
open Prod.mk renaming injEq->v6
open Nat renaming le_refl->wn,lt_trichotomy->IR,le_trans->M2,lt_or_ge->UV,zero_le->aa7,eq_or_lt_of_le->aaj,lt_of_lt_of_le->ab4,beq->ab7,le_of_lt->abb,ble_eq->abm,ble->abF,add_mul->abQ,mul_le_mul_right->abT,blt->abU,lt_or_gt_of_ne->abW,le_total->abX
open Array renaming getElem?_eq_some_iff->Do,getElem?_setIfInBounds->NE,getD_eq_getD_getElem?->PP,getElem?_setIfInBounds_self_of_lt->ab1,replicate->ab3,getElem?_eq_getElem->abE,size_replicate->abP,size_append->ac3,ext'->acb
open Int renaming ofNat_eq_natCast->ab8,ofNat->acf
open Go.Sem renaming run_bind->abk,run_pure->acg
open Go.Result renaming andThen_ok->abG
open Go.World renaming cell?->ac5
/- A pure call: what comes back. -/
namespace Go.Vm
section
variable {im cS : Im} {loc aP : Loc} {aj : bG} {w : World}
mutual
theorem Fw: ∀{x:PV} {v:Value},x.hY=acn->VR im loc x v->VR cS aP x v
 | .int k n,v,_,h=>by rw [h.ec];exact .int _ _
 | .bool b,v,_,h=>by rw [h.gN];exact .bool _
 | .str s,v,_,h=>by rw [h.Ab];exact .str _
 | .agg cs,v,hn,h=>by obtain ⟨vs,rfl,hr⟩:=h.me;exact .agg _ _ (yz (by simpa [PV.hY] using hn) hr)
 | .bH cs,v,hn,h=>by obtain ⟨vs,rfl,hr⟩:=h.wW;exact .bH _ _ (yz (by simpa [PV.hY] using hn) hr)
 | .undef,_,hn,_=>by simp [PV.hY] at hn
 | .gJ,_,hn,_=>by simp [PV.hY] at hn
 | .sl ..,_,hn,_=>by simp [PV.hY] at hn
 | .own ..,_,hn,_=>by simp [PV.hY] at hn
 | .ptr ..,_,hn,_=>by simp [PV.hY] at hn
 | .aW ..,_,hn,_=>by simp [PV.hY] at hn
 | .mp ..,_,hn,_=>by simp [PV.hY] at hn
 | .di ..,_,hn,_=>by simp [PV.hY] at hn
 | .cL,_,hn,_=>by simp [PV.hY] at hn
theorem yz: ∀{x:List PV} {v:List Value},qM x=acn->dk im loc x v->dk cS aP x v
 | [],_,_,h=>by cases h;exact .nil
 |x::xs,_,hn,h=>by
  simp only [qM,rc] at hn;cases h with
  |cons _ u _ us h1 h2=>exact .cons _ _ _ _ (Fw hn.1 h1) (yz hn.2 h2)
end
mutual
theorem LL (hi:ky im cS): ∀{x y:PV} {v:Value},(∀t,t∈gm oP x->AR im cS loc aj w t)->VR im loc x v->uc aj x=acl y->VR cS aP y v
 | .int k n,y,v,_,hv,h=>by simp only [uc,pp] at h;subst h;rw [hv.ec];exact .int _ _
 | .bool b,y,v,_,hv,h=>by simp only [uc,pp] at h;subst h;rw [hv.gN];exact .bool _
 | .str b,y,v,_,hv,h=>by simp only [uc,pp] at h;subst h;rw [hv.Ab];exact .str _
 | .agg cs,y,v,ht,hv,h=>by simp only [uc,ut] at h;obtain ⟨ys,LK,rfl⟩:=h;obtain ⟨vs,rfl,lh⟩:=hv.me;exact .agg _ _ (DT hi (fun t h=>ht t (by simpa [gm] using h)) lh LK)
 | .bH cs,y,v,ht,hv,h=>by simp only [uc,ut] at h;obtain ⟨ys,LK,rfl⟩:=h;obtain ⟨vs,rfl,lh⟩:=hv.wW;exact .bH _ _ (DT hi (fun t h=>ht t (by simpa [gm] using h)) lh LK)
 | .sl e c rows,y,v,_,hv,h=>by simp only [uc,pp] at h;subst h;obtain ⟨a,cap,rfl,h1,h2,h3⟩:=hv.lD;exact .sl e acr rows a cap h1 (by simp) fun dK=>let ⟨b,o,ha,hr⟩:=h3 dK;⟨b,o,ha,hr.mono fun _ _ e=>hi.cell e⟩
 | .own t e off len cap ex,y,v,ht,hv,h=>by
  obtain ⟨li,a,bZ,rfl,hl,h2,h3,h4,h5,h6,h7⟩:=hv.fI;obtain ⟨k,hk,oS,OF⟩:=ht t (by simp [gm]) li hl;simp only [uc,hk] at h;cases k with
  |arr e' rows=>
   simp only [pp] at h;subst h;obtain ⟨b1,b2,b3⟩:=oS;have bI:((rows.drop off).take len).length=len:=by simp;omega
   have he:e'=e:=by rw [<- b1,h2]
   subst he;have:=VR.sl (im:=cS) (loc:=aP) e' acr ((rows.drop off).take len) a bZ (by omega) (by simp) (fun dK=>by
    have kB:rows≠[]:=by intro e;subst e;simp at dK
    obtain ⟨arr,el,o6,DO,EU,cm⟩:=b3 kB;rcases h7 with h7|⟨_,rfl,_⟩
    · exfalso;apply dK;apply List.length_eq_zero_iff.1;omega
    refine ⟨_,_,rfl,cm.Fv.mono fun k v Yq=>?_⟩
    rw [uj (by rw [OF (jV kB)];exact o6)];exact Yq)
   rwa [bI] at this
  |_=>cases h
 | .undef,_,_,_,_,h=>by simp [uc] at h
 | .gJ,_,_,_,_,h=>by simp [uc] at h
 | .ptr ..,_,_,_,_,h=>by simp [uc] at h
 | .aW ..,_,_,_,_,h=>by simp [uc] at h
 | .mp ..,_,_,_,_,h=>by simp [uc] at h
 | .di ..,_,_,_,_,h=>by simp [uc] at h
 | .cL,_,_,_,_,h=>by simp [uc] at h
theorem DT (hi:ky im cS): ∀{x y:List PV} {v:List Value},(∀t,t∈ck oP x->AR im cS loc aj w t)->dk im loc x v->DH aj x=acl y->dk cS aP y v
 | [],y,v,_,hv,h=>by simp only [DH,pp] at h;subst h;cases hv;exact .nil
 |x::xs,y,v,ht,hv,h=>by
  simp only [DH] at h;cases hx:uc aj x with
  |none=>rw [hx] at h;cases h
  |some x'=>
   cases JV:DH aj xs with
   |none=>rw [hx,JV] at h;cases h
   |some xs'=>
    rw [hx,JV] at h;simp only [pp] at h;subst h;cases hv with
    |cons _ u _ us h1 h2=>exact .cons _ _ _ _ (LL hi (fun t h=>ht t (by simp [ck,h])) h1 hx) (DT hi (fun t h=>ht t (by simp [ck,h])) h2 JV)
end
theorem mg {l:List Nat} {t:Nat}:has l t=acn↔t∈l:=by
 unfold has;rw [abI];constructor
 · rintro ⟨x,hx,h⟩
   have:t=x:=by simpa using h
   subst this;exact hx
 intro h;exact ⟨t,h,by simp⟩
theorem gO {l:List Nat} {t:Nat}:has l t=acr↔t∉l:=by rw [<- mg];simp
def acC:Im:=fun _=>acm
structure Sk (cq:Loc) (kD:bG) (Cq:List Nat) (w:World) (seen seen':List Nat) (news:bG) (Fx:List LI) (ts:List (Option Nat)):Prop where
 DU:(ach Fx)=ach news
 E7:(ach ts)=ach news
 br: ∀(j:Nat) (k:gY) (li:LI),news[j]? =acl k->Fx[j]? =acl li->(∃e rows,k= .arr e rows)/\BR acC cX w li k
 own: ∀(j:Nat) (k:gY) (li:LI) (t:Nat),news[j]? =acl k->Fx[j]? =acl li->ts[j]? =acl (acl t)->cq t=acl li/\kD[t]? =acl k/\t∉Cq/\t∈seen'/\t∉seen
 dum: ∀(j:Nat) (k:gY),news[j]? =acl k->ts[j]? =acl acm->k.ba=acr
 inj: ∀(i j t:Nat),ts[i]? =acl (acl t)->ts[j]? =acl (acl t)->i=j
 sub: ∀t,t∈seen->t∈seen'
theorem Sk.none {cq:Loc} {kD:bG} {Cq:List Nat} {seen:List Nat}:Sk cq kD Cq w seen seen [] [] [] where
 DU:=rfl
 E7:=rfl
 br:=fun j k li h=>by simp at h
 own:=fun j k li t h=>by simp at h
 dum:=fun j k h=>by simp at h
 inj:=fun i j t h=>by simp at h
 sub:=fun _ h=>h
theorem eO {α:Type} {a b:List α} {j:Nat} {x:α} (h:(a++b)[j]? =acl x):(j<ach a/\a[j]? =acl x)\/(ach a<=j/\b[j-(ach a)]? =acl x):=by
 rcases UV j (ach a) with hj|hj
 · rw [ww hj] at h;exact .inl ⟨hj,h⟩
 rw [AC hj] at h;exact .inr ⟨hj,h⟩
theorem Sk.append {cq:Loc} {kD:bG} {Cq s0 s1 s2:List Nat} {n1 n2:bG} {l1 l2:List LI} {t1 t2:List (Option Nat)} (h:Sk cq kD Cq w s0 s1 n1 l1 t1) (k:Sk cq kD Cq w s1 s2 n2 l2 t2):
 Sk cq kD Cq w s0 s2 (n1++n2) (l1++l2) (t1++t2):=by
 have e1:=h.DU;have e2:=h.E7;have LM: ∀(j t:Nat),t1[j]? =acl (acl t)->t∈s1:=by intro j t ht;have hj:=(v4.1 ht).1;exact (h.own j n1[j] l1[j] t (pm (by omega)) (pm (by omega)) ht).2.2.2.1
 have IP: ∀(j t:Nat),t2[j]? =acl (acl t)->t∉s1:=by intro j t ht;have hj:=(v4.1 ht).1;have:=k.DU;have:=k.E7;exact (k.own j n2[j] l2[j] t (pm (by omega)) (pm (by omega)) ht).2.2.2.2
 refine ⟨by simp [e1,k.DU],by simp [e2,k.E7],fun j b li hb hl=>?_,fun j b li t hb hl ht=>?_,fun j b hb ht=>?_,fun i j t hi hj=>?_,fun t ht=>k.sub t (h.sub t ht)⟩
 · rcases eO hb with ⟨h1,hb⟩|⟨h1,hb⟩
   · rcases eO hl with ⟨h2,hl⟩|⟨h2,hl⟩
     · exact h.br j b li hb hl
     omega
   rcases eO hl with ⟨h2,hl⟩|⟨h2,hl⟩
   · omega
   rw [e1] at hl;exact k.br _ b li hb hl
 · rcases eO hb with ⟨h1,hb⟩|⟨h1,hb⟩
   · rcases eO hl with ⟨h2,hl⟩|⟨h2,hl⟩
     · rcases eO ht with ⟨h3,ht⟩|⟨h3,ht⟩
       · obtain ⟨a1,a2,a3,a4,a5⟩:=h.own j b li t hb hl ht
         exact ⟨a1,a2,a3,k.sub t a4,a5⟩
       omega
     omega
   rcases eO hl with ⟨h2,hl⟩|⟨h2,hl⟩
   · omega
   rcases eO ht with ⟨h3,ht⟩|⟨h3,ht⟩
   · omega
   rw [e1] at hl;rw [e2] at ht
   obtain ⟨a1,a2,a3,a4,a5⟩:=k.own _ b li t hb hl ht;exact ⟨a1,a2,a3,a4,fun hs=>a5 (h.sub t hs)⟩
 · rcases eO hb with ⟨h1,hb⟩|⟨h1,hb⟩
   · rcases eO ht with ⟨h3,ht⟩|⟨h3,ht⟩
     · exact h.dum j b hb ht
     omega
   rcases eO ht with ⟨h3,ht⟩|⟨h3,ht⟩
   · omega
   rw [e2] at ht;exact k.dum _ b hb ht
 rcases eO hi with ⟨h1,hi⟩|⟨h1,hi⟩
 · rcases eO hj with ⟨h2,hj⟩|⟨h2,hj⟩
   · exact h.inj i j t hi hj
   exact absurd (LM i t hi) (IP _ t hj)
 rcases eO hj with ⟨h2,hj⟩|⟨h2,hj⟩
 · exact absurd (LM j t hj) (IP _ t hi)
 have:=k.inj _ _ t hi hj;omega
def Sl (cq:Loc) (kD:bG) (Af:Im) (w:World):Prop:= ∀t li,cq t=acl li-> ∃k,kD[t]? =acl k/\BR Af cq w li k
mutual
theorem LN {Af:Im} {cq:Loc} {kD:bG} {Cq:List Nat} (hk:Sl cq kD Af w): ∀{x y:PV} {v:Value} {nx:Nat} {seen seen':List Nat} {news:bG},
 VR Af cq x v->sP kD Cq nx seen x=acl (y,news,seen')->
 ∃Fx ts,Sk cq kD Cq w seen seen' news Fx ts/\ ∀(Ag:Im) (nj:Loc),(∀(j:Nat) (li:LI),Fx[j]? =acl li->nj (nx+j)=acl li)->VR Ag nj y v
 | .int k n,y,v,nx,seen,seen',news,hv,h=>by simp only [sP,pp,v6] at h;obtain ⟨rfl,rfl,rfl⟩:=h;exact ⟨[],[],.none,fun _ _ _=>by rw [hv.ec];exact .int _ _⟩
 | .bool k,y,v,nx,seen,seen',news,hv,h=>by simp only [sP,pp,v6] at h;obtain ⟨rfl,rfl,rfl⟩:=h;exact ⟨[],[],.none,fun _ _ _=>by rw [hv.gN];exact .bool _⟩
 | .agg cs,y,v,nx,seen,seen',news,hv,h=>by simp only [sP,ut,v6] at h;obtain ⟨⟨ys,n2,s2⟩,hr,rfl,rfl,rfl⟩:=h;obtain ⟨vs,rfl,lh⟩:=hv.me;obtain ⟨Fx,ts,h1,h2⟩:=DV hk lh hr;exact ⟨Fx,ts,h1,fun Ag nj hl=> .agg _ _ (h2 Ag nj hl)⟩
 | .bH cs,y,v,nx,seen,seen',news,hv,h=>by simp only [sP,ut,v6] at h;obtain ⟨⟨ys,n2,s2⟩,hr,rfl,rfl,rfl⟩:=h;obtain ⟨vs,rfl,lh⟩:=hv.wW;obtain ⟨Fx,ts,h1,h2⟩:=DV hk lh hr;exact ⟨Fx,ts,h1,fun Ag nj hl=> .bH _ _ (h2 Ag nj hl)⟩
 | .sl e c rows,y,v,nx,seen,seen',news,hv,h=>by
  obtain ⟨a,cap,rfl,h1,h2,h3⟩:=hv.lD;cases c with
  |false=>simp [sP] at h
  |true=>
   cases rows with
   |cons r rs=>simp [sP] at h
   |nil=>
    simp only [sP,pp,v6] at h;obtain ⟨rfl,rfl,rfl⟩:=h;have ni:cap=0:=h2 rfl;subst ni;refine ⟨[⟨0,0,e,0,0⟩],[acm],⟨rfl,rfl,fun j k li hj hl=>?_,fun j k li t hj hl ht=>?_,fun j k hj ht=>?_,fun i j t hi hj=>?_,fun _ h=>h⟩,fun Ag nj hl=>?_⟩
    · cases j with
      |zero=>simp at hj hl;subst hj hl;exact ⟨⟨_,_,rfl⟩,rfl,rfl,fun dK=>absurd rfl dK⟩
      |succ j=>simp at hj
    · cases j<;>simp at ht
    · cases j with
      |zero=>simp at hj;subst hj;rfl
      |succ j=>simp at hj
    · cases i<;>simp at hi
    exact .own nx e 0 0 0 acr ⟨0,0,e,0,0⟩ a 0 (hl 0 _ rfl) rfl (wn _) (wn _) (wn _) (by simp) (.inl rfl)
 | .own t e off len cap ex,y,v,nx,seen,seen',news,hv,h=>by
  obtain ⟨li,a,bZ,rfl,hl,h2,h3,h4,h5,h6,h7⟩:=hv.fI;obtain ⟨k,sk,oS⟩:=hk t li hl;simp only [sP,sk] at h;cases k with
  |arr e' rows=>
   dsimp only at h;split at h
   · cases h
   rename_i hs
   simp only [ab9,not_or,Bool.not_eq_true] at hs;simp only [pp,v6] at h;obtain ⟨rfl,rfl,rfl⟩:=h;refine ⟨[li],[acl t],⟨rfl,rfl,fun j k li' hj jE=>?_,fun j k li' t' hj jE ht=>?_,fun j k hj ht=>?_,fun i j t hi hj=>?_,fun _ h=>ab2 _ h⟩,fun Ag nj Fg=>?_⟩
   · cases j with
     |zero=>simp at hj jE;subst hj jE;exact ⟨⟨_,_,rfl⟩,oS⟩
     |succ j=>simp at hj
   · cases j with
     |zero=>simp at hj jE ht;subst hj jE ht;exact ⟨hl,sk,gO.1 hs.2,by simp,gO.1 hs.1⟩
     |succ j=>simp at hj
   · cases j<;>simp at ht
   · cases i with
     |zero=>
      cases j with
      |zero=>rfl
      |succ j=>simp at hj
     |succ i=>simp at hi
   exact .own nx e off len cap acr li a bZ (Fg 0 _ rfl) h2 h3 h4 h5 (fun h=>by cases h) h7
  |_=>cases h
 | .str s,y,v,nx,seen,seen',news,hv,h=>by simp [sP] at h
 | .undef,y,v,nx,seen,seen',news,hv,h=>by simp [sP] at h
 | .gJ,y,v,nx,seen,seen',news,hv,h=>by simp [sP] at h
 | .ptr ..,y,v,nx,seen,seen',news,hv,h=>by simp [sP] at h
 | .aW ..,y,v,nx,seen,seen',news,hv,h=>by simp [sP] at h
 | .mp ..,y,v,nx,seen,seen',news,hv,h=>by simp [sP] at h
 | .di ..,y,v,nx,seen,seen',news,hv,h=>by simp [sP] at h
 | .cL,y,v,nx,seen,seen',news,hv,h=>by simp [sP] at h
theorem DV {Af:Im} {cq:Loc} {kD:bG} {Cq:List Nat} (hk:Sl cq kD Af w): ∀{x y:List PV} {v:List Value} {nx:Nat} {seen seen':List Nat} {news:bG},
 dk Af cq x v->DI kD Cq nx seen x=acl (y,news,seen')->
 ∃Fx ts,Sk cq kD Cq w seen seen' news Fx ts/\ ∀(Ag:Im) (nj:Loc),(∀(j:Nat) (li:LI),Fx[j]? =acl li->nj (nx+j)=acl li)->dk Ag nj y v
 | [],y,v,nx,seen,seen',news,hv,h=>by simp only [DI,pp,v6] at h;obtain ⟨rfl,rfl,rfl⟩:=h;cases hv;exact ⟨[],[],.none,fun _ _ _=> .nil⟩
 |x::xs,y,v,nx,seen,seen',news,hv,h=>by
  simp only [DI] at h;cases h1:sP kD Cq nx seen x with
  |none=>rw [h1] at h;cases h
  |some r1=>
   obtain ⟨y1,n1,s1⟩:=r1;rw [h1] at h;dsimp only at h;cases h2:DI kD Cq (nx+ach n1) s1 xs with
   |none=>rw [h2] at h;cases h
   |some r2=>
    obtain ⟨y2,n2,s2⟩:=r2;rw [h2] at h;simp only [pp,v6] at h;obtain ⟨rfl,rfl,rfl⟩:=h;cases hv with
    |cons _ u _ us hx JV=>
     obtain ⟨l1,t1,a1,b1⟩:=LN hk hx h1;obtain ⟨l2,t2,a2,b2⟩:=DV hk JV h2;refine ⟨l1++l2,t1++t2,a1.append a2,fun Ag nj hl=> .cons _ _ _ _ (b1 Ag nj fun j li hj=>?_) (b2 Ag nj fun j li hj=>?_)⟩
     · have:=(v4.1 hj).1
       exact hl j li (by rw [ww this];exact hj)
     have:=hl (ach n1+j) li (by rw [AC (by rw [a1.DU];omega),a1.DU,show (ach n1)+j-(ach n1)=j by omega];exact hj)
     rwa [<- Nat.add_assoc] at this
end
end
end Go.Vm
/- A pure call, whole. -/
namespace Go.Vm
structure oj (im:Im) (loc:Loc) (aj:bG) (w:World) (v:PV) (qV:bG) (EW:List Nat) (cS:Im) (aP:Loc) (w':World) (u:Value):Prop where
 eE:ky im cS
 cD:jm loc aP
 vr:VR cS aP v u
 sr:SR cS aP qV EW w'
 os:w'.os=w.os
 tape:Tape w w'
 output:w'.output=w.output
 size:w.heap.size<=w'.heap.size
 frame: ∀b,b<w.heap.size->(∀t li k,loc t=acl li->aj[t]? =acl k->k.ba=acn->li.cB≠b)->w'.heap[b]? =w.heap[b]?
 cI: ∀b o,cS b=acl o->im b=acl o\/w.heap.size<=b\/ ∃t li k,loc t=acl li/\aj[t]? =acl k/\k.ba=acn/\li.cB=b
 jw: ∀t li,aP t=acl li->loc t=acl li\/ach aj<=t
 own: ∀t li k,aP t=acl li->qV[t]? =acl k->k.ba=acn->(w.heap.size<=li.cB\/ ∃u lu ku,loc u=acl lu/\aj[u]? =acl ku/\ku.ba=acn/\lu.cB=li.cB)
def pJ (P:Program) (f:FuncId) (us:Array Value) (w:World) (R:Value->World->Prop):Prop:=
 (∃v w',(callFunc f us).run P w= .ok (.value v) w'/\R v w')\/
 ((callFunc f us).run P w= .ok (.enter f us) w/\Calls P f us w fun e w'=> ∃v,e= .returned v/\R v w')
theorem pJ.mono {P:Program} {f:FuncId} {us:Array Value} {w:World} {R R':Value->World->Prop} (h:pJ P f us w R) (hr: ∀v w',R v w'->R' v w'):pJ P f us w R':=by
 rcases h with ⟨v,w',h1,h2⟩|⟨h1,h2⟩
 · exact .inl ⟨v,w',h1,hr _ _ h2⟩
 exact .inr ⟨h1,h2.mono fun e w' ⟨v,he,hv⟩=>⟨v,he,hr _ _ hv⟩⟩
def yA (P : Program) (rec : Task -> Option Out) : Prop :=
  ∀ (f : FuncId) (args : List PV) (aj : bG) (fz : List Nat) (v : PV) (qV : bG) (EW : List Nat), rec (.func f args aj fz) = acl (.func v qV EW) ->
    ∀ (im : Im) (loc : Loc) (w : World) (us : List Value), SR im loc aj fz w -> dk im loc args us ->
      pJ P f ⟨us⟩ w fun u w' => ∃ cS aP, oj im loc aj w v qV EW cS aP w' u
def nm (P : Program) (f : FuncId) (p : List PV -> Option (PV × bG)) : Prop :=
  ∀ (args : List PV) (v : PV) (news : bG), p args = acl (v, news) -> ∀ (im : Im) (w : World) (us : List Value), SR im cX [] [] w -> dk im cX args us ->
    pJ P f ⟨us⟩ w fun u w' => ∃ cS aP, oj im cX [] w v news [] cS aP w' u
def J6 (P : Program) (f : FuncId) (p : List PV -> bG -> List Nat -> Option (PV × bG × List Nat)) : Prop :=
  ∃ fn c, P.funcs[f]? = acl fn /\ (fn.name == "runtime.NumGoroutine") = acr /\ fn.body = acl c /\
    ∀ (args : List PV) (aj : bG) (fz : List Nat) (v : PV) (qV : bG) (EW : List Nat), p args aj fz = acl (v, qV, EW) ->
      ∀ (im : Im) (loc : Loc) (w : World) (us : List Value), SR im loc aj fz w -> dk im loc args us ->
        pJ P f ⟨us⟩ w fun u w' => ∃ cS aP, oj im loc aj w v qV EW cS aP w' u
def uo (P:Program) (F:jl):Prop:=(∀f k p,F f=acl (.fb k p)->k=acr/\nm P f p)/\ ∀f p,F f=acl (.JO p)->J6 P f p
section
variable {P : Program} {F : jl} {rec : Task -> Option Out} {im : Im} {loc : Loc} {aj : bG} {w : World}
theorem SR.empty (h: ∀b o,im b=acl o->w.heap[b]? =acl o):SR im cX [] [] w where
 aS:=h
 cB:=fun t li h=>by cases h
 fx:=fun t u li lj k k' h=>by cases h
 free:=fun t li k h=>by cases h
theorem J7 {r:kr} {v:PV} {u:Value} {kD:bG} {Cq:List Nat} {im0 Af:Im} {cq:Loc} {w1:World} (hk:gE im loc aj w r) (hr:r.v=v) (hn:r.news=[]) (hw:r.wr=[]) (Zf:v.hY=acn)
 (hp:oj im0 cX [] w v kD Cq Af cq w1 u): ∃cS aP,VR cS aP r.v u/\oZ im loc aj w r cS aP w1:=by
 refine ⟨im,loc,by rw [hr];exact Fw Zf hp.vr,?_⟩;have oe: ∀b,b<w.heap.size->w1.heap[b]? =w.heap[b]?:=fun b hb=>hp.frame b hb fun t li k h=>by cases h
 exact {
  eE:= .refl _,cD:= .refl _
  aS:=fun b o h=>by have h1:=hk.aS b o h;have dA:b<w.heap.size:=(Do.1 h1).1;rw [oe b dA];exact h1
  cI:=fun _ _ h=> .inl h
  os:=hp.os,tape:=hp.tape,output:=hp.output,size:=hp.size
  frame:=fun b hb _=>oe b hb
  JR:=fun t k h=>by rw [hw] at h;cases h
  wr:=fun t k li h=>by rw [hw] at h;cases h
  iz:=fun _ _ h=> .inl h
  news:=fun j k li h=>by rw [hn] at h;simp at h
  distinct:=fun i j ki kj li lj h=>by rw [hn] at h;simp at h}
theorem LO {r:kr} {v v':PV} {u:Value} {kD:bG} {Cq tk:List Nat} {Af:Im} {cq:Loc} {w1:World} (hr:r.v=v') (hn:r.news=[]) (hw:r.wr=[]) (hf:r.fr=tk)
 (hp:oj (grow im w (vT loc aj tk)) cX [] w v kD Cq Af cq w1 u) (hi:uc kD v=acl v'): ∃cS aP,VR cS aP r.v u/\oZ im loc aj w r cS aP w1:=by
 have oe: ∀b,b<w.heap.size->w1.heap[b]? =w.heap[b]?:=fun b hb=>hp.frame b hb fun t li k h=>by cases h
 let Ag:Im:=fun b=>match Af b with
  |some o=>acl o
  |none=>if (vT cq kD (gm oP v)).contains b&&abF w.heap.size b then w1.heap[b]? else acm
 have iC:ky Af Ag:=fun b o h=>by simp only [Ag,h]
 have vL: ∀b o,Ag b=acl o->w1.heap[b]? =acl o:=by
  intro b o h;simp only [Ag] at h;split at h
  · rename_i o' ho;injection h with h;subst h;exact hp.sr.aS b _ ho
  split at h
  · exact h
  cases h
 have Zg: ∀t,t∈gm oP v->AR Af Ag cq kD w1 t:=by
  intro t ht li hl;obtain ⟨k,fL,oS⟩:=hp.sr.cB t li hl;refine ⟨k,fL,oS,fun hs=>?_⟩;have Sh:w.heap.size<=li.cB:=by
   rcases hp.own t li k hl fL hs with h|⟨u,lu,ku,h,_⟩
   · exact h
   cases h
  simp only [Ag];split
  · rename_i o ho;exact (hp.sr.aS _ _ ho).symm
  rw [ol]
  simp only [rc,abm];exact ⟨by simpa using vU.2 ⟨t,li,k,ht,hl,fL,hs,rfl⟩,Sh⟩
 refine ⟨Ag,loc,by rw [hr];exact LL iC Zg hp.vr hi,?_⟩;exact {
  eE:=(DS im w _).trans (hp.eE.trans iC),cD:= .refl _
  aS:=vL
  cI:=fun b o h=>by
   simp only [Ag] at h;split at h
   · rename_i o' ho
     injection h with h;subst h;rcases hp.cI b _ ho with h1|h1|⟨t,li,k,h1,_⟩
     · rcases LJ h1 with h2|h2
       · exact .inl h2
       obtain ⟨t,li,k,ht,hl,sk,hs,hb⟩:=vU.1 h2
       exact .inr (.inr ⟨t,li,k,by rw [hf];exact mg.2 ht,hl,sk,hs,hb⟩)
     · exact .inr (.inl h1)
     cases h1
   split at h
   · rename_i hc
     simp only [rc,abm] at hc;exact .inr (.inl hc.2)
   cases h
  os:=hp.os,tape:=hp.tape,output:=hp.output,size:=hp.size
  frame:=fun b hb _=>oe b hb
  JR:=fun t k h=>by rw [hw] at h;cases h
  wr:=fun t k li h=>by rw [hw] at h;cases h
  iz:=fun _ _ h=> .inl h
  news:=fun j k li h=>by rw [hn] at h;simp at h
  distinct:=fun i j ki kj li lj h=>by rw [hn] at h;simp at h}
theorem IQ {r:kr} {v v':PV} {u:Value} {kD:bG} {Cq seen':List Nat} {im0 Af:Im} {cq:Loc} {w1:World} {news:bG} (hk:gE im loc aj w r) (hr:r.v=v') (hn:r.news=news) (hw:r.wr=[])
 (hp:oj im0 cX [] w v kD Cq Af cq w1 u) (hi:sP kD Cq (ach aj) [] v=acl (v',news,seen')): ∃cS aP,VR cS aP r.v u/\oZ im loc aj w r cS aP w1:=by
 have oe: ∀b,b<w.heap.size->w1.heap[b]? =w.heap[b]?:=fun b hb=>hp.frame b hb fun t li k h=>by cases h
 obtain ⟨Fx,ts,h1,h2⟩:=LN (fun t li hl=>hp.sr.cB t li hl) hp.vr hi
 let nj:Loc:=fun t=>if t<(ach aj) then loc t else match Fx[t-(ach aj)]? with
  |some li=>acl li
  |none=>loc t
 have wY: ∀(j:Nat) (li:LI),Fx[j]? =acl li->nj (ach aj+j)=acl li:=by intro j li hj;simp only [nj];rw [pi (by omega),show (ach aj)+j-(ach aj)=j by omega,hj]
 have iC:jm loc nj:=by
  intro t li hl;simp only [nj];split
  · exact hl
  rename_i dA
  split
  · rename_i l2 Fg
    have hj:=(v4.1 Fg).1;have:=hk.fresh (t-(ach aj)) (by rw [hn,<- h1.DU];exact hj);rw [show (ach aj)+(t-(ach aj))=t by omega,hl] at this;cases this
  exact hl
 have Zh: ∀(j:Nat) (k:gY),news[j]? =acl k-> ∃li,Fx[j]? =acl li:=by intro j k hj;have:=(v4.1 hj).1;exact ⟨_,pm (by rw [h1.DU];exact this)⟩
 have hts: ∀(j:Nat) (k:gY),news[j]? =acl k->k.ba=acn-> ∃t,ts[j]? =acl (acl t):=by
  intro j k hj hs;have dA:=(v4.1 hj).1;cases hg:ts[j]? with
  |none=>have:=List.getElem?_eq_none_iff.1 hg;have:=h1.E7;omega
  |some x=>
   cases x with
   |some t=>exact ⟨t,rfl⟩
   |none=>rw [h1.dum j k hj hg] at hs;cases hs
 refine ⟨im,nj,by rw [hr];exact h2 im nj wY,?_⟩;exact {
  eE:= .refl _,cD:=iC
  aS:=fun b o h=>by have h1:=hk.aS b o h;have dA:b<w.heap.size:=(Do.1 h1).1;rw [oe b dA];exact h1
  cI:=fun _ _ h=> .inl h
  os:=hp.os,tape:=hp.tape,output:=hp.output,size:=hp.size
  frame:=fun b hb _=>oe b hb
  JR:=fun t k h=>by rw [hw] at h;cases h
  wr:=fun t k li h=>by rw [hw] at h;cases h
  iz:=fun t li h=>by
   simp only [nj] at h;split at h
   · exact .inl h
   rename_i dA
   split at h
   · rename_i l2 Fg
     have hj:=(v4.1 Fg).1;exact .inr ⟨by omega,by rw [hn,<- h1.DU];omega⟩
   exact .inl h
  news:=yp fun j k hj=>by
   rw [hn] at hj;obtain ⟨li,hl⟩:=Zh j k hj;obtain ⟨⟨e,rows,rfl⟩,oS⟩:=h1.br j k li hj hl;refine ⟨li,wY j li hl,oS,fun hs=>?_⟩;obtain ⟨t,ht⟩:=hts j _ hj hs;obtain ⟨a1,a2,a3,_,_⟩:=h1.own j _ li t hj hl ht;have Sh:w.heap.size<=li.cB:=by
    rcases hp.own t li _ a1 a2 hs with h|⟨u,lu,ku,h,_⟩
    · exact h
    cases h
   refine ⟨?_,.inl Sh⟩;cases hb:im li.cB with
   |none=>rfl
   |some o=>have:=(Do.1 (hk.aS _ _ hb)).1;omega
  distinct:=fun i j ki kj li lj u7 Te OG J8 acE acF Fu=>by rw [hn] at u7 Te;obtain ⟨l1,IH⟩:=Zh i ki u7;obtain ⟨l2,Fg⟩:=Zh j kj Te;have e1:=wY i l1 IH;have e2:=wY j l2 Fg;rw [acE] at e1;rw [acF] at e2;injection e1 with e1;injection e2 with e2;subst e1 e2;obtain ⟨t1,ht1⟩:=hts i ki u7 OG;obtain ⟨t2,ht2⟩:=hts j kj Te J8;obtain ⟨a1,a2,_⟩:=h1.own i ki li t1 u7 IH ht1;obtain ⟨b1,b2,_⟩:=h1.own j kj lj t2 Te Fg ht2;have:=hp.sr.fx t1 t2 li lj ki kj a1 b1 a2 b2 OG J8 Fu;subst this;exact h1.inj i j t1 ht1 ht2}
theorem vV {own:Bool} {f:FuncId} {jS:List PV} {tk:List Nat} {r:kr}
 (h:(match rec (.func f jS [] []) with
  |some (.func v s1 z1)=>
   if own then match sP s1 z1 (ach aj) [] v with
    |some (v',n2,_)=>acl {v:=v',news:=n2,rd:=tk}
    |none=>acm
   else if v.hY then acl {v,rd:=tk}
   else match uc s1 v with
    |some v'=>acl {v:=v',rd:=tk,fr:=tk}
    |none=>acm
  |_=>acm)=acl r):r.rd=tk:=by
 split at h
 · split at h
   · split at h
     · injection h with h;subst h;rfl
     cases h
   split at h
   · injection h with h;subst h;rfl
   split at h
   · injection h with h;subst h;rfl
   cases h
 cases h
theorem s8 (AM:yA P rec) {own:Bool} {f:FuncId} {jS:List PV} {tk:List Nat} {r:kr} {us:List Value}
 (h:(match rec (.func f jS [] []) with
  |some (.func v s1 z1)=>
   if own then match sP s1 z1 (ach aj) [] v with
    |some (v',n2,_)=>acl {v:=v',news:=n2,rd:=tk}
    |none=>acm
   else if v.hY then acl {v,rd:=tk}
   else match uc s1 v with
    |some v'=>acl {v:=v',rd:=tk,fr:=tk}
    |none=>acm
  |_=>acm)=acl r) (ha:dk (grow im w (vT loc aj tk)) cX jS us) (hk:gE im loc aj w r):
 pJ P f ⟨us⟩ w fun u w'=> ∃cS aP,VR cS aP r.v u/\oZ im loc aj w r cS aP w':=by
 cases hr:rec (.func f jS [] []) with
 |none=>rw [hr] at h;cases h
 |some o=>
  rw [hr] at h;cases o with
  |code e st=>cases h
  |func v s1 z1=>
   dsimp only at h;refine (AM f jS [] [] v s1 z1 hr _ cX w us (SR.empty (IM hk.aS)) ha).mono fun u w' hq=>?_
   obtain ⟨Af,cq,hp⟩:=hq;split at h
   · cases Tl:sP s1 z1 (ach aj) [] v with
     |none=>rw [Tl] at h;cases h
     |some q2=>obtain ⟨v',n2,s2⟩:=q2;rw [Tl] at h;simp only [pp] at h;subst h;exact IQ hk rfl rfl rfl hp Tl
   split at h
   · rename_i Zf
     simp only [pp] at h;subst h;exact J7 hk rfl rfl rfl Zf hp
   cases hif:uc s1 v with
   |none=>rw [hif] at h;cases h
   |some v'=>rw [hif] at h;simp only [pp] at h;subst h;exact LO rfl rfl rfl rfl hp hif
theorem DW (AM:yA P rec) (xa:uo P F) {own:Bool} {f:FuncId} {args:List PV} {fz:List Nat} {r:kr} {us:List Value}
 (h:bC F rec own f args aj fz=acl r) (ha:dk im loc args us) (hk:gE im loc aj w r):
 pJ P f ⟨us⟩ w fun u w'=> ∃cS aP,VR cS aP r.v u/\oZ im loc aj w r cS aP w':=by
 have acH: ∀(rd:List Nat),(∀b o,im b=acl o->w.heap[b]? =acl o)-> ∀b o,grow im w (vT loc aj rd) b=acl o->w.heap[b]? =acl o:=fun rd h=>IM h
 have G8: ∀(jS:List PV),yj aj (sO aj deep) args=acl jS->(∀t,t∈ck (bW aj deep) args-> ∀li,loc t=acl li-> ∃k,aj[t]? =acl k/\BR im loc w li k)->(∀b o,im b=acl o->w.heap[b]? =acl o)->
  dk (grow im w (vT loc aj (ck (bW aj deep) args))) cX jS us:=by
  intro jS hx acI vL;refine s7 (w:=w) (DS _ _ _) (fun t=>IN (DS _ _ _) deep t) (fun t ht li hl=>?_) ha hx;obtain ⟨k,fL,oS⟩:=acI t ht li hl;exact ⟨k,fL,oS,fun hs=>OE vL (vU.2 ⟨t,li,k,ht,hl,fL,hs,rfl⟩)⟩
 unfold bC at h;cases hx:yj aj (sO aj deep) args with
 |none=>rw [hx] at h;cases h
 |some jS=>
  rw [hx] at h;dsimp only at h;cases hF:F f with
  |none=>rw [hF] at h;dsimp only at h;have Cu:r.rd=ck (bW aj deep) args:=vV h;exact s8 AM h (G8 jS hx (fun t ht=>hk.tok t (.inl (by rw [Cu];exact ht))) hk.aS) hk
  |some en=>
   rw [hF] at h;cases en with
   |fb IC p=>
    dsimp only at h;obtain ⟨rfl,Zi⟩:=xa.1 f IC p hF;cases Fy:p jS with
    |none=>rw [Fy] at h;cases h
    |some q=>
     obtain ⟨v,news⟩:=q;rw [Fy] at h;dsimp only at h;cases Tl:sP news [] (ach aj) [] v with
     |none=>rw [Tl] at h;cases h
     |some q2=>
      obtain ⟨v',n2,s2⟩:=q2;rw [Tl] at h;simp only [EQ,if_false,pp] at h;subst h;refine (Zi jS v news Fy _ w us (SR.empty (acH _ hk.aS)) (G8 jS hx (fun t ht=>hk.tok t (.inl ht)) hk.aS)).mono fun u w' hq=>?_
      obtain ⟨Af,cq,hp⟩:=hq;exact IQ hk rfl rfl rfl hp Tl
   |code x=>dsimp only at h;have Cu:r.rd=ck (bW aj deep) args:=vV h;exact s8 AM h (G8 jS hx (fun t ht=>hk.tok t (.inl (by rw [Cu];exact ht))) hk.aS) hk
   |JO x=>dsimp only at h;have Cu:r.rd=ck (bW aj deep) args:=vV h;exact s8 AM h (G8 jS hx (fun t ht=>hk.tok t (.inl (by rw [Cu];exact ht))) hk.aS) hk
end
end Go.Vm
/- A call that works on the blocks that its arguments lead to, numbered anew: what it does to the memory. -/
namespace Go.Vm
theorem eX {α:Type} {l:List α} {i:Nat} {x:α} (h:l[i]? =acl x):i<(ach l):=(v4.1 h).1
theorem yB: ∀{l:List Nat} {t:Nat},t∈lA l↔t∈l
 | [],t=>by simp [lA]
 |a::r,t=>by
  rw [lA];split
  · rename_i h
    rw [yB];have:=mg.1 h;constructor
    · exact fun h=>by simp [h]
    intro h
    rcases ab6.1 h with h|h
    · subst h;exact this
    exact h
  simp [yB]
theorem o8: ∀{l:List Nat},(lA l).Nodup
 | []=>by simp [lA]
 |a::r=>by
  rw [lA];split
  · exact o8
  rename_i h
  rw [List.nodup_cons];exact ⟨fun hm=>h (mg.2 (yB.1 hm)),o8⟩
theorem AS: ∀{a b:bG},qN a b=acn-> ∀(i:Nat) (x:gY),a[i]? =acl x-> ∃y,b[i]? =acl y/\x.ba=y.ba
 | [],_,_,i,x,h=>by simp at h
 |c::r,d::q,hf,i,x,h=>by
  simp only [qN,rc] at hf;cases i with
  |zero=>simp at h;subst h;refine ⟨d,rfl,?_⟩;have:=hf.1;split at this<;>first|(rename_i h1 h2;rw [h1,h2])|cases this
  |succ i=>simpa using AS hf.2 i x (by simpa using h)
 |_::_,[],hf,_,_,_=>by cases hf
theorem AT {g:Nat->Nat}: ∀{tk:List Nat} {s:bG} {t:Nat} {k:gY},(t,k)∈lB g tk s↔ ∃(i:Nat) (b:gY),tk[i]? =acl t/\s[i]? =acl b/\k=u4 g b
 | [],s,t,k=>by simp [lB]
 |a::r,[],t,k=>by simp [lB]
 |a::r,b::s,t,k=>by
  simp only [lB,ab6,v6,AT];constructor
  · rintro (⟨rfl,rfl⟩|⟨i,c,h1,h2,h3⟩)
    · exact ⟨0,b,rfl,rfl,rfl⟩
    exact ⟨i+1,c,by simpa using h1,by simpa using h2,h3⟩
  rintro ⟨i,c,h1,h2,h3⟩
  cases i with
  |zero=>simp at h1 h2;subst h1;subst h2;exact .inl ⟨rfl,h3⟩
  |succ i=>exact .inr ⟨i,c,by simpa using h1,by simpa using h2,h3⟩
theorem CT {g:Nat->Nat}: ∀(s:bG) (i:Nat),(wT g s)[i]? =(s[i]?).map (u4 g)
 | [],i=>by simp [wT]
 |b::r,0=>by simp [wT]
 |b::r,i+1=>by simpa [wT] using CT r i
theorem xb {g:Nat->Nat}: ∀(s:bG),(wT g s).length=ach s
 | []=>rfl
 |b::r=>by simp [wT,xb r]
section
variable {P : Program} {F : jl} {rec : Task -> Option Out} {im : Im} {loc : Loc} {aj : bG} {w : World} {tk : List Nat} {g : Nat -> Nat} {l1 l2 : Loc}
mutual
theorem VR.u9: ∀{x:PV} {v:Value},VR im l1 x v->(∀u,u∈gm oP x-> ∀li,l1 u=acl li->l2 (g u)=acl li)->VR im l2 (yk g x) v
 |_,_,.undef v,_=> .undef v
 |_,_,.gJ,_=> .gJ
 |_,_,.int k n,_=> .int k n
 |_,_,.bool b,_=> .bool b
 |_,_,.str s,_=> .str s
 |_,_,.agg cs vs h,hg=> .agg _ vs (dk.u9 h (fun u hu=>hg u (by simpa [gm] using hu)))
 |_,_,.bH cs vs h,hg=> .bH _ vs (dk.u9 h (fun u hu=>hg u (by simpa [gm] using hu)))
 |_,_,.sl esz nb rows a cap hc hk h,_=> .sl esz nb rows a cap hc hk h
 |_,_,.own t esz off len cap ex li a bZ h1 h2 h3 h4 h5 h6 h7,hg=> .own _ esz off len cap ex li a bZ (hg _ (by simp [gm]) _ h1) h2 h3 h4 h5 h6 h7
 |_,_,.ptr t esz row off li h1 h2 h3,hg=> .ptr _ esz row off li (hg _ (by simp [gm]) _ h1) h2 h3
 |_,_,.aW cs off b o vs h hv,hg=> .aW _ off b o vs (dk.u9 h (fun u hu=>hg u (by simpa [gm] using hu))) hv
 |_,_,.mp t li h,hg=> .mp _ li (hg _ (by simp [gm]) _ h)
 |_,_,.di fn a b as bs ha hb,hg=> .di fn _ _ as bs (dk.u9 ha (fun u hu=>hg u (by simp [gm,hu]))) (dk.u9 hb (fun u hu=>hg u (by simp [gm,hu])))
 |_,_,.cL,_=> .cL
theorem dk.u9: ∀{x:List PV} {v:List Value},dk im l1 x v->(∀u,u∈ck oP x-> ∀li,l1 u=acl li->l2 (g u)=acl li)->dk im l2 (rZ g x) v
 |_,_,.nil,_=> .nil
 |_,_,.cons x v xs vs h hs,hg=> .cons _ v _ vs (VR.u9 h (fun u hu=>hg u (by simp [ck,hu]))) (dk.u9 hs (fun u hu=>hg u (by simp [ck,hu])))
end
theorem VR.yk {x:PV} {v:Value} (hg: ∀u,u∈gm oP x-> ∀li,l1 u=acl li->l2 (g u)=acl li) (h:VR im l1 x v):VR im l2 (Vm.yk g x) v:=h.u9 hg
theorem dk.yk {x:List PV} {v:List Value} (hg: ∀u,u∈ck oP x-> ∀li,l1 u=acl li->l2 (g u)=acl li) (h:dk im l1 x v):dk im l2 (rZ g x) v:=h.u9 hg
theorem xd: ∀(x:List PV),(rZ g x).length=ach x
 | []=>rfl
 |x::xs=>by simp [rZ,xd xs]
theorem BR.yk {li:LI} {k:gY} (hg: ∀u,u∈nF k-> ∀li,l1 u=acl li->l2 (g u)=acl li) (h:BR im l1 w li k):BR im l2 w li (u4 g k):=by
 cases k with
 |arr e rows=>exact h
 |box cs=>obtain ⟨a1,a2,a3,vs,el,a4,a5,a6⟩:=h;exact ⟨by rw [xd];exact a1,a2,a3,vs,el,a4,a5,a6.yk hg⟩
 |map es=>exact h
 |dead=>trivial
theorem s9 (k:gY):(u4 g k).ba=k.ba:=by cases k<;>rfl
theorem Hd (AM:yA P rec) {f:FuncId} {args:List PV} {fz:List Nat} {r:kr} {us:List Value}
 (h:pE rec f args aj fz=acl r) (ha:dk im loc args us) (hk:gE im loc aj w r):
 pJ P f ⟨us⟩ w fun u w'=> ∃cS aP,VR cS aP r.v u/\oZ im loc aj w r cS aP w':=by
 unfold pE at h;have yC:(lA (ck (bW aj deep) args)).Nodup:=o8;generalize yx:lA (ck (bW aj deep) args)=tk at h yC;split at h
 · cases h
 rename_i a s0 AU;unfold Oq at AU;split at AU
 case isFalse=>cases AU
 rename_i acJ;simp only [aah,If] at acJ;split at AU
 case h_2=>cases AU
 rename_i a' Zj hra Oy;simp only [pp,v6] at AU;obtain ⟨rfl,rfl⟩:=AU;split at h
 case h_2=>cases h
 rename_i v s hr;unfold Ax at h;split at h
 case isFalse=>cases h
 rename_i LQ;injection h with h;obtain ⟨EV,DX⟩:=ym Oy;have hf0:=AS LQ;have iC:(ach tk)<=(ach s):=by
  rcases Nat.eq_zero_or_pos (ach tk) with h0|h0
  · omega
  obtain ⟨y,hy,_⟩:=hf0 (ach tk-1) (Zj[ach tk-1]'(by omega)) (pm _)
  have:=eX hy;omega
 let He:Loc:=fun u=>match tk[u]? with|some t=>loc t|none=>acm
 have AV:Ren tk loc He:=fun u t hu=>by simp only [He,hu]
 have hC: ∀u li,He u=acl li-> ∃t,tk[u]? =acl t/\loc t=acl li:=by
  intro u li hl;simp only [He] at hl;split at hl
  · rename_i t ht;exact ⟨t,ht,hl⟩
  cases hl
 have LR: ∀t k,(t,k)∈r.wr↔ ∃(i:Nat) (b:gY),tk[i]? =acl t/\s[i]? =acl b/\k=u4 (hG tk (ach aj)) b:=fun t k=>by rw [<- h];exact AT
 have Tm: ∀u t,tk[u]? =acl t->(t∈r.rd\/ ∃b,(t,b)∈r.wr):=fun u t ht=>by have:=eX ht;exact .inr ⟨_,(LR t _).2 ⟨u,_,ht,pm (by omega),rfl⟩⟩
 have vP: ∀(u t:Nat) (k:gY),tk[u]? =acl t->Zj[u]? =acl k-> ∃k0:gY,aj[t]? =acl k0/\k.ba=k0.ba:=fun u t k ht hs=>by obtain ⟨k0,k',g1,g2,g3⟩:=DX u t ht;rw [hs] at g3;injection g3 with g3;subst g3;exact ⟨k0,g1,wV g2⟩
 have hSR:SR im He Zj [] w:={
  aS:=hk.aS
  cB:=fun u li hl=>by obtain ⟨t,h1,h2⟩:=hC u li hl;obtain ⟨k,fL,oS⟩:=hk.tok t (Tm u t h1) li h2;obtain ⟨k0,k',g1,g2,g3⟩:=DX u t h1;rw [fL] at g1;injection g1 with g1;subst g1;exact ⟨k',g3,CQ AV g2 oS⟩
  fx:=fun t u li lj k k' hl jE hs qj zV acL hb=>by
   obtain ⟨a1,h1,h2⟩:=hC t li hl;obtain ⟨a2,h3,h4⟩:=hC u lj jE;obtain ⟨k0,g1,g2⟩:=vP t a1 k h1 hs;obtain ⟨Zk,Zl,Si⟩:=vP u a2 k' h3 qj;have:=hk.fx a1 a2 li lj k0 Zk (Tm t a1 h1) (Tm u a2 h3) h2 h4 g1 Zl (by rw [<- g2];exact zV) (by rw [<- Si];exact acL) hb;subst this;have pw:=abD.1 yC;obtain ⟨l1,e1⟩:=v4.1 h1;obtain ⟨l2,e2⟩:=v4.1 h3;rcases IR t u with h|h|h
   · exact absurd (e1.trans e2.symm) (pw t u l1 l2 h)
   · exact h
   exact absurd (e2.trans e1.symm) (pw u t l2 l1 h)
  free:=fun t li k hl hs zV _=>by obtain ⟨a1,h1,h2⟩:=hC t li hl;obtain ⟨k0,g1,g2⟩:=vP t a1 k h1 hs;have dA:=eX h1;exact hk.free a1 _ ((LR a1 _).2 ⟨t,_,h1,pm (by omega),rfl⟩) li k0 h2 g1 (by rw [<- g2];exact zV)}
 refine (AM f a' Zj [] v s [] hr im He w us hSR (oY AV ha hra)).mono fun u w' ⟨cS,Fz,hf⟩=>?_
 let aP:Loc:=fun t=>match loc t with
  |some li=>acl li
  |none=>if (ach aj)<=t/\t-(ach aj)<(ach r.news) then Fz (t-(ach aj)+ach tk) else acm
 have Zm:jm loc aP:=fun t li hl=>by simp only [aP,hl]
 have Cv:(fw (ach tk) v s=acn/\r.news=[])\/(fw (ach tk) v s=acr/\r.news=wT (hG tk (ach aj)) (s.drop (ach tk))):=by
  rw [<- h];cases J2:fw (ach tk) v s with
  |true=>exact .inl ⟨rfl,by simp⟩
  |false=>exact .inr ⟨rfl,by simp⟩
 have Zn:fw (ach tk) v s=acr->ach r.news=ach s-(ach tk):=fun h1=>by
  rcases Cv with ⟨h2,_⟩|⟨_,h2⟩
  · rw [h1] at h2;cases h2
  rw [h2];simp [xb]
 have acM: ∀u li,Fz u=acl li->u<(ach s):=fun u li hl=>let ⟨k,fL,_⟩:=hf.sr.cB u li hl;eX fL
 have LS: ∀j li,aP (ach aj+j)=acl li->j<ach r.news->Fz (ach tk+j)=acl li:=fun j li hl hj=>by simp only [aP,hk.fresh j hj] at hl;rw [ol ⟨by omega,by omega⟩] at hl;rw [show (ach aj)+j-(ach aj)+ach tk=ach tk+j by omega] at hl;exact hl
 have hg: ∀u,(u<ach tk\/fw (ach tk) v s=acr)-> ∀li,Fz u=acl li->aP (hG tk (ach aj) u)=acl li:=by
  intro u OH li hl;unfold hG;split
  · rename_i t ht
    rcases hf.jw u li hl with h1|h1
    · obtain ⟨t',h2,h3⟩:=hC u li h1
      rw [ht] at h2;injection h2 with h2;subst h2;exact Zm _ _ h3
    have:=eX ht;omega
  rename_i hn
  have hu:(ach tk)<=u:=by simpa using hn
  rcases OH with OH|OH
  · omega
  have dA:=acM u li hl;have Cv:=Zn OH;simp only [aP,hk.fresh (u-(ach tk)) (by omega)];rw [ol ⟨by omega,by omega⟩,show (ach aj)+(u-(ach tk)) -(ach aj)+ach tk=u by omega];exact hl
 have J2: ∀u,fw (ach tk) v s=acn->(u∈gm oP v\/ ∃i b,i<ach tk/\s[i]? =acl b/\u∈nF b)->u<(ach tk):=fun u h1 h2=>by
  unfold fw at h1;have h3:=aah.1 h1 u (by
   rcases h2 with h2|⟨i,b,g1,g2,g3⟩
   · simp [h2]
   refine aag.2 (.inr (List.mem_flatMap.2 ⟨b,?_,g3⟩))
   exact List.mem_of_getElem? (i:=i) (by rw [List.getElem?_take];simp [g1,g2]))
  simpa using h3
 have hgv: ∀u,u∈gm oP v-> ∀li,Fz u=acl li->aP (hG tk (ach aj) u)=acl li:=fun u hu=>hg u (by
  cases hq:fw (ach tk) v s with
  |true=>exact .inl (J2 u hq (.inl hu))
  |false=>exact .inr rfl)
 have hgb: ∀i b,i<ach tk->s[i]? =acl b-> ∀u,u∈nF b-> ∀li,Fz u=acl li->aP (hG tk (ach aj) u)=acl li:=fun i b hi hb u hu=>hg u (by
  cases hq:fw (ach tk) v s with
  |true=>exact .inl (J2 u hq (.inr ⟨i,b,hi,hb,hu⟩))
  |false=>exact .inr rfl)
 have hMC: ∀u t li,tk[u]? =acl t->loc t=acl li->Fz u=acl li:=fun u t li ht hl=>hf.cD u li (by simp only [He,ht];exact hl)
 refine ⟨cS,aP,by rw [<- h];exact hf.vr.yk hgv,?_⟩;have LU: ∀(j:Nat) (k:gY),r.news[j]? =acl k-> ∃b,s[ach tk+j]? =acl b/\k=u4 (hG tk (ach aj)) b:=fun j k hj=>by
  rcases Cv with ⟨_,h0⟩|⟨_,h0⟩
  · rw [h0] at hj;simp at hj
  rw [h0] at hj;simp only [CT,List.getElem?_drop,ut] at hj;obtain ⟨b,h1,h2⟩:=hj;exact ⟨b,h1,h2.symm⟩
 have OI: ∀t li,Fz t=acl li->ach tk<=t-> ∀k,s[t]? =acl k->k.ba=acn->w.heap.size<=li.cB:=by
  intro t li hl ht k hs zV;rcases hf.own t li k hl hs zV with h1|⟨u,lu,ku,h1,h2,h3,h4⟩
  · exact h1
  exfalso
  obtain ⟨a1,g1,g2⟩:=hC u lu h1;obtain ⟨y,y1,y2⟩:=hf0 u ku h2;have:=hf.sr.fx u t lu li y k (hMC u a1 lu g1 g2) hl y1 hs (by rw [<- y2];exact h3) zV h4;subst this;have:=eX g1;omega
 exact {
  eE:=hf.eE,cD:=Zm
  aS:=hf.sr.aS
  cI:=fun b o hb=>by
   rcases hf.cI b o hb with h1|h1|⟨t,li,k,h1,h2,h3,h4⟩
   · exact .inl h1
   · exact .inr (.inl h1)
   exfalso
   obtain ⟨a1,g1,g2⟩:=hC t li h1;obtain ⟨y,y1,y2⟩:=hf0 t k h2;have:=hf.sr.free t li y (hMC t a1 li g1 g2) y1 (by rw [<- y2];exact h3) rfl;rw [h4,hb] at this;cases this
  os:=hf.os,tape:=hf.tape,output:=hf.output,size:=hf.size
  frame:=fun b hb hh=>hf.frame b hb fun t li k hl hs zV=>by obtain ⟨a1,g1,g2⟩:=hC t li hl;obtain ⟨k0,e1,e2⟩:=vP t a1 k g1 hs;have dA:=eX g1;exact hh a1 _ li k0 ((LR a1 _).2 ⟨t,_,g1,pm (by omega),rfl⟩) g2 e1 (by rw [<- e2];exact zV)
  JR:=fun t k hm zV=>by obtain ⟨i,b,g1,g2,rfl⟩:=(LR t k).1 hm;rw [s9] at zV;have dA:=eX g1;have e:=pm (l:=Zj) (i:=i) (by omega);obtain ⟨y,y1,y2⟩:=hf0 i _ e;rw [g2] at y1;injection y1 with y1;subst y1;obtain ⟨k0,e1,e2⟩:=vP i t _ g1 e;exact ⟨k0,e1,by rw [<- e2,y2];exact zV⟩
  wr:=fun t k li hm hl=>by obtain ⟨i,b,g1,g2,rfl⟩:=(LR t k).1 hm;obtain ⟨k',fL,oS⟩:=hf.sr.cB i li (hMC i t li g1 hl);rw [g2] at fL;injection fL with fL;subst fL;exact oS.yk (hgb i b (eX g1) g2)
  iz:=fun t li hl=>by
   simp only [aP] at hl;cases EV:loc t with
   |some lj=>rw [EV] at hl;exact .inl hl
   |none=>
    rw [EV] at hl;dsimp only at hl;split at hl
    · rename_i hn
      exact .inr ⟨hn.1,by omega⟩
    cases hl
  news:=fun j k li hj hl=>by
   have G5:j<(ach r.news):=eX hj;obtain ⟨b,hb,rfl⟩:=LU j k hj;have EV:=LS j li hl G5;obtain ⟨k',fL,oS⟩:=hf.sr.cB _ li EV;rw [hb] at fL;injection fL with fL;subst fL;have hq:fw (ach tk) v s=acr:=by
    rcases Cv with ⟨_,h0⟩|⟨h0,_⟩
    · rw [h0] at G5;simp at G5
    exact h0
   refine ⟨oS.yk (fun u _=>hg u (.inr hq)),fun zV=>?_⟩;rw [s9] at zV;exact ⟨hf.sr.free _ li b EV hb zV rfl,.inl (OI _ li EV (by omega) b hb zV)⟩
  distinct:=fun i j ki kj li lj hi hj OG J8 Zh hlj hb=>by obtain ⟨b1,e1,rfl⟩:=LU i ki hi;obtain ⟨b2,e2,rfl⟩:=LU j kj hj;rw [s9] at OG J8;have h1:=LS i li Zh (eX hi);have h2:=LS j lj hlj (eX hj);have:=hf.sr.fx _ _ li lj b1 b2 h1 h2 e1 e2 OG J8 hb;omega}
end
end Go.Vm
/- A region's run in the order of the text, step by step; what a block holds when acl of its operations are done. -/
namespace Go.Vm
structure tc (F:jl) (rec:Task->Option Out) (ops:List bk) (S:Nat->St) (X:Nat->Option XR):Prop where
 steps: ∀(i:Nat) (o:bk),ops[i]? =acl o->
  (wanted o.guard (S i).env=acl acn/\ ∃x,sf F rec (S i).env (S i).aj (S i).fz o.op=acl x/\x.ok (S i).fz=acn/\X i=acl x/\S (i+1)=x.next o.dst (S i))\/
  (wanted o.guard (S i).env=acl acr/\X i=acm/\S (i+1)={S i with env:=fR o.dst .gJ (S i).env})
def uW (x:Option XR) (s:St):Tr:=
 match x with
 |some x=>x.tr (ach s.aj)
 |none=>Tr.idle
def vd (S:Nat->St) (X:Nat->Option XR) (n:Nat):List Tr:=(List.range n).map fun i=>uW (X i) (S i)
theorem Hf (S:Nat->St) (X:Nat->Option XR) (n:Nat):vd S X (n+1)=uW (X 0) (S 0)::vd (fun i=>S (i+1)) (fun i=>X (i+1)) n:=by unfold vd;rw [List.range_succ_eq_map];simp [List.map_map,Function.comp_def]
theorem yD {F:jl} {rec:Task->Option Out}: ∀(ops:List bk) (st:St) (tr:List Tr) (iq:St) (J9:List Tr),jv F rec ops st tr=acl (iq,J9)->
 ∃S X,S 0=st/\S (ach ops)=iq/\tc F rec ops S X/\J9=(vd S X (ach ops)).reverse++tr
 | [],st,tr,iq,J9,h=>by simp only [jv,pp,v6] at h;obtain ⟨rfl,rfl⟩:=h;exact ⟨fun _=>st,fun _=>acm,rfl,rfl,⟨fun i o h=>by simp at h⟩,by simp [vd]⟩
 |o::l,st,tr,iq,J9,h=>by
  simp only [jv] at h;have mk: ∀(s1:St) (x:Option XR) (t1:Tr),uW x st=t1->jv F rec l s1 (t1::tr)=acl (iq,J9)->
   ((wanted o.guard st.env=acl acn/\ ∃y,sf F rec st.env st.aj st.fz o.op=acl y/\y.ok st.fz=acn/\x=acl y/\s1=y.next o.dst st)\/
    (wanted o.guard st.env=acl acr/\x=acm/\s1={st with env:=fR o.dst .gJ st.env}))->
   ∃S X,S 0=st/\S (o::l).length=iq/\tc F rec (o::l) S X/\J9=(vd S X (o::l).length).reverse++tr:=by
   intro s1 x t1 ht he hs;obtain ⟨S,X,h0,hn,bu,htr⟩:=yD l s1 (t1::tr) iq J9 he;refine ⟨fun i=>match i with|0=>st|i+1=>S i,fun i=>match i with|0=>x|i+1=>X i,rfl,hn,⟨fun i o' ho=>?_⟩,?_⟩
   · cases i with
     |zero=>
      simp at ho;subst ho;rcases hs with ⟨a,y,b,c,d,e⟩|⟨a,b,c⟩
      · exact .inl ⟨a,y,b,c,d,by rw [<- e];exact h0⟩
      exact .inr ⟨a,b,by rw [<- c];exact h0⟩
     |succ i=>exact bu.steps i o' (by simpa using ho)
   rw [List.length_cons,Hf,htr]
   simp [ht]
  cases hw:wanted o.guard st.env with
  |none=>rw [hw] at h;cases h
  |some b=>
   rw [hw] at h;cases b with
   |false=>exact mk _ acm _ rfl h (.inr ⟨hw,rfl,rfl⟩)
   |true=>
    dsimp only at h;cases hx:sf F rec st.env st.aj st.fz o.op with
    |none=>rw [hx] at h;cases h
    |some x=>
     rw [hx] at h;dsimp only at h;split at h
     · rename_i vL
       exact mk _ (acl x) _ rfl h (.inl ⟨hw,x,hx,vL,rfl,rfl⟩)
     cases h
theorem dO: ∀(wr:List (Nat×gY)) (s:bG),(ez wr s).length=ach s
 | [],s=>rfl
 |(t,b)::r,s=>by rw [ez,dO r];simp
theorem pK: ∀(wr:List (Nat×gY)) (s:bG) (t:Nat),(∀k,(t,k)∉wr)->(ez wr s)[t]? =s[t]?
 | [],s,t,_=>rfl
 |(u,b)::r,s,t,h=>by
  rw [ez,pK r _ t (fun k hk=>h k (by simp [hk]))];have:u≠t:=fun e=>h b (by rw [e];simp)
  rw [abN this]
theorem AW: ∀(wr:List (Nat×gY)) (s:bG),qO wr=acn-> ∀{t:Nat} {k:gY},(t,k)∈wr->t<ach s->(ez wr s)[t]? =acl k
 |(u,b)::r,s,hn,t,k,hm,dA=>by
  simp only [qO,rc,aah,If] at hn;rw [ez];rcases ab6.1 hm with h|h
  · injection h with h1 h2
    subst h1 h2;rw [pK r _ t fun k' hk=>by simpa using hn.1 (t,k') hk];simp [dA]
  exact AW r _ hn.2 h (by simpa using dA)
section
variable {F : jl} {rec : Task -> Option Out} {ops : List bk} {S : Nat -> St} {X : Nat -> Option XR}
def W (X:Nat->Option XR) (i t:Nat):Prop:=
 match X i with
 |some (.loc r)=> ∃k,(t,k)∈r.wr
 |some (.shr ..)=>True
 |none=>False
def FR (X:Nat->Option XR) (i t:Nat):Prop:=
 match X i with
 |some (.loc r)=>t∈r.fr
 |some (.shr _ _ z)=>t∈z
 |none=>False
def xe (S:Nat->St) (X:Nat->Option XR) (n:Nat) (done:Nat->Prop) (t:Nat) (k:gY):Prop:=
 ∃m,m<=n/\(∀i,i<n->W X i t->(done i↔i<m))/\(∀c,c<n->(S c).aj.length<=t->t<(S (c+1)).aj.length->c<m)/\(S m).aj[t]? =acl k
theorem IS {e:Env} {aj:bG} {fz:List Nat} {op:iw} {v:PV} {s:bG} {z:List Nat} (h:sf F rec e aj fz op=acl (.shr v s z)):(ach aj)<=ach s/\ ∀t,t∈fz->t∈z:=by
 have key: ∀{f:FuncId} {args:List PV},eh rec f args aj fz=acl (.shr v s z)->ach aj<=ach s/\ ∀t,t∈fz->t∈z:=by
  intro f args h;unfold eh at h;split at h
  · split at h
    · rename_i hc
      simp only [rc,abm,aah] at hc;simp only [pp,XR.shr.injEq] at h;obtain ⟨rfl,rfl,rfl⟩:=h;exact ⟨hc.1,fun t ht=>mg.1 (hc.2 t ht)⟩
    cases h
  cases h
 cases op with
 |call m f args=>
  cases m with
  |Ob=>simp [sf] at h
  |own=>simp [sf] at h
  |shr=>exact key h
  |fp=>simp [sf] at h
 |rY x args=>
  simp only [sf] at h;split at h
  · split at h
    · exact key h
    simp at h
  cases h
 |_=>simp [sf] at h
theorem tc.Tn (hr:tc F rec ops S X) {i:Nat} (hi:i<ach ops):(S i).aj.length<=(S (i+1)).aj.length:=by
 rcases hr.steps i _ (pm hi) with ⟨_,x,hx,_,_,hn⟩|⟨_,_,hn⟩
 · rw [hn]
   cases x with
   |loc r=>simp [XR.next,nI,dO]
   |shr v s z=>exact (IS hx).1
 rw [hn];exact wn _
theorem tc.fy (hr : tc F rec ops S X) {i j : Nat} (lr : i <= j) (hj : j <= (ach ops)) : (S i).aj.length <= (S j).aj.length := by
  induction j with
  | zero => have : i = 0 := by omega
            subst this; exact wn _
  | succ j ih =>
    rcases aaj lr with h | h
    · subst h; exact wn _
    exact M2 (ih (by omega) (by omega)) (hr.Tn (by omega))
theorem tc.same (hr:tc F rec ops S X) {i t:Nat} (hi:i<ach ops) (hw: ¬W X i t) (ht:t<(S i).aj.length):(S (i+1)).aj[t]? =(S i).aj[t]?:=by
 rcases hr.steps i _ (pm hi) with ⟨_,x,hx,_,hX,hn⟩|⟨_,_,hn⟩
 · rw [hn]
   cases x with
   |loc r=>simp only [XR.next,nI];rw [ww (by rw [dO];exact ht)];exact pK _ _ _ fun k hk=>hw (by unfold W;rw [hX];exact ⟨k,hk⟩)
   |shr v s z=>exact absurd (by unfold W;rw [hX];trivial) hw
 rw [hn]
theorem tc.uq (hr : tc F rec ops S X) {m m' t : Nat} (hm : m <= m') (ye : m' <= (ach ops)) (hw : ∀ i, m <= i -> i < m' -> ¬ W X i t) (ht : t < (S m).aj.length) : (S m').aj[t]? = (S m).aj[t]? := by
  induction m' with
  | zero => have : m = 0 := by omega
            subst this; rfl
  | succ j ih =>
    rcases aaj hm with h | h
    · subst h; rfl
    rw [hr.same (by omega) (hw j (by omega) (by omega)) (ab4 ht (hr.fy (by omega) (by omega)))]
    exact ih (by omega) (by omega) fun i h1 h2 => hw i h1 (by omega)
theorem bM {α:Type} {l:List α} {i:Nat} {x:α} (h:l[i]? =acl x):i<(ach l):=(v4.1 h).1
theorem xe.unique (hr:tc F rec ops S X) {done:Nat->Prop} {t:Nat} {k k':gY} (h:xe S X (ach ops) done t k) (h':xe S X (ach ops) done t k'):k=k':=by
 obtain ⟨m,hm,hw,hc,hs⟩:=h;obtain ⟨m',ye,Yr,yt,qj⟩:=h';rcases abX m m' with h|h
 · have:=hr.uq h ye (fun i h1 h2 hW=>by
    have a:=hw i (by omega) hW;have b:=Yr i (by omega) hW;have:=a.1 (b.2 h2);omega) (bM hs)
   rw [hs,qj] at this;exact (abL this).symm
 have:=hr.uq h hm (fun i h1 h2 hW=>by
  have a:=hw i (by omega) hW;have b:=Yr i (by omega) hW;have:=b.1 (a.2 h2);omega) (bM qj)
 rw [hs,qj] at this;exact abL this
theorem tc.LV (hr:tc F rec ops S X) {i t:Nat} (hi:i<ach ops) (hd:(ops[i]).dst≠acl t):lk t (S (i+1)).env=lk t (S i).env:=by
 have key: ∀(d:Option Nat) (v:PV) (e:Env),d≠acl t->lk t (fR d v e)=lk t e:=by
  intro d v e h;cases d with
  |none=>rfl
  |some s=>simp only [fR];rw [nK,pi (fun e=>h (by rw [e]))]
 rcases hr.steps i _ (pm hi) with ⟨_,x,hx,_,hX,hn⟩|⟨_,_,hn⟩
 · rw [hn]
   cases x with
   |loc r=>exact key _ _ _ hd
   |shr v s z=>exact key _ _ _ hd
 rw [hn];exact key _ _ _ hd
theorem tc.Hg (hr : tc F rec ops S X) {m m' t : Nat} (hm : m <= m') (ye : m' <= (ach ops)) (hd : ∀ i (hi : i < (ach ops)), m <= i -> i < m' -> (ops[i]).dst ≠ acl t) : lk t (S m').env = lk t (S m).env := by
  induction m' with
  | zero => have : m = 0 := by omega
            subst this; rfl
  | succ j ih =>
    rcases aaj hm with h | h
    · subst h; rfl
    rw [hr.LV (by omega) (hd j (by omega) (by omega) (by omega))]
    exact ih (by omega) (by omega) fun i hi h1 h2 => hd i hi h1 (by omega)
end
end Go.Vm
/- A region: what holds while acl of its operations are done, and that one more keeps it. -/
namespace Go.Vm
def aC (x:bk):List Nat:=(x.op.dB.filterMap fun| .t n=>acl n| .c _=>acm)++(match x.guard with|some (s,_)=>[s]|none=>[])
def qo (ops:Array Oper):Option (Nat×Bool)->Option (Nat×Bool)->Bool
 |none,acm=>acn
 |some (s,b),acl (j,c)=>b==c&&((ops[j]?).bind (·.dst))==acl s
 |_,_=>acr
def nL (P:Program) (prims:FuncId->Bool) (nt:Nat) (ops:Array Oper) (x:bk) (o:Oper):Bool:=
 x.dst==o.dst&&(match x.dst with|some d=>abU d nt|none=>acn)&&qo ops x.guard o.guard&&sj P prims o.type x.op o.op
def nA (X:Nat->Option XR) (i:Nat):Prop:= ∃v s z,X i=acl (.shr v s z)
def fh (X:Nat->Option XR) (i:Nat):Prop:=
 match X i with
 |some (.loc r)=>r.rd≠[]\/r.fr≠[]\/r.wr≠[]\/r.news≠[]
 |some (.shr ..)=>True
 |none=>False
def A (X:Nat->Option XR) (i t:Nat):Prop:=
 match X i with
 |some (.loc r)=>t∈r.rd\/t∈r.fr
 |_=>False
structure Ord (ops:List bk) (S:Nat->St) (X:Nat->Option XR) (sI:Nat->Nat->Prop):Prop where
 AX: ∀(i j t:Nat) (x y:bk),i<j->ops[i]? =acl x->ops[j]? =acl y->x.dst=acl t->(t∈aC y\/y.dst=acl t)->sI i j
 LW: ∀(i j t:Nat) (x y:bk),i<j->ops[i]? =acl x->ops[j]? =acl y->y.dst=acl t->t∈aC x->sI i j
 Hh: ∀i j t,i<j->j<ach ops->W X i t->(A X j t\/W X j t)->sI i j
 To: ∀i j t,i<j->j<ach ops->A X i t->W X j t->sI i j
 Tp: ∀i j t,i<j->j<ach ops-> ¬nA X i->(S i).aj.length<=t->t<(S (i+1)).aj.length-> ¬nA X j->W X j t->sI i j
 E6: ∀i j,i<j->j<ach ops->(nA X i/\fh X j\/fh X i/\nA X j)->sI i j
 cl: ∀i t,i<ach ops-> ¬nA X i->(A X i t\/W X i t)->t<(S i).aj.length\/ ∀c,i<c->c<ach ops->sI i c
structure Inv (ops:List bk) (S:Nat->St) (X:Nat->Option XR) (im0:Im) (loc0:Loc) (w0:World) (nt:Nat) (done:Nat->Prop) (im:Im) (loc:Loc) (a:Act) (w:World):Prop where
 tm: ∀t,∃m,m<=ach ops/\(∀i x,ops[i]? =acl x->x.dst=acl t->(done i↔i<m))/\VR im loc (lk t (S m).env) (a.tmps.getD t Go.undef)
 aS: ∀b o,im b=acl o->w.heap[b]? =acl o
 tok: ∀t li,loc t=acl li-> ∃k,xe S X (ach ops) done t k/\BR im loc w li k
 fx: ∀t u li lj k k',loc t=acl li->loc u=acl lj->xe S X (ach ops) done t k->xe S X (ach ops) done u k'->k.ba=acn->k'.ba=acn->li.cB=lj.cB->t=u
 free: ∀t li k,loc t=acl li->xe S X (ach ops) done t k->k.ba=acn->t∉(S 0).fz->(∀i,i<ach ops->done i-> ¬FR X i t)->im li.cB=acm
 fresh: ∀i,i<ach ops-> ¬done i-> ∀t,(S i).aj.length<=t->t<(S (i+1)).aj.length->loc t=acm
 eE:ky im0 im
 cD:jm loc0 loc
 os:w.os=w0.os
 tape:Tape w0 w
 output:w.output=w0.output
 size:w0.heap.size<=w.heap.size
 frame: ∀b,b<w0.heap.size->(∀t li k,loc0 t=acl li->(S 0).aj[t]? =acl k->k.ba=acn->li.cB≠b)->w.heap[b]? =w0.heap[b]?
 cI: ∀b o,im b=acl o->im0 b=acl o\/w0.heap.size<=b\/ ∃t li k,loc0 t=acl li/\(S 0).aj[t]? =acl k/\k.ba=acn/\li.cB=b
 jw: ∀t li,loc t=acl li->loc0 t=acl li\/(S 0).aj.length<=t
 own: ∀t li k,loc t=acl li->xe S X (ach ops) done t k->k.ba=acn->(w0.heap.size<=li.cB\/ ∃u lu ku,loc0 u=acl lu/\(S 0).aj[u]? =acl ku/\ku.ba=acn/\lu.cB=li.cB)
 defers:a.defers=[]
 GW:a.tmps.size=nt
def plus (done:Nat->Prop) (i:Nat):Nat->Prop:=fun j=>done j\/j=i
section
variable {F : jl} {rec : Task -> Option Out} {ops : List bk} {S : Nat -> St} {X : Nat -> Option XR} {sI : Nat -> Nat -> Prop} {im0 : Im} {loc0 : Loc} {w0 : World} {nt : Nat}
  {done : Nat -> Prop} {im : Im} {loc : Loc} {a : Act} {w : World} {i : Nat}
structure Place (ops:List bk) (sI:Nat->Nat->Prop) (done:Nat->Prop) (i:Nat):Prop where
 lt:i<ach ops
 nd: ¬done i
 pre: ∀j,j<ach ops->sI j i->done j
 di: ∀k,k<ach ops->done k-> ∀j,j<ach ops->sI j k->done j
theorem Place.later (hp:Place ops sI done i) {k:Nat} (hk:k<ach ops) (h:sI i k): ¬done k:=fun hd=>hp.nd (hp.di k hk hd i hp.lt h)
theorem Inv.slot (hr:tc F rec ops S X) (ho:Ord ops S X sI) (hv:Inv ops S X im0 loc0 w0 nt done im loc a w) (hp:Place ops sI done i) {x:bk} (hx:ops[i]? =acl x) {t:Nat} (ht:t∈aC x):
 VR im loc (lk t (S i).env) (a.tmps.getD t Go.undef):=by
 obtain ⟨m,hm,hd,lh⟩:=hv.tm t;have Th: ∀j y,ops[j]? =acl y->y.dst=acl t->(done j↔j<i):=by
  intro j y hy IT;rcases IR j i with h|h|h
  · exact ⟨fun _=>h,fun _=>hp.pre j (bM hy) (ho.AX j i t y x h hy hx IT (.inl ht))⟩
  · subst h;exact ⟨fun hd=>absurd hd hp.nd,fun h=>by omega⟩
  exact ⟨fun FA=>absurd FA (hp.later (bM hy) (ho.LW i j t x y h hx hy IT ht)),fun h'=>by omega⟩
 have same:lk t (S i).env=lk t (S m).env:=by
  rcases abX m i with h|h
  · refine hr.Hg h (abb hp.lt) fun j hj h1 h2 oT=>?_
    have a1:=hd j _ (pm hj) oT;have a2:=Th j _ (pm hj) oT;have:=a1.1 (a2.2 h2);omega
  refine (hr.Hg h hm fun j hj h1 h2 oT=>?_).symm
  have a1:=hd j _ (pm hj) oT;have a2:=Th j _ (pm hj) oT;have:=a2.1 (a1.2 h2);omega
 rw [same];exact lh
theorem Inv.cur (hr:tc F rec ops S X) (ho:Ord ops S X sI) (hv:Inv ops S X im0 loc0 w0 nt done im loc a w) (hp:Place ops sI done i) {t:Nat} {li:LI} (hl:loc t=acl li)
 (ht:(A X i t\/W X i t)) {k:gY} (hc:xe S X (ach ops) done t k):(S i).aj[t]? =acl k:=by
 obtain ⟨m,hm,hw,hcr,hs⟩:=hc;have bI:t<(S i).aj.length:=by
  rcases UV t (S i).aj.length with h|h
  · exact h
  exfalso
  have hmi:i<m:=by
   rcases UV i m with h'|h'
   · exact h'
   have:=hr.fy h' (abb hp.lt);have:=bM hs;omega
  have: ∃c,i<=c/\c<m/\(S c).aj.length<=t/\t<(S (c+1)).aj.length:=by
   have hex: ∀d,i+d<=m->t<(S (i+d)).aj.length-> ∃c,i<=c/\c<i+d/\(S c).aj.length<=t/\t<(S (c+1)).aj.length:=by
    intro d
    induction d with
    |zero=>intro _ h2;exact absurd h2 (by simpa using h)
    |succ d ih=>
     intro h1 h2;rcases UV t (S (i+d)).aj.length with h3|h3
     · obtain ⟨c,c1,c2,c3,c4⟩:=ih (by omega) h3
       exact ⟨c,c1,by omega,c3,c4⟩
     exact ⟨i+d,by omega,by omega,h3,h2⟩
   obtain ⟨c,c1,c2,c3,c4⟩:=hex (m-i) (by omega) (by rw [show i+(m-i)=m by omega];exact bM hs);exact ⟨c,c1,by omega,c3,c4⟩
  obtain ⟨c,c1,c2,c3,c4⟩:=this;have Ys:c<(ach ops):=by omega
  have acQ: ¬done c:=by
   intro hdc;rcases aaj c1 with e|e
   · subst e;exact hp.nd hdc
   by_cases hsh:nA X i
   · refine hp.later Ys (ho.E6 i c e Ys (.inl ⟨hsh,?_⟩)) hdc
     rcases hr.steps c _ (pm Ys) with ⟨_,x,hx,_,hX,hn⟩|⟨_,_,hn⟩
     · unfold fh;rw [hX]
       cases x with
       |loc r=>refine .inr (.inr (.inr fun vS=>?_));rw [hn] at c4;simp [XR.next,nI,dO,vS] at c4;omega
       |shr v s z=>trivial
     rw [hn] at c4;simp at c4;omega
   rcases ho.cl i t hp.lt hsh ht with h'|h'
   · omega
   exact hp.later Ys (h' c e Ys) hdc
  have:=hv.fresh c Ys acQ t c3 c4;rw [hl] at this;cases this
 have Th: ∀j,j<ach ops->W X j t->(done j↔j<i):=by
  intro j hj hW;rcases IR j i with h|h|h
  · exact ⟨fun _=>h,fun _=>hp.pre j hj (ho.Hh j i t h hp.lt hW ht)⟩
  · subst h;exact ⟨fun hd=>absurd hd hp.nd,fun h=>by omega⟩
  refine ⟨fun FA=>absurd FA (hp.later hj ?_),fun h'=>by omega⟩
  rcases ht with ht|ht
  · exact ho.To i j t h hj ht hW
  exact ho.Hh i j t h hj ht (.inr hW)
 rcases abX m i with h|h
 · rw [hr.uq h (abb hp.lt) (fun j h1 h2 hW=>by
    have a1:=hw j (by have:=hp.lt;omega) hW;have a2:=Th j (by have:=hp.lt;omega) hW;have:=a1.1 (a2.2 h2);omega) (bM hs)]
   exact hs
 rw [<- hr.uq h hm (fun j h1 h2 hW=>by
  have a1:=hw j (by omega) hW;have a2:=Th j (by omega) hW;have:=a2.1 (a1.2 h2);omega) bI]
 exact hs
end
end Go.Vm
/- A region: one more operation keeps what holds. -/
namespace Go.Vm
theorem BR.Zo {im cS:Im} {loc aP:Loc} {w w':World} {li:LI} {k:gY} (h:BR im loc w li k) (hi:ky im cS) (hl:jm loc aP)
 (hw:k.ba=acn->w'.heap[li.cB]? =w.heap[li.cB]?):BR cS aP w' li k:=by
 cases hs:k.ba with
 |true=>exact h.mono hi hl (hw hs)
 |false=>
  cases k with
  |arr e rows=>
   cases rows with
   |nil=>exact ⟨h.1,h.2.1,fun dK=>absurd rfl dK⟩
   |cons _ _=>cases hs
  |box _=>cases hs
  |map _=>cases hs
  |dead=>trivial
section
variable {F : jl} {rec : Task -> Option Out} {ops : List bk} {S : Nat -> St} {X : Nat -> Option XR} {sI : Nat -> Nat -> Prop} {im0 : Im} {loc0 : Loc} {w0 : World} {nt : Nat}
  {done : Nat -> Prop} {im : Im} {loc : Loc} {a : Act} {w : World} {i : Nat}
theorem tc.Zp (hr:tc F rec ops S X) {j:Nat} (hj:j<ach ops): ∀t,t∈(S j).fz->t∈(S (j+1)).fz:=by
 intro t ht;rcases hr.steps j _ (pm hj) with ⟨_,x,hx,_,_,hn⟩|⟨_,_,hn⟩
 · rw [hn]
   cases x with
   |loc r=>simp only [XR.next];exact abM _ ht
   |shr v s z=>exact (IS hx).2 t ht
 rw [hn];exact ht
theorem tc.Ah (hr : tc F rec ops S X) {m m' : Nat} (h : m <= m') (hm : m' <= (ach ops)) : ∀ t, t ∈ (S m).fz -> t ∈ (S m').fz := by
  induction m' with
  | zero => have : m = 0 := by omega
            subst this; exact fun _ h => h
  | succ j ih =>
    rcases aaj h with e | e
    · subst e; exact fun _ h => h
    exact fun t ht => hr.Zp (by omega) t (ih (by omega) (by omega) t ht)
theorem tc.Sm (hr:tc F rec ops S X) {j:Nat} (hj:j<ach ops) {t:Nat} (h:FR X j t):t∈(S (j+1)).fz:=by
 rcases hr.steps j _ (pm hj) with ⟨_,x,hx,_,hX,hn⟩|⟨_,hX,_⟩
 · rw [hn]
   unfold FR at h;rw [hX] at h;cases x with
   |loc r=>exact abO _ h
   |shr v s z=>exact h
 unfold FR at h;rw [hX] at h;exact h.elim
theorem Zq {j t:Nat} (h:FR X j t):A X j t\/W X j t:=by
 unfold FR at h;unfold A W;cases hX:X j with
 |none=>rw [hX] at h;exact h.elim
 |some x=>
  rw [hX] at h;cases x with
  |loc r=>exact .inl (.inr h)
  |shr v s z=>exact .inr trivial
theorem Inv.AY (hr:tc F rec ops S X) (ho:Ord ops S X sI) (hp:Place ops sI done i) {t:Nat} (hW:W X i t) (hz:t∉(S i).fz):
 t∉(S 0).fz/\ ∀j,j<ach ops->done j-> ¬FR X j t:=by
 refine ⟨fun h=>hz (hr.Ah (aa7 _) (abb hp.lt) t h),fun j hj hd hf=>?_⟩;rcases IR j i with h|h|h
 · exact hz (hr.Ah h (abb hp.lt) t (hr.Sm hj hf))
 · subst h;exact hp.nd hd
 exact hp.later hj (ho.Hh i j t h hj hW (Zq hf)) hd
theorem Inv.known (hr:tc F rec ops S X) (ho:Ord ops S X sI) (hv:Inv ops S X im0 loc0 w0 nt done im loc a w) (hp:Place ops sI done i) {r:kr} (hX:X i=acl (.loc r)) (vL:(XR.loc r).ok (S i).fz=acn)
 (hn:(S (i+1)).aj.length=(S i).aj.length+ach r.news):gE im loc (S i).aj w r where
 aS:=hv.aS
 tok:=fun t ht li hl=>by
  obtain ⟨k,hc,oS⟩:=hv.tok t li hl;refine ⟨k,hv.cur hr ho hp hl ?_ hc,oS⟩;rcases ht with ht|ht
  · exact .inl (by unfold A;rw [hX];exact .inl ht)
  exact .inr (by unfold W;rw [hX];exact ht)
 free:=fun t k hm li k' hl hs jc=>by
  have hW:W X i t:=by unfold W;rw [hX];exact ⟨k,hm⟩
  simp only [XR.ok,rc,aah,If] at vL;have hz:t∉(S i).fz:=gO.1 (vL.1 (t,k) hm);obtain ⟨h0,h1⟩:=Inv.AY hr ho hp hW hz;obtain ⟨k2,hc,_⟩:=hv.tok t li hl;have:=hv.cur hr ho hp hl (.inr hW) hc;rw [hs] at this;injection this with this;subst this;exact hv.free t li k' hl hc jc h0 h1
 fresh:=fun j hj=>hv.fresh i hp.lt hp.nd _ (by omega) (by omega)
 fx:=fun t u li lj k k' ht hu hl jE hs qj jc CU hb=>by
  have aw: ∀t,(t∈r.rd\/ ∃b,(t,b)∈r.wr)->A X i t\/W X i t:=fun t h=>by
   rcases h with h|h
   · exact .inl (by unfold A;rw [hX];exact .inl h)
   exact .inr (by unfold W;rw [hX];exact h)
  obtain ⟨k1,wO,_⟩:=hv.tok t li hl;obtain ⟨k2,Ac,_⟩:=hv.tok u lj jE;have e1:=hv.cur hr ho hp hl (aw t ht) wO;have e2:=hv.cur hr ho hp jE (aw u hu) Ac;rw [hs] at e1;injection e1 with e1;subst e1;rw [qj] at e2;injection e2 with e2;subst e2;exact hv.fx t u li lj _ _ hl jE wO Ac jc CU hb
theorem Inv.xf (hr:tc F rec ops S X) (ho:Ord ops S X sI) (hv:Inv ops S X im0 loc0 w0 nt done im loc a w) (hp:Place ops sI done i) {x:bk} (hx:ops[i]? =acl x) {r:kr} (hX:X i=acl (.loc r))
 (vL:(XR.loc r).ok (S i).fz=acn) (hS:S (i+1)=(XR.loc r).next x.dst (S i)) {v':Value} {cS:Im} {aP:Loc} {w':World} (lh:VR cS aP r.v v') (he:oZ im loc (S i).aj w r cS aP w')
 (oT: ∀d,x.dst=acl d->d<nt):Inv ops S X im0 loc0 w0 nt (plus done i) cS aP (a.put x.dst v') w':=by
 have bI:(S (i+1)).aj.length=(S i).aj.length+(ach r.news):=by rw [hS];simp [XR.next,nI,dO]
 have vW:=hp.lt;have wX:qO r.wr=acn:=by simp only [XR.ok,rc] at vL;exact vL.2
 have mN:(S (i+1)).aj=ez r.wr (S i).aj++r.news:=by rw [hS];exact nI _ _
 have Zr: ∀t k,(t,k)∈r.wr->t<(S i).aj.length->(S (i+1)).aj[t]? =acl k:=by intro t k hm dA;rw [mN,ww (by rw [dO];exact dA)];exact AW _ _ wX hm dA
 have Tq: ∀j k,r.news[j]? =acl k->(S (i+1)).aj[(S i).aj.length+j]? =acl k:=by intro j k hj;rw [mN,AC (by rw [dO];omega),dO,show (S i).aj.length+j- (S i).aj.length=j by omega];exact hj
 have wlt: ∀t li,loc t=acl li->W X i t->t<(S i).aj.length:=by intro t li hl hW;obtain ⟨k,hc,_⟩:=hv.tok t li hl;exact bM (hv.cur hr ho hp hl (.inr hW) hc)
 have DY: ∀t k li,(t,k)∈r.wr->loc t=acl li->xe S X (ach ops) (plus done i) t k:=by
  intro t k li hm hl;have hW:W X i t:=by unfold W;rw [hX];exact ⟨k,hm⟩
  have dA:=wlt t li hl hW;refine ⟨i+1,vW,fun j hj IU=>?_,fun c hc h1 h2=>?_,Zr t k hm dA⟩
  · rcases IR j i with h|h|h
    · exact ⟨fun _=>by omega,fun _=> .inl (hp.pre j hj (ho.Hh j i t h vW IU (.inr hW)))⟩
    · subst h;exact ⟨fun _=>by omega,fun _=> .inr rfl⟩
    refine ⟨fun hd=>?_,fun h'=>by omega⟩
    rcases hd with hd|hd
    · exact absurd hd (hp.later hj (ho.Hh i j t h hj hW (.inr IU)))
    omega
  rcases UV c (i+1) with h|h
  · exact h
  have:=hr.fy (show i<=c by omega) (by omega);omega
 have ur: ∀j k,r.news[j]? =acl k->xe S X (ach ops) (plus done i) ((S i).aj.length+j) k:=by
  intro j k hj;have G5:=bM hj;refine ⟨i+1,vW,fun q hq hWq=>?_,fun c hc h1 h2=>?_,Tq j k hj⟩
  · rcases IR q i with h|h|h
    · refine ⟨fun _=>by omega,fun _=> .inl ?_⟩
      by_cases hs:nA X q
      ·
       refine hp.pre q hq (ho.E6 q i h vW (.inl ⟨hs,?_⟩));unfold fh;rw [hX];exact .inr (.inr (.inr (by intro e;rw [e] at hj;simp at hj)))
      rcases ho.cl q _ hq hs (.inr hWq) with h'|h'
      · have:=hr.fy (show q<=i by omega) (by omega);omega
      exact hp.pre q hq (h' i h vW)
    · subst h;exact ⟨fun _=>by omega,fun _=> .inr rfl⟩
    refine ⟨fun hd=>?_,fun h'=>by omega⟩
    rcases hd with hd|hd
    · exfalso
      by_cases hs:nA X q
      · refine hp.later hq (ho.E6 i q h hq (.inr ⟨?_,hs⟩)) hd
        unfold fh;rw [hX];exact .inr (.inr (.inr (by intro e;rw [e] at hj;simp at hj)))
      exact hp.later hq (ho.Tp i q _ h hq (by rintro ⟨v,s,z,e⟩;rw [hX] at e;cases e) (by omega) (by omega) hs hWq) hd
    omega
  rcases UV c (i+1) with h|h
  · exact h
  have:=hr.fy (show i+1<=c by omega) (by omega);omega
 have IV: ∀t k,¬W X i t->xe S X (ach ops) done t k->xe S X (ach ops) (plus done i) t k:=by
  intro t k hW hc;obtain ⟨m,hm,h1,h2,h3⟩:=hc;refine ⟨m,hm,fun j hj IU=>?_,h2,h3⟩;have dK:j≠i:=fun e=>hW (e▸IU)
  have:=h1 j hj IU;exact ⟨fun hd=>this.1 (hd.resolve_right dK),fun h=> .inl (this.2 h)⟩
 have abJ: ¬nA X i:=by rintro ⟨v,s,z,e⟩;rw [hX] at e;cases e
 have uu: ∀t li,aP t=acl li->(∃j k,t=(S i).aj.length+j/\r.news[j]? =acl k/\loc t=acm)\/loc t=acl li:=by
  intro t li hl;rcases he.iz t li hl with h|⟨h1,h2⟩
  · exact .inr h
  refine .inl ⟨t- (S i).aj.length,r.news[t- (S i).aj.length],by omega,pm (by omega),?_⟩
  exact hv.fresh i vW hp.nd t h1 (by omega)
 have old: ∀t li k,loc t=acl li->xe S X (ach ops) (plus done i) t k->k.ba=acn-> ∃k0,xe S X (ach ops) done t k0/\k0.ba=acn/\BR im loc w li k0/\(¬W X i t->k0=k)/\(W X i t->(t,k)∈r.wr):=by
  intro t li k hl hc hs;obtain ⟨k0,Cr,oS⟩:=hv.tok t li hl
  by_cases hW:W X i t
  · have Ts:=hW
    unfold W at Ts;rw [hX] at Ts;obtain ⟨k2,hm⟩:=Ts;have e:=(DY t k2 li hm hl).unique hr hc;subst e;obtain ⟨k3,h3,h4⟩:=he.JR t k2 hm hs;have:=hv.cur hr ho hp hl (.inr hW) Cr;rw [h3] at this;injection this with this;subst this;exact ⟨k3,Cr,h4,oS,fun h=>absurd hW h,fun _=>hm⟩
  have e:=(IV t k0 hW Cr).unique hr hc
  subst e;exact ⟨k0,Cr,hs,oS,fun _=>rfl,fun h=>absurd h hW⟩
 have DZ: ∀t k li k0,(t,k)∈r.wr->loc t=acl li->(S i).aj[t]? =acl k0->xe S X (ach ops) done t k0:=by intro t k li k0 hm hl hs;obtain ⟨k1,wO,_⟩:=hv.tok t li hl;have:=hv.cur hr ho hp hl (.inr (by unfold W;rw [hX];exact ⟨k,hm⟩)) wO;rw [hs] at this;injection this with this;subst this;exact wO
 have LX: ∀t li k0,t∈r.fr->loc t=acl li->(S i).aj[t]? =acl k0->xe S X (ach ops) done t k0:=by intro t li k0 hm hl hs;obtain ⟨k1,wO,_⟩:=hv.tok t li hl;have:=hv.cur hr ho hp hl (.inl (by unfold A;rw [hX];exact .inr hm)) wO;rw [hs] at this;injection this with this;subst this;exact wO
 refine {
  tm:=fun t=>?_
  aS:=he.aS
  tok:=fun t li hl=>?_
  fx:=fun t u li lj k k' hl jE hc yt hs qj hb=>?_
  free:=fun t li k hl hc hs h0 hf=>?_
  fresh:=fun j hj yC t h1 h2=>?_
  eE:=hv.eE.trans he.eE
  cD:=hv.cD.trans he.cD
  os:=he.os.trans hv.os
  tape:=he.tape.trans hv.tape
  output:=he.output.trans hv.output
  size:=M2 hv.size he.size
  frame:=fun b hb hh=>?_
  cI:=fun b o hb=>?_
  jw:=fun t li hl=>?_
  own:=fun t li k hl hc hs=>?_
  defers:=by cases hd:x.dst<;>simp [Act.put,hv.defers]
  GW:=by cases hd:x.dst<;>simp [Act.put,hv.GW]}
 ·
  by_cases hd:x.dst=acl t
  · refine ⟨i+1,vW,fun j y hy IT=>?_,?_⟩
    · rcases IR j i with h|h|h
      · exact ⟨fun _=>by omega,fun _=> .inl (hp.pre j (bM hy) (ho.AX j i t y x h hy hx IT (.inr hd)))⟩
      · subst h;exact ⟨fun _=>by omega,fun _=> .inr rfl⟩
      refine ⟨fun FA=>?_,fun h'=>by omega⟩
      rcases FA with FA|FA
      · exact absurd FA (hp.later (bM hy) (ho.AX i j t x y h hx hy hd (.inr IT)))
      omega
    rw [hS]
    simp only [XR.next,hd,fR,nK,if_true,Act.put];have:=oT t hd;simp [hv.GW,this,lh]
  obtain ⟨m,hm,h1,h2⟩:=hv.tm t
  refine ⟨m,hm,fun j y hy IT=>?_,?_⟩
  · have dK:j≠i:=by intro e;subst e;rw [hx] at hy;injection hy with hy;subst hy;exact hd IT
    have:=h1 j y hy IT;exact ⟨fun FA=>this.1 (FA.resolve_right dK),fun h=> .inl (this.2 h)⟩
  have:=h2.mono he.eE he.cD
  cases hxd:x.dst with
  |none=>simpa [Act.put] using this
  |some d=>
   have dK:d≠t:=fun e=>hd (by rw [hxd,e])
   simpa [Act.put,NE,dK] using this
 ·
  rcases uu t li hl with ⟨j,k,rfl,hj,_⟩|J4
  · obtain ⟨h2,_⟩:=he.news j k li hj hl
    exact ⟨k,ur j k hj,h2⟩
  obtain ⟨k0,Cr,oS⟩:=hv.tok t li J4
  by_cases hW:W X i t
  · have Ts:=hW
    unfold W at Ts;rw [hX] at Ts;obtain ⟨k2,hm⟩:=Ts;exact ⟨k2,DY t k2 li hm J4,he.wr t k2 li hm J4⟩
  refine ⟨k0,IV t k0 hW Cr,oS.Zo he.eE he.cD fun hs=>?_⟩
  refine he.frame _ (oS.lt hs) fun t2 k2 l2 k3 hm Fg hs3 jc Fu=>?_
  have:=hv.fx t2 t l2 li k3 k0 Fg J4 (DZ t2 k2 l2 k3 hm Fg hs3) Cr jc hs Fu;subst this;exact hW (by unfold W;rw [hX];exact ⟨k2,hm⟩)
 ·
  have LY: ∀t u li lj k k',(∃j k,t=(S i).aj.length+j/\r.news[j]? =acl k/\loc t=acm)->loc u=acl lj->aP t=acl li->xe S X (ach ops) (plus done i) t k->xe S X (ach ops) (plus done i) u k'->
   k.ba=acn->k'.ba=acn->li.cB=lj.cB->False:=by
   intro t u li lj k k' hj hlu hl hc yt hs qj hb;obtain ⟨j,k1,rfl,hj,_⟩:=hj;have e:=(ur j k1 hj).unique hr hc;subst e;obtain ⟨h2,h3⟩:=he.news j k1 li hj hl;obtain ⟨k0,Cr,D0,Tt,hk0,hw0⟩:=old u lj k' hlu yt qj;have dA:=Tt.lt D0;rcases (h3 hs).2 with h|⟨td,lt,kd,hm,Zs,hsd,LZ,hbd⟩
   · omega
   have:=hv.fx td u lt lj kd k0 Zs hlu (DZ td _ lt kd hm Zs hsd) Cr LZ D0 (by rw [hbd,hb])
   subst this;have Zd:=hw0 (by unfold W;rw [hX];exact ⟨_,hm⟩);have e2:=(DY td _ lj hm hlu).unique hr (DY td _ lj Zd hlu);subst e2;cases qj
  rcases uu t li hl with h1|h1
  · rcases uu u lj jE with h2|h2
    · obtain ⟨j1,k1,rfl,hj1,_⟩:=h1
      obtain ⟨j2,k2,rfl,hj2,_⟩:=h2;have e1:=(ur j1 k1 hj1).unique hr hc;have e2:=(ur j2 k2 hj2).unique hr yt;subst e1 e2;rw [he.distinct j1 j2 k1 k2 li lj hj1 hj2 hs qj hl jE hb]
    exact (LY t u li lj k k' h1 h2 hl hc yt hs qj hb).elim
  rcases uu u lj jE with h2|h2
  · exact (LY u t lj li k' k h2 h1 jE yt hc qj hs hb.symm).elim
  obtain ⟨k0,Cr,D0,_⟩:=old t li k h1 hc hs
  obtain ⟨k1,wO,hs1,_⟩:=old u lj k' h2 yt qj;exact hv.fx t u li lj k0 k1 h1 h2 Cr wO D0 hs1 hb
 ·
  rcases uu t li hl with ⟨j,k1,rfl,hj,_⟩|J4
  · have e:=(ur j k1 hj).unique hr hc
    subst e;obtain ⟨h2,h3⟩:=he.news j k1 li hj hl;exact (h3 hs).1
  obtain ⟨k0,Cr,D0,Tt,_,_⟩:=old t li k J4 hc hs
  have hn:=hv.free t li k0 J4 Cr D0 h0 (fun j hj hd=>hf j hj (.inl hd));cases hb:cS li.cB with
  |none=>rfl
  |some o=>
   rcases he.cI _ _ hb with h|h|⟨t2,l2,k2,h1,h2,h3,h4,h5⟩
   · rw [hn] at h;cases h
   · have:=Tt.lt D0;omega
   have hm:=mg.1 h1
   have:=hv.fx t2 t l2 li k2 k0 h2 J4 (LX t2 l2 k2 hm h2 h3) Cr h4 D0 h5;subst this;exact absurd (by unfold FR;rw [hX];exact hm) (hf i vW (.inr rfl))
 ·
  have OJ:j≠i:=fun e=>yC (.inr e)
  have Tu: ¬done j:=fun h=>yC (.inl h)
  cases hl:aP t with
  |none=>rfl
  |some li=>
   exfalso;rcases he.iz t li hl with h|⟨h3,h4⟩
   · rw [hv.fresh j hj Tu t h1 h2] at h;cases h
   rcases abW OJ with h|h
   · have:=hr.fy (show j+1<=i by omega) (by omega);omega
   have:=hr.fy (show i+1<=j by omega) (by omega);omega
 ·
  have Ok:b<w.heap.size:=ab4 hb hv.size;rw [he.frame b Ok (fun t k li k0 hm hl hs jc Fu=>?_)]
  · exact hv.frame b hb hh
  rcases hv.own t li k0 hl (DZ t k li k0 hm hl hs) jc with h|⟨u,lu,ku,h1,h2,h3,h4⟩
  · omega
  exact hh u lu ku h1 h2 h3 (by omega)
 · rcases he.cI b o hb with h|h|⟨t,li,k,h1,h2,h3,h4,h5⟩
   · exact hv.cI b o h
   · exact .inr (.inl (M2 hv.size h))
   rcases hv.own t li k h2 (LX t li k (mg.1 h1) h2 h3) h4 with h|⟨u,lu,ku,g1,g2,g3,g4⟩
   · exact .inr (.inl (by omega))
   exact .inr (.inr ⟨u,lu,ku,g1,g2,g3,by omega⟩)
 · rcases he.iz t li hl with h|⟨h,_⟩
   · exact hv.jw t li h
   exact .inr (M2 (hr.fy (aa7 _) (by omega)) h)
 rcases uu t li hl with ⟨j,k1,rfl,hj,_⟩|J4
 · have e:=(ur j k1 hj).unique hr hc
   subst e;obtain ⟨h2,h3⟩:=he.news j k1 li hj hl;rcases (h3 hs).2 with h|⟨td,lt,kd,hm,Zs,hsd,LZ,hbd⟩
   · exact .inl (M2 hv.size h)
   rcases hv.own td lt kd Zs (DZ td _ lt kd hm Zs hsd) LZ with h|⟨u,lu,ku,g1,g2,g3,g4⟩
   · exact .inl (by omega)
   exact .inr ⟨u,lu,ku,g1,g2,g3,by omega⟩
 obtain ⟨k0,Cr,D0,_⟩:=old t li k J4 hc hs
 exact hv.own t li k0 J4 Cr D0
end
end Go.Vm
/- A region: a call that works on the blocks themselves, and a skipped operation. -/
namespace Go.Vm
section
variable {F : jl} {rec : Task -> Option Out} {ops : List bk} {S : Nat -> St} {X : Nat -> Option XR} {sI : Nat -> Nat -> Prop} {im0 : Im} {loc0 : Loc} {w0 : World} {nt : Nat}
  {done : Nat -> Prop} {im : Im} {loc : Loc} {a : Act} {w : World} {i : Nat}
theorem CV {v:PV} {s:bG} {z:List Nat} (hX:X i=acl (.shr v s z)) (t:Nat):W X i t:=by unfold W;rw [hX];trivial
theorem qW {j t:Nat} (h:W X j t):fh X j:=by
 unfold W at h;unfold fh;cases hX:X j with
 |none=>rw [hX] at h;exact h.elim
 |some x=>
  rw [hX] at h;cases x with
  |loc r=>obtain ⟨k,hk⟩:=h;exact .inr (.inr (.inl (by intro e;rw [e] at hk;cases hk)))
  |shr v s z=>trivial
theorem Inv.sr (hr:tc F rec ops S X) (ho:Ord ops S X sI) (hv:Inv ops S X im0 loc0 w0 nt done im loc a w) (hp:Place ops sI done i) {v:PV} {s:bG} {z:List Nat} (hX:X i=acl (.shr v s z)):
 SR im loc (S i).aj (S i).fz w where
 aS:=hv.aS
 cB:=fun t li hl=>by obtain ⟨k,hc,hb⟩:=hv.tok t li hl;exact ⟨k,hv.cur hr ho hp hl (.inr (CV hX t)) hc,hb⟩
 fx:=fun t u li lj k k' hl jE hs qj h h' hb=>by obtain ⟨k1,wO,_⟩:=hv.tok t li hl;obtain ⟨k2,Ac,_⟩:=hv.tok u lj jE;have e1:=hv.cur hr ho hp hl (.inr (CV hX t)) wO;have e2:=hv.cur hr ho hp jE (.inr (CV hX u)) Ac;rw [hs] at e1;injection e1 with e1;subst e1;rw [qj] at e2;injection e2 with e2;subst e2;exact hv.fx t u li lj _ _ hl jE wO Ac h h' hb
 free:=fun t li k hl hs h hz=>by obtain ⟨k1,wO,_⟩:=hv.tok t li hl;have e1:=hv.cur hr ho hp hl (.inr (CV hX t)) wO;rw [hs] at e1;injection e1 with e1;subst e1;obtain ⟨h0,h1⟩:=Inv.AY hr ho hp (CV hX t) (gO.1 hz);exact hv.free t li _ hl wO h h0 h1
theorem Inv.L3 {S:Nat->St} (ho:Ord ops S X sI) (hp:Place ops sI done i) {x:bk} (hx:ops[i]? =acl x) {v:PV} {v':Value} {cS:Im} {aP:Loc}
 (hv:Inv ops S X im0 loc0 w0 nt done im loc a w) (hi:ky im cS) (hl:jm loc aP) (hS:(S (i+1)).env=fR x.dst v (S i).env) (lh:VR cS aP v v') (oT: ∀d,x.dst=acl d->d<nt):
 ∀t,∃m,m<=ach ops/\(∀j y,ops[j]? =acl y->y.dst=acl t->(plus done i j↔j<m))/\VR cS aP (lk t (S m).env) ((a.put x.dst v').tmps.getD t Go.undef):=by
 intro t;have vW:=hp.lt
 by_cases hd:x.dst=acl t
 · refine ⟨i+1,vW,fun j y hy IT=>?_,?_⟩
   · rcases IR j i with h|h|h
     · exact ⟨fun _=>by omega,fun _=> .inl (hp.pre j (bM hy) (ho.AX j i t y x h hy hx IT (.inr hd)))⟩
     · subst h;exact ⟨fun _=>by omega,fun _=> .inr rfl⟩
     refine ⟨fun FA=>?_,fun h'=>by omega⟩
     rcases FA with FA|FA
     · exact absurd FA (hp.later (bM hy) (ho.AX i j t x y h hx hy hd (.inr IT)))
     omega
   rw [hS]
   simp only [hd,fR,nK,if_true,Act.put];have:=oT t hd;simp [hv.GW,this,lh]
 obtain ⟨m,hm,h1,h2⟩:=hv.tm t
 refine ⟨m,hm,fun j y hy IT=>?_,?_⟩
 · have dK:j≠i:=by intro e;subst e;rw [hx] at hy;injection hy with hy;subst hy;exact hd IT
   have:=h1 j y hy IT;exact ⟨fun FA=>this.1 (FA.resolve_right dK),fun h=> .inl (this.2 h)⟩
 have:=h2.mono hi hl
 cases hxd:x.dst with
 |none=>simpa [Act.put] using this
 |some d=>
  have dK:d≠t:=fun e=>hd (by rw [hxd,e])
  simpa [Act.put,NE,dK] using this
theorem put_defers (a:Act) (d:Option Nat) (v:Value):(a.put d v).defers=a.defers:=by cases d<;>rfl
theorem FB (a:Act) (d:Option Nat) (v:Value):(a.put d v).tmps.size=a.tmps.size:=by cases d<;>simp [Act.put]
theorem Inv.L4 (hr:tc F rec ops S X) (ho:Ord ops S X sI) (hv:Inv ops S X im0 loc0 w0 nt done im loc a w) (hp:Place ops sI done i) {x:bk} (hx:ops[i]? =acl x) {v:PV} {s:bG} {z:List Nat}
 (hX:X i=acl (.shr v s z)) (hS:S (i+1)=(XR.shr v s z).next x.dst (S i)) {v':Value} {cS:Im} {aP:Loc} {w':World} (hf:oj im loc (S i).aj w v s z cS aP w' v')
 (oT: ∀d,x.dst=acl d->d<nt):Inv ops S X im0 loc0 w0 nt (plus done i) cS aP (a.put x.dst v') w':=by
 have vW:=hp.lt;have mN:(S (i+1)).aj=s:=by rw [hS];rfl
 have Tv: ∀t li,loc t=acl li-> ∀k,(S i).aj[t]? =acl k->xe S X (ach ops) done t k:=by intro t li hl k hs;obtain ⟨k1,wO,_⟩:=hv.tok t li hl;have e1:=hv.cur hr ho hp hl (.inr (CV hX t)) wO;rw [hs] at e1;injection e1 with e1;subst e1;exact wO
 have OK: ∀t k,s[t]? =acl k->xe S X (ach ops) (plus done i) t k:=by
  intro t k hs;refine ⟨i+1,vW,fun j hj IU=>?_,fun c hc h1 h2=>?_,by rw [mN];exact hs⟩
  · rcases IR j i with h|h|h
    · exact ⟨fun _=>by omega,fun _=> .inl (hp.pre j hj (ho.E6 j i h vW (.inr ⟨qW IU,⟨v,s,z,hX⟩⟩)))⟩
    · subst h;exact ⟨fun _=>by omega,fun _=> .inr rfl⟩
    refine ⟨fun hd=>?_,fun h'=>by omega⟩
    rcases hd with hd|hd
    · exact absurd hd (hp.later hj (ho.E6 i j h hj (.inl ⟨⟨v,s,z,hX⟩,qW IU⟩)))
    omega
  rcases UV c (i+1) with h|h
  · exact h
  have:=hr.fy (show i+1<=c by omega) (by omega)
  have:=bM hs;rw [mN] at*;omega
 have D1: ∀t li,aP t=acl li-> ∀k,xe S X (ach ops) (plus done i) t k->s[t]? =acl k:=by intro t li hl k hc;obtain ⟨k1,h1,_⟩:=hf.sr.cB t li hl;have:=hc.unique hr (OK t k1 h1);subst this;exact h1
 refine {
  tm:=Inv.L3 ho hp hx hv hf.eE hf.cD (by rw [hS];rfl) hf.vr oT
  aS:=hf.sr.aS
  tok:=fun t li hl=>by obtain ⟨k,h1,h2⟩:=hf.sr.cB t li hl;exact ⟨k,OK t k h1,h2⟩
  fx:=fun t u li lj k k' hl jE hc yt hs qj hb=>hf.sr.fx t u li lj k k' hl jE (D1 t li hl k hc) (D1 u lj jE k' yt) hs qj hb
  free:=fun t li k hl hc hs h0 oe=>by refine hf.sr.free t li k hl (D1 t li hl k hc) hs (gO.2 ?_);have:=oe i vW (.inr rfl);unfold FR at this;rw [hX] at this;exact this
  fresh:=fun j hj yC t h1 h2=>?_
  eE:=hv.eE.trans hf.eE
  cD:=hv.cD.trans hf.cD
  os:=hf.os.trans hv.os
  tape:=hf.tape.trans hv.tape
  output:=hf.output.trans hv.output
  size:=M2 hv.size hf.size
  frame:=fun b hb hh=>?_
  cI:=fun b o hb=>?_
  jw:=fun t li hl=>?_
  own:=fun t li k hl hc hs=>?_
  defers:=by rw [put_defers];exact hv.defers
  GW:=by rw [FB];exact hv.GW}
 · have OJ:j≠i:=fun e=>yC (.inr e)
   have Tu: ¬done j:=fun h=>yC (.inl h)
   cases hl:aP t with
   |none=>rfl
   |some li=>
    exfalso;obtain ⟨k,hk,_⟩:=hf.sr.cB t li hl;have dA:=bM hk;rcases hf.jw t li hl with h|h
    · rw [hv.fresh j hj Tu t h1 h2] at h;cases h
    rcases abW OJ with h'|h'
    · have:=hr.fy (show j+1<=i by omega) (by omega);omega
    have:=hr.fy (show i+1<=j by omega) (by omega)
    rw [mN] at this;omega
 · rw [hf.frame b (ab4 hb hv.size) fun t li k hl hs jc Fu=>?_]
   · exact hv.frame b hb hh
   rcases hv.own t li k hl (Tv t li hl k hs) jc with h|⟨u,lu,ku,g1,g2,g3,g4⟩
   · omega
   exact hh u lu ku g1 g2 g3 (by omega)
 · rcases hf.cI b o hb with h|h|⟨t,li,k,h1,h2,h3,h4⟩
   · exact hv.cI b o h
   · exact .inr (.inl (M2 hv.size h))
   rcases hv.own t li k h1 (Tv t li h1 k h2) h3 with h|⟨u,lu,ku,g1,g2,g3,g4⟩
   · exact .inr (.inl (by omega))
   exact .inr (.inr ⟨u,lu,ku,g1,g2,g3,by omega⟩)
 · rcases hf.jw t li hl with h|h
   · exact hv.jw t li h
   exact .inr (M2 (hr.fy (aa7 _) (by omega)) h)
 rcases hf.own t li k hl (D1 t li hl k hc) hs with h|⟨u,lu,ku,h1,h2,h3,h4⟩
 · exact .inl (M2 hv.size h)
 rcases hv.own u lu ku h1 (Tv u lu h1 ku h2) h3 with h|⟨u',lu',ku',g1,g2,g3,g4⟩
 · exact .inl (by omega)
 exact .inr ⟨u',lu',ku',g1,g2,g3,by omega⟩
theorem Inv.step_skip (_hr:tc F rec ops S X) (ho:Ord ops S X sI) (hv:Inv ops S X im0 loc0 w0 nt done im loc a w) (hp:Place ops sI done i) {x:bk} (hx:ops[i]? =acl x)
 (hX:X i=acm) (hS:S (i+1)={S i with env:=fR x.dst .gJ (S i).env}) (oT: ∀d,x.dst=acl d->d<nt):Inv ops S X im0 loc0 w0 nt (plus done i) im loc (a.put x.dst Go.undef) w:=by
 have vW:=hp.lt;have hnW: ∀t,¬W X i t:=fun t h=>by unfold W at h;rw [hX] at h;exact h
 have mN:(S (i+1)).aj=(S i).aj:=by rw [hS]
 have OK: ∀t k,xe S X (ach ops) done t k->xe S X (ach ops) (plus done i) t k:=by
  intro t k ⟨m,hm,h1,h2,h3⟩;refine ⟨m,hm,fun j hj IU=>?_,h2,h3⟩;have dK:j≠i:=fun e=>hnW t (e▸IU)
  have:=h1 j hj IU;exact ⟨fun hd=>this.1 (hd.resolve_right dK),fun h=> .inl (this.2 h)⟩
 have D1: ∀t k,xe S X (ach ops) (plus done i) t k->xe S X (ach ops) done t k:=by
  intro t k ⟨m,hm,h1,h2,h3⟩;refine ⟨m,hm,fun j hj IU=>?_,h2,h3⟩;have dK:j≠i:=fun e=>hnW t (e▸IU)
  have:=h1 j hj IU;exact ⟨fun hd=>this.1 (.inl hd),fun h=>(this.2 h).resolve_right dK⟩
 refine {
  tm:=Inv.L3 ho hp hx hv (.refl _) (.refl _) (by rw [hS]) .gJ oT
  aS:=hv.aS
  tok:=fun t li hl=>let ⟨k,h1,h2⟩:=hv.tok t li hl;⟨k,OK t k h1,h2⟩
  fx:=fun t u li lj k k' hl jE hc yt hs qj hb=>hv.fx t u li lj k k' hl jE (D1 t k hc) (D1 u k' yt) hs qj hb
  free:=fun t li k hl hc hs h0 oe=>hv.free t li k hl (D1 t k hc) hs h0 fun j hj hd=>oe j hj (.inl hd)
  fresh:=fun j hj yC t h1 h2=>hv.fresh j hj (fun h=>yC (.inl h)) t h1 h2
  eE:=hv.eE
  cD:=hv.cD
  os:=hv.os
  tape:=hv.tape
  output:=hv.output
  size:=hv.size
  frame:=hv.frame
  cI:=hv.cI
  jw:=hv.jw
  own:=fun t li k hl hc hs=>hv.own t li k hl (D1 t k hc) hs
  defers:=by rw [put_defers];exact hv.defers
  GW:=by rw [FB];exact hv.GW}
theorem Inv.start {st:St} (h0:S 0=st) (gq:SR im0 loc0 st.aj st.fz w0) (Yt:ER im0 loc0 st.env a.tmps) (hd:a.defers=[]) (hn:a.tmps.size=nt) (hr:tc F rec ops S X):
 Inv ops S X im0 loc0 w0 nt (fun _=>False) im0 loc0 a w0:=by
 subst h0;have dA: ∀t li,loc0 t=acl li->t<(S 0).aj.length:=fun t li hl=>let ⟨k,h,_⟩:=gq.cB t li hl;bM h
 have cur: ∀t li k,loc0 t=acl li->xe S X (ach ops) (fun _=>False) t k->(S 0).aj[t]? =acl k:=by intro t li k hl ⟨m,hm,h1,h2,h3⟩;rw [<- hr.uq (aa7 m) hm (fun j _ hj hW=>(h1 j (by omega) hW).2 hj) (dA t li hl)];exact h3
 exact {
  tm:=fun t=>⟨0,aa7 _,fun j y _ _=>⟨fun h=>h.elim,fun h=>by omega⟩,Yt t⟩
  aS:=gq.aS
  tok:=fun t li hl=>by obtain ⟨k,h1,h2⟩:=gq.cB t li hl;refine ⟨k,⟨0,aa7 _,fun j _ _=>⟨fun h=>h.elim,fun h=>by omega⟩,fun c hc h3 h4=>?_,h1⟩,h2⟩;have:=dA t li hl;have:=hr.fy (aa7 c) (by omega);omega
  fx:=fun t u li lj k k' hl jE hc yt=>gq.fx t u li lj k k' hl jE (cur t li k hl hc) (cur u lj k' jE yt)
  free:=fun t li k hl hc hs hz _=>gq.free t li k hl (cur t li k hl hc) hs (gO.2 hz)
  fresh:=fun j hj _ t h1 h2=>by
   cases hl:loc0 t with
   |none=>rfl
   |some li=>have:=dA t li hl;have:=hr.fy (aa7 j) (by omega);omega
  eE:= .refl _
  cD:= .refl _
  os:=rfl
  tape:= .refl _
  output:=rfl
  size:=wn _
  frame:=fun _ _ _=>rfl
  cI:=fun _ _ h=> .inl h
  jw:=fun _ _ h=> .inl h
  own:=fun t li k hl hc hs=> .inr ⟨t,li,k,hl,cur t li k hl hc,hs,rfl⟩
  defers:=hd
  GW:=hn}
structure Kept (im0:Im) (loc0:Loc) (gr:bG) (w0:World) (st:St) (im:Im) (loc:Loc) (w:World):Prop where
 sr:SR im loc st.aj st.fz w
 eE:ky im0 im
 cD:jm loc0 loc
 os:w.os=w0.os
 tape:Tape w0 w
 output:w.output=w0.output
 size:w0.heap.size<=w.heap.size
 frame: ∀b,b<w0.heap.size->(∀t li k,loc0 t=acl li->gr[t]? =acl k->k.ba=acn->li.cB≠b)->w.heap[b]? =w0.heap[b]?
 cI: ∀b o,im b=acl o->im0 b=acl o\/w0.heap.size<=b\/ ∃t li k,loc0 t=acl li/\gr[t]? =acl k/\k.ba=acn/\li.cB=b
 jw: ∀t li,loc t=acl li->loc0 t=acl li\/ach gr<=t
 own: ∀t li k,loc t=acl li->st.aj[t]? =acl k->k.ba=acn->(w0.heap.size<=li.cB\/ ∃u lu ku,loc0 u=acl lu/\gr[u]? =acl ku/\ku.ba=acn/\lu.cB=li.cB)
theorem Inv.finish (hr : tc F rec ops S X) (hv : Inv ops S X im0 loc0 w0 nt done im loc a w) (hd : ∀ j, j < (ach ops) -> done j) :
    Kept im0 loc0 (S 0).aj w0 (S (ach ops)) im loc w /\ ER im loc (S (ach ops)).env a.tmps /\ a.defers = [] /\ a.tmps.size = nt := by
  have cur : ∀ t k, xe S X (ach ops) done t k -> (S (ach ops)).aj[t]? = acl k := by
    intro t k ⟨m, hm, h1, h2, h3⟩
    rw [hr.uq hm (wn _) (fun j h4 h5 hW => by have := (h1 j h5 hW).1 (hd j h5); omega) (bM h3)]
    exact h3
  have OL : ∀ t li k, loc t = acl li -> (S (ach ops)).aj[t]? = acl k -> xe S X (ach ops) done t k := by
    intro t li k hl hs
    obtain ⟨k1, hc, _⟩ := hv.tok t li hl
    have := cur t k1 hc
    rw [hs] at this; injection this with this; subst this; exact hc
  refine ⟨{
    sr := { aS := hv.aS
            cB := fun t li hl => let ⟨k, h1, h2⟩ := hv.tok t li hl; ⟨k, cur t k h1, h2⟩
            fx := fun t u li lj k k' hl jE hs qj => hv.fx t u li lj k k' hl jE (OL t li k hl hs) (OL u lj k' jE qj)
            free := fun t li k hl hs jc hz => by
              have hz := gO.1 hz
              refine hv.free t li k hl (OL t li k hl hs) jc (fun h => hz (hr.Ah (aa7 _) (wn _) t h)) fun j hj _ hf => ?_
              exact hz (hr.Ah (show j + 1 <= (ach ops) from hj) (wn _) t (hr.Sm hj hf)) }
    eE := hv.eE, cD := hv.cD, os := hv.os, tape := hv.tape, output := hv.output, size := hv.size, frame := hv.frame, cI := hv.cI, jw := hv.jw
    own := fun t li k hl hs => hv.own t li k hl (OL t li k hl hs) }, fun t => ?_, hv.defers, hv.GW⟩
  obtain ⟨m, hm, h1, h2⟩ := hv.tm t
  rw [hr.Hg hm (wn _) fun j hj h3 h4 oT => ?_]
  · exact h2
  have := (h1 j _ (pm hj) oT).1 (hd j hj); omega
end
end Go.Vm
/- One operation of a region, in the model. -/
namespace Go.Vm
theorem yE {P:Program} {o:Oper} {a:Act} {w:World} {f:FuncId} {us:Array Value} {R:Value->World->Prop} {next:Act->World->Prop} {Q:Exit->Act->World->Prop}
 (h:(execOp a.eval o).run P w=(callFunc f us).run P w) (hc:pJ P f us w R) (hR: ∀v w',R v w'->next (a.put o.dst v) w'):o.wp P a w next Q:=by
 unfold Oper.wp;rw [h];rcases hc with ⟨v,w',h1,h2⟩|⟨h1,h2⟩
 · rw [h1,Oper.upon_value];exact hR v w' h2
 rw [h1,Oper.upon_enter]
 refine h2.mono fun e w' ⟨v,he,hv⟩=>?_
 subst he;exact hR v w' hv
theorem Hi {im:Im} {loc:Loc} {e:Env} {a:Act} (x:dI) (h: ∀t,x= .t t->VR im loc (lk t e) (a.tmps.getD t Go.undef)) (o:Operand) (hc:aQ x o=acn):VR im loc (x.ev e) (a.eval o):=by
 unfold aQ at hc;split at hc
 · rename_i n m
   have:n=m:=by simpa using hc
   subst this;exact h n rfl
 · exact DN hc
 · rename_i f g
   have:f=g:=by simpa using hc
   subst this;exact .di f [] [] [] [] .nil .nil
 · exact .undef _
 cases hc
section
variable {P : Program} {F : jl} {rec : Task -> Option Out} {ops : List bk} {S : Nat -> St} {X : Nat -> Option XR} {sI : Nat -> Nat -> Prop} {im0 : Im} {loc0 : Loc} {w0 : World} {nt : Nat}
  {done : Nat -> Prop} {im : Im} {loc : Loc} {a : Act} {w : World} {i : Nat} {prims : FuncId -> Bool} {fX : Array Oper}
theorem VR.OM {v:Value} (h:VR im loc .gJ v):v=Go.undef:=by cases h;rfl
theorem qX {r:kr} {d:Option Nat} {st:St}:((XR.loc r).next d st).aj.length=ach st.aj+(ach r.news):=by simp [XR.next,nI,dO]
theorem CW {x:bk} {o:Oper} {e:Env} {b:Bool} (hc:qo fX x.guard o.guard=acn) (hs: ∀s c,x.guard=acl (s,c)->VR im loc (lk s e) (a.tmps.getD s Go.undef)) (h:wanted x.guard e=acl b):
 Region.wanted o (yielded fX a.tmps)=b:=by
 unfold Region.wanted;cases hg:x.guard with
 |none=>
  rw [hg] at hc h;cases ho:o.guard with
  |none=>simp [wanted] at h;subst h;rfl
  |some q=>rw [ho] at hc;simp [qo] at hc
 |some q=>
  obtain ⟨s,c⟩:=q;rw [hg] at hc h;cases ho:o.guard with
  |none=>rw [ho] at hc;simp [qo] at hc
  |some q'=>
   obtain ⟨j,c'⟩:=q';rw [ho] at hc;simp only [qo,rc,beq_iff_eq] at hc;obtain ⟨rfl,hd⟩:=hc;have hv:=hs s c hg;dsimp only;unfold yielded;rw [hd];simp only [wanted] at h;simp only [Option.bind_some];split at h
   · rename_i b' hl
     rw [hl] at hv;have:=hv.gN;have ht:a.tmps[s]? =acl (.bool b'):=by
      simp only [PP] at this;cases hq:a.tmps[s]? with
      |none=>rw [hq] at this;simp [Go.undef] at this
      |some u=>rw [hq] at this;exact congrArg acl this
     rw [ht];rw [pp] at h;rw [<- h];cases b'<;>cases c<;>rfl
   · rename_i hl
     rw [hl] at hv;have:a.tmps.getD s Go.undef=Go.undef:=hv.OM;injection h with h;subst h;have ht: ∀b',a.tmps[s]?≠acl (.bool b'):=by intro b' hq;simp only [PP,hq,Option.getD_some,Go.undef] at this;cases this
     split
     · rename_i b' hq
       exact absurd hq (ht b')
     rfl
   cases h
structure D2 (P:Program) (F:jl) (rec:Task->Option Out):Prop where
 func:yA P rec
 fb:uo P F
theorem Inv.wpOp (hE:D2 P F rec) (hr:tc F rec ops S X) (ho:Ord ops S X sI) (hv:Inv ops S X im0 loc0 w0 nt done im loc a w) (hp:Place ops sI done i) {x:bk} {o:Oper} (hx:ops[i]? =acl x) (Tw:fX[i]? =acl o)
 (hc:nL P prims nt fX x o=acn) {Q:Exit->Act->World->Prop} {K:Act->World->Prop}
 (hK: ∀cS aP a' w',Inv ops S X im0 loc0 w0 nt (plus done i) cS aP a' w'->K a' w'):Go.wpOp P fX Q i K a w:=by
 unfold nL at hc;simp only [rc,beq_iff_eq] at hc;obtain ⟨⟨⟨oT,Zt⟩,hg⟩,dG⟩:=hc;have hd: ∀d,x.dst=acl d->d<nt:=by intro d h;rw [h] at Zt;simpa using Zt
 have Sn: ∀t,t∈aC x->VR im loc (lk t (S i).env) (a.tmps.getD t Go.undef):=fun t ht=>hv.slot hr ho hp hx ht
 have J': ∀y∈x.op.dB,∀o',aQ y o'=acn->VR im loc (y.ev (S i).env) (a.eval o'):=by intro y hy o' Zu;refine Hi y (fun t ht=>Sn t ?_) o' Zu;subst ht;exact abO _ (List.mem_filterMap.2 ⟨.t t,hy,rfl⟩)
 have hgs: ∀s c,x.guard=acl (s,c)->VR im loc (lk s (S i).env) (a.tmps.getD s Go.undef):=by intro s c h;refine Sn s (abM _ ?_);rw [h];simp
 unfold Go.wpOp;simp only [Tw];rcases hr.steps i x hx with ⟨hw,xr,fN,vL,hX,hS⟩|⟨hw,hX,hS⟩
 · rw [CW hg hgs hw]
   simp only [if_true];left;have AZ: ∀{own:Bool} {f:FuncId} {args:List PV} {us:List Value} {r:kr},xr= .loc r->bC F rec own f args (S i).aj (S i).fz=acl r->dk im loc args us->
    (execOp a.eval o).run P w=(callFunc f ⟨us⟩).run P w->o.wp P a w K Q:=by
    intro own f args us r hxr hcp sq bu;subst hxr;have hk:=hv.known hr ho hp hX vL (by rw [hS];exact qX);refine yE bu (DW hE.func hE.fb hcp sq hk) fun v' w' ⟨cS,aP,lh,sH⟩=>?_
    exact hK _ _ _ _ (oT▸hv.xf hr ho hp hx hX vL hS lh sH hd)
   have FC: ∀{f:FuncId} {args:List PV} {us:List Value},eh rec f args (S i).aj (S i).fz=acl xr->dk im loc args us->
    (execOp a.eval o).run P w=(callFunc f ⟨us⟩).run P w->o.wp P a w K Q:=by
    intro f args us o5 sq bu;unfold eh at o5;split at o5
    · rename_i v s z AM
      split at o5
      · injection o5 with o5;subst o5
        refine yE bu (hE.func f args _ _ v s z AM im loc w us (hv.sr hr ho hp hX) sq) fun v' w' ⟨cS,aP,hf⟩=>?_
        exact hK _ _ _ _ (oT▸hv.L4 hr ho hp hx hX hS hf hd)
      cases o5
    cases o5
   have Tx: ∀{r:kr},xr= .loc r->aU (S i).env (S i).aj (S i).fz x.op=acl r->o.wp P a w K Q:=by
    intro r hxr he;subst hxr;have hk:=hv.known hr ho hp hX vL (by rw [hS];exact qX);obtain ⟨nx,w',aP,bu,hnx,sH⟩:=LF dG J' he hk;unfold Oper.wp;rw [bu];rcases hnx with ⟨rfl,hu⟩|⟨v,rfl,lh⟩
    · rw [Oper.upon_skip]
      exact hK _ _ _ _ (oT▸hv.xf hr ho hp hx hX vL hS (by rw [hu];exact .undef _) sH hd)
    rw [Oper.upon_value]
    exact hK _ _ _ _ (oT▸hv.xf hr ho hp hx hX vL hS lh sH hd)
   cases Oi:x.op with
   |call m f args=>
    rw [Oi] at fN dG J';have L5: ∃as Oj,o.op= .call {callee:= .value (.func f),args:=as,argTypes:=Oj}/\dj args as.toList=acn:=by
     cases Lg:o.op with
     |call c=>
      obtain ⟨callee,as,Oj⟩:=c;rw [Lg] at dG;cases callee with
      |value g=>
       cases g with
       |func g=>simp only [sj,rc,beq_iff_eq] at dG;obtain ⟨⟨rfl,_⟩,h⟩:=dG;exact ⟨as,Oj,rfl,h⟩
       |_=>simp [sj] at dG
      |_=>simp [sj] at dG
     |_=>rw [Lg] at dG;simp [sj] at dG
    obtain ⟨as,Oj,Lg,Zu⟩:=L5;have hrel:dk im loc (As (S i).env args) (as.toList.map a.eval):=jU (fun y hy=>J' y (by simpa [iw.dB] using hy)) Zu;have bu:(execOp a.eval o).run P w=(callFunc f ⟨as.toList.map a.eval⟩).run P w:=by
     have:(⟨as.toList.map a.eval⟩:Array Value)=as.map a.eval:=by apply acb;simp
     rw [this];simp [execOp,Lg,resolve,Act.eval,Deferred.ofValue,invoke]
    cases m with
    |Ob=>simp only [sf,ut] at fN;obtain ⟨r,L6,L7⟩:=fN;exact AZ L7.symm L6 hrel bu
    |own=>simp only [sf,ut] at fN;obtain ⟨r,L6,L7⟩:=fN;exact AZ L7.symm L6 hrel bu
    |shr=>exact FC fN hrel bu
    |fp=>
     simp only [sf,ut] at fN;obtain ⟨r,L6,L7⟩:=fN;subst L7;have hk:=hv.known hr ho hp hX vL (by rw [hS];exact qX);refine yE bu (Hd hE.func L6 hrel hk) fun v' w' ⟨cS,aP,lh,sH⟩=>?_
     exact hK _ _ _ _ (oT▸hv.xf hr ho hp hx hX vL hS lh sH hd)
   |rY y args=>
    rw [Oi] at fN dG J';have L5: ∃t as Oj,o.op= .call {callee:= .value (.tmp t),args:=as,argTypes:=Oj}/\aQ y (.tmp t)=acn/\dj args as.toList=acn:=by
     cases Lg:o.op with
     |call c=>
      obtain ⟨callee,as,Oj⟩:=c;rw [Lg] at dG;cases callee with
      |value g=>
       cases g with
       |tmp g=>simp only [sj,rc] at dG;exact ⟨g,as,Oj,rfl,dG.1,dG.2⟩
       |_=>simp [sj] at dG
      |_=>simp [sj] at dG
     |_=>rw [Lg] at dG;simp [sj] at dG
    obtain ⟨t,as,Oj,Lg,hcy,Zu⟩:=L5;have hrel:dk im loc (As (S i).env args) (as.toList.map a.eval):=jU (fun y hy=>J' y (by simp [iw.dB,hy])) Zu;have hy:=J' y (by simp [iw.dB]) (.tmp t) hcy;simp only [sf] at fN;split at fN
    · rename_i f p q L8
      rw [L8] at hy;generalize hgv:a.eval (.tmp t)=gv at hy;cases hy with
      |di _ _ _ us vs h1 h2=>
      have iD:=(h1.append hrel).append h2;have bu:(execOp a.eval o).run P w=(callFunc f ⟨us++as.toList.map a.eval++vs⟩).run P w:=by
       have:(⟨us++as.toList.map a.eval++vs⟩:Array Value)=(⟨us⟩++as.map a.eval)++⟨vs⟩:=by apply acb;simp
       rw [this];simp [execOp,Lg,resolve,hgv,Deferred.ofValue,invoke]
      split at fN
      · exact FC fN iD bu
      rw [ut] at fN
      obtain ⟨r,L6,L7⟩:=fN;exact AZ L7.symm L6 iD bu
    cases fN
   |_=>rw [Oi] at fN;simp only [sf,ut] at fN;obtain ⟨r,L6,L7⟩:=fN;exact Tx L7.symm (by rw [Oi];exact L6)
 rw [CW hg hgs hw]
 simp only [EQ,if_false];exact hK _ _ _ _ (oT▸hv.step_skip hr ho hp hx hX hS hd)
end
end Go.Vm
/- A region, in the order of the text or in a drawn one. -/
namespace Go.Vm
def qp (P:Program) (prims:FuncId->Bool) (nt:Nat) (fX:Array Oper):List bk->List Oper->Bool
 | [],[]=>acn
 |x::xs,o::os=>nL P prims nt fX x o&&qp P prims nt fX xs os
 |_,_=>acr
theorem xg {P:Program} {prims:FuncId->Bool} {nt:Nat} {fX:Array Oper}: ∀{xs:List bk} {os:List Oper},qp P prims nt fX xs os=acn->
 (ach xs)=ach os/\ ∀(i:Nat) (x:bk) (o:Oper),xs[i]? =acl x->os[i]? =acl o->nL P prims nt fX x o=acn
 | [],[],_=>⟨rfl,fun i x o h=>by simp at h⟩
 |x::xs,o::os,h=>by
  simp only [qp,rc] at h;obtain ⟨h1,h2⟩:=xg h.2;refine ⟨by simp [h1],fun i y p hy hp=>?_⟩;cases i with
  |zero=>simp at hy hp;subst hy hp;exact h.1
  |succ i=>exact h2 i y p (by simpa using hy) (by simpa using hp)
 | [],_::_,h=>by simp [qp] at h
 |_::_,[],h=>by simp [qp] at h
def bit (m i:Nat):Bool:=Nat.testBit m i
def jW (gF:List Nat) (j:Nat):List Edge->Option Nat
 | []=>acl 0
 |e::es=>match jW gF j es with
  |some m=>if Region.binds .any e then (if abU e.on j then acl (m|||((gF.getD e.on 0)|||(1<<<e.on))) else acm) else acl m
  |none=>acm
def qq (gF:List Nat):Nat->List Nat->List Oper->Bool
 |_,[],[]=>acn
 |j,m::ms,o::os=>(match jW gF j o.after.toList with|some m'=>m==m'|none=>acr)&&qq gF (j+1) ms os
 |_,_,_=>acr
def qt (i : Nat) (x : bk) (ux : List Nat) : List bk -> List Nat -> Bool
  | [], _ => acn
  | y :: ys, m :: ms => (bit m i || ((match x.dst with
      | some d => !has (aC y) d && (match y.dst with | some d' => !(ab7 d d') | none => acn)
      | none => acn) && (match y.dst with | some d => !has ux d | none => acn))) && qt i x ux ys ms
  | _ :: _, [] => acr
def qu:Nat->List bk->List Nat->Bool
 |_,[],_=>acn
 |i,x::xs,_::ms=>qt i x (aC x) xs ms&&qu (i+1) xs ms
 |_,_::_,[]=>acr
def yF (P:Program) (prims:FuncId->Bool) (nt:Nat) (draw:Option (List Nat)) (Ty:List bk) (fX:Array Oper) (flag:Bool):Bool:=
 qp P prims nt fX Ty fX.toList&&match draw with
 |none=>!flag
 |some bf=>flag&&ab7 (ach bf) (ach Ty)&&qq bf 0 bf fX.toList&&qu 0 Ty bf
section
variable {P : Program} {F : jl} {rec : Task -> Option Out} {ops : List bk} {S : Nat -> St} {X : Nat -> Option XR} {sI : Nat -> Nat -> Prop} {im0 : Im} {loc0 : Loc} {w0 : World} {nt : Nat}
  {done : Nat -> Prop} {im : Im} {loc : Loc} {a : Act} {w : World} {i : Nat} {prims : FuncId -> Bool} {fX : Array Oper}
theorem Ord.text:Ord ops S X (· < ·) where
 AX:=fun _ _ _ _ _ h _ _ _ _=>h
 LW:=fun _ _ _ _ _ h _ _ _ _=>h
 Hh:=fun _ _ _ h _ _ _=>h
 To:=fun _ _ _ h _ _ _=>h
 Tp:=fun _ _ _ h _ _ _ _ _ _=>h
 E6:=fun _ _ h _ _=>h
 cl:=fun _ _ _ _ _=> .inr fun _ h _=>h
theorem A0 (hE:D2 P F rec) (hr:tc F rec ops S X) (hc: ∀(i:Nat) (x:bk) (o:Oper),ops[i]? =acl x->fX[i]? =acl o->nL P prims nt fX x o=acn) (bI:(ach ops)=fX.size)
 {Q:Exit->Act->World->Prop} (hQ: ∀im loc a w,Inv ops S X im0 loc0 w0 nt (fun i=>i<ach ops) im loc a w->Q .normal a w):
 ∀(d n:Nat) (im:Im) (loc:Loc) (a:Act) (w:World),n+d=ach ops->Inv ops S X im0 loc0 w0 nt (fun i=>i<n) im loc a w->wpOps P fX Q (List.range' n d) a w
 |0,n,im,loc,a,w,hn,hv=>by
  have:n=(ach ops):=by omega
  subst this;exact hQ im loc a w hv
 |d+1,n,im,loc,a,w,hn,hv=>by
  rw [List.range'_succ,wpOps_cons];have hx:=pm (show n<(ach ops) by omega);have ho:=abE (show n<fX.size by omega);refine Inv.wpOp hE hr Ord.text hv {lt:=by omega,nd:=by omega,pre:=fun j _ h=>h,di:=fun k _ h1 j _ h2=>by omega} hx ho (hc n _ _ hx ho) fun cS aP a' w' h'=>?_
  refine A0 hE hr hc bI hQ d (n+1) cS aP a' w' (by omega) ?_;have e:plus (fun i=>i<n) n=fun i=>i<n+1:=by
   funext j;unfold plus;apply propext;omega
  rw [e] at h';exact h'
def ON (gF:List Nat) (i j:Nat):Prop:=bit (gF.getD j 0) i=acn
theorem qY {gF:List Nat} {j:Nat}: ∀{es:List Edge} {m:Nat},jW gF j es=acl m->(∀e∈es,Region.binds .any e=acn->e.on<j)/\
 ∀i,bit m i=acn-> ∃e∈es,Region.binds .any e=acn/\(e.on=i\/bit (gF.getD e.on 0) i=acn)
 | [],m,h=>by simp only [jW,pp] at h;subst h;exact ⟨fun e h=>(by cases h),fun i h=>by simp [bit] at h⟩
 |e::es,m,h=>by
  simp only [jW] at h;split at h
  · rename_i m' ye
    obtain ⟨h1,h2⟩:=qY ye;split at h
    · rename_i hb
      split at h
      · rename_i dA
        injection h with h;subst h;refine ⟨fun e' yc pI=>?_,fun i hi=>?_⟩
        · rcases ab6.1 yc with rfl|yc
          · simpa using dA
          exact h1 e' yc pI
        simp only [bit,Nat.testBit_or,ab9] at hi
        rcases hi with hi|hi|hi
        · obtain ⟨e',yc,h3⟩:=h2 i hi
          exact ⟨e',ab2 _ yc,h3⟩
        · exact ⟨e,by simp,hb,.inr hi⟩
        refine ⟨e,by simp,hb,.inl ?_⟩
        rw [Nat.one_shiftLeft,Nat.testBit_two_pow] at hi;simpa using hi
      cases h
    rename_i hb
    injection h with h;subst h;refine ⟨fun e' yc pI=>?_,fun i hi=>?_⟩
    · rcases ab6.1 yc with rfl|yc
      · exact absurd pI hb
      exact h1 e' yc pI
    obtain ⟨e',yc,h3⟩:=h2 i hi
    exact ⟨e',ab2 _ yc,h3⟩
  cases h
theorem zw {gF:List Nat}: ∀{j:Nat} {ms:List Nat} {os:List Oper},qq gF j ms os=acn->ach ms=ach os/\
 ∀(k:Nat) (m:Nat) (o:Oper),ms[k]? =acl m->os[k]? =acl o->jW gF (j+k) o.after.toList=acl m
 |j,[],[],_=>⟨rfl,fun k m o h=>by simp at h⟩
 |j,m::ms,o::os,h=>by
  simp only [qq,rc] at h;obtain ⟨h1,h2⟩:=h;obtain ⟨h3,h4⟩:=zw h2;refine ⟨by simp [h3],fun k m' o' hm ho=>?_⟩;cases k with
  |zero=>
   simp at hm ho;subst hm ho;split at h1
   · rename_i m2 Zd
     have:m=m2:=by simpa using h1
     subst this;exact Zd
   cases h1
  |succ k=>have:=h4 k m' o' (by simpa using hm) (by simpa using ho);rw [show j+(k+1)=j+1+k by omega];exact this
 |j,[],_::_,h=>by simp [qq] at h
 |j,_::_,[],h=>by simp [qq] at h
theorem xh {i:Nat} {x:bk} {ux:List Nat}: ∀{ys:List bk} {ms:List Nat},qt i x ux ys ms=acn-> ∀(k:Nat) (y:bk),ys[k]? =acl y->
 bit (ms.getD k 0) i=acn\/((∀d,x.dst=acl d->d∉aC y/\y.dst≠acl d)/\ ∀d,y.dst=acl d->d∉ux)
 | [],_,_,k,y,h=>by simp at h
 |z::ys,[],h,k,y,hy=>by simp [qt] at h
 |z::ys,m::ms,h,k,y,hy=>by
  simp only [qt,rc,ab9] at h;obtain ⟨h1,h2⟩:=h;cases k with
  |succ k=>simpa using xh h2 k y (by simpa using hy)
  |zero=>
   simp at hy;subst hy;rcases h1 with h1|⟨h1,h3⟩
   · exact .inl (by simpa using h1)
   refine .inr ⟨fun d hd=>?_,fun d hd=>?_⟩
   · rw [hd] at h1
     simp only [rc,If] at h1;refine ⟨gO.1 h1.1,fun hz=>?_⟩;rw [hz] at h1;simp at h1
   rw [hd] at h3
   simp only [If] at h3;exact gO.1 h3
theorem te: ∀{i0:Nat} {xs:List bk} {ms:List Nat},qu i0 xs ms=acn-> ∀(i j:Nat) (x y:bk),i<j->xs[i]? =acl x->xs[j]? =acl y->
 bit (ms.getD j 0) (i0+i)=acn\/((∀d,x.dst=acl d->d∉aC y/\y.dst≠acl d)/\ ∀d,y.dst=acl d->d∉aC x)
 |i0,[],_,_,i,j,x,y,_,hx,_=>by simp at hx
 |i0,z::xs,[],h,i,j,x,y,_,hx,_=>by simp [qu] at h
 |i0,z::xs,m::ms,h,i,j,x,y,lr,hx,hy=>by
  simp only [qu,rc] at h;obtain ⟨h1,h2⟩:=h;cases j with
  |zero=>omega
  |succ j=>
   cases i with
   |zero=>simp at hx;subst hx;simpa using xh h1 j y (by simpa using hy)
   |succ i=>have:=te h2 i j x y (by omega) (by simpa using hx) (by simpa using hy);rw [show i0+(i+1)=i0+1+i by omega];simpa using this
theorem CX {i:Nat} {t:Tr}: ∀{l:List (Tr×Nat)},DJ i t l=acn-> ∀(k:Nat) (b:Tr) (m:Nat),l[k]? =acl (b,m)->t.qg b=acn->bit m i=acn
 | [],_,k,b,m,h,_=>by simp at h
 |(b',m')::r,h,k,b,m,hk,hc=>by
  simp only [DJ,rc,ab9,If] at h;cases k with
  |zero=>
   simp at hk;obtain ⟨rfl,rfl⟩:=hk;rcases h.1 with h1|h1
   · rw [hc] at h1;cases h1
   exact h1
  |succ k=>exact CX h.2 k b m (by simpa using hk) hc
theorem A1: ∀{i0:Nat} {l:List (Tr×Nat)},nJ i0 l=acn->(∀(i:Nat) (t:Tr) (m:Nat),l[i]? =acl (t,m)->t.cl=acn)/\
 ∀(i j:Nat) (t b:Tr) (m m':Nat),i<j->l[i]? =acl (t,m)->l[j]? =acl (b,m')->t.qg b=acn->bit m' (i0+i)=acn
 |_,[],_=>⟨fun i t m h=>by simp at h,fun i j t b m m' _ h=>by simp at h⟩
 |i0,(t0,m0)::r,h=>by
  simp only [nJ,rc] at h;obtain ⟨⟨h1,h2⟩,h3⟩:=h;obtain ⟨h4,h5⟩:=A1 h3;refine ⟨fun i t m hi=>?_,fun i j t b m m' lr hi hj hc=>?_⟩
  · cases i with
    |zero=>simp at hi;obtain ⟨rfl,rfl⟩:=hi;exact h1
    |succ i=>exact h4 i t m (by simpa using hi)
  cases j with
  |zero=>omega
  |succ j=>
   cases i with
   |zero=>simp at hi;obtain ⟨rfl,rfl⟩:=hi;exact CX h2 j b m' (by simpa using hj) hc
   |succ i=>rw [show i0+(i+1)=i0+1+i by omega];exact h5 i j t b m m' (by omega) (by simpa using hi) (by simpa using hj) hc
theorem A2 {l m:List Nat} {t:Nat} (h1:t∈l) (h2:t∈m):meets l m=acn:=by unfold meets;rw [abI];exact ⟨t,h1,mg.2 h2⟩
theorem Ord.drawn (hr : tc F rec ops S X) {gF : List Nat} (Cp : (ach gF) = (ach ops)) (hs : qu 0 ops gF = acn) (ho : nJ 0 ((vd S X (ach ops)).zip gF) = acn) : Ord ops S X (ON gF) := by
  obtain ⟨ET, hcz⟩ := A1 ho
  have DX : ∀ i, i < (ach ops) -> ((vd S X (ach ops)).zip gF)[i]? = acl (uW (X i) (S i), gF.getD i 0) := by
    intro i hi
    rw [List.getElem?_zip_eq_some]
    refine ⟨?_, ?_⟩
    · unfold vd; simp [hi]
    rw [abx, pm (by omega)]; rfl
  have qg : ∀ i j, i < j -> j < (ach ops) -> (uW (X i) (S i)).qg (uW (X j) (S j)) = acn -> ON gF i j := by
    intro i j lr hj hc
    have := hcz i j _ _ _ _ lr (DX i (by omega)) (DX j hj) hc
    unfold ON; simpa using this
  have tch : ∀ j, fh X j -> (uW (X j) (S j)).fh = acn := by
    intro j h
    unfold fh at h
    unfold uW
    cases hX : X j with
    | none => rw [hX] at h; exact h.elim
    | some x =>
      rw [hX] at h
      cases x with
      | shr v s z => rfl
      | loc r =>
        simp only [XR.tr, Tr.fh, Bool.or_false]
        rcases h with h | h | h | h
        · cases Cu : r.rd with
          | nil => exact absurd Cu h
          | cons _ _ => simp
        · cases Cu : r.fr with
          | nil => exact absurd Cu h
          | cons _ _ => simp
        · cases Cu : r.wr with
          | nil => exact absurd Cu h
          | cons _ _ => simp
        cases Cu : r.news with
        | nil => exact absurd Cu h
        | cons _ _ => simp
  have brr : ∀ j, nA X j -> (uW (X j) (S j)).E6 = acn := by
    rintro j ⟨v, s, z, h⟩; rw [h]; rfl
  have tW : ∀ j t, W X j t -> fh X j := fun j t h => qW h
  have tA : ∀ j t, A X j t -> fh X j := by
    intro j t h
    unfold A at h; unfold fh
    cases hX : X j with
    | none => rw [hX] at h; exact h.elim
    | some x =>
      rw [hX] at h
      cases x with
      | shr v s z => exact h.elim
      | loc r =>
        rcases h with h | h
        · exact .inl (by intro e; rw [e] at h; cases h)
        exact .inr (.inl (by intro e; rw [e] at h; cases h))
  have E6 : ∀ i j, i < j -> j < (ach ops) -> (nA X i /\ fh X j \/ fh X i /\ nA X j) -> ON gF i j := by
    intro i j lr hj h
    refine qg i j lr hj ?_
    unfold Tr.qg
    rcases h with ⟨h1, h2⟩ | ⟨h1, h2⟩
    · rw [brr i h1, tch j h2]; simp
    rw [brr j h2, tch i h1]; simp
  have Zv : ∀ j t, W X j t -> ¬ nA X j -> t ∈ (uW (X j) (S j)).wr := by
    intro j t h hn
    unfold W at h
    cases hX : X j with
    | none => rw [hX] at h; exact h.elim
    | some x =>
      rw [hX] at h
      cases x with
      | shr v s z => exact absurd ⟨v, s, z, hX⟩ hn
      | loc r =>
        obtain ⟨k, hk⟩ := h
        exact List.mem_map.2 ⟨(t, k), hk, rfl⟩
  have rdT : ∀ j t, A X j t -> t ∈ (uW (X j) (S j)).rd := by
    intro j t h
    unfold A at h
    cases hX : X j with
    | none => rw [hX] at h; exact h.elim
    | some x =>
      rw [hX] at h
      cases x with
      | shr v s z => exact h.elim
      | loc r => exact aag.2 h
  exact {
    AX := fun i j t x y lr hx hy hd hu => by
      rcases te hs i j x y lr hx hy with h | ⟨h, _⟩
      · unfold ON; simpa using h
      rcases hu with hu | hu
      · exact absurd hu (h t hd).1
      exact absurd hu (h t hd).2
    LW := fun i j t x y lr hx hy hd hu => by
      rcases te hs i j x y lr hx hy with h | ⟨_, h⟩
      · unfold ON; simpa using h
      exact absurd hu (h t hd)
    Hh := fun i j t lr hj hW Zw => by
      by_cases hi : nA X i
      · exact E6 i j lr hj (.inl ⟨hi, Zw.elim (tA j t) (tW j t)⟩)
      by_cases J8 : nA X j
      · exact E6 i j lr hj (.inr ⟨tW i t hW, J8⟩)
      refine qg i j lr hj ?_
      unfold Tr.qg
      rcases Zw with h | h
      · rw [A2 (Zv i t hW hi) (rdT j t h)]; simp
      rw [A2 (Zv i t hW hi) (Zv j t h J8)]; simp
    To := fun i j t lr hj hA hW => by
      by_cases J8 : nA X j
      · exact E6 i j lr hj (.inr ⟨tA i t hA, J8⟩)
      refine qg i j lr hj ?_
      unfold Tr.qg
      rw [A2 (rdT i t hA) (Zv j t hW J8)]; simp
    Tp := fun i j t lr hj OG h1 h2 J8 hW => by
      refine qg i j lr hj ?_
      unfold Tr.qg
      have : ((uW (X j) (S j)).wr.any fun t => abF (uW (X i) (S i)).lo t && abU t (uW (X i) (S i)).hi) = acn := by
        rw [abI]
        refine ⟨t, Zv j t hW J8, ?_⟩
        rcases hr.steps i _ (pm (show i < (ach ops) by omega)) with ⟨_, x, hx, _, hX, hn⟩ | ⟨_, hX, hn⟩
        · cases x with
          | shr v s z => exact absurd ⟨v, s, z, hX⟩ OG
          | loc r =>
            rw [hn, qX] at h2
            rw [hX]
            simp only [uW, XR.tr, rc, abm]
            exact ⟨h1, by simpa using h2⟩
        rw [hn] at h2; dsimp only at h2; omega
      rw [this]; simp
    E6 := E6
    cl := fun i t hi OG Zw => by
      left
      have hc := ET i _ _ (DX i hi)
      cases hX : X i with
      | none => rcases Zw with h | h
                · unfold A at h; rw [hX] at h; exact h.elim
                unfold W at h; rw [hX] at h; exact h.elim
      | some x =>
        cases x with
        | shr v s z => exact absurd ⟨v, s, z, hX⟩ OG
        | loc r =>
          have hb : ∀ u v : Nat, abU u v = acn -> u < v := fun u v h => by simpa using h
          rw [hX] at hc
          simp only [uW, XR.tr, rc, aah] at hc
          rcases Zw with h | h
          · unfold A at h; rw [hX] at h
            exact hb _ _ (hc.1 t (aag.2 h))
          unfold W at h; rw [hX] at h
          obtain ⟨k, hk⟩ := h
          exact hb _ _ (hc.2 (t, k) hk) }
end
end Go.Vm
/- A region: the theorem. -/
namespace Go.Vm
section
variable {P : Program} {F : jl} {rec : Task -> Option Out} {ops : List bk} {S : Nat -> St} {X : Nat -> Option XR} {im0 : Im} {loc0 : Loc} {w0 : World} {nt : Nat}
  {im : Im} {loc : Loc} {a : Act} {w : World} {i : Nat} {prims : FuncId -> Bool} {fX : Array Oper} {gF : List Nat}
def hH (l:Array Bool) (i:Nat):Prop:=l.getD i acr=acn
theorem FD (hE:D2 P F rec) (hr:tc F rec ops S X) (ho:Ord ops S X (ON gF)) (hc: ∀(i:Nat) (x:bk) (o:Oper),ops[i]? =acl x->fX[i]? =acl o->nL P prims nt fX x o=acn) (bI:(ach ops)=fX.size)
 (hm: ∀(k:Nat) (o:Oper),fX[k]? =acl o->jW gF k o.after.toList=acl (gF.getD k 0))
 {Q:Exit->Act->World->Prop} (hQ: ∀im loc a w (done:Nat->Prop),(∀i,i<ach ops->done i)->Inv ops S X im0 loc0 w0 nt done im loc a w->Q .normal a w):
 ∀(mO:Nat) (l:Array Bool) (im:Im) (loc:Loc) (a:Act) (w:World),l.size=ach ops->mO+l.toList.count acn=ach ops->(∀k j,hH l k->ON gF j k->hH l j)->
  Inv ops S X im0 loc0 w0 nt (hH l) im loc a w->wpAny P .any fX Q mO l a w:=by
 have full: ∀l:Array Bool,l.size=ach ops->Region.ready .any fX l=[]-> ∀i,i<ach ops->hH l i:=by
  intro l hl vS i
  induction i using Nat.strongRecOn with
  |_ i ih=>
   intro hi
   by_cases h:hH l i
   · exact h
   exfalso
   have wZ:i∈Region.ready .any fX l:=by
    rw [mem_ready];have ho:=abE (show i<fX.size by omega);refine ⟨?_,_,ho,fun e he hb=>?_⟩
    · unfold hH at h
      have dA:i<l.size:=by omega
      simp [dA] at h ⊢;exact h
    have:=(qY (hm i _ ho)).1 e (by simpa using he) hb
    exact ih e.on this (by omega)
   rw [vS] at wZ;cases wZ
 intro mO
 induction mO with
 |zero=>
  intro l im loc a w hl Zx OO hv;have kC: ∀b∈l.toList,acn=b:=by
   have:l.toList.count acn=(ach l.toList):=by simp only [Array.length_toList];omega
   exact List.count_eq_length.1 this
  have IW: ∀i,i<ach ops->hH l i:=by
   intro i hi;have dA:i<l.size:=by omega
   have:=kC (l[i]) (by simp);unfold hH;simp [dA,<- this]
  refine ⟨?_,hQ im loc a w _ IW hv⟩;cases Cu:Region.ready .any fX l with
  |nil=>rfl
  |cons x xs=>
   exfalso;have wZ:x∈Region.ready .any fX l:=by rw [Cu];simp
   obtain ⟨h0,o,Yu,_⟩:=mem_ready.1 wZ;have dA:=(Do.1 Yu).1;have:=IW x (by omega);unfold hH at this;have FE:x<l.size:=by omega
   simp [FE] at this h0;rw [this] at h0;cases h0
 |succ mO ih=>
  intro l im loc a w hl Zx OO hv;refine ⟨fun vS=>hQ im loc a w _ (full l hl vS) hv,fun i hi=>?_⟩;obtain ⟨h0,o,Yu,kC⟩:=mem_ready.1 hi;have dA:=(Do.1 Yu).1;have FE:i<l.size:=by omega
  have hx:=pm (show i<(ach ops) by omega);have Zy: ∀j,ON gF j i->hH l j:=by
   intro j hj;obtain ⟨e,he,hb,h⟩:=(qY (hm i o Yu)).2 j hj;have iC:hH l e.on:=kC e (by simpa using he) hb;rcases h with rfl|h
   · exact iC
   exact OO _ _ iC h
  have yC: ¬hH l i:=by unfold hH;simp [FE] at h0 ⊢;exact h0
  refine Inv.wpOp hE hr ho hv {lt:=by omega,nd:=yC,pre:=fun j _ h=>Zy j h,di:=fun k _ h1 j _ h2=>OO k j h1 h2} hx Yu (hc i _ _ hx Yu) fun cS aP a' w' h'=>?_
  have e:plus (hH l) i=hH (l.setIfInBounds i acn):=by
   funext j
   apply propext;unfold plus hH
   by_cases lr:i=j
   · subst lr;simp [FE]
   simp only [getD_set_ne acr lr]
   exact ⟨fun h=>h.elim id fun h=>absurd h.symm lr,.inl⟩
  rw [e] at h';refine ih _ cS aP a' w' (by simpa using hl) ?_ ?_ h'
  · rw [Array.toList_setIfInBounds,List.count_set (by simpa using FE)]
    have:l.toList[i]=acr:=by simp [FE] at h0;simpa using h0
    rw [this];simp only [Array.count_toList] at Zx ⊢;simp;omega
  intro k j hk hj
  rw [<- e] at hk ⊢;rcases hk with hk|rfl
  · exact .inl (OO k j hk hj)
  exact .inl (Zy j hj)
theorem ER.eg {st:Env} {eg:List Nat} (h:ER im loc st a.tmps):ER im loc (eg.map fun s=>(s,lk s st)) a.tmps:=by
 intro t;have:lk t (eg.map fun s=>(s,lk s st))=lk t st\/lk t (eg.map fun s=>(s,lk s st))= .undef:=by
  induction eg with
  |nil=>exact .inr rfl
  |cons s r ih=>
   simp only [List.map_cons,nK];split
   · rename_i e;subst e;exact .inl rfl
   exact ih
 rcases this with h'|h'
 · rw [h'];exact h t
 rw [h'];exact .undef _
structure ss (im:Im) (loc:Loc) (nt:Nat) (st:St) (a:Act):Prop where
 env:ER im loc st.env a.tmps
 defers:a.defers=[]
 GW:a.tmps.size=nt
theorem Kept.world {gr : bG} {st : St} {w1 : World} (h : Kept im0 loc0 gr w1 st im loc w) (hh : w1.heap = w0.heap) (ho : w1.os = w0.os) (ht : Tape w0 w1) (hp : w1.output = w0.output) : Kept im0 loc0 gr w0 st im loc w :=
  { sr := h.sr, eE := h.eE, cD := h.cD, os := h.os.trans ho, tape := h.tape.trans ht, output := h.output.trans hp, size := by have := h.size; rw [hh] at this; exact this
    frame := by have := h.frame; rw [hh] at this; exact this
    cI := by have := h.cI; rw [hh] at this; exact this
    jw := h.jw
    own := by have := h.own; rw [hh] at this; exact this }
theorem SR.world {aj:bG} {fz:List Nat} {w1:World} (h:SR im loc aj fz w) (hh:w1.heap=w.heap):SR im loc aj fz w1 where
 aS:=by rw [hh];exact h.aS
 cB:=fun t li hl=>let ⟨k,h1,h2⟩:=h.cB t li hl;⟨k,h1,h2.mono (.refl _) (.refl _) (by rw [hh])⟩
 fx:=h.fx
 free:=h.free
theorem Hj (hE:D2 P F rec) (mP:P.follows .mixedOrders=acn) {draw:Option (List Nat)} {eg:List Nat} {id:Nat} {flag:Bool} {st iq:St}
 (hc:yF P prims nt draw ops fX flag=acn) (fN:iJ F rec draw ops eg st=acl iq) (gq:SR im0 loc0 st.aj st.fz w0) (ha:ss im0 loc0 nt st a) {Q:Exit->Act->World->Prop}
 (hQ: ∀im loc a' w',Kept im0 loc0 st.aj w0 iq im loc w'->ss im loc nt iq a'->Q .normal a' w'):(Code.region id fX flag).wp P Q a w0:=by
 unfold yF at hc;simp only [rc] at hc;obtain ⟨Ka,hd⟩:=hc;obtain ⟨bI,OP⟩:=xg Ka;have bI:(ach ops)=fX.size:=by simpa using bI
 have OP: ∀(i:Nat) (x:bk) (o:Oper),ops[i]? =acl x->fX[i]? =acl o->nL P prims nt fX x o=acn:=fun i x o hx ho=>OP i x o hx (by simpa using ho)
 unfold iJ at fN;cases he:jv F rec ops st [] with
 |none=>rw [he] at fN;cases fN
 |some q=>
  obtain ⟨lg,tr⟩:=q;rw [he] at fN;dsimp only at fN;obtain ⟨S,X,h0,hn,hr,htr⟩:=yD ops st [] lg tr he;have fin: ∀(w1:World),w1.heap=w0.heap->w1.os=w0.os->Tape w0 w1->w1.output=w0.output->iq={lg with env:=eg.map fun s=>(s,lk s lg.env)}-> ∀im loc a' w' (done:Nat->Prop),(∀i,i<ach ops->done i)->
   Inv ops S X im0 loc0 w1 nt done im loc a' w'->Q .normal a' w':=by
   intro w1 q1 q2 q3 q4 bw im loc a' w' done hdn hv;obtain ⟨hk,Yt,hdf,hns⟩:=hv.finish hr hdn;rw [hn] at hk Yt;rw [h0] at hk;subst bw;have hk:=hk.world q1 q2 q3 q4;exact hQ im loc a' w' {sr:=hk.sr,eE:=hk.eE,cD:=hk.cD,os:=hk.os,tape:=hk.tape,output:=hk.output,size:=hk.size,frame:=hk.frame,cI:=hk.cI,jw:=hk.jw,own:=hk.own} ⟨Yt.eg,hdf,hns⟩
  cases draw with
  |none=>
   dsimp only at hd fN;have:flag=acr:=by simpa using hd
   subst this;injection fN with fN;refine wp_region ?_;rw [List.range_eq_range'];refine A0 hE hr OP bI (fun im loc a w hv=>fin w0 rfl rfl (.refl _) rfl fN.symm im loc a w _ (fun i h=>h) hv) fX.size 0 im0 loc0 a w0 (by omega) ?_;have:=Inv.start (ops:=ops) (X:=X) (w0:=w0) h0 gq ha.env ha.defers ha.GW hr;have e:(fun _:Nat=>False)=fun i=>i<0:=by funext i;apply propext;exact ⟨fun h=>h.elim,fun h=>by omega⟩
   rw [e] at this;exact this
  |some bf=>
   dsimp only at hd fN;simp only [rc] at hd;obtain ⟨⟨⟨rfl,FF⟩,hmk⟩,Oh⟩:=hd;have FF:(ach bf)=(ach ops):=by simpa using FF
   split at fN
   · rename_i Lg
     injection fN with fN;have ac0:tr.reverse=vd S X (ach ops):=by rw [htr];simp
     rw [ac0] at Lg;obtain ⟨_,hmk⟩:=zw hmk;refine wp_region_any mP ?_;refine FD (w0:={w0 with drawn:=w0.drawn+1}) (im0:=im0) (loc0:=loc0) hE hr (Ord.drawn hr FF Oh Lg) OP bI ?_ (fun im loc a w done hdn hv=>fin {w0 with drawn:=w0.drawn+1} rfl rfl ⟨rfl,Nat.le_succ _⟩ rfl fN.symm im loc a w done hdn hv) fX.size _ im0 loc0 a _ (by simp [bI]) ?_ ?_ ?_
     · intro k o ho
       have dA:=(Do.1 ho).1;have hk:bf[k]? =acl (bf.getD k 0):=by rw [abx,pm (by omega)];rfl
       simpa using hmk k _ o hk (by simpa using ho)
     · simp [bI,List.count_replicate]
     · intro k j h
       unfold hH at h
       by_cases hk:k<fX.size<;>simp [hk] at h
     have:=Inv.start (ops:=ops) (X:=X) (w0:={w0 with drawn:=w0.drawn+1}) h0 (gq.world rfl) ha.env ha.defers ha.GW hr
     have e:(fun _:Nat=>False)=hH (ab3 fX.size acr):=by
      funext i;apply propext
      unfold hH
      by_cases hk:i<fX.size<;>simp [hk]
     rw [e] at this;exact this
   cases fN
end
end Go.Vm
/- What a function keeps from its beginning on; the head of a loop. -/
namespace Go.Vm
theorem Kept.trans {im0 Af Ag:Im} {loc0 cq nj:Loc} {gr:bG} {w0 w1 w2:World} {lg sg:St} (h1:Kept im0 loc0 gr w0 lg Af cq w1) (h2:Kept Af cq lg.aj w1 sg Ag nj w2) (hl:(ach gr)<=ach lg.aj):
 Kept im0 loc0 gr w0 sg Ag nj w2 where
 sr:=h2.sr
 eE:=h1.eE.trans h2.eE
 cD:=h1.cD.trans h2.cD
 os:=h2.os.trans h1.os
 tape:=h2.tape.trans h1.tape
 output:=h2.output.trans h1.output
 size:=M2 h1.size h2.size
 frame:=fun b hb hh=>by
  rw [h2.frame b (ab4 hb h1.size) fun t li k hl hs jc Fu=>?_]
  · exact h1.frame b hb hh
  rcases h1.own t li k hl hs jc with h|⟨u,lu,ku,g1,g2,g3,g4⟩
  · omega
  exact hh u lu ku g1 g2 g3 (by omega)
 cI:=fun b o hb=>by
  rcases h2.cI b o hb with h|h|⟨t,li,k,g1,g2,g3,g4⟩
  · exact h1.cI b o h
  · exact .inr (.inl (M2 h1.size h))
  rcases h1.own t li k g1 g2 g3 with h|⟨u,lu,ku,k1,k2,k3,k4⟩
  · exact .inr (.inl (by omega))
  exact .inr (.inr ⟨u,lu,ku,k1,k2,k3,by omega⟩)
 jw:=fun t li h=>by
  rcases h2.jw t li h with h|h
  · exact h1.jw t li h
  exact .inr (M2 hl h)
 own:=fun t li k hl hs jc=>by
  rcases h2.own t li k hl hs jc with h|⟨u,lu,ku,g1,g2,g3,g4⟩
  · exact .inl (M2 h1.size h)
  rcases h1.own u lu ku g1 g2 g3 with h|⟨u',lu',ku',k1,k2,k3,k4⟩
  · exact .inl (by omega)
  exact .inr ⟨u',lu',ku',k1,k2,k3,by omega⟩
structure ve (im0:Im) (loc0:Loc) (gr:bG) (w0:World) (st:St) (im:Im) (loc:Loc) (w:World):Prop where
 kept:Kept im0 loc0 gr w0 st im loc w
 kn:st.kn=ach gr
 len:(ach gr)<=ach st.aj
 dom: ∀t li,loc0 t=acl li->t<ach gr
theorem A3 {F:jl} {rec:Task->Option Out}: ∀(ops:List bk) (st:St) (tr:List Tr) (iq:St) (J9:List Tr),jv F rec ops st tr=acl (iq,J9)->iq.kn=st.kn
 | [],st,tr,iq,J9,h=>by simp only [jv,pp,v6] at h;rw [h.1]
 |o::l,st,tr,iq,J9,h=>by
  simp only [jv] at h;split at h
  · split at h
    · rename_i x hx
      split at h
      · have:=A3 l _ _ iq J9 h
        rw [this];cases x<;>rfl
      cases h
    cases h
  · have:=A3 l _ _ iq J9 h
    exact this
  cases h
theorem D3 {F:jl} {rec:Task->Option Out} {draw:Option (List Nat)} {ops:List bk} {eg:List Nat} {st iq:St} (h:iJ F rec draw ops eg st=acl iq):iq.kn=st.kn/\ach st.aj<=(ach iq.aj):=by
 unfold iJ at h;cases he:jv F rec ops st [] with
 |none=>rw [he] at h;cases h
 |some q=>
  obtain ⟨lg,tr⟩:=q;rw [he] at h;dsimp only at h;obtain ⟨S,X,h0,hn,hr,_⟩:=yD ops st [] lg tr he;have h1:=A3 ops st [] lg tr he;have h2:=hr.fy (aa7 (ach ops)) (wn _);rw [h0,hn] at h2;cases draw with
  |none=>dsimp only at h;injection h with h;subst h;exact ⟨h1,h2⟩
  |some bf=>
   dsimp only at h;split at h
   · injection h with h;subst h;exact ⟨h1,h2⟩
   cases h
section
variable {im : Im} {loc cq : Loc} {m : List Nat}
theorem FG {fz:List Nat}: ∀{l:List Nat} {i0 u t:Nat},l[u]? =acl t->(i0+u)∉sR fz i0 l->t∉fz
 | [],i0,u,t,h,_=>by simp at h
 |s::r,i0,u,t,h,hn=>by
  simp only [sR] at hn;cases u with
  |zero=>simp at h;subst h;intro hf;rw [ol (mg.2 hf)] at hn;exact hn (by simp)
  |succ u=>
   refine FG (l:=r) (i0:=i0+1) (u:=u) (by simpa using h) fun wZ=>?_
   rw [show i0+(u+1)=i0+1+u by omega] at hn;split at hn
   · exact hn (ab2 _ wZ)
   exact hn wZ
theorem A4 {aj:bG}: ∀{n:Nat} {ts seen:List Nat} {m:List Nat},reach aj n ts seen=acl m->(∃l,m=seen++l)/\(seen.Nodup->m.Nodup)
 |_,[],seen,m,h=>by
  have h:acl seen=acl m:=by rw [<- h];unfold reach;cases ‹Nat› <;>rfl
  injection h with h;subst h;exact ⟨⟨[],by simp⟩,id⟩
 |0,_::_,seen,m,h=>by simp [reach] at h
 |n+1,t::ts,seen,m,h=>by
  simp only [reach] at h;split at h
  · exact A4 h
  rename_i hn
  split at h
  · obtain ⟨⟨l,hl⟩,h2⟩:=A4 h
    refine ⟨⟨t::l,by rw [hl];simp⟩,fun hd=>h2 ?_⟩;rw [abY];refine ⟨hd,by simp,fun a ha b hb=>?_⟩;have:b=t:=by simpa using hb
    subst this;intro e;subst e;exact hn (mg.2 ha)
  cases h
theorem FH: ∀{n i:Nat},i<n->(qe n)[i]? =acl i
 |n+1,i,h=>by
  have hl: ∀n,(qe n).length=n:=by
   intro n;induction n with
   |zero=>rfl
   |succ n ih=>simp [qe,ih]
  simp only [qe];rcases UV i n with h'|h'
  · rw [ww (by rw [hl];exact h')];exact FH h'
  rw [AC (by rw [hl];exact h'),hl]
  have:i=n:=by omega
  subst this;simp
theorem FI: ∀{n i:Nat},i∈qe n->i<n
 |n+1,i,h=>by
  simp only [qe,aag,aau] at h;rcases h with h|h
  · have:=FI h;omega
  omega
theorem A5: ∀n,(qe n).Nodup
 |0=>by simp [qe]
 |n+1=>by
  simp only [qe];rw [abY];refine ⟨A5 n,by simp,fun a ha b hb=>?_⟩;have:=FI ha;have:b=n:=by simpa using hb
  omega
end
end Go.Vm
/- The head of a loop. -/
namespace Go.Vm
def Kb (s2:bG):Prop:= ∀(j:Nat) (k:gY),s2[j]? =acl k-> ∃e,k= .arr e []
theorem VR.CO {im:Im} {loc:Loc} {x:PV} {u:Value} (h:VR im loc x u): ∀k:Option Nat,VR im loc (CO k x) u
 |none=>h
 |some _=>by
  cases h with
  |own t esz off len cap ex li a bZ hl he hn hc hx hk h=>exact .own t esz off len cap acr li a bZ hl he hn hc hx (fun h=>by cases h) h
  |undef=>exact .undef _
  |gJ=>exact .gJ
  |int k n=>exact .int k n
  |bool b=>exact .bool b
  |str s=>exact .str s
  |agg cs vs h=>exact .agg cs vs h
  |bH cs vs h=>exact .bH cs vs h
  |sl e c r a cap h1 h2 h3=>exact .sl e c r a cap h1 h2 h3
  |ptr t e r o li h1 h2 h3=>exact .ptr t e r o li h1 h2 h3
  |aW cs off b o vs h hv=>exact .aW cs off b o vs h hv
  |mp t li hl=>exact .mp t li hl
  |di fn a b as bs ha hb=>exact .di fn a b as bs ha hb
  |cL=>exact .cL
theorem vX {im:Im} {loc cq:Loc} {m:List Nat} {e:Env} {tmps:Array Value} (hm:Ren m loc cq) (he:ER im loc e tmps): ∀{live:List (Nat×Option Nat)} {nx:Nat} {e1:Env} {s2:bG},nG e m nx live=acl (e1,s2)->
 Kb s2/\((∀(j:Nat) (esz:Nat),s2[j]? =acl (.arr esz [])->cq (nx+j)=acl ⟨0,0,esz,0,0⟩)->ER im cq e1 tmps)
 | [],nx,e1,s2,h=>by simp only [nG,pp,v6] at h;obtain ⟨rfl,rfl⟩:=h;exact ⟨fun j k h=>by simp at h,fun _ t=> .undef _⟩
 |(s,k)::r,nx,e1,s2,h=>by
  have hs:=he s;simp only [nG] at h;split at h
  · rename_i esz e' pL
    rw [ut] at h;obtain ⟨⟨e2,s3⟩,h1,h2⟩:=h;simp only [v6] at h2;obtain ⟨rfl,rfl⟩:=h2;obtain ⟨g1,g2⟩:=vX hm he h1;refine ⟨fun j k hj=>?_,fun hl t=>?_⟩
    · cases j with
      |zero=>simp at hj;exact ⟨_,hj.symm⟩
      |succ j=>exact g1 j k (by simpa using hj)
    rw [nK]
    split
    · rename_i e;subst e
      rw [pL] at hs;generalize hg:tmps.getD s Go.undef=v at hs;cases hs with
      |sl _ _ _ a cap h1 h2 h3=>
      have:cap=0:=by simpa using h2 rfl
      subst this;exact .own nx esz 0 0 0 acr ⟨0,0,esz,0,0⟩ a 0 (by simpa using hl 0 esz rfl) rfl (wn _) (wn _) (wn _) (fun h=>by cases h) (.inl rfl)
    refine g2 (fun j ac1 hj=>?_) t
    have:=hl (j+1) ac1 (by simpa using hj);rw [show nx+1+j=nx+(j+1) by omega];exact this
  split at h
  · rename_i v' p h1 h2
    injection h with h;simp only [v6] at h;obtain ⟨rfl,rfl⟩:=h;obtain ⟨g1,g2⟩:=vX hm he (e1:=p.1) (s2:=p.2) h2;refine ⟨g1,fun hl t=>?_⟩;rw [nK];split
    · rename_i e;subst e
      exact (Lo hm hs h1).CO _
    exact g2 hl t
  cases h
theorem dk.setAt {im:Im} {loc:Loc} {x:PV}: ∀{xs:List PV} {vs:List Value} {c:Nat} {y:PV},dk im loc xs vs->xs[c]? =acl y->(∀v,VR im loc y v->VR im loc x v)->dk im loc (xs.set c x) vs
 | [],_,c,y,h,hc,_=>by simp at hc
 |z::zs,vs,c,y,h,hc,hx=>by
  cases h with
  |cons _ v _ us g1 g2=>
   cases c with
   |zero=>simp at hc;subst hc;exact .cons _ _ _ _ (hx v g1) g2
   |succ c=>exact .cons _ _ _ _ g1 (dk.setAt g2 (by simpa using hc) hx)
theorem Hk {im0 im:Im} {loc0 loc:Loc} {gr:bG} {w0 w:World} {nt:Nat} {st:St} {a:Act} (t c esz:Nat) (hk:ve im0 loc0 gr w0 st im loc w) (ha:ss im loc nt st a):
 ∃cq,ve im0 loc0 gr w0 (nH st t c esz) im cq w/\ss im cq nt (nH st t c esz) a:=by
 unfold nH;split
 · rename_i cs hb
   split
   · rename_i e hc
     have sr:=hk.kept.sr;have Zz: ∀u li,loc u=acl li->u<(ach st.aj):=fun u li h=>by obtain ⟨k,h1,_⟩:=sr.cB u li h;exact bM h1
     have hn:loc (ach st.aj)=acm:=by
      cases h:loc (ach st.aj) with
      |none=>rfl
      |some li=>exact absurd (Zz _ _ h) (Nat.lt_irrefl _)
     let cq:Loc:=fun u=>if u=(ach st.aj) then acl ⟨0,0,esz,0,0⟩ else loc u
     have iC:jm loc cq:=fun u li h=>by have:=Zz u li h;simp only [cq,show u≠(ach st.aj) by omega,if_false];exact h
     have back: ∀u li,cq u=acl li->u≠ach st.aj->loc u=acl li:=fun u li h hu=>by simpa only [cq,hu,if_false] using h
     have Kc:t<(ach st.aj):=bM hb;have get: ∀u,u<ach st.aj->(st.aj.set t (.box (cs.set c (.own (ach st.aj) esz 0 0 0 acr)))++[.arr esz []])[u]? =if t=u then acl (.box (cs.set c (.own (ach st.aj) esz 0 0 0 acr))) else st.aj[u]?:=fun u hu=>by
      rw [ww (by simpa using hu),abZ];split
      · rename_i e;subst e;simp
      rfl
     have ZA:(st.aj.set t (.box (cs.set c (.own (ach st.aj) esz 0 0 0 acr)))++[.arr esz []])[ach st.aj]? =acl (.arr esz []):=by rw [AC (by simp)];simp
     have ba: ∀(u:Nat) (k:gY),(st.aj.set t (.box (cs.set c (.own (ach st.aj) esz 0 0 0 acr)))++[.arr esz []])[u]? =acl k->k.ba=acn->u≠ach st.aj/\ ∃k0:gY,st.aj[u]? =acl k0/\k0.ba=acn:=by
      intro u k hu hs;have dA:=bM hu;simp only [ab5,aca,List.length_singleton] at dA;have dK:u≠(ach st.aj):=by intro e;subst e;rw [ZA] at hu;injection hu with hu;subst hu;cases hs
      refine ⟨dK,?_⟩;rw [get u (by omega)] at hu;split at hu
      · rename_i e;subst e;exact ⟨_,hb,rfl⟩
      exact ⟨k,hu,hs⟩
     refine ⟨cq,⟨⟨?_,hk.kept.eE,hk.kept.cD.trans iC,hk.kept.os,hk.kept.tape,hk.kept.output,hk.kept.size,hk.kept.frame,hk.kept.cI,fun u li h=>?_,fun u li k h hs jc=>?_⟩,hk.kn,?_,hk.dom⟩,⟨ha.env.mono (ky.refl _) iC,ha.defers,ha.GW⟩⟩
     · refine {
        aS:=sr.aS
        cB:=fun u li hl=>?_
        fx:=fun u u' li lj k k' hl jE hs qj jc CU hbk=>?_
        free:=fun u li k hl hs jc hz=>?_}
       · by_cases hu:u=ach st.aj
         · subst hu
           simp only [cq,if_true] at hl;injection hl with hl;subst hl;exact ⟨_,ZA,rfl,rfl,fun h=>absurd rfl h⟩
         have EV:=back u li hl hu
         obtain ⟨k,h1,h2⟩:=sr.cB u li EV;show∃k,(st.aj.set t (.box (cs.set c (.own (ach st.aj) esz 0 0 0 acr)))++[.arr esz []])[u]? =acl k/\BR im cq w li k;rw [get u (bM h1)];split
         · rename_i et;subst et
           rw [hb] at h1;injection h1 with h1;subst h1;obtain ⟨g1,g2,g3,vs,el,g4,g5,g6⟩:=h2;refine ⟨_,rfl,by simpa using g1,g2,g3,vs,el,g4,g5,(g6.mono (ky.refl _) iC).setAt hc fun v hv=>?_⟩;cases hv with
           |sl _ _ _ a' cap h1 h2 h3=>
           have:cap=0:=by simpa using h2 rfl
           subst this;exact .own _ esz 0 0 0 acr ⟨0,0,esz,0,0⟩ a' 0 (by simp only [cq,if_true]) rfl (wn _) (wn _) (wn _) (fun h=>by cases h) (.inl rfl)
         exact ⟨k,h1,h2.mono (ky.refl _) iC rfl⟩
       · obtain ⟨n1,k0,g1,g2⟩:=ba u k hs jc
         obtain ⟨n2,Zk,Zl,Si⟩:=ba u' k' qj CU;exact sr.fx u u' li lj k0 Zk (back _ _ hl n1) (back _ _ jE n2) g1 Zl g2 Si hbk
       obtain ⟨n1,k0,g1,g2⟩:=ba u k hs jc
       exact sr.free u li k0 (back _ _ hl n1) g1 g2 hz
     · by_cases hu:u=ach st.aj
       · right;have:=hk.len;omega
       exact hk.kept.jw u li (back u li h hu)
     · obtain ⟨n1,k0,g1,g2⟩:=ba u k hs jc
       exact hk.kept.own u li k0 (back _ _ h n1) g1 g2
     have:=hk.len
     show (ach gr)<=(st.aj.set t (.box (cs.set c (.own (ach st.aj) esz 0 0 0 acr)))++[gY.arr esz []]).length;simp only [ab5,aca];omega
   exact ⟨loc,hk,ha⟩
 exact ⟨loc,hk,ha⟩
theorem mQ {im0 im:Im} {loc0:Loc} {gr:bG} {w0 w:World} {nt:Nat} {a:Act}: ∀(live:List (Nat×Option Nat)) {st:St} {loc:Loc},ve im0 loc0 gr w0 st im loc w->ss im loc nt st a->
 ∃cq,ve im0 loc0 gr w0 (hZ live st) im cq w/\ss im cq nt (hZ live st) a
 | [],st,loc,hk,ha=>⟨loc,hk,ha⟩
 |(s,k)::r,st,loc,hk,ha=>by
  simp only [hZ];split
  · split
    · split
      · rename_i t _
        obtain ⟨cq,h1,h2⟩:=Hk t _ _ hk ha;exact mQ r h1 h2
      exact mQ r hk ha
    exact mQ r hk ha
  exact mQ r hk ha
theorem FJ {im0 im:Im} {loc0 loc:Loc} {gr:bG} {w0 w:World} {nt:Nat} {live:List (Nat×Option Nat)} {st lg:St} {a:Act} (h:Av live st=acl lg) (hk:ve im0 loc0 gr w0 st im loc w) (ha:ss im loc nt st a):
 ∃cq,ve im0 loc0 gr w0 lg im cq w/\ss im cq nt lg a:=by
 unfold Av at h;split at h
 · cases h
 rename_i m Tz
 split at h
 · rename_i s1 e1 s2 hs1 hlv
   injection h with h;subst h;refine (fun hh: ∃cq,ve im0 loc0 gr w0 {env:=e1,aj:=s1++s2,fz:=sR st.fz 0 m,kn:=st.kn} im cq w/\ss im cq nt {env:=e1,aj:=s1++s2,fz:=sR st.fz 0 m,kn:=st.kn} a=>
    let ⟨_,g1,g2⟩:=hh;mQ live g1 g2) ?_
   obtain ⟨⟨ml,Cp⟩,yC⟩:=A4 Tz;have yC:=yC (A5 _);obtain ⟨IH,DX⟩:=ym hs1;have ZB: ∀n,(qe n).length=n:=by
    intro n;induction n with
    |zero=>rfl
    |succ n ih=>simp [qe,ih]
   have hid: ∀t,t<st.kn->m[t]? =acl t:=by intro t ht;rw [Cp,ww (by rw [ZB];exact ht)];exact FH ht
   have agO:st.kn<=(ach m):=by rw [Cp];simp [ZB]
   let cq:Loc:=fun u=>if u<(ach m) then (match m[u]? with|some t=>loc t|none=>acm) else match s2[u-(ach m)]? with
    |some (.arr e [])=>acl ⟨0,0,e,0,0⟩
    |_=>acm
   have AV:Ren m loc cq:=by intro u t hu;have:=bM hu;simp only [cq,this,if_true,hu]
   obtain ⟨ac2,Yt⟩:=vX AV ha.env hlv;have old: ∀u li,cq u=acl li->u<ach m-> ∃t,m[u]? =acl t/\loc t=acl li:=by intro u li hl hu;have e:=pm hu;rw [AV u _ e] at hl;exact ⟨_,e,hl⟩
   have ZC: ∀u,u<ach m->(s1++s2)[u]? =s1[u]?:=fun u hu=>ww (by rw [IH];exact hu)
   have ZD: ∀u,¬u<ach m->(s1++s2)[u]? =s2[u-(ach m)]?:=fun u hu=>by rw [AC (by rw [IH];omega),IH]
   have uv: ∀(u:Nat) (k:gY),(s1++s2)[u]? =acl k->k.ba=acn->u<(ach m):=by
    intro u k hs jc;rcases UV u (ach m) with h|h
    · exact h
    rw [ZD u (by omega)] at hs
    obtain ⟨e,rfl⟩:=ac2 _ _ hs;cases jc
   have back: ∀(u:Nat) (k:gY),(s1++s2)[u]? =acl k-> ∀t,m[u]? =acl t-> ∃k0:gY,st.aj[t]? =acl k0/\k.ba=k0.ba:=by intro u k hs t ht;obtain ⟨k0,k',g1,g2,g3⟩:=DX u t ht;rw [ZC u (bM ht),g3] at hs;injection hs with hs;subst hs;exact ⟨k0,g1,wV g2⟩
   have sr:=hk.kept.sr;have TA:SR im cq (s1++s2) (sR st.fz 0 m) w:=by
    refine {
     aS:=sr.aS
     cB:=fun u li hl=>?_
     fx:=fun u u' li lj k k' hl jE hs qj jc CU hb=>?_
     free:=fun u li k hl hs jc hz=>?_}
    · by_cases hu:u<ach m
      · obtain ⟨t,ht,dA⟩:=old u li hl hu
        obtain ⟨k0,h1,h2⟩:=sr.cB t li dA;obtain ⟨k1,k',g1,g2,g3⟩:=DX u t ht;rw [h1] at g1;injection g1 with g1;subst g1;exact ⟨k',by rw [ZC u hu];exact g3,CQ AV g2 h2⟩
      simp only [cq,hu,if_false] at hl
      split at hl
      · rename_i e he
        injection hl with hl;subst hl;exact ⟨.arr e [],by rw [ZD u hu];exact he,rfl,rfl,fun h=>absurd rfl h⟩
      cases hl
    · have hu:=uv u k hs jc
      have yd:=uv u' k' qj CU;obtain ⟨t,ht,dA⟩:=old u li hl hu;obtain ⟨t',IX,FE⟩:=old u' lj jE yd;obtain ⟨k0,g1,g2⟩:=back u k hs t ht;obtain ⟨Zk,Zl,Si⟩:=back u' k' qj t' IX;have:=sr.fx t t' li lj k0 Zk dA FE g1 Zl (by rw [<- g2];exact jc) (by rw [<- Si];exact CU) hb;subst this;have pw:=abD.1 yC;have e1:=(v4.1 ht).2;have e2:=(v4.1 IX).2;rcases IR u u' with h|h|h
      · exact absurd (e1.trans e2.symm) (pw u u' hu yd h)
      · exact h
      exact absurd (e2.trans e1.symm) (pw u' u yd hu h)
    have hu:=uv u k hs jc
    obtain ⟨t,ht,dA⟩:=old u li hl hu;obtain ⟨k0,g1,g2⟩:=back u k hs t ht;refine sr.free t li k0 dA g1 (by rw [<- g2];exact jc) (gO.2 ?_);exact FG (i0:=0) ht (by have:=gO.1 hz;simpa using this)
   refine ⟨cq,⟨⟨TA,hk.kept.eE,fun t li hl=>?_,hk.kept.os,hk.kept.tape,hk.kept.output,hk.kept.size,hk.kept.frame,hk.kept.cI,fun t li hl=>?_,fun u li k hl hs jc=>?_⟩,hk.kn,?_,hk.dom⟩,
    ⟨Yt fun j esz hj=>?_,ha.defers,ha.GW⟩⟩
   · have h1:=hk.kept.cD t li hl
     have ht:t<st.kn:=by rw [hk.kn];exact hk.dom t li hl
     rw [AV t t (hid t ht)];exact h1
   · rcases UV t st.kn with ht|ht
     · rw [AV t t (hid t ht)] at hl
       exact hk.kept.jw t li hl
     right;rw [hk.kn] at ht;exact ht
   · have hu:=uv u k hs jc
     obtain ⟨t,ht,dA⟩:=old u li hl hu;obtain ⟨k0,g1,g2⟩:=back u k hs t ht;exact hk.kept.own t li k0 dA g1 (by rw [<- g2];exact jc)
   · rw [<- hk.kn]
     simp only [ab5];omega
   simp only [cq,show¬ach m+j<(ach m) by omega,if_false,show (ach m)+j-(ach m)=j by omega,hj]
 exact (by cases h)
theorem OQ {im0 im:Im} {loc0 loc:Loc} {gr:bG} {w0 w:World} {nt:Nat} {live:List (Nat×Option Nat)} {st lg:St} {a:Act} (h:norm live st=acl lg) (hk:ve im0 loc0 gr w0 st im loc w) (ha:ss im loc nt st a):
 ∃cq,ve im0 loc0 gr w0 lg im cq w/\ss im cq nt lg a:=by
 unfold norm at h;cases h1:Av live st with
 |none=>rw [h1] at h;cases h
 |some s=>
  rw [h1] at h;dsimp only at h;obtain ⟨cq,fL,o6⟩:=FJ h1 hk ha;split at h
  · exact FJ h fL o6
  injection h with h
  subst h;exact ⟨cq,fL,o6⟩
end Go.Vm
/- The code of a function; what it returns. -/
namespace Go.Vm
def eQ (P:Program) (prims:FuncId->Bool) (nt:Nat):gC->Code->Bool
 | .skip,.skip=>acn
 | .region d ops _,.region _ fX flag=>yF P prims nt d ops fX flag
 | .seq a b,.seq c d=>eQ P prims nt a c&&eQ P prims nt b d
 | .cond c a b,.cond c' a' b'=>aQ c c'&&eQ P prims nt a a'&&eQ P prims nt b b'
 | .block id b,.block id' b'=>id==id'&&eQ P prims nt b b'
 | .loop _ b,.loop b'=>eQ P prims nt b b'
 | .exit id,.exit id'=>id==id'
 | .ret,.ret=>acn
 |_,_=>acr
def fj.out:fj->Exit
 | .normal=> .normal
 | .exit id=> .exit id
 | .ret=> .ret
section
variable {P : Program} {F : jl} {rec : Task -> Option Out} {im0 : Im} {loc0 : Loc} {gr : bG} {w0 : World} {nt : Nat} {prims : FuncId -> Bool}
structure At (im0:Im) (loc0:Loc) (gr:bG) (w0:World) (nt:Nat) (st:St) (a:Act) (w:World):Prop where
 ex: ∃im loc,ve im0 loc0 gr w0 st im loc w/\ss im loc nt st a
def yG (P : Program) (prims : FuncId -> Bool) (rec : Task -> Option Out) : Prop :=
  ∀ (live : List (Nat × Option Nat)) (x : gC) (st : St) (e : fj) (iq : St), rec (.loop live x st) = acl (.code e iq) ->
    ∀ (c : Code) (nt : Nat) (im0 : Im) (loc0 : Loc) (gr : bG) (w0 : World) (a : Act) (w : World), eQ P prims nt x c = acn -> At im0 loc0 gr w0 nt st a w ->
      ∀ (b : Frame) (k : List Item) (cs : List Frame), ∃ a' w', At im0 loc0 gr w0 nt iq a' w' /\ Arrives P (lone (b.at a (.code c :: .inLoop c :: k)) cs w) b k cs e.out a' w'
theorem ib (hE:D2 P F rec) (hL:yG P prims rec) (mP:P.follows .mixedOrders=acn): ∀(x:gC) (c:Code) (st:St) (e:fj) (iq:St),eQ P prims nt x c=acn->oR F rec x st=acl (e,iq)->
 ∀(a:Act) (w:World),At im0 loc0 gr w0 nt st a w-> ∀(Q:Exit->Act->World->Prop),(∀a' w',At im0 loc0 gr w0 nt iq a' w'->Q e.out a' w')->c.wp P Q a w
 | .skip,c,st,e,iq,hc,fN,a,w,ha,Q,hQ=>by
  cases c<;>simp only [eQ,EQ] at hc
  simp only [oR,pp,v6] at fN;obtain ⟨rfl,rfl⟩:=fN;exact wp_skip (hQ _ _ ha)
 | .region d ops eg,c,st,e,iq,hc,fN,a,w,ha,Q,hQ=>by
  cases c<;>simp only [eQ,EQ] at hc
  simp only [oR,ut] at fN;obtain ⟨lg,fN,h⟩:=fN;simp only [v6] at h;obtain ⟨rfl,rfl⟩:=h;obtain ⟨im,loc,hk,A6⟩:=ha.ex;refine Hj hE mP hc fN hk.kept.sr A6 fun cS aP a' w' IY EX=>hQ a' w' ⟨cS,aP,?_,EX⟩
  obtain ⟨h1,h2⟩:=D3 fN;exact ⟨hk.kept.trans IY hk.len,by rw [h1];exact hk.kn,M2 hk.len h2,hk.dom⟩
 | .seq x y,c,st,e,iq,hc,fN,a,w,ha,Q,hQ=>by
  cases c<;>simp only [eQ,EQ,rc] at hc
  obtain ⟨h1,h2⟩:=hc;simp only [oR] at fN;refine wp_seq ?_;cases hx:oR F rec x st with
  |none=>rw [hx] at fN;cases fN
  |some q=>
   obtain ⟨e1,lg⟩:=q;rw [hx] at fN;refine ib hE hL mP x _ st e1 lg h1 hx a w ha _ fun a' w' EX=>?_
   cases e1 with
   |normal=>exact ib hE hL mP y _ lg e iq h2 fN a' w' EX Q hQ
   |exit id=>simp only [pp,v6] at fN;obtain ⟨rfl,rfl⟩:=fN;exact hQ a' w' EX
   |ret=>simp only [pp,v6] at fN;obtain ⟨rfl,rfl⟩:=fN;exact hQ a' w' EX
 | .cond cc x y,c,st,e,iq,hc,fN,a,w,ha,Q,hQ=>by
  cases c<;>simp only [eQ,EQ,rc] at hc
  obtain ⟨⟨h0,h1⟩,h2⟩:=hc;obtain ⟨im,loc,hk,A6⟩:=ha.ex;have hv:=Hi (a:=a) (e:=st.env) cc (fun t _=>A6.env t) _ h0;simp only [oR] at fN;split at fN
  · rename_i hb
    rw [hb] at hv;exact wp_cond_true hv.gN (ib hE hL mP x _ st e iq h1 fN a w ha Q hQ)
  · rename_i hb
    rw [hb] at hv;exact wp_cond_false hv.gN (ib hE hL mP y _ st e iq h2 fN a w ha Q hQ)
  cases fN
 | .block id x,c,st,e,iq,hc,fN,a,w,ha,Q,hQ=>by
  cases c<;>simp only [eQ,EQ,rc,beq_iff_eq] at hc
  obtain ⟨rfl,h1⟩:=hc;refine wp_block ?_;simp only [oR] at fN;cases hx:oR F rec x st with
  |none=>rw [hx] at fN;cases fN
  |some q=>
   obtain ⟨e1,lg⟩:=q;rw [hx] at fN;refine ib hE hL mP x _ st e1 lg h1 hx a w ha _ fun a' w' EX=>?_
   cases e1 with
   |normal=>simp only [pp,v6] at fN;obtain ⟨rfl,rfl⟩:=fN;exact hQ a' w' EX
   |ret=>simp only [pp,v6] at fN;obtain ⟨rfl,rfl⟩:=fN;exact hQ a' w' EX
   |exit j=>
    dsimp only at fN;simp only [fj.out,Exit.inBlock];split at fN
    · rename_i hj
      have:j=id:=by simpa using hj
      simp only [pp,v6] at fN;obtain ⟨rfl,rfl⟩:=fN;rw [ol this];exact hQ a' w' EX
    rename_i hj
    have:j≠id:=by simpa using hj
    simp only [pp,v6] at fN;obtain ⟨rfl,rfl⟩:=fN;rw [pi this];exact hQ a' w' EX
 | .loop live x,c,st,e,iq,hc,fN,a,w,ha,Q,hQ=>by
  cases c<;>simp only [eQ,EQ] at hc
  simp only [oR] at fN;split at fN
  · rename_i e1 lg hr
    simp only [pp,v6] at fN;obtain ⟨rfl,rfl⟩:=fN;intro b k cs;obtain ⟨a',w',h1,h2⟩:=hL live x st _ _ hr _ nt im0 loc0 gr w0 a w hc ha b k cs;exact ⟨_,a',w',hQ a' w' h1,.of_steps (.one step_loop) h2⟩
  cases fN
 | .exit id,c,st,e,iq,hc,fN,a,w,ha,Q,hQ=>by
  cases c<;>simp only [eQ,EQ,beq_iff_eq] at hc
  subst hc;simp only [oR,pp,v6] at fN;obtain ⟨rfl,rfl⟩:=fN;exact wp_exit (hQ _ _ ha)
 | .ret,c,st,e,iq,hc,fN,a,w,ha,Q,hQ=>by
  cases c<;>simp only [eQ,EQ] at hc
  simp only [oR,pp,v6] at fN;obtain ⟨rfl,rfl⟩:=fN;exact wp_ret (hQ _ _ ha)
theorem Ke (hE:D2 P F rec) (hL:yG P prims rec) (mP:P.follows .mixedOrders=acn):yG P prims (step F rec):=by
 intro live x st e iq h c nt im0 loc0 gr w0 a w hc ha b k cs;simp only [step] at h;cases hn:norm live st with
 |none=>rw [hn] at h;cases h
 |some lg=>
  rw [hn] at h;dsimp only at h;obtain ⟨im,loc,hk,A6⟩:=ha.ex;obtain ⟨cq,fL,o6⟩:=OQ hn hk A6;have cm:At im0 loc0 gr w0 nt lg a w:=⟨im,cq,fL,o6⟩;cases hx:oR F rec x lg with
  |none=>rw [hx] at h;cases h
  |some q=>
   obtain ⟨e1,sg⟩:=q;rw [hx] at h;have hw:=ib hE hL mP x c lg e1 sg hc hx a w cm (fun e' a' w'=>e'=e1.out/\At im0 loc0 gr w0 nt sg a' w') fun a' w' h=>⟨rfl,h⟩
   obtain ⟨e',a1,w1,⟨rfl,hq⟩,Cy⟩:=hw b (.inLoop c::k) cs;cases e1 with
   |normal=>dsimp only at h;obtain ⟨a',w',h1,h2⟩:=hL live x sg e iq h c nt im0 loc0 gr w0 a1 w1 hc hq b k cs;exact ⟨a',w',h1,.of_steps (Steps.trans Cy (.one step_inLoop)) h2⟩
   |exit id=>simp only [pp,Out.code.injEq] at h;obtain ⟨rfl,rfl⟩:=h;exact ⟨a1,w1,hq,.pass (x:= .inLoop c) rfl (fun _ _=> .inl (by simp [fj.out])) Cy⟩
   |ret=>simp only [pp,Out.code.injEq] at h;obtain ⟨rfl,rfl⟩:=h;exact ⟨a1,w1,hq,.pass (x:= .inLoop c) rfl (fun _ _=> .inl (by simp [fj.out])) Cy⟩
def lF (P:Program):List RV->List ResultVar->Bool
 | [],[]=>acn
 | .tmp t::r,.tmp t'::s=>t==t'&&lF P r s
 | .cell t agg::r,.cell t' ty::s=>t==t'&&wU P ty agg&&lF P r s
 |_,_=>acr
def Hl (tmps:Array Value):ResultVar->Sem Value
 | .tmp t=>pure (tmps.getD t undef)
 | .cell a t=>do loadVar t (<- asAddr (tmps.getD a undef))
theorem Kf {im:Im} {loc:Loc} {aj:bG} {agg:Option Nat} {p:PV} {u:Value} {r:kr} (hp:VR im loc p u) (h:lz aj agg p=acl r): ∃ad,u= .pointer (acl ad):=by cases hp<;>first|(simp [lz] at h;done)|exact ⟨_,rfl⟩
theorem SR.known {im:Im} {loc:Loc} {aj:bG} {fz:List Nat} {w:World} (h:SR im loc aj fz w) {r:kr} (hn:r.news=[]) (hw:r.wr=[]):gE im loc aj w r where
 aS:=h.aS
 tok:=fun t _ li hl=>h.cB t li hl
 free:=fun t k hm=>by rw [hw] at hm;cases hm
 fresh:=fun j hj=>by rw [hn] at hj;simp at hj
 fx:=fun t u li lj k k' _ _=>h.fx t u li lj k k'
theorem Hm {aj:bG} {agg:Option Nat} {p:PV} {r:kr} (h:lz aj agg p=acl r):r.news=[]/\r.wr=[]:=by
 unfold lz at h;split at h
 · split at h
   · split at h
     · rw [ut] at h;obtain ⟨_,_,rfl⟩:=h;exact ⟨rfl,rfl⟩
     cases h
   · split at h
     · rw [ut] at h;obtain ⟨_,_,rfl⟩:=h;exact ⟨rfl,rfl⟩
     cases h
   cases h
 · rw [ut] at h;obtain ⟨_,_,rfl⟩:=h;exact ⟨rfl,rfl⟩
 cases h
theorem L9 {im : Im} {loc : Loc} {st : St} {a : Act} {w : World} (gq : SR im loc st.aj st.fz w) (ha : ER im loc st.env a.tmps) : ∀ {rs : List RV} {vs : List PV} {os : List ResultVar}, lF P rs os = acn -> kx st rs = acl vs ->
    ∃ us, (os.mapM (Hl a.tmps)).run P w = .ok us w /\ dk im loc vs us
  | [], vs, os, hc, h => by
    cases os <;> simp only [lF, EQ] at hc
    simp only [kx, pp] at h; subst h
    exact ⟨[], by simp, .nil⟩
  | r :: rs, vs, [], hc, h => by cases r <;> simp [lF] at hc
  | r :: rs, vs, o :: os, hc, h => by
    simp only [kx] at h
    split at h
    · rename_i v GU h1 h2
      injection h with h; subst h
      have wX : ∃ u, (Hl a.tmps o).run P w = .ok u w /\ VR im loc v u /\ lF P rs os = acn := by
        cases r with
        | tmp t =>
          cases o with
          | tmp t' =>
            simp only [lF, rc, beq_iff_eq] at hc
            obtain ⟨rfl, hc⟩ := hc
            simp only [Ay, pp] at h1; subst h1
            exact ⟨_, rfl, ha t, hc⟩
          | cell _ _ => simp [lF] at hc
        | cell t agg =>
          cases o with
          | tmp t' => simp [lF] at hc
          | cell t' ty =>
            simp only [lF, rc, beq_iff_eq] at hc
            obtain ⟨⟨rfl, Zc⟩, hc⟩ := hc
            simp only [Ay, ut] at h1
            obtain ⟨rr, h3, rfl⟩ := h1
            obtain ⟨g1, g2⟩ := Hm h3
            obtain ⟨u, bu, lh, _⟩ := Fb (P := P) (ha t) Zc h3 (gq.known g1 g2)
            obtain ⟨ad, Yv⟩ := Kf (ha t) h3
            refine ⟨u, ?_, lh, hc⟩
            simp only [Hl, Yv, asAddr]
            rw [Yv] at bu
            simpa [Instr.loadAt, Instr.sureAddr] using bu
      obtain ⟨u, hu, lh, hc⟩ := wX
      obtain ⟨us, sq, ac4⟩ := L9 gq ha hc h2
      refine ⟨u :: us, ?_, .cons _ _ _ _ lh ac4⟩
      rw [List.mapM_cons]
      simp only [abk, hu, abG, sq, acg]
    cases h
theorem A7 {im:Im} {loc:Loc} {st:St} {a:Act} {w:World} {fn:Func} (gq:SR im loc st.aj st.fz w) (ha:ER im loc st.env a.tmps) {rs:List RV} {vs:List PV} (hc:lF P rs fn.results.toList=acn) (h:kx st rs=acl vs):
 ∃u,(results fn a.tmps).run P w= .ok u w/\VR im loc (results1 vs) u:=by
 obtain ⟨us,h1,h2⟩:=L9 (P:=P) gq ha hc h;have e:fn.results.mapM (Hl a.tmps)=List.toArray<$>fn.results.toList.mapM (Hl a.tmps):=Array.mapM_eq_mapM_toList;have h3:(fn.results.mapM (Hl a.tmps)).run P w= .ok us.toArray w:=by rw [e];rw [map_eq_pure_bind,abk,h1];rfl
 have xi:results fn a.tmps=(do let vs <- fn.results.mapM (Hl a.tmps);pure (if h:vs.size=1 then vs[0] else .tuple vs)):=by
  unfold results
  congr 1
 rw [xi];simp only [abk,h3,abG,acg];refine ⟨_,rfl,?_⟩;cases h2 with
 |nil=>exact .bH _ _ .nil
 |cons x u xs us g2 g3=>
  cases g3 with
  |nil=>exact g2
  |cons y v ys vs g4 g5=>exact .bH _ _ (.cons _ _ _ _ g2 (.cons _ _ _ _ g4 g5))
end
end Go.Vm
/- What the logical machine answers, the model answers. -/
namespace Go.Vm
def aq (P:Program) (prims:FuncId->Bool) (x:aG) (f:FuncId):Bool:=
 match P.funcs[f]? with
 |some fn=>!(fn.name== "runtime.NumGoroutine")&&abF x.zn fn.ntmps&&lF P x.res fn.results.toList&&(match fn.body with|some c=>eQ P prims fn.ntmps x.code c|none=>acr)
 |none=>acr
section
variable {P : Program} {F : jl} {rec : Task -> Option Out} {prims : FuncId -> Bool}
def FK (P:Program) (prims:FuncId->Bool) (F:jl):Prop:= ∀f x,F f=acl (.code x)->aq P prims x f=acn
theorem FL: ∀(args:List PV) (i t:Nat),lk t (qh i args)=if i<=t then (args[t-i]?).getD .undef else .undef
 | [],i,t=>by simp [qh,lk]
 |v::r,i,t=>by
  simp only [qh,nK];rw [FL r (i+1) t]
  by_cases h:i=t
  · subst h;simp
  rw [pi h]
  by_cases h2:i<=t
  · rw [ol h2,ol (by omega)]
    have:t-i=(t- (i+1))+1:=by omega
    rw [this];simp
  rw [pi h2,pi (by omega)]
theorem CY {im:Im} {loc:Loc} {args:List PV} {us:List Value} (h:dk im loc args us) (n:Nat):ER im loc (qh 0 args) ((⟨us⟩:Array Value)++ab3 n Go.undef):=by
 intro t;rw [FL];simp only [aa7,if_true,Nat.sub_zero];cases ha:args[t]? with
 |none=>exact .undef _
 |some x=>
  obtain ⟨v,hv,hr⟩:=h.get t x ha;have:((⟨us⟩:Array Value)++ab3 n Go.undef).getD t Go.undef=v:=by have dA:=bM hv;simp only [PP];rw [Array.getElem?_append_left (by simpa using dA)];simp [hv]
  rw [this];exact hr
theorem dP {f:FuncId} {fn:Func} {c:Code} {us:Array Value} {w:World} (hf:P.funcs[f]? =acl fn) (hn:(fn.name== "runtime.NumGoroutine")=acr) (hb:fn.body=acl c):(callFunc f us).run P w= .ok (.enter f us) w:=by
 unfold callFunc;have hn: ¬fn.name= "runtime.NumGoroutine" :=by simpa using hn
 simp [abk,hf,hn,hb]
theorem Kg (hE:D2 P F rec) (hL:yG P prims rec) (hT:FK P prims F) (mP:P.follows .mixedOrders=acn):yA P (step F rec):=by
 intro f args aj fz v qV EW h im loc w us gq sq;simp only [step] at h;split at h
 · rename_i x hF
   have hc:=hT f x hF;unfold aq at hc;cases hf:P.funcs[f]? with
   |none=>rw [hf] at hc;cases hc
   |some fn=>
    rw [hf] at hc;simp only [rc,If] at hc;obtain ⟨⟨⟨jX,hna⟩,xi⟩,iM⟩:=hc;cases hb:fn.body with
    |none=>rw [hb] at iM;cases iM
    |some c=>
     rw [hb] at iM;dsimp only at iM;refine .inr ⟨dP hf jX hb,calls_of_wp hf hb ?_⟩;split at h
     · rename_i bI
       have bI:(ach args)=x.zn:=by simpa using bI
       have hna:x.zn<=fn.ntmps:=by simpa using hna
       have aih:=sq.jr
       let Yw:St:={env:=qh 0 args,aj,fz,kn:=ach aj}
       let a0:Act:={tmps:=(⟨us⟩:Array Value)++ab3 (fn.ntmps- (⟨us⟩:Array Value).size) Go.undef,defers:=[]}
       have cm:At im loc aj w fn.ntmps Yw a0 w:=by
        refine ⟨im,loc,⟨⟨gq,.refl _,.refl _,rfl,.refl _,rfl,wn _,fun _ _ _=>rfl,fun _ _ h=> .inl h,fun _ _ h=> .inl h,fun t li k hl hs jc=> .inr ⟨t,li,k,hl,hs,jc,rfl⟩⟩,rfl,wn _,fun t li hl=>?_⟩,⟨CY sq _,rfl,?_⟩⟩
        · obtain ⟨k,hk,_⟩:=gq.cB t li hl
          exact bM hk
        simp only [a0,ac3,abP]
        show (ach us)+_=_;have:(⟨us⟩:Array Value).size=(ach us):=rfl;rw [this];omega
       have fin: ∀(st:St),(kx st x.res).map (fun vs=>Out.func (results1 vs) st.aj st.fz)=acl (.func v qV EW)-> ∀a' w',At im loc aj w fn.ntmps st a' w'->
        a'.defers=[]/\ ∃u,(results fn a'.tmps).run P w'= .ok u w'/\ ∃v',Ending.returned u= .returned v'/\ ∃cS aP,oj im loc aj w v qV EW cS aP w' v':=by
        intro st bw a' w' cm
        obtain ⟨cS,aP,hk,A6⟩:=cm.ex;rw [ut] at bw;obtain ⟨vs,Og,he⟩:=bw;simp only [Out.func.injEq] at he;obtain ⟨rfl,rfl,rfl⟩:=he;obtain ⟨u,hu,lh⟩:=A7 (P:=P) (fn:=fn) hk.kept.sr A6.env xi Og;have K:=hk.kept;exact ⟨A6.defers,u,hu,u,rfl,cS,aP,⟨K.eE,K.cD,lh,K.sr,K.os,K.tape,K.output,K.size,K.frame,K.cI,K.jw,K.own⟩⟩
       split at h
       · rename_i st fN
         exact ib hE hL mP x.code c Yw .normal st iM fN a0 w cm _ fun a' w' TB=>fin st h a' w' TB
       · rename_i st fN
         exact ib hE hL mP x.code c Yw .ret st iM fN a0 w cm _ fun a' w' TB=>fin st h a' w' TB
       cases h
     cases h
 · rename_i p hF
   obtain ⟨fn,c,hf,jX,hb,key⟩:=hE.fb.2 f p hF;rw [ut] at h;obtain ⟨⟨v1,s1,z1⟩,hp,he⟩:=h;simp only [Out.func.injEq] at he;obtain ⟨rfl,rfl,rfl⟩:=he;exact key args aj fz _ _ _ hp im loc w us gq sq
 cases h
theorem So (hT:FK P prims F) (xa:uo P F) (mP:P.follows .mixedOrders=acn): ∀n,yA P (run F n)/\yG P prims (run F n)
 |0=>⟨fun f args aj fz v qV EW h=>by simp [run] at h,fun live x st e iq h=>by simp [run] at h⟩
 |n+1=>by obtain ⟨h1,h2⟩:=So hT xa mP n;have hE:D2 P F (run F n):=⟨h1,xa⟩;exact ⟨Kg hE h2 hT mP,Ke hE h2 mP⟩
theorem Kh (hT:FK P prims F) (xa:uo P F) (mP:P.follows .mixedOrders=acn) {n:Nat} {f:FuncId} {args:List PV} {v:PV} {qV:bG} {EW:List Nat} (h:run F n (.func f args [] [])=acl (.func v qV EW))
 {im:Im} {w:World} {us:List Value} (OF: ∀b o,im b=acl o->w.heap[b]? =acl o) (sq:dk im cX args us):
 Calls P f ⟨us⟩ w fun e w'=> ∃u,e= .returned u/\(∃cS aP,VR cS aP v u/\SR cS aP qV EW w')/\w'.os=w.os/\Tape w w'/\w'.output=w.output/\w.heap.size<=w'.heap.size/\ ∀b,b<w.heap.size->w'.heap[b]? =w.heap[b]?:=by
 have key:=(So hT xa mP n).1 f args [] [] v qV EW h im cX w us (SR.empty OF) sq;rcases key with ⟨u,w',h1,h2⟩|⟨h1,h2⟩
 · exfalso
   cases n with
   |zero=>simp [run] at h
   |succ n=>
    have h:step F (run F n) (.func f args [] [])=acl (.func v qV EW):=h;simp only [step] at h;split at h
    · rename_i x hF
      have hc:=hT f x hF;unfold aq at hc;cases hf:P.funcs[f]? with
      |none=>rw [hf] at hc;cases hc
      |some fn=>
       rw [hf] at hc;simp only [rc,If] at hc;cases hb:fn.body with
       |none=>rw [hb] at hc;exact absurd hc.2 (by simp)
       |some c=>rw [dP hf hc.1.1.1 hb] at h1;cases h1
    · rename_i p hF
      obtain ⟨fn,c,hf,jX,hb,key⟩:=xa.2 f p hF;rw [dP hf jX hb] at h1;cases h1
    cases h
 refine h2.mono fun e w' ⟨u,he,cS,aP,hp⟩=>⟨u,he,⟨cS,aP,hp.vr,hp.sr⟩,hp.os,hp.tape,hp.output,hp.size,fun b hb=>hp.frame b hb fun t li k hl=>by cases hl⟩
end
end Go.Vm
/- Functions that are known without their code: math/bits.Add64 and Sub64, slices.Clone. -/
namespace Go.Vm
section
variable {P : Program}
theorem Hn {im:Im} {w:World} {v:PV} {u:Value} (gq:SR im cX [] [] w) (hv:VR im cX v u):oj im cX [] w v [] [] im cX w u where
 eE:= .refl _
 cD:= .refl _
 vr:=hv
 sr:=gq
 os:=rfl
 tape:= .refl _
 output:=rfl
 size:=wn _
 frame:=fun _ _ _=>rfl
 cI:=fun _ _ h=> .inl h
 jw:=fun _ _ h=> .inl h
 own:=fun t li k h=>by cases h
theorem Ho {im:Im} {loc:Loc} {k1 k2 k3:IntKind} {a b c:Int} {us:List Value} (h:dk im loc [.int k1 a,.int k2 b,.int k3 c] us):us=[.int k1 a,.int k2 b,.int k3 c]:=by
 cases h with
 |cons _ _ _ _ h1 h=>
  cases h with
  |cons _ _ _ _ h2 h=>
   cases h with
   |cons _ _ _ _ h3 h=>cases h;rw [h1.ec,h2.ec,h3.ec]
theorem Hp {f:FuncId} {fn:Func} (hf:P.funcs[f]? =acl fn) (jX:(fn.name== "runtime.NumGoroutine")=acr) (hb:fn.body.isNone=acn) (hn:Extern.findNext fn=acm) (he:Extern.find fn=acl add64Entry):nm P f vK:=by
 intro args v news hp im w us gq sq;unfold vK at hp;split at hp
 · rename_i a b c
   split at hp
   · rename_i hc
     have hc:c<=1:=by simpa using hc
     simp only [pp,v6] at hp;obtain ⟨rfl,rfl⟩:=hp;obtain rfl:=Ho sq;refine .inl ⟨_,w,?_,im,cX,Hn gq (.bH _ [.int .u64 (((a:Int)+b+c)%18446744073709551616),.int .u64 (((a:Int)+b+c) / 18446744073709551616)] (.cons _ _ _ _ ?_ (.cons _ _ _ _ ?_ .nil)))⟩
     · rw [run_callFunc_extern hf jX hb hn he]
       have:=run_add64 (P:=P) (a:Int) b c (by omega) (by omega) (by omega) (by omega) w;simp only [ab8];rw [this];rfl
     · have:acf ((a+b+c)%18446744073709551616)=((a:Int)+b+c)%18446744073709551616:=by
        simp only [ab8];omega
       rw [this];exact .int _ _
     have:acf ((a+b+c) / 18446744073709551616)=((a:Int)+b+c) / 18446744073709551616:=by
      simp only [ab8];omega
     rw [this];exact .int _ _
   cases hp
 cases hp
def xcA (esz:Nat):gC:= .region acm [⟨acl 2,.Lc (.c (.sl esz acn [])),acm⟩] [0]
def xcN (esz:Nat):gC:= .seq (.region acm [⟨acl 2,.Lc (.c (.sl esz acn [])),acm⟩] [2]) .ret
def xcC (esz:Nat) (zero:Row):gC:= .seq (.region acm [⟨acl 5,.wR esz 0 zero [],acm⟩,⟨acl 6,.Lc (.t 0),acm⟩,⟨acl 7,.append esz (.t 5) (.t 6),acm⟩,⟨acl 2,.Lc (.t 7),acm⟩] [2]) .ret
def L' (P:Program) (o:Oper):Bool:=
 o.guard.isNone&&o.dst==acl 4&&(match o.op with
  | .binOp .eql t x (.const (.slice acm 0 0)) _=>aQ (.t 3) x&&oc P t
  |_=>acr)
def FM (P:Program) (esz:Nat) (zero:Row) (f:FuncId):Bool:=
 match P.funcs[f]? with
 |some fn=>!(fn.name== "runtime.NumGoroutine")&&abU 7 fn.ntmps&&lF P [.tmp 2] fn.results.toList&&(match fn.body with
  |some (.seq a (.seq (.seq (.region _ ops acr) (.cond c n .skip)) r))=>
   eQ P (fun _=>acn) fn.ntmps (xcA esz) a&&eQ P (fun _=>acn) fn.ntmps (xcN esz) n&&eQ P (fun _=>acn) fn.ntmps (xcC esz zero) r&&aQ (.t 4) c&&
    (match ops.toList with
    | [o1,o2]=>nL P (fun _=>acn) fn.ntmps ops ⟨acl 3,.Lc (.t 0),acm⟩ o1&&L' P o2
    |_=>acr)
  |_=>acr)
 |none=>acr
theorem OR:D2 P (fun _=>acm) (fun _=>acm):=⟨(fun _ _args _sto _fz _v _sto' _fz' h=>by cases h),⟨(fun _ _k _p h=>by cases h),(fun _ _p h=>by cases h)⟩⟩
theorem IZ {prims:FuncId->Bool}:yG P prims (fun _=>acm):=fun _ _x _st _e _st' h=>by cases h
theorem jJ (mP:P.follows .mixedOrders=acn) {esz:Nat} {zero:Row} {f:FuncId} (hc:FM P esz zero f=acn):nm P f (dJ esz):=by
 intro args v news hp im w us gq sq;unfold FM at hc;cases hf:P.funcs[f]? with
 |none=>rw [hf] at hc;cases hc
 |some fn=>
  rw [hf] at hc;simp only [rc,If] at hc;obtain ⟨⟨⟨jX,Zt⟩,xi⟩,iM⟩:=hc;have Zt:7<fn.ntmps:=by simpa using Zt
  split at iM
  · rename_i ca id ops cc cn cr hb
    simp only [rc] at iM;obtain ⟨⟨⟨⟨hA,hN⟩,hC⟩,IF⟩,Ka⟩:=iM;split at Ka
    · rename_i o1 o2 hl
      simp only [rc] at Ka;obtain ⟨ho1,Yx⟩:=Ka;have ac6: ∃e c rows,args=[.sl e c rows]:=by
       unfold dJ at hp;split at hp
       · exact ⟨_,_,_,rfl⟩
       cases hp
      obtain ⟨e,cl,rows,rfl⟩:=ac6;obtain ⟨u,rfl⟩: ∃u,us=[u]:=by
       cases sq with
       |cons _ u _ us h1 h2=>cases h2;exact ⟨u,rfl⟩
      refine .inr ⟨dP hf jX hb,calls_of_wp hf hb ?_⟩
      let Yw:St:={env:=[(0,.sl e cl rows)],aj:=[],fz:=[],kn:=0}
      let a0:Act:={tmps:=(⟨[u]⟩:Array Value)++ab3 (fn.ntmps- (⟨[u]⟩:Array Value).size) Go.undef,defers:=[]}
      have ac7:At im cX [] w fn.ntmps Yw a0 w:=by refine ⟨im,cX,⟨⟨gq,.refl _,.refl _,rfl,.refl _,rfl,wn _,fun _ _ _=>rfl,fun _ _ h=> .inl h,fun _ _ h=> .inl h,fun t li k hl=>by cases hl⟩,rfl,wn _,fun t li hl=>by cases hl⟩,⟨CY sq _,rfl,?_⟩⟩;simp only [a0,ac3,abP];show 1+(fn.ntmps-1)=_;omega
      have fin: ∀(st:St) (v':PV),lk 2 st.env=v'-> ∀a' w',At im cX [] w fn.ntmps st a' w'->
       a'.defers=[]/\ ∃u,(results fn a'.tmps).run P w'= .ok u w'/\ ∃v'':Value,Ending.returned u= .returned v''/\ ∃cS aP,oj im cX [] w v' st.aj st.fz cS aP w' v'':=by
       intro st v' hv' a' w' cm
       obtain ⟨cS,aP,hk,A6⟩:=cm.ex;obtain ⟨u,hu,lh⟩:=A7 (P:=P) (fn:=fn) hk.kept.sr A6.env xi (vs:=[v']) (by simp [kx,Ay,hv']);have K:=hk.kept;exact ⟨A6.defers,u,hu,u,rfl,cS,aP,⟨K.eE,K.cD,lh,K.sr,K.os,K.tape,K.output,K.size,K.frame,K.cI,K.jw,K.own⟩⟩
      refine wp_seq ?_;refine ib OR IZ mP (xcA esz) _ Yw .normal {env:=[(0,.sl e cl rows)],aj:=[],fz:=[],kn:=0} hA rfl a0 w ac7 _ fun a1 w1 ac8=>?_
      refine wp_seq (wp_seq ?_);refine wp_region ?_;have ZE:ops= #[o1,o2]:=acb (by simpa using hl);subst ZE;obtain ⟨Af,cq,fL,FN⟩:=ac8.ex;have FO:=FN.env 0;have FO:VR Af cq (.sl e cl rows) (a1.tmps.getD 0 Go.undef):=FO;obtain ⟨ad,cap,OH,ni,Oc,fP⟩:=FO.lD;unfold nL at ho1;simp only [rc,beq_iff_eq] at ho1;obtain ⟨⟨⟨hd1,_⟩,hg1⟩,Ma⟩:=ho1;have ac9:o1.guard=acm:=by
       cases hg:o1.guard with
       |none=>rfl
       |some q=>rw [hg] at hg1;simp [qo] at hg1
      have ZF: ∃x,(o1.op= .move x\/o1.op= .assign x)/\aQ (.t 0) x=acn:=by cases ho:o1.op<;>rw [ho] at Ma<;>simp only [sj] at Ma<;>first|exact ⟨_,.inl rfl,Ma⟩|exact ⟨_,.inr rfl,Ma⟩|simp at Ma
      obtain ⟨x1,Lh,TC⟩:=ZF;have ac':a1.eval x1= .slice ad (ach rows) cap:=by
       have h:=Hi (a:=a1) (e:=[(0,PV.sl e cl rows)]) (.t 0) (fun t ht=>by injection ht with ht;subst ht;exact FN.env 0) x1 TC;cases x1 with
       |tmp t=>
        have:(0:Nat)=t:=by simpa [aQ] using TC
        subst this;simpa [Act.eval] using OH
       |_=>simp [aQ] at TC
      have ZG:(execOp a1.eval o1).run P w1= .ok (.value (.slice ad (ach rows) cap)) w1:=by rcases Lh with h|h<;>simp [execOp,h,ac']
      unfold L' at Yx;simp only [rc,beq_iff_eq,Option.isNone_iff_eq_none] at Yx;obtain ⟨⟨hg2,hd2⟩,OS⟩:=Yx;split at OS
      case h_2=>cases OS
      rename_i ty x2 ub ZH;simp only [rc] at OS;obtain ⟨ZI,bw⟩:=OS;have ada:x2= .tmp 3:=by
       cases x2 with
       |tmp t=>
        have:(3:Nat)=t:=by simpa [aQ] using ZI
        subst this;rfl
       |_=>simp [aQ] at ZI
      subst ada;unfold oc at bw;split at bw
      case h_2=>cases bw
      rename_i el kg;have adb:a1.tmps.size=fn.ntmps:=FN.GW
      let a2:Act:=a1.put (acl 3) (.slice ad (ach rows) cap)
      have DO:a2.tmps.getD 3 Go.undef= .slice ad (ach rows) cap:=by simp only [a2,Act.put,PP];rw [ab1 (by omega)];rfl
      have ZJ:(execOp a2.eval o2).run P w1= .ok (.value (.bool ad.isNone)) w1:=by
       simp only [execOp,ZH];refine dc ?_;have e3:a2.eval (.tmp 3)= .slice ad (ach rows) cap:=by simpa [Act.eval] using DO
       rw [e3];have hg:(eqGuard .eql ty (.tmp 3) (.const (.slice acm 0 0)) (.slice ad (ach rows) cap) (a2.eval (.const (.slice acm 0 0)))).run P w1= .ok () w1:=by unfold eqGuard;simp
       simp only [abk,hg,abG];exact Lib.run_eql_slice_nil w1 ty el ad (ach rows) cap 0 0 kg
      let a3:Act:=a2.put (acl 4) (.bool ad.isNone)
      have TD:At im cX [] w fn.ntmps {env:=[(0,.sl e cl rows)],aj:=[],fz:=[],kn:=0} a3 w1:=by
       refine ⟨Af,cq,fL,⟨fun t=>?_,FN.defers,by simp [a3,a2,Act.put,adb]⟩⟩;have h:=FN.env t;simp only [nK] at h ⊢
       by_cases ht:t=0
       · subst ht
         simp only [if_true] at h ⊢;simpa [a3,a2,Act.put,NE] using h
       rw [pi (fun e=>ht e.symm)];exact .undef _
      have EU:a3.eval cc= .bool ad.isNone:=by
       cases cc with
       |tmp t=>
        have:(4:Nat)=t:=by simpa [aQ] using IF
        subst this;simp only [Act.eval,a3,Act.put,PP];rw [ab1 (by simp [a2,Act.put];omega)];rfl
       |_=>simp [aQ] at IF
      have TE:List.range #[o1,o2].size=[0,1]:=rfl;rw [TE];simp only [wpOps];have e0:(#[o1,o2]:Array Oper)[0]? =acl o1:=rfl;have e1:(#[o1,o2]:Array Oper)[1]? =acl o2:=rfl;rw [e0];dsimp only;have Yp:Region.wanted o1 (yielded #[o1,o2] a1.tmps)=acn:=by unfold Region.wanted;rw [ac9]
      rw [Yp,ol rfl];refine .inl ?_;unfold Oper.wp;rw [ZG,Oper.upon_value,<- hd1,e1];dsimp only;have hw2:Region.wanted o2 (yielded #[o1,o2] (a1.put (acl 3) (.slice ad (ach rows) cap)).tmps)=acn:=by unfold Region.wanted;rw [hg2]
      rw [hw2,ol rfl];refine .inl ?_;rw [show a1.put (acl 3) (.slice ad (ach rows) cap)=a2 from rfl,ZJ,Oper.upon_value,hd2];show (Code.cond cc cn .skip).wp P _ a3 w1;cases Yv:ad with
      |none=>
       have vS:rows=[]:=by
        rcases rows with _|⟨r,rs⟩
        · rfl
        obtain ⟨b,o,h,_⟩:=fP (by simp)
        rw [Yv] at h;cases h
       subst vS;simp only [dJ,pp,v6] at hp;obtain ⟨rfl,rfl⟩:=hp;refine wp_cond_true (by rw [EU,Yv];rfl) ?_;refine ib OR IZ mP (xcN esz) _ _ .ret {env:=[(2,.sl esz acn [])],aj:=[],fz:=[],kn:=0} hN rfl a3 w1 TD _ fun a4 w4 Mb=>?_
       obtain ⟨hdf,u',yd,v'',ade,cS,aP,Ol⟩:=fin _ _ rfl a4 w4 Mb;refine ⟨hdf,u',yd,v'',ade,cS,aP.set 1 ⟨0,0,esz,0,0⟩,?_⟩;have I0: ∀t,aP t=acm:=fun t=>by
        cases hl:aP t with
        |none=>rfl
        |some li=>obtain ⟨k,hk,_⟩:=Ol.sr.cB t li hl;simp at hk
       obtain ⟨ad',bZ,hv3,_,adf,_⟩:=Ol.vr.lD;have Cr:bZ=0:=by simpa using adf rfl
       subst Cr;exact {
        eE:=Ol.eE,cD:=fun t li h=>by cases h
        vr:=by rw [hv3];exact .own 1 esz 0 0 0 acr ⟨0,0,esz,0,0⟩ ad' 0 (Loc.eF _ _ _) rfl (wn _) (wn _) (wn _) (fun h=>by cases h) (.inl rfl)
        sr:={
         aS:=Ol.sr.aS
         cB:=fun t li h=>by
          unfold Loc.set at h;split at h
          · rename_i ht;subst ht;injection h with h;subst h
            exact ⟨_,rfl,rfl,rfl,fun h=>absurd rfl h⟩
          rw [I0 t] at h;cases h
         fx:=fun t u li lj k k' h h' hs qj zV=>by
          unfold Loc.set at h;split at h
          · rename_i ht;subst ht;simp at hs;subst hs;cases zV
          rw [I0 t] at h;cases h
         free:=fun t li k h hs zV=>by
          unfold Loc.set at h;split at h
          · rename_i ht;subst ht;simp at hs;subst hs;cases zV
          rw [I0 t] at h;cases h}
        os:=Ol.os,tape:=Ol.tape,output:=Ol.output,size:=Ol.size,frame:=Ol.frame,cI:=Ol.cI
        jw:=fun t li h=> .inr (aa7 _)
        own:=fun t li k h hs zV=>by
         unfold Loc.set at h;split at h
         · rename_i ht;subst ht;simp at hs;subst hs;cases zV
         rw [I0 t] at h;cases h}
      |some ad'=>
       refine wp_cond_false (by rw [EU,Yv];rfl) (wp_skip ?_);rcases rows with _|⟨r,rs⟩
       · simp only [dJ,pp,v6] at hp
         obtain ⟨rfl,rfl⟩:=hp;exact ib OR IZ mP (xcC esz zero) _ _ .ret {env:=[(2,.own 1 esz 0 0 0 acr)],aj:=[.arr esz [],.arr esz []],fz:=[],kn:=0} hC rfl a3 w1 TD _ fun a4 w4 Mb=>fin _ _ rfl a4 w4 Mb
       simp only [dJ] at hp
       split at hp
       case isFalse=>cases hp
       rename_i IL;simp only [rc,Nat.beq_eq,abm] at IL;obtain ⟨rfl,jo⟩:=IL;simp only [pp,v6] at hp;obtain ⟨rfl,rfl⟩:=hp;have hap:fV [.arr e []] [] e (.own 0 e 0 0 0 acn) (.sl e cl (r::rs))=acl {v:= .own 1 e 0 (0+(ach rs+1)) (0+(ach rs+1)) acr,news:=[.arr e (r::rs)],rd:=[0]}:=by
        have h1:ab7 e e=acn:=by simp
        have h2:abF (ach rs+1) 0=acr:=rfl;have h3:abF (0+(ach rs+1)) jb=acn:=by simpa using jo
        simp only [fV,rowsOf,h1,if_true];simp [h2,jo,fU]
       refine ib OR IZ mP (xcC e zero) _ _ .ret {env:=[(2,.own 1 e 0 (0+(ach rs+1)) (0+(ach rs+1)) acr)],aj:=[.arr e [],.arr e (r::rs)],fz:=[],kn:=0} hC ?_ a3 w1 TD _ fun a4 w4 Mb=>fin _ _ rfl a4 w4 Mb
       simp only [xcC,oR,iJ,jv,wanted,sf,aU,dI.ev,lk];simp [mH,XR.ok,qO,XR.next,fR,oQ,ez,lk,hap]
    cases Ka
  cases iM
end
end Go.Vm
/- slices.Insert of one row: what it leaves of the memory. -/
namespace Go.Vm
section
variable {P : Program} {im cS : Im} {loc aP : Loc} {aj : bG} {fz : List Nat} {w w' : World}
theorem BR.eg {li:LI} {k:gY} (h:BR im loc w li k) (hi:ky im cS) (hl:jm loc aP) (hw:k.ba=acn->w'.heap[li.cB]? =w.heap[li.cB]?):BR cS aP w' li k:=by
 cases hs:k.ba with
 |true=>exact h.mono hi hl (hw hs)
 |false=>
  cases k with
  |arr e rows=>
   cases rows with
   |nil=>exact ⟨h.1,h.2.1,fun dK=>absurd rfl dK⟩
   |cons r rs=>cases hs
  |box cs=>cases hs
  |map es=>cases hs
  |dead=>trivial
theorem yH {r:kr} {t:Nat} {u:Value} (gq:SR im loc aj fz w) (he:oZ im loc aj w r cS aP w') (oe:r.fr=[]) (hw:r.wr=[(t,.dead)]) (ht:t<ach aj) (hv:VR cS aP r.v u):
 oj im loc aj w r.v (aj.set t .dead++r.news) fz cS aP w' u:=by
 have bI:(aj.set t .dead).length=(ach aj):=by simp
 have old: ∀t' li,loc t'=acl li->t'<(ach aj):=fun t' li h=>by obtain ⟨k,hk,_⟩:=gq.cB t' li h;exact (v4.1 hk).1
 have Ki: ∀t' li k,loc t'=acl li->(aj.set t .dead++r.news)[t']? =acl k->k.ba=acn->t'≠t/\aj[t']? =acl k:=by
  intro t' li k h hk hs;have dA:=old t' li h;rw [ww (by omega),abZ] at hk;split at hk
  · first|(injection hk with hk;subst hk;cases hs)|(split at hk<;>first|(injection hk with hk;subst hk;cases hs)|cases hk)
  rename_i dK;exact ⟨fun e=>dK e.symm,hk⟩
 have Kj: ∀t' k,ach aj<=t'->(aj.set t .dead++r.news)[t']? =acl k->r.news[t'-(ach aj)]? =acl k:=by
  intro t' k h hk
  rwa [AC (by omega),bI] at hk
 have CZ: ∀t' li,aP t'=acl li->loc t'=acl li\/(ach aj<=t'/\t'=ach aj+(t'-(ach aj))):=by
  intro t' li h;rcases he.iz t' li h with h|⟨h,_⟩
  · exact .inl h
  exact .inr ⟨h,by omega⟩
 have imn: ∀b o,cS b=acl o->im b=acl o\/w.heap.size<=b:=by
  intro b o h;rcases he.cI b o h with h|h|⟨t0,li,k,h,_⟩
  · exact .inl h
  · exact .inr h
  rw [oe] at h;cases h
 have ZK: ∀t' li k,loc t'=acl li->aj[t']? =acl k->t'≠t->k.ba=acn->BR im loc w li k->w'.heap[li.cB]? =w.heap[li.cB]?:=by
  intro t' li k hl hk dK hs hb;refine he.frame li.cB (hb.lt hs) fun t0 k1 l0 k0 hm EV hk0 D0 e=>?_
  rw [hw] at hm;obtain ⟨rfl,rfl⟩:t0=t/\k1= .dead:=by simpa using hm
  exact dK (gq.fx _ _ _ _ _ _ hl EV hk hk0 hs D0 e.symm)
 have OT: ∀t' li k,aP t'=acl li->ach aj<=t'->r.news[t'-(ach aj)]? =acl k->BR cS aP w' li k/\
  (k.ba=acn->cS li.cB=acm/\(w.heap.size<=li.cB\/ ∃lt k0,loc t=acl lt/\aj[t]? =acl k0/\k0.ba=acn/\lt.cB=li.cB)):=by
  intro t' li k hl iC hk;obtain ⟨h1,h2⟩:=he.news (t'-(ach aj)) k li hk (by rw [show (ach aj)+(t'-(ach aj))=t' by omega];exact hl);refine ⟨h1,fun hs=>⟨(h2 hs).1,?_⟩⟩;rcases (h2 hs).2 with h|⟨t0,lt,k0,hm,a,b,c,d⟩
  · exact .inl h
  rw [hw] at hm
  obtain rfl:t0=t:=by have:=aau.1 hm;injection this
  exact .inr ⟨lt,k0,a,b,c,d⟩
 have apart: ∀t1 u1 li lj k k',loc t1=acl li->t1≠t->aj[t1]? =acl k->k.ba=acn->aP u1=acl lj->ach aj<=u1->r.news[u1-(ach aj)]? =acl k'->k'.ba=acn->li.cB≠lj.cB:=by
  intro t1 u1 li lj k k' hl dK hk hs jE iC IY qj e;obtain ⟨k2,Ae,hb⟩:=gq.cB t1 li hl;rw [hk] at Ae;injection Ae with Ae;subst Ae;rcases ((OT u1 lj k' jE iC IY).2 qj).2 with h|⟨lt,k0,a,b,c,d⟩
  · have:=hb.lt hs;omega
  exact dK (gq.fx _ _ _ _ _ _ hl a hk b hs c (by rw [e,d]))
 exact {
  eE:=he.eE,cD:=he.cD,vr:=hv
  sr:={
   aS:=he.aS
   cB:=fun t' li h=>by
    rcases CZ t' li h with ho|⟨iC,_⟩
    · obtain ⟨k,hk,hb⟩:=gq.cB t' li ho
      have dA:=old t' li ho
      by_cases e:t'=t
      · subst e
        exact ⟨.dead,by rw [ww (by omega),List.getElem?_set_self (by omega)],trivial⟩
      refine ⟨k,by rw [ww (by omega),abN (fun x=>e x.symm)];exact hk,hb.eg he.eE he.cD fun hs=>ZK t' li k ho hk e hs hb⟩
    have hn:t'-(ach aj)<(ach r.news):=by
     rcases he.iz t' li h with ho|⟨_,h2⟩
     · have:=old t' li ho;omega
     omega
    obtain ⟨hb,_⟩:=OT t' li _ h iC (pm hn);exact ⟨_,by rw [AC (by omega),bI];exact pm hn,hb⟩
   fx:=fun t1 u1 li lj k k' hl jE hk IY hs qj e=>by
    rcases CZ t1 li hl with h1|⟨h1,_⟩<;>rcases CZ u1 lj jE with h2|⟨h2,_⟩
    · obtain ⟨n1,e1⟩:=Ki _ _ _ h1 hk hs
      obtain ⟨n2,e2⟩:=Ki _ _ _ h2 IY qj;exact gq.fx _ _ _ _ _ _ h1 h2 e1 e2 hs qj e
    · obtain ⟨n1,e1⟩:=Ki _ _ _ h1 hk hs
      exact absurd e (apart _ _ _ _ _ _ h1 n1 e1 hs jE h2 (Kj _ _ h2 IY) qj)
    · obtain ⟨n2,e2⟩:=Ki _ _ _ h2 IY qj
      exact absurd e.symm (apart _ _ _ _ _ _ h2 n2 e2 qj hl h1 (Kj _ _ h1 hk) hs)
    have:=he.distinct (t1-(ach aj)) (u1-(ach aj)) k k' li lj (Kj _ _ h1 hk) (Kj _ _ h2 IY) hs qj (by rw [show (ach aj)+(t1-(ach aj))=t1 by omega];exact hl) (by rw [show (ach aj)+(u1-(ach aj))=u1 by omega];exact jE) e
    omega
   free:=fun t' li k hl hk hs hz=>by
    rcases CZ t' li hl with h1|⟨h1,_⟩
    · obtain ⟨n1,e1⟩:=Ki _ _ _ h1 hk hs
      obtain ⟨k2,Ae,hb⟩:=gq.cB t' li h1;rw [e1] at Ae;injection Ae with Ae;subst Ae;have h0:=gq.free t' li k h1 e1 hs hz;cases hi:cS li.cB with
      |none=>rfl
      |some o=>
       rcases imn _ _ hi with h|h
       · rw [h0] at h;cases h
       have:=hb.lt hs;omega
    exact ((OT t' li k hl h1 (Kj _ _ h1 hk)).2 hs).1}
  os:=he.os,tape:=he.tape,output:=he.output,size:=he.size
  frame:=fun b hb h=>he.frame b hb fun t0 k li k0 hm hl hk hs=>h t0 li k0 hl hk hs
  cI:=fun b o h=>by
   rcases imn b o h with h|h
   · exact .inl h
   exact .inr (.inl h)
  jw:=fun t' li h=>by
   rcases CZ t' li h with h|⟨h,_⟩
   · exact .inl h
   exact .inr h
  own:=fun t' li k hl hk hs=>by
   rcases CZ t' li hl with h1|⟨h1,_⟩
   · obtain ⟨n1,e1⟩:=Ki _ _ _ h1 hk hs
     exact .inr ⟨t',li,k,h1,e1,hs,rfl⟩
   rcases ((OT t' li k hl h1 (Kj _ _ h1 hk)).2 hs).2 with h|⟨lt,k0,a,b,c,d⟩
   · exact .inl h
   exact .inr ⟨t,lt,k0,a,b,c,d⟩}
theorem SR.C0 (h:SR im loc aj fz w):loc (ach aj)=acm:=by
 cases hl:loc (ach aj) with
 |none=>rfl
 |some li=>obtain ⟨k,hk,_⟩:=h.cB _ _ hl;simp at hk
theorem Kk {t e:Nat} {li:LI} {rows L:List Row} {arr fin:Array Value} {el:TypeId} (gq:SR im loc aj fz w) (hl:loc t=acl li) (bw:aj[t]? =acl (.arr e rows)) (dK:rows≠[]) (hf:has fz t=acr)
 (ha:w.heap[li.cB]? =acl (.cells arr el (0,0))) (hh:w'.heap=w.heap.setIfInBounds li.cB (.cells fin el (0,0))) (ho:w'.os=w.os) (ht:Tape w w') (hp:w'.output=w.output)
 (lq:fin.size=li.sz) (uV:li.sh+ach L*e<=li.sz) (hr:aR (fun k=>fin[k]?) li.sh e L):
 oZ im loc aj w {v:= .own (ach aj) e 0 (ach L) (ach L) acr,news:=[.arr e L],wr:=[(t,.dead)]} im (loc.set (ach aj) ⟨li.cB,li.sh,e,ach L,li.sz⟩) w':=by
 have dA:=(Do.1 ha).1;have vR:(gY.arr e rows).ba=acn:=jV dK;have w5:=gq.free t li _ hl bw vR hf;have Lx:=gq.C0;exact {
  eE:= .refl _,cD:=Loc.sU _ Lx
  aS:=fun b o hb=>by
   have h1:=gq.aS b o hb;have G9:li.cB≠b:=fun e=>by rw [e,hb] at w5;cases w5
   rw [hh,NE,pi G9];exact h1
  cI:=fun _ _ h=> .inl h,os:=ho,tape:=ht,output:=hp
  size:=by rw [hh];simp
  JR:=fun t' k hm hs=>by
   obtain ⟨rfl,rfl⟩:t'=t/\k= .dead:=by simpa using hm
   cases hs
  frame:=fun b _ hb=>by have G9:=hb t .dead li _ (aau.2 rfl) hl bw vR;rw [hh,NE,pi G9]
  wr:=fun t' k li hm jE=>by
   obtain ⟨rfl,rfl⟩:t'=t/\k= .dead:=by simpa using hm
   trivial
  iz:=fun t' l h=>by
   unfold Loc.set at h;split at h
   · rename_i e;subst e;exact .inr ⟨wn _,by simp⟩
   exact .inl h
  news:=yp fun j k hj=>by
   cases j with
   |zero=>simp at hj;subst hj;refine ⟨_,Loc.eF _ _ _,⟨rfl,rfl,fun _=>⟨fin,el,by rw [hh];simp [dA],lq,uV,hr⟩⟩,fun _=>⟨w5,.inr ⟨t,li,_,aau.2 rfl,hl,bw,vR,rfl⟩⟩⟩
   |succ j=>simp at hj
  distinct:=fun i j ki kj li lj h1 h2 _ _ _ _ _=>by cases i<;>cases j<;>simp at h1 h2<;>rfl}
theorem Kl {t e:Nat} {L:List Row} {fin:Array Value} {el:TypeId} (gq:SR im loc aj fz w)
 (hh:w'.heap=w.heap.push (.cells fin el (0,0))) (ho:w'.os=w.os) (ht:Tape w w') (hp:w'.output=w.output)
 (uV:(ach L)*e<=fin.size) (hr:aR (fun k=>fin[k]?) 0 e L):
 oZ im loc aj w {v:= .own (ach aj) e 0 (ach L) (ach L) acr,news:=[.arr e L],wr:=[(t,.dead)]} im (loc.set (ach aj) ⟨w.heap.size,0,e,ach L,fin.size⟩) w':=by
 have Lx:=gq.C0;have old: ∀b,b<w.heap.size->w'.heap[b]? =w.heap[b]?:=fun b hb=>by rw [hh,Array.getElem?_push,pi (by omega)]
 have dA: ∀b o,im b=acl o->b<w.heap.size:=fun b o h=>(Do.1 (gq.aS b o h)).1
 exact {
  eE:= .refl _,cD:=Loc.sU _ Lx
  aS:=fun b o hb=>by rw [old b (dA b o hb)];exact gq.aS b o hb
  cI:=fun _ _ h=> .inl h,os:=ho,tape:=ht,output:=hp
  size:=by rw [hh];simp
  JR:=fun t' k hm hs=>by
   obtain ⟨rfl,rfl⟩:t'=t/\k= .dead:=by simpa using hm
   cases hs
  frame:=fun b hb _=>old b hb
  wr:=fun t' k li hm jE=>by
   obtain ⟨rfl,rfl⟩:t'=t/\k= .dead:=by simpa using hm
   trivial
  iz:=fun t' l h=>by
   unfold Loc.set at h;split at h
   · rename_i e;subst e;exact .inr ⟨wn _,by simp⟩
   exact .inl h
  news:=yp fun j k hj=>by
   cases j with
   |zero=>
    simp at hj;subst hj;refine ⟨_,Loc.eF _ _ _,⟨rfl,rfl,fun _=>⟨fin,el,by rw [hh];simp,rfl,by simpa using uV,hr⟩⟩,fun _=>⟨?_,.inl (wn _)⟩⟩;cases hi:im w.heap.size with
    |none=>rfl
    |some o=>have:=dA _ _ hi;omega
   |succ j=>simp at hj
  distinct:=fun i j ki kj li lj h1 h2 _ _ _ _ _=>by cases i<;>cases j<;>simp at h1 h2<;>rfl}
theorem C1 {esz:Nat}: ∀{rows:List Row} (_: ∀r∈rows,ach r=esz) (i:Nat),(rows.take i).flatMap aN=(rows.flatMap aN).take (i*esz)
 | [],_,i=>by simp
 |r::rs,h,0=>by simp
 |r::rs,h,i+1=>by
  have hr:(aN r).length=esz:=by rw [iL];exact h r (by simp)
  have e1:(aN r).take ((i+1)*esz)=aN r:=ab0 (by rw [hr,abQ];omega);rw [List.take_succ_cons,abH,C1 (fun x hx=>h x (by simp [hx])) i,abH,List.take_append,e1,hr,show (i+1)*esz-esz=i*esz by rw [abQ];omega]
theorem C2 {esz:Nat}: ∀{rows:List Row} (_: ∀r∈rows,ach r=esz) (i:Nat),(rows.drop i).flatMap aN=(rows.flatMap aN).drop (i*esz)
 | [],_,i=>by simp
 |r::rs,h,0=>by simp
 |r::rs,h,i+1=>by
  have hr:(aN r).length=esz:=by rw [iL];exact h r (by simp)
  have e1:(aN r).drop ((i+1)*esz)=[]:=abK (by rw [hr,abQ];omega);rw [List.drop_succ_cons,C2 (fun x hx=>h x (by simp [hx])) i,abH,List.drop_append,e1,hr,show (i+1)*esz-esz=i*esz by rw [abQ];omega,List.nil_append]
theorem SR.Km (h:SR im loc aj fz w) {t:Nat} (hf:has fz t=acr) {r:kr} (hw:r.wr=[(t,.dead)]):gE im loc aj w r where
 aS:=h.aS
 tok:=fun t _ li hl=>h.cB t li hl
 free:=fun t' k hm li k' hl hk hs=>by
  rw [hw] at hm;obtain rfl:t'=t:=by have:=aau.1 hm;injection this
  exact h.free t' li k' hl hk hs hf
 fresh:=fun j hj=>by
  cases hl:loc (ach aj+j) with
  |none=>rfl
  |some li=>obtain ⟨k,hk,_⟩:=h.cB _ _ hl;rw [List.getElem?_eq_none (by omega)] at hk;cases hk
 fx:=fun t u li lj k k' _ _=>h.fx t u li lj k k'
structure Mc (P:Program) (f:FuncId) (e:Nat) (tS:TypeId):Prop where
 ends: ∀(fM:Option Addr) (n c vb FP vc:Nat) (w w':World) (v':Value),n<=c->(Builtin.append_ #[tS,tS] tS #[.slice fM n c,.slice (acl ⟨vb,FP,acm⟩) 1 vc]).run P w= .ok v' w'->
  Calls P f #[.slice fM n c,.int .i64 n,.slice (acl ⟨vb,FP,acm⟩) 1 vc] w fun e W=>e= .returned v'/\W=w'
 room: ∀(b off n c i vb FP vc:Nat) (cs vs:List Value) (arr av:Array Value) (el ev:TypeId) (w:World),i<n->n+1<=c->n<=1048576->vb≠b->w.heap[b]? =acl (.cells arr el (0,0))->w.heap[vb]? =acl (.cells av ev (0,0))->
  off+(n+1)*e<=arr.size->ach cs=n*e->ach vs=e->(∀(j:Nat) (v:Value),cs[j]? =acl v->arr[off+j]? =acl v)->(∀(j:Nat) (v:Value),vs[j]? =acl v->av[FP+j]? =acl v)->(∀v∈cs,v.oneCell'=acn)->(∀v∈vs,v.oneCell'=acn)->
  ∃fin:List Value,ach fin=arr.size/\(∀(j:Nat) (v:Value),(cs.take (i*e)++vs++cs.drop (i*e))[j]? =acl v->fin[off+j]? =acl v)/\
  Calls P f #[.slice (acl ⟨b,off,acm⟩) n c,.int .i64 i,.slice (acl ⟨vb,FP,acm⟩) 1 vc] w fun x w'=>
   x= .returned (.slice (acl ⟨b,off,acm⟩) (n+1) c)/\w'.heap=w.heap.setIfInBounds b (.cells fin.toArray el (0,0))/\w'.os=w.os/\Tape w w'/\w'.output=w.output
 full: ∀(b off n i vb FP vc:Nat) (cs vs:List Value) (w:World),i<n->n<=1048576->ach cs=n*e->ach vs=e->
  (∀(j:Nat) (v:Value),cs[j]? =acl v->w.cell? ⟨b,off+j,acm⟩=acl v)->(∀(j:Nat) (v:Value),vs[j]? =acl v->w.cell? ⟨vb,FP+j,acm⟩=acl v)->(∀v∈cs,v.oneCell'=acn)->(∀v∈vs,v.oneCell'=acn)->
  ∃(G:Nat) (fin:List Value) (el:TypeId),n+1<=G/\ach fin=G*e/\(∀(j:Nat) (v:Value),(cs.take (i*e)++vs++cs.drop (i*e))[j]? =acl v->fin[j]? =acl v)/\
  Calls P f #[.slice (acl ⟨b,off,acm⟩) n n,.int .i64 i,.slice (acl ⟨vb,FP,acm⟩) 1 vc] w fun x w'=>
   x= .returned (.slice (acl ⟨w.heap.size,0,acm⟩) (n+1) G)/\w'.heap=w.heap.push (.cells fin.toArray el (0,0))/\w'.os=w.os/\Tape w w'/\w'.output=w.output
theorem J6.ins {f:FuncId} {e:Nat} {tS tE:TypeId} {fn:Func} {c:Code} {i0:TypeInfo} {z:Value} (hf:P.funcs[f]? =acl fn) (jX:(fn.name== "runtime.NumGoroutine")=acr) (hb:fn.body=acl c)
 (ht:P.underlying tS=acl (.slice tE)) (hi:P.info? tE=acl i0) (lq:i0.size=e) (hz:i0.zero=acl z) (Oz:z.cells.size=e) (G7:i0.bytes<=1048576) (he0:0<e) (H:Mc P f e tS):J6 P f (Ln e):=by
 refine ⟨fn,c,hf,jX,hb,?_⟩;intro args aj fz v qV EW hp im loc w us gq sq;unfold Ln at hp;split at hp
 case h_2=>cases hp
 rename_i t e1 off len cap ex i u e2 YU E7 Md ZL;split at hp
 case h_2=>cases hp
 rename_i e3 rows e4 new bw ZM;split at hp
 case isFalse=>cases hp
 rename_i hc;simp only [rc,Nat.beq_eq,If,decide_eq_true_eq,abm] at hc;obtain ⟨⟨⟨⟨⟨⟨⟨⟨⟨⟨⟨q1,q2⟩,rfl⟩,rfl⟩,bI⟩,rfl⟩,wY⟩,htu⟩,Lu⟩,hi0⟩,hil⟩,jo⟩:=hc;have q1:=q1.symm;subst q1;have q2:=q2.symm;subst q2;have jo:len+1<=1048576:=jo;injection hp with hp;simp only [v6] at hp;obtain ⟨rfl,rfl,rfl⟩:=hp;obtain ⟨k,rfl⟩: ∃k:Nat,i=(k:Int):=⟨i.toNat,by omega⟩;simp only [Int.toNat_natCast] at hil ⊢;obtain ⟨x0,Sp,rfl,FO,sq⟩: ∃x0 Sp,us=x0::Sp/\VR im loc (.own t e 0 len cap ex) x0/\dk im loc [.int .i64 (k:Int),.own u e 0 1 Md ZL] Sp:=by cases sq with|cons _ a _ b h1 h2=>exact ⟨a,b,rfl,h1,h2⟩
 obtain ⟨x1,us2,rfl,Lh,sq⟩: ∃x1 us2,Sp=x1::us2/\VR im loc (.int .i64 (k:Int)) x1/\dk im loc [.own u e 0 1 Md ZL] us2:=by cases sq with|cons _ a _ b h1 h2=>exact ⟨a,b,rfl,h1,h2⟩
 obtain ⟨x2,us3,rfl,ZI,sq⟩: ∃x2 us3,us2=x2::us3/\VR im loc (.own u e 0 1 Md ZL) x2/\dk im loc [] us3:=by cases sq with|cons _ a _ b h1 h2=>exact ⟨a,b,rfl,h1,h2⟩
 obtain rfl:us3=[]:=by cases sq;rfl
 have Lh:=Lh.ec;subst Lh;obtain ⟨li,a,bZ,rfl,hl,he,zR,hlc,IF,_,zU⟩:=FO.fI;obtain ⟨lj,a2,Me,rfl,Fg,sK,agW,ain,aio,_,ZN⟩:=ZI.fI;have Kc:t<(ach aj):=(v4.1 bw).1;obtain ⟨k1,fL,oS⟩:=gq.cB t li hl;rw [bw] at fL;injection fL with fL;subst fL;obtain ⟨k2,Ae,adi⟩:=gq.cB u lj Fg;rw [ZM] at Ae;injection Ae with Ae;subst Ae;obtain ⟨b1,b2,b3⟩:=oS;obtain ⟨d1,d2,d3⟩:=adi;have TF:new≠[]:=by intro h;subst h;simp at wY
 obtain ⟨av,ev,J3,Yn,hv3,TG⟩:=d3 TF;have e34:e=e3:=by rw [<- b1,he]
 subst e34;have e44:e=e4:=by rw [<- d1,sK]
 subst e44;obtain rfl:a2=acl ⟨lj.cB,lj.sh,acm⟩:=by
  rcases ZN with h|⟨_,h,_⟩
  · omega
  simpa using h
 have Cv:=TG.kA;have Lf:=TG.plain;have Cw:=cJ Cv;rw [wY] at Cw;refine .inr ⟨dP hf jX hb,?_⟩;rcases UV k len with hk|hk
 ·
  have kB:rows≠[]:=by intro h;subst h;simp at bI;omega
  obtain ⟨arr,el,o6,DO,EU,cm⟩:=b3 kB;obtain ⟨OA,rfl,uV⟩:li.n≠0/\a=acl ⟨li.cB,li.sh,acm⟩/\li.sh+bZ*e<=li.sz:=by
   rcases zU with h|⟨h1,h2,h3⟩
   · omega
   exact ⟨h1,by simpa using h2,by simpa using h3⟩
  have Fe:=cm.kA;have OD:=cm.plain;have Lv:=cJ Fe;rw [<- bI] at Lv;obtain ⟨L,hL⟩: ∃L,L=rows.take k++new++rows.drop k:=⟨_,rfl⟩;have ZO:(ach L)=len+1:=by rw [hL];simp only [ab5,List.length_take,List.length_drop,wY];omega
  have hLf:L.flatMap aN=(rows.flatMap aN).take (k*e)++new.flatMap aN++(rows.flatMap aN).drop (k*e):=by rw [hL,abV,abV,C1 Fe,C2 Fe]
  have hLr: ∀r∈L,ach r=e:=by
   intro r hr;rw [hL] at hr;rcases aag.1 hr with h|h
   · rcases aag.1 h with h|h
     · exact Fe r (abR h)
     exact Cv r h
   exact Fe r (abS h)
  have hLp: ∀r∈L,∀c∈r,c.plain=acn:=by
   intro r hr;rw [hL] at hr;rcases aag.1 hr with h|h
   · rcases aag.1 h with h|h
     · exact OD r (abR h)
     exact Lf r h
   exact OD r (abS h)
  rw [<- hL,<- ZO];have o5: ∀j v,(rows.flatMap aN)[j]? =acl v->arr[li.sh+j]? =acl v:=fun j v hj=>cm.flat j v hj
  have Og: ∀j v,(new.flatMap aN)[j]? =acl v->av[lj.sh+j]? =acl v:=fun j v hj=>TG.flat j v hj
  have Ct:(len+1)*e<=bZ*e\/bZ=len:=by
   rcases UV len bZ with h|h
   · exact .inl (abT _ h)
   exact .inr (by omega)
  rcases Ct with u5|IW
  · have ZP:len+1<=bZ:=Nat.le_of_mul_le_mul_right u5 he0
    have dK:lj.cB≠li.cB:=fun h=>by have:=gq.fx u t lj li _ _ Fg hl ZM bw (jV TF) (jV kB) h;rw [this] at htu;simp at htu
    obtain ⟨fin,f1,f2,f3⟩:=H.room li.cB li.sh len bZ k lj.cB lj.sh Me _ _ arr av el ev w hk ZP (by omega) dK o6 J3 (by omega) Lv (by omega) o5 Og (og OD) (og Lf);refine f3.mono fun x w' ⟨hx,hh,ho,ZQ,ZR⟩=>⟨_,hx,im,loc.set (ach aj) ⟨li.cB,li.sh,e,ach L,li.sz⟩,?_⟩
    have hE:=Kk (w':=w') (L:=L) gq hl bw kB Lu o6 hh ho ZQ ZR (by simp [f1,DO]) (by rw [ZO];omega) (aR.yq hLr hLp fun j v hj=>by rw [hLf] at hj;simpa using f2 j v hj);refine yH gq hE rfl rfl Kc ?_;rw [<- ZO];exact .own _ _ 0 _ _ acr ⟨li.cB,li.sh,e,ach L,li.sz⟩ _ bZ (Loc.eF _ _ _) rfl (by show 0+ach L<=ach L;omega) (wn _) (by omega) (fun h=>by cases h) (.inr ⟨by show (ach L)≠0;omega,by simp,by show li.sh+(0+bZ)*e<=li.sz;rw [Nat.zero_add];exact uV⟩)
  subst IW
  obtain ⟨G,fin,el',g1,g2,g3,g4⟩:=H.full li.cB li.sh bZ k lj.cB lj.sh Me _ _ w hk (by omega) Lv (by omega) (fun j v hj=>by simp only [ac5,o6];exact o5 j v hj) (fun j v hj=>by simp only [ac5,J3];exact Og j v hj) (og OD) (og Lf);have hg:(bZ+1)*e<=G*e:=abT _ g1;refine g4.mono fun x w' ⟨hx,hh,ho,ZQ,ZR⟩=>⟨_,hx,im,loc.set (ach aj) ⟨w.heap.size,0,e,ach L,fin.toArray.size⟩,?_⟩
  have hE:=Kl (w':=w') (t:=t) (L:=L) (e:=e) gq hh ho ZQ ZR (by rw [ZO];simp [g2];omega) (aR.yq hLr hLp fun j v hj=>by rw [hLf] at hj;simpa using g3 j v hj);refine yH gq hE rfl rfl Kc ?_;rw [<- ZO];exact .own _ _ 0 _ _ acr ⟨w.heap.size,0,e,ach L,fin.toArray.size⟩ _ G (Loc.eF _ _ _) rfl (by show 0+ach L<=ach L;omega) (wn _) (by omega) (fun h=>by cases h) (.inr ⟨by show (ach L)≠0;omega,by simp,by show 0+(0+G)*e<=fin.toArray.size;simp [g2]⟩)
 ·
  obtain rfl:k=len:=by omega
  have adj:rows.take k++new++rows.drop k=rows++new:=by rw [ab0 (by omega),abK (by omega),List.append_nil]
  rw [adj];have adk:VR im loc (.own t e 0 k k acr) (.slice a k bZ):= .own t e 0 k k acr li a bZ hl he (by omega) (wn _) (by omega) (by simp) zU;have wN:rowsOf aj e (.own u e 0 1 Md ZL)=acl new:=by
   have:(new.drop 0).take 1=new:=by rw [acd,ab0 (by omega)]
   show (if ab7 e e=acn then (match aj[u]? with|some (.arr _ rows)=>acl ((rows.drop 0).take 1)|_=>acm) else acm)=_;rw [ol (Nat.beq_refl e),ZM];exact congrArg acl this
  have hap:fV aj fz e (.own t e 0 k k acr) (.own u e 0 1 Md ZL)=acl {v:= .own (ach aj) e 0 (k+1) (k+1) acr,news:=[.arr e (rows++new)],wr:=[(t,.dead)],rd:=[u]}:=by
   have h1:abF (k+1) k=acr:=by
    cases h:abF (k+1) k with
    |false=>rfl
    |true=>have:=Nat.le_of_ble_eq_true h;omega
   have h2:abF (k+1) jb=acn:=by simpa [jb] using jo
   have h3:(rows.drop 0).take k=rows:=by rw [acd,ab0 (by omega)]
   unfold fV;rw [wN];cases new with
   |nil=>exact absurd rfl TF
   |cons r rs=>have h0:(r::rs).length=1:=wY;simp only [h0,bw,h1,h2,h3,Lu,fU];simp
  obtain ⟨v',w',aP,bu,lh,hE⟩:=AF (P:=P) (w:=w) (ty:=tS) ht ht hi lq hz Oz G7 adk ZI hap (gq.Km Lu rfl);refine (H.ends a k bZ lj.cB lj.sh Me w w' v' (by omega) bu).mono fun x W ⟨hx,hW⟩=>⟨v',hx,im,aP,?_⟩
  subst hW;exact yH gq hE rfl rfl Kc lh
end
end Go.Vm
/- A table of functions as a tree. -/
namespace Go.Vm
inductive TT where
 |nil
 |leaf (k:Nat) (e:R7)
 |node (m:Nat) (a b:TT)
def TT.get:TT->Nat->Option R7
 | .nil,_=>acm
 | .leaf k e,f=>bif ab7 f k then acl e else acm
 | .node m a b,f=>bif abU f m then a.get f else b.get f
def TT.Yy (p:Nat->R7->Prop):TT->Prop
 | .nil=>True
 | .leaf k e=>p k e
 | .node _ a b=>a.Yy p/\b.Yy p
theorem TT.xj {p:Nat->R7->Prop}: ∀{t:TT} {f:Nat} {e:R7},t.Yy p->t.get f=acl e->p f e
 | .nil,f,e,_,h=>by cases h
 | .leaf k e',f,e,ha,h=>by
  simp only [TT.get] at h;cases hk:ab7 f k with
  |false=>rw [hk] at h;cases h
  |true=>
   rw [hk] at h;have:f=k:=by simpa using hk
   subst this;have h:acl e'=acl e:=h;injection h with h;subst h;exact ha
 | .node m a b,f,e,ha,h=>by
  simp only [TT.get] at h;cases hk:abU f m with
  |false=>rw [hk] at h;exact TT.xj ha.2 h
  |true=>rw [hk] at h;exact TT.xj ha.1 h
def om (P:Program) (f:Nat):R7->Prop
 | .code x=>aq P (fun _=>acn) x f=acn
 | .fb k p=>k=acr/\nm P f p
 | .JO p=>J6 P f p
theorem TT.ZS {P:Program} {t:TT} (h:t.Yy (om P)):FK P (fun _=>acn) t.get:=fun f x hf=>by have:=TT.xj h hf;exact this
theorem TT.OU {P:Program} {t:TT} (h:t.Yy (om P)):uo P t.get:=⟨fun _ _ _ hf=>TT.xj h hf,fun _ _ hf=>TT.xj h hf⟩
end Go.Vm
/- The logical machine's code of a function, reckoned from the model's own (what it comes to is looked at by chkFunc; nothing is proved of it here). -/
namespace Go.Vm
structure ZT where
 md:FuncId->CM
 eg:List Nat
 adl:List (Nat×List (Nat×Nat)):=[]
 more:List (Nat×List (Nat×Option Nat)):=[]
 tb:Bool:=acr
section
variable (P : Program)
def Kn (t:TypeId):Nat:=match P.info? t with
 |some i=>i.size
 |none=>0
def Hq (t:TypeId):Option Nat:=match P.underlying t with
 |some (.struct _)|some (.array _ _)=>acl (Kn P t)
 |_=>acm
def pM:Nat->TypeId->List PV
 |0,_=>[]
 |n+1,t=>match P.underlying t with
  |some (.int k)=>[.int k 0]
  |some .bool=>[.bool acr]
  |some .string=>[.str .empty]
  |some (.slice e)=>[.sl (Kn P e) acn []]
  |some (.struct fs)=>fs.toList.flatMap fun f=>pM n f.type
  |some (.array m e)=>(ace m (pM n e)).flatten
  |some (.func ..)=>[.cL]
  |_=>[.undef]
def Sq (t:TypeId):PV:=match pM P 9 t with
 |x::_=>x
 | []=> .sl 0 acn []
def Sr (t:TypeId):PV:=match Hq P t with
 |some _=> .agg (pM P 9 t)
 |none=>Sq P t
def Ss (z:PV):Value->PV
 | .int k n=> .int k n
 | .bool b=> .bool b
 | .string s=> .str s
 | .slice .. =>z
 | .nilFunc=> .cL
 |_=> .undef
def Su:List PV->List Value->List PV
 |z::zs,v::vs=>Ss z v::Su zs vs
 |_,_=>[]
def adm (t:TypeId):Value->PV
 | .agg vs=> .agg (Su (pM P 9 t) vs.toList)
 |v=>Ss (Sq P t) v
def nM (t:TypeId):Operand->dI
 | .tmp n=> .t n
 | .const v=> .c (adm P t v)
 | .func f=> .c (.di f [] [])
 | .global _=> .c .undef
def Mf:List TypeId->List Operand->List dI
 |t::ts,o::os=>nM P t o::Mf ts os
 |_,_=>[]
def eS:Operand->dI
 | .tmp n=> .t n
 | .const (.int k n)=> .c (.int k n)
 | .const (.bool b)=> .c (.bool b)
 | .const (.string s)=> .c (.str s)
 | .func f=> .c (.di f [] [])
 |_=> .c .undef
def vf (t:TypeId):TypeId:=match P.underlying t with
 |some (.slice e)=>e
 |some (.array _ e)=>e
 |_=>0
def Mg (place:Nat->Option (Nat×Nat)) (ty:Nat->TypeId):List (Nat×Operand)->List (Nat×Nat×dI)
 | []=>[]
 |(i,o)::r=>match place i with
  |some (a,b)=>(a,b,nM P (ty i) o)::Mg place ty r
  |none=>[]
def Mh (t:TypeId) (i:Nat):TypeId:=match P.underlying t with
 |some (.struct fs)=>match fs[i]? with
  |some f=>f.type
  |none=>0
 |some (.array _ e)=>e
 |_=>0
def ZU (t:TypeId) (i:Nat):Nat:=match P.underlying t with
 |some (.struct fs)=>match fs[i]? with
  |some f=>f.offset
  |none=>0
 |_=>0
def Sv:BinOp->Bool
 | .neq=>acn
 |_=>acr
def Mi (b:Builtin) (args:List Operand) (ts:List TypeId):iw:=
 match b,args,ts with
 | .len,x::_,t::_=>match P.underlying t with
  |some (.slice _)|some (.map _ _)=> .len (nM P t x)
  |some (.array m _)=> .G0 m
  |some (.pointer e)=>match P.underlying e with
   |some (.array m _)=> .G0 m
   |_=> .bad
  |_=> .bad
 | .append,[x,y],[t,u]=>match P.underlying u with
  |some (.slice _)=> .append (Kn P (vf P t)) (nM P t x) (nM P u y)
  |_=> .bad
 | .copy,[x,y],[t,u]=>match P.underlying u with
  |some (.slice _)=> .copy (Kn P (vf P t)) (nM P t x) (nM P u y)
  |_=> .bad
 | .clear,[x],[t]=>match P.underlying t with
  |some (.slice e)=> .clear (Kn P e) (pM P 9 e) (nM P t x)
  |_=> .bad
 | .min,x::xs,_=> .mm acr (eS x) (xs.map eS)
 | .max,x::xs,_=> .mm acn (eS x) (xs.map eS)
 |_,_,_=> .bad
def cOp (tb:Bool) (md:FuncId->CM) (ty:TypeId):Op->iw
 | .move x| .assign x=> .Lc (nM P ty x)
 | .pick c a b=> .pick (eS c) (nM P ty a) (nM P ty b)
 | .binOp op t x y _=>match P.underlying t with
  |some (.int _)=> .bin op (eS x) (eS y)
  |some .bool=> .E0 (Sv op) (eS x) (eS y)
  |some (.struct _)|some (.array _ _)=> .R3 (Kn P t) (Sv op) (nM P t x) (nM P t y)
  |_=> .bad
 | .unOp op _ x=> .un op (eS x)
 | .convert _ t x=>match P.underlying t with
  |some (.int k)=> .conv k (eS x)
  |_=> .bad
 | .box t x=> .box (nM P t x)
 | .alloc t=> .alloc (pM P 9 t)
 | .build t ps=> .build (pM P 9 t) (Mg P (placeOf P t) (Mh P t) ps.toList)
 | .buildSlice t n ps=>match P.underlying (vf P t),n,ps.toList with
  |some (.slice _),2,[(0,a),(1,b)]=> .zl (nM P (vf P t) a) (nM P (vf P t) b)
  |_,_,_=> .wR (Kn P (vf P t)) n (pM P 9 (vf P t)) (ps.toList.map fun p=>(p.1,nM P (vf P t) p.2))
 | .load t a=> .load (Hq P t) (eS a)
 | .store t a v=> .store (Kn P t) (eS a) (nM P t v)
 | .nilCheck x=> .E1 (eS x)
 | .fieldAddr t a f=> .E2 (ZU P t f) (eS a)
 | .field t a f=> .qL (Hq P (Mh P t f)) (ZU P t f) (eS a)
 | .indexAddr t a j=>match P.underlying t with
  |some (.slice e)=> .E3 (Kn P e) (nM P t a) (eS j)
  |some (.array m e)=> .zm m (Kn P e) (eS a) (eS j)
  |_=> .bad
 | .index t a j=>match P.underlying t with
  |some (.array m e)=> .idx m (Kn P e) (Hq P e) (nM P t a) (eS j)
  |some .string=> .E4 (eS a) (eS j)
  |_=> .bad
 | .slice t a b c d=>match P.underlying t with
  |some (.slice e)=> .JN (Kn P e) (nM P t a) (b.map eS) (c.map eS) (d.map eS)
  |_=> .bad
 | .makeSlice t a b=> .R4 (Kn P (vf P t)) (pM P 9 (vf P t)) (eS a) (eS b)
 | .makeFunc (.func g) c d=> .R5 g (c.toList.map eS) (d.toList.map eS)
 | .makeMap t _=> .R6 (bif tb then (match P.underlying t with
  |some (.map _ e)=>acl (Sr P e)
  |_=>acm) else acm)
 | .extract a j=> .ext j (eS a)
 | .lookup t a b ok=>match P.underlying t with
  |some (.map k e)=> .lookup (Hq P k) (Sr P e) ok (eS a) (nM P k b)
  |_=> .bad
 | .mapUpdate t a b c| .insert t a b c=>match P.underlying t with
  |some (.map k e)=> .DG (Hq P k) (eS a) (nM P k b) (nM P e c)
  |_=> .bad
 | .call c=>match c.callee with
  | .builtin b=>Mi P b c.args.toList c.argTypes.toList
  | .value (.func f)=> .call (md f) f (Mf P c.argTypes.toList c.args.toList)
  | .value x=> .rY (eS x) (Mf P c.argTypes.toList c.args.toList)
  |_=> .bad
 |_=> .bad
def ZV (tb:Bool) (md:FuncId->CM) (ops:Array Oper) (o:Oper):bk:=
 ⟨o.dst,cOp P tb md o.type o.op,match o.guard with
  |some (i,b)=>match ops[i]? with
   |some q=>match q.dst with
    |some d=>acl (d,b)
    |none=>acm
   |none=>acm
  |none=>acm⟩
def Mj:List Nat->List Oper->List Nat
 |acc,[]=>acc
 |acc,o::os=>Mj (acc++[(jW acc (ach acc) o.after.toList).getD 0]) os
def bitsOf:Nat->Nat->Nat->List Nat
 |0,_,_=>[]
 |n+1,i,m=>bif ab7 m 0 then [] else bif ab7 (Nat.mod m 2) 1 then i::bitsOf n (i+1) (Nat.div m 2) else bitsOf n (i+1) (Nat.div m 2)
def Mk (l:List (Nat×Nat)) (x:Nat):Nat×Option Nat:=match l with
 | []=>(x,acm)
 |(t,k)::r=>bif ab7 t x then (x,acl k) else Mk r x
def Ml {α:Type} (n:Nat):List (Nat×List α)->List α
 | []=>[]
 |(m,l)::r=>bif ab7 m n then l else Ml n r
def hd (l:List Nat):Nat:=match l with
 |x::_=>x
 | []=>0
structure CSt where
 ks:List Nat
 n:Nat
def A8 (H:ZT):Code->CSt->gC×CSt
 | .region _ ops dr,s=>(.region (match dr with|true=>acl (Mj [] ops.toList)|false=>acm) (ops.toList.map (ZV P H.tb H.md ops)) (bitsOf 1000 0 (hd s.ks)),⟨s.ks.tail,s.n⟩)
 | .seq a b,s=>match A8 H a s with
  |(x,s1)=>match A8 H b s1 with
   |(y,s2)=>(.seq x y,s2)
 | .cond c a b,s=>match A8 H a s with
  |(x,s1)=>match A8 H b s1 with
   |(y,s2)=>(.cond (eS c) x y,s2)
 | .block id b,s=>match A8 H b s with
  |(x,s1)=>(.block id x,s1)
 | .loop b,s=>match A8 H b ⟨s.ks.tail,s.n+1⟩ with
  |(x,s1)=>(.loop ((bitsOf 1000 0 (hd s.ks)).map (Mk (Ml s.n H.adl))++Ml s.n H.more) x,s1)
 | .exit id,s=>(.exit id,s)
 | .ret,s=>(.ret,s)
 |_,s=>(.skip,s)
def adn:ResultVar->RV
 | .tmp t=> .tmp t
 | .cell t ty=> .cell t (Hq P ty)
def ZW (fn:Func) (H:ZT):aG:=
 ⟨fn.params.size+fn.nfree,match fn.body with
  |some c=>(A8 P H c ⟨H.eg,0⟩).1
  |none=> .skip,fn.results.toList.map (adn P)⟩
def ado (ow sh fp:List Nat) (f:FuncId):CM:=bif has ow f then .own else bif has sh f then .shr else bif has fp f then .fp else .Ob
end
end Go.Vm
/- A law's row from what the logical machine answers: the result is acn, nothing that was there has turned. -/
namespace Go.Vm
open Go.ChangeShapes Go.WideShapes Go.ChangeAt Go.RowKit
section
variable {H : Type} {enc : TypeId × Value -> H} {P : Program}
theorem vg (hl:laidOutB P=acn) {W W':World} (hb:Below W.heap.size W W'): ∀{ts:List TypeId} {vs:List Value} {ds:List (DataW H)} {ps:List MemPlace},(∀t∈ts,P.readableRec t=acn/\t<P.types.size)->
 DataW.TrodAll enc P W 0 (fun _=>acn) acn ts vs ds ps->(∀x∈ps,x.block<W.heap.size)->DataW.TrodAll enc P W' 0 (fun b=>decide (b<W.heap.size)) acn ts vs ds ps
 | [],vs,ds,ps,_,h,_=>by obtain ⟨rfl,rfl,rfl⟩:=trodAll_nil h;exact trodAll_mk0
 |t::ts,vs,ds,ps,ht,h,dA=>by obtain ⟨v,GU,d,FQ,p,q,rfl,rfl,rfl,h1,h2⟩:=trodAll_cons h;obtain ⟨h3,h4⟩:=ht t (by simp);exact trodAll_cons_mk (Below.trod hl h3 h4 h1 hb fun x hx=>dA x (by simp [hx])) (vg hl hb (fun t' IX=>ht t' (by simp [IX])) h2 fun x hx=>dA x (by simp [hx]))
theorem Mm (hl:laidOutB P=acn) {f:Func} {s:ChangeSpec} {W W':World} {args:Array Value} {ds:List (DataW H)} {before:List MemPlace} {bt:TypeId} (ZX:s.vars=[]) (xi:f.resultTypes= #[bt]) (hbt:P.underlying bt=acl .bool)
 (hp: ∀t∈f.params.toList,P.readableRec t=acn/\t<P.types.size) (hW:DataW.Whole enc P f.params.toList s.vars acr W args.toList ds [] before)
 (hfn:s.fn H (ds++[])={results:=[.lit (.bool acn)],args:=ds}) (hb:Below W.heap.size W W'):s.post enc P f acr acn acr acr W args (.bool acn) W':=by
 have hW':=hW;obtain ⟨p,q,hA,hV,rfl,Lu,yC⟩:=hW;have dA: ∀x∈p++q,x.block<W.heap.size:=fun x hx=>by simpa using hW'.lt x hx
 refine ⟨ds,[],p++q,[],p,[],hW',?_,?_,?_,hb.frame _,fun h=>by cases h⟩
 · rw [hfn,xi]
   exact trodAll_mk1 (shut_bool hbt acn)
 · rw [hfn]
   exact vg hl hb hp hA fun x hx=>dA x (by simp [hx])
 rw [hfn,ZX]
 rfl
end
def Cz (w:World):Im:=fun b=>w.heap[b]?
theorem Ko {w:World} {b o:Nat} {v:Value} (h:w.cell? ⟨b,o,acm⟩=acl v):gL (Cz w) b o=acl v:=by unfold ac5 at h;unfold gL Cz;exact h
theorem Kp {P:Program} {F:jl} {prims:FuncId->Bool} (hT:FK P prims F) (xa:uo P F) (mP:P.follows .mixedOrders=acn) {f:FuncId} {args:List PV} {s:bG} {z:List Nat} {n:Nat} {us:List Value} {w:World}
 (h:run F n (.func f args [] [])=acl (.func (.bool acn) s z)) (sq:dk (Cz w) cX args us):Calls P f ⟨us⟩ w fun e w'=>e= .returned (.bool acn)/\Below w.heap.size w w':=by
 refine (Kh hT xa mP h (im:=Cz w) (fun b o h=>h) sq).mono fun e w' ⟨u,he,⟨cS,aP,lh,_⟩,h1,h2,h3,h4,h5⟩=>?_
 obtain rfl:=lh.gN;exact ⟨he,⟨h1,h2.eq,h3,h4,h5⟩⟩
end Go.Vm
/- Regions of one order, step by step, for contracts. -/
namespace Go.Vm
def yI:iw->Bool
 | .call .. | .rY .. =>acn
 |_=>acr
variable {F : jl}
def WS (F:jl) (ops:List bk) (st:St) (Q:St->Prop):Prop:= ∀tr,WO F ops st tr (fun s _=>Q s)
def D4 (st:St) (o:bk):Option St:=
 match wanted o.guard st.env with
 |some acn=>match aU st.env st.aj st.fz o.op with
  |some x=>if (XR.loc x).ok st.fz then acl ((XR.loc x).next o.dst st) else acm
  |none=>acm
 |some acr=>acl {st with env:=fR o.dst .gJ st.env}
 |none=>acm
theorem D5 {rec:Task->Option Out} {e:Env} {aj:bG} {fz:List Nat} {op:iw} (h:yI op=acr):
 sf F rec e aj fz op=(aU e aj fz op).map .loc:=by
 cases op<;>first|rfl|cases h
theorem WS.nil {st:St} {Q:St->Prop} (h:Q st):WS F [] st Q:=fun _=>WO.nil h
theorem WS.cons {o:bk} {r:List bk} {st iq:St} {Q:St->Prop} (h:yI o.op=acr) (hs:D4 st o=acl iq) (k:WS F r iq Q):WS F (o::r) st Q:=by
 intro tr;unfold D4 at hs;split at hs
 · rename_i hw
   split at hs
   · rename_i x hx
     split at hs
     · rename_i vL
       injection hs with hs;subst hs;exact WO.op x hw (fun rec=>by rw [D5 h,hx];rfl) vL (k _)
     cases hs
   cases hs
 · rename_i hw
   injection hs with hs;subst hs;exact WO.skip hw (k _)
 cases hs
theorem WS.one {o:bk} {r:List bk} {st:St} {Q:St->Prop} (x:kr) (hc:yI o.op=acr) (hw:wanted o.guard st.env=acl acn) (hx:aU st.env st.aj st.fz o.op=acl x) (vL:(XR.loc x).ok st.fz=acn)
 (k:WS F r ((XR.loc x).next o.dst st) Q):WS F (o::r) st Q:=fun tr=>
 WO.op x hw (fun rec=>by rw [D5 hc,hx];rfl) vL (k _)
def Ai:List bk->St->Option St
 | [],st=>acl st
 |o::r,st=>match yI o.op with
  |true=>acm
  |false=>match D4 st o with
   |some iq=>Ai r iq
   |none=>acm
theorem WS.all: ∀{ops:List bk} {st iq:St} {Q:St->Prop},Ai ops st=acl iq->Q iq->WS F ops st Q
 | [],st,iq,Q,h,hq=>by simp only [Ai,pp] at h;subst h;exact WS.nil hq
 |o::r,st,iq,Q,h,hq=>by
  simp only [Ai] at h;cases hc:yI o.op with
  |true=>rw [hc] at h;cases h
  |false=>
   rw [hc] at h;dsimp only at h;cases hs:D4 st o with
   |none=>rw [hs] at h;cases h
   |some s1=>rw [hs] at h;exact WS.cons hc hs (WS.all h hq)
theorem WS.pure {d:Option Nat} {g:Option (Nat×Bool)} {f:FuncId} {as:List dI} {r:List bk} {st:St} {Q:St->Prop}
 {args:List PV} {v:PV} (h:Pure F f args v) (hw:wanted g st.env=acl acn) (ha:yj st.aj (sO st.aj deep) (As st.env as)=acl args)
 (k:WS F r {st with env:=fR d v st.env} Q):WS F (⟨d,.call .Ob f as,g⟩::r) st Q:=fun tr=>by
 refine WO.pure h hw ha ?_;have:=k (XR.tr (ach st.aj) (.loc {v,rd:=ck (bW st.aj deep) (As st.env as)})::tr);simpa [XR.next,nI,ez] using this
theorem WS.shr {d:Option Nat} {g:Option (Nat×Bool)} {f:FuncId} {as:List dI} {r:List bk} {st:St} {Q:St->Prop}
 (hw:wanted g st.env=acl acn) (h:vM F f (As st.env as) st.aj st.fz fun v s z=>(abF (ach st.aj) (ach s)&&st.fz.all (has z))=acn/\WS F r {st with env:=fR d v st.env,aj:=s,fz:=z} Q):
 WS F (⟨d,.call .shr f as,g⟩::r) st Q:=fun tr=>by
 obtain ⟨n,v,s,z,hr,hc,hk⟩:=h;refine WO.call (.shr v s z) hw ⟨n,?_⟩ rfl (hk _);simp only [sf,eh,hr];rw [ol hc]
end Go.Vm
/- Plain terms for what a function computes: loops, elements of lists, numbers; and the machine's loop over a plain one. -/
namespace Go.Vm
inductive Step (σ ρ:Type) where
 |next (s:σ)
 |done (r:ρ)
section
variable {σ ρ : Type}
def jY (body:σ->Option (Step σ ρ)):Nat->σ->Option ρ
 |0,_=>acm
 |n+1,x=>match body x with
  |some (.next y)=>jY body n y
  |some (.done r)=>acl r
  |none=>acm
open Classical in
noncomputable def Hr (body:σ->Option (Step σ ρ)) (x:σ):Option ρ:=
 if h: ∃n r,jY body n x=acl r then jY body h.choose x else acm
theorem vY {body:σ->Option (Step σ ρ)}: ∀{n:Nat} {x:σ} {r:ρ},jY body n x=acl r-> ∀k,jY body (n+k) x=acl r
 |0,x,r,h,_=>by cases h
 |n+1,x,r,h,k=>by
  rw [show n+1+k=(n+k)+1 by omega];simp only [jY] at h ⊢;split at h
  · exact vY h k
  · exact h
  cases h
theorem Kq {body:σ->Option (Step σ ρ)} {n m:Nat} {x:σ} {r s:ρ} (h:jY body n x=acl r) (k:jY body m x=acl s):r=s:=by have h1:=vY h m;have h2:=vY k n;rw [Nat.add_comm m n] at h2;rw [h1] at h2;exact abL h2
theorem zx {body:σ->Option (Step σ ρ)} {x:σ} {r:ρ}:Hr body x=acl r↔ ∃n,jY body n x=acl r:=by
 unfold Hr;constructor
 · intro h
   split at h
   · exact ⟨_,h⟩
   cases h
 rintro ⟨n,hn⟩
 have hex: ∃n r,jY body n x=acl r:=⟨n,r,hn⟩;rw [dif_pos hex];obtain ⟨s,hs⟩:=hex.choose_spec;rw [hs,Kq hs hn]
end
noncomputable def I1 {σ ρ:Type} (b:Option Nat) (body:σ->Option (Step σ ρ)) (x:σ):Option ρ:=
 match b with
 |none=>Hr body x
 |some N=>jY body N x
theorem FT {σ ρ:Type} {b:Option Nat} {body:σ->Option (Step σ ρ)} {x:σ} {r:ρ} (h:I1 b body x=acl r): ∃n,jY body n x=acl r:=by
 cases b with
 |none=>exact zx.1 h
 |some N=>exact ⟨_,h⟩
class LP where
 w:Option Nat
abbrev LP.of (n:Nat):LP:=⟨acl n⟩
noncomputable def ax [LP] {σ ρ:Type} (body:σ->Option (Step σ ρ)) (x:σ):Option ρ:=I1 LP.w body x
def az [LP]:Option Nat:=LP.w
theorem ZY {α β:Type} {x:Option α} {f:α->Option β} {r:β} (h:x.bind f=acl r): ∃a,x=acl a/\f a=acl r:=by
 cases x with
 |none=>cases h
 |some a=>exact ⟨a,rfl,h⟩
def Sw {α ρ:Type} (x:Option α) (f:α->Option ρ):Option ρ:=x.bind f
def Sx {ρ:Type} (c:Bool) (a b:Option ρ):Option ρ:=cond c a b
theorem Hs {α ρ:Type} {x:Option α} {f:α->Option ρ} {y:ρ} (h:Sw x f=acl y): ∃a,x=acl a/\f a=acl y:=ZY h
theorem Ht {ρ:Type} {c:Bool} {a b:Option ρ} {y:ρ} (h:Sx c a b=acl y):(c=acn/\a=acl y)\/(c=acr/\b=acl y):=by
 cases c
 · exact .inr ⟨rfl,h⟩
 exact .inl ⟨rfl,h⟩
def aA {α:Type} (l:List α) (i:Int):Option α:=
 match i with
 | .ofNat n=>l[n]?
 | .negSucc _=>acm
def bA {α:Type} (l:List α) (i:Int) (a:α):List α:=l.set i.toNat a
theorem jZ {α:Type} {l:List α} {i:Int} {a:α} (h:aA l i=acl a): ∃n:Nat,i=acf n/\l[n]? =acl a:=by
 unfold aA at h;split at h
 · exact ⟨_,rfl,h⟩
 cases h
@[simp] theorem xk {α:Type} (l:List α) (i:Int) (a:α):(bA l i a).length=(ach l):=by simp [bA]
def aX {α:Type} (l:List α) (m:List α):Option (List α):=if (ach l)+ach m<=1048576 then acl (l++m) else acm
def o9 {α:Type} (n:Int) (z:α):Option (List α):=if 0<=n/\n<=1048576 then acl (ace n.toNat z) else acm
def gx {α:Type} (l:List α) (lo hi:Int):Option (List α):=if 0<=lo/\lo<=hi/\hi<=(ach l) then acl ((l.drop lo.toNat).take (hi.toNat-lo.toNat)) else acm
def bD {α:Type} (l:List α):Option (List α):=if (ach l)<=1048576 then acl l else acm
def TH {α:Type} (l m:List α):Option (List α):=if 1<=ach l+ach m/\ach l+ach m<=1048576 then acl (l++m) else acm
def D6 {α:Type} (l:List α) (i:Int) (m:List α):Option (List α):=if 0<=i/\i.toNat<=ach l/\ach m=1/\ach l+1<=1048576 then acl (l.take i.toNat++m++l.drop i.toNat) else acm
def A9 {α:Type} (f:List α->Option (List α)) (l:List α):Option (List α):=
 if (ach l)<=1048576 then (match f l with
 |some m=>if (ach m)=(ach l) then acl m else acm
 |none=>acm) else acm
def D7 {α:Type} (f:List α->Option (List α)) (n:Nat) (l:List α):Option (List α):=if n<=(ach l) then (A9 f (l.take n)).map (· ++l.drop n) else acm
def zW (k:IntKind) (a b:Int):Int:=k.wrap (BitVec.ofInt k.bits a&&&BitVec.ofInt k.bits b).toNat
def bOr (k:IntKind) (a b:Int):Int:=k.wrap (BitVec.ofInt k.bits a|||BitVec.ofInt k.bits b).toNat
def adq (k:IntKind) (a b:Int):Int:=k.wrap (BitVec.ofInt k.bits a^^^BitVec.ofInt k.bits b).toNat
def OV (k:IntKind) (a b:Int):Int:=k.wrap (BitVec.ofInt k.bits a&&& ~~~ BitVec.ofInt k.bits b).toNat
def adr (k:IntKind) (a b:Int):Int:=k.wrap (a*2^(min b.toNat k.bits))
def lG (k:IntKind) (a b:Int):Int:=a.fdiv (2^(min b.toNat k.bits))
def Sy (s:ByteArray) (i:Int):Option Int:=
 match i with
 | .ofNat n=>s[n]?.map fun b=>(b.toNat:Int)
 | .negSucc _=>acm
def zX (l:List (List Int)) (k:List Int):Bool:=l.any fun m=>k==m
def Hu (l:List (List Int)) (k:List Int):List (List Int):=bif zX l k then l else l++[k]
def kE (a:List Int) (l:List (List Int)):Bool:=l.all fun b=>ab7 (ach b) (ach a)
def FU (l:List (List Int)) (k:List Int):Option Bool:=bif kE k l then acl (zX l k) else acm
def FV (l:List (List Int)) (k:List Int):Option (List (List Int)):=bif kE k l then acl (Hu l k) else acm
def zy {α:Type} (z:α):List (Int×α)->Int->α
 | [],_=>z
 |p::r,k=>bif k==p.1 then p.2 else zy z r k
def zz {α:Type}:List (Int×α)->Int->α->List (Int×α)
 | [],k,a=>[(k,a)]
 |p::r,k,a=>bif k==p.1 then (k,a)::r else p::zz r k a
section
variable {F : jl}
end
end Go.Vm
