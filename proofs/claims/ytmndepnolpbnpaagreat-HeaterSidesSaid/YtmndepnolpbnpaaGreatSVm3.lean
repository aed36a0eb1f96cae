/- The logical machine, part 3: SvDef, SvCod, SvRel, SvOps1, SvOps2, SvOps3, SvOps4, SvNorm, SvCall, SvFp. -/
import Derived.Test.YtmndepnolpbnpaaGreatSVm2
open Nat renaming eq_of_beq_eq_true->pm,beq->ut,ble->ww,le_of_ble_eq_true->EQ,beq_refl->aau,blt->ab9,lt_or_ge->abk,zero_add->abm,min_eq_left->abM,beq_eq->abS,le_of_lt->abW,sub_self->ace
open Bool renaming and_eq_true->pp,and_self->PP,false_eq_true->UV,not_eq_true'->aag,not_false->abx,not_true->abR,and_true->acd,true->acl,false->acm
open List renaming getElem?_append_left->rc,getElem?_eq_some_iff->v4,getElem?_append_right->v6,getElem?_eq_getElem->AC,getElem?_set->Do,replicate->If,length_cons->M2,map_cons->NE,append_nil->aah,length_map->aaj,take_of_length_le->ab0,map_take->ab2,getElem?_cons_succ->ab3,append_assoc->ab5,drop_zero->ab6,length_take->ab7,getElem?_eq_none_iff->ab8,length_eq_zero_iff->abb,mem_cons_of_mem->abD,getElem?_take_of_lt->abG,map_drop->abH,getElem?_cons_zero->abI,all_eq_true->abL,nodup_cons->abN,take_succ_cons->abO,getElem_of_mem->abP,all_cons->abQ,cons_beq_cons->abT,mem_cons_self->abU,map_set->abV,ext_getElem?->abX,map_nil->abY,flatMap_cons->abZ,cons_append->ac5,all_append->aca,map_append->acb,length->acf
open Option.some renaming injEq->wn
open Prod.mk renaming injEq->IR
open Int renaming eq_ofNat_of_zero_le->aa7,ofNat->ab1,le_trans->abE
open Option renaming map_eq_some_iff->ab4,isSome_iff_exists->abF,getD_none->abK,getD_some->ac3,some->acg,none->ach
open Decidable renaming decide->acn
/- A logical machine over typed values: it turns a function's code into a plain term. What it computes is tied to the logical machine in SvRun. -/
namespace Go.Vm
inductive PT where
 |i (k:IntKind)
 |b
@[reducible] def PT.T : PT -> Type
  | .i _ => Int
  | .b => Bool
@[reducible] def RT : List PT -> Type
  | [] => Unit
  | [p] => p.T
  | p :: q :: r => p.T × RT (q :: r)
inductive SV where
 |fi
 |undef
 |gJ
 |cL
 |int (k:IntKind) (n:Int)
 |bool (b:Bool)
 |str (s:ByteArray)
 |agg (cs:List SV)
 |bH (cs:List SV)
 |sl (r:List PT) (l:List (RT r))
 |nil (e:Nat) (c:Bool)
 |own (t:Nat) (ex:Bool)
 |pre (t len cap:Nat) (ex:Bool)
 |part (t off len cap:Nat) (ex:Bool)
 |pa (t:Nat) (r:List PT) (i:Int) (a:RT r) (off:Nat)
 |pb (t:Nat) (i:Int) (off:Nat)
 |bp (t n off:Nat)
 |aW (cs:List SV) (off:Nat)
 |di (f:FuncId) (a b:List SV)
 |mp (t:Nat)
inductive SB where
 |arr (r:List PT) (l:List (RT r))
 |box (cs:List SV)
 |set (l:List (List Int))
 |bB (p:PT) (l:List (RT [.i .i64,p]))
 |dead
abbrev SE:=List (Nat×SV)
structure lH where
 env:SE
 aj:List SB
 fz:List Nat
 kn:Nat
structure Rows where
 r:List PT
 l:List (RT r)
def PT.same:PT->PT->Bool
 | .i k,.i l=>dF k l
 | .b,.b=>acl
 |_,_=>acm
def xl:List PT->List PT->Bool
 | [],[]=>acl
 |p::r,q::s=>p.same q&&xl r s
 |_,_=>acm
theorem PT.I2: ∀{p q:PT},p.same q=acl->p=q
 | .i k,.i l,h=>by rw [dy.1 h]
 | .b,.b,_=>rfl
 | .i _,.b,h=>by cases h
 | .b,.i _,h=>by cases h
theorem qv: ∀{r s:List PT},xl r s=acl->r=s
 | [],[],_=>rfl
 |p::r,q::s,h=>by simp only [xl,pp] at h;rw [PT.I2 h.1,qv h.2]
 | [],_::_,h=>by cases h
 |_::_,[],h=>by cases h
def oo (r q:List PT) (l:List (RT r)):Option (List (RT q)):=if h:xl r q=acl then acg (qv h▸l) else ach
def PT.pv:(p:PT)->p.T->PV
 | .i k,n=> .int k n
 | .b,x=> .bool x
def RT.pv:(r:List PT)->RT r->List PV
 | [],_=>[]
 | [p],a=>[p.pv a]
 |p::q::r,a=>p.pv a.1::RT.pv (q::r) a.2
def PT.sv:(p:PT)->p.T->SV
 | .i k,n=> .int k n
 | .b,x=> .bool x
def RT.sv:(r:List PT)->RT r->List SV
 | [],_=>[]
 | [p],a=>[p.sv a]
 |p::q::r,a=>p.sv a.1::RT.sv (q::r) a.2
def PT.of:(p:PT)->SV->Option p.T
 | .i k,.int l n=>bif dF l k then acg n else ach
 | .b,.bool x=>acg x
 |_,_=>ach
def RT.of:(r:List PT)->List SV->Option (RT r)
 | [],[]=>acg ()
 | [p],[v]=>p.of v
 |p::q::r,v::vs=>match p.of v,RT.of (q::r) vs with
  |some a,acg b=>acg (a,b)
  |_,_=>ach
 |_,_=>ach
def PT.zero:(p:PT)->p.T
 | .i _=>(0:Int)
 | .b=>acm
def RT.zero:(r:List PT)->RT r
 | []=>()
 | [p]=>p.zero
 |p::q::r=>(p.zero,RT.zero (q::r))
def pN:PV->Option PT
 | .int k n=>match n with
  | .ofNat 0=>acg (.i k)
  |_=>ach
 | .bool b=>match b with
  |false=>acg .b
  |true=>ach
 |_=>ach
def A':List PV->Option (List PT)
 | []=>acg []
 |v::vs=>match pN v,A' vs with
  |some p,acg r=>acg (p::r)
  |_,_=>ach
def nth {α:Type}:List α->Nat->Option α
 | [],_=>ach
 |x::_,0=>acg x
 |_::r,n+1=>nth r n
theorem bz {α:Type}: ∀(l:List α) (n:Nat),nth l n=l[n]?
 | [],n=>by simp [nth]
 |x::r,0=>by simp [nth]
 |x::r,n+1=>by simp [nth,bz r n]
def zA (t:Nat):SE->SV
 | []=> .undef
 |(s,v)::r=>bif ut s t then v else zA t r
def vZ (t:Nat) (v:SV):SE->SE
 | []=>[]
 |(s,x)::r=>bif ut s t then (s,v)::r else (s,x)::vZ t v r
mutual
def OW:PV->SV
 | .undef=> .undef
 | .gJ=> .gJ
 | .cL=> .cL
 | .int k n=> .int k n
 | .bool b=> .bool b
 | .str s=> .str s
 | .agg cs=> .agg (xm cs)
 | .bH cs=> .bH (xm cs)
 | .sl e c rows=>match rows with
  | []=> .nil e c
  |_=> .fi
 | .di f a b=> .di f (xm a) (xm b)
 |_=> .fi
def xm:List PV->List SV
 | []=>[]
 |x::xs=>OW x::xm xs
end
def bm (e:SE):dI->SV
 | .t n=>zA n e
 | .c v=>OW v
def gP (e:SE):List dI->List SV
 | []=>[]
 |x::xs=>bm e x::gP e xs
def SV.mG:SV->Bool
 | .fi| .undef| .gJ| .agg _| .bH _=>acm
 |_=>acl
def tf:List SV->Bool
 | []=>acl
 |x::xs=>x.mG&&tf xs
def SV.cells:SV->List SV
 | .agg cs=>cs
 |v=>[v]
def SV.stored (v:SV):Option (List SV):=bif tf v.cells then acg v.cells else ach
def vj (agg:Option Nat) (off:Nat) (cs:List SV):Option SV:=
 match agg with
 |some s=>bif ww (off+s) (acf cs) then acg (.agg ((cs.drop off).take s)) else ach
 |none=>nth cs off
def mh (off:Nat) (new old:List SV):List SV:=old.take off++new++old.drop (off+acf new)
def vn (s:List SB):SV->Option Rows
 | .sl r l=>acg ⟨r,l⟩
 | .own t _=>match nth s t with
  |some (.arr r l)=>acg ⟨r,l⟩
  |_=>ach
 | .pre t len _ _=>match nth s t with
  |some (.arr r l)=>acg ⟨r,l.take len⟩
  |_=>ach
 | .part t off len _ _=>match nth s t with
  |some (.arr r l)=>acg ⟨r,(l.drop off).take len⟩
  |_=>ach
 |_=>ach
def qZ:SV->List Nat
 | .own t _=>[t]
 | .pre t _ _ _=>[t]
 | .part t _ _ _ _=>[t]
 |_=>[]
structure ej where
 v:SV
 news:List SB:=[]
 wr:List (Nat×SB):=[]
 rd:List Nat:=[]
 fr:List Nat:=[]
def eN (R:Type):= ∀ρ:Type,(R->ρ)->Option ρ
section
variable {R : Type}
def zB (b:R):eN R:=fun _ w=>acg (w b)
def aE:eN R:=fun _ _=>ach
def iE {α:Type} (x:Option α) (f:α->eN R):eN R:=fun ρ w=>Sw x fun a=>f a ρ w
def eu (c:Bool) (a b:eN R):eN R:=fun ρ w=>Sx c (a ρ w) (b ρ w)
def OX (v:SV) (k:SV->eN R):eN R:=
 match v with
 | .fi=>k .fi
 | .undef=>k .undef
 | .gJ=>k .gJ
 | .cL=>k .cL
 | .int a b=>k (.int a b)
 | .bool a=>k (.bool a)
 | .str a=>k (.str a)
 | .agg a=>k (.agg a)
 | .bH a=>k (.bH a)
 | .sl a b=>k (.sl a b)
 | .nil a b=>k (.nil a b)
 | .own a b=>k (.own a b)
 | .pre a b c d=>k (.pre a b c d)
 | .part a b c d x=>k (.part a b c d x)
 | .pa a b c d e=>k (.pa a b c d e)
 | .pb a b c=>k (.pb a b c)
 | .bp a b c=>k (.bp a b c)
 | .aW a b=>k (.aW a b)
 | .di a b c=>k (.di a b c)
 | .mp a=>k (.mp a)
theorem D8 (v:SV) (k:SV->eN R):OX v k=k v:=by cases v<;>rfl
def Hv (op:BinOp) (k:IntKind) (a b:Int) (c:SV->eN R):eN R:=
 match op with
 | .add=>c (.int k (aa k (a+b)))
 | .sub=>c (.int k (aa k (a-b)))
 | .mul=>c (.int k (aa k (a*b)))
 | .quo=>eu (b==0) aE (c (.int k (aa k (Int.tdiv a b))))
 | .rem=>eu (b==0) aE (c (.int k (Int.tmod a b)))
 | .and=>c (.int k (zW k a b))
 | .or=>c (.int k (bOr k a b))
 | .xor=>c (.int k (adq k a b))
 | .andNot=>c (.int k (OV k a b))
 | .eql=>c (.bool (a==b))
 | .neq=>c (.bool (a !=b))
 | .lss=>c (.bool (acn (a<b)))
 | .leq=>c (.bool (acn (a<=b)))
 | .gtr=>c (.bool (acn (b<a)))
 | .geq=>c (.bool (acn (b<=a)))
 | .shl| .shr=>aE
def eqS:List SV->List SV->Option Bool
 | [],[]=>acg acl
 |x::xs,y::ys=>match x,y with
  | .int k a,.int l b=>bif dF k l then (match xs with
   | []=>(match ys with| []=>acg (a==b)|_=>ach)
   |_::_=>match eqS xs ys with
    |some r=>acg (a==b&&r)
    |none=>ach) else ach
  |_,_=>ach
 |_,_=>ach
def q7:List (Nat×Nat×SV)->List SV->Option (List SV)
 | [],cs=>acg cs
 |(off,sz,v)::r,cs=>match v.stored with
  |some w=>bif ut (acf w) sz&&ww (off+sz) (acf cs) then q7 r (mh off w cs) else ach
  |none=>ach
def tg (e:SE):List (Nat×Nat×dI)->List (Nat×Nat×SV)
 | []=>[]
 |p::r=>(p.1,p.2.1,bm e p.2.2)::tg e r
def I3 (r:List PT) (e:SE) (n:Nat):List (Nat×dI)->Option (List (Nat×RT r))
 | []=>acg []
 |p::ps=>match RT.of r (bm e p.2).cells,I3 r e n ps with
  |some a,acg l=>bif ab9 p.1 n then acg ((p.1,a)::l) else ach
  |_,_=>ach
def rowAt {α:Type} (i:Nat):α->List (Nat×α)->α
 |z,[]=>z
 |z,(j,a)::r=>rowAt i (bif ut j i then a else z) r
def D9 {α:Type} (f:Nat->α):Nat->Nat->List α
 |_,0=>[]
 |i,n+1=>f i::D9 f (i+1) n
def yJ (e:SE) (d:Int):Option dI->Option Int
 |none=>acg d
 |some x=>match bm e x with
  | .int _ n=>acg n
  |_=>ach
def mmS (isMax:Bool) (k:IntKind):Int->List SV->Option SV
 |a,[]=>acg (.int k a)
 |a,x::r=>match x with
  | .int l b=>bif dF k l then mmS isMax k (bif isMax then (if b>a then b else a) else (if b<a then b else a)) r else ach
  |_=>ach
def I4:List SV->Option (List Int)
 | []=>acg []
 |x::xs=>match x,I4 xs with
  | .int .i64 n,acg l=>acg (n::l)
  |_,_=>ach
def OY (n:Option Nat) (v:SV):Option (List Int):=
 match n,v with
 |none,.int .i64 a=>acg [a]
 |some n,.agg cs=>bif ut (acf cs) n&&!Nat.beq n 1 then I4 cs else ach
 |_,_=>ach
def Ba (n:Nat) (i:Int) (j:Nat) (f:Nat->eN R):eN R:=
 match n with
 |0=>aE
 |n+1=>eu (i==ab1 j) (f j) (Ba n i (j+1) f)
def iN {α:Type} (x:Option α) (k:α->eN R):eN R:=
 match x with
 |some a=>k a
 |none=>aE
def TI (k:ej->eN R) (v:SV):eN R:=k {v}
def Sz (s:List SB) (esz:Nat) (x:SV) (i:Int) (k:ej->eN R):eN R:=
 match x with
 | .sl r l=>bif ut (acf r) esz then iE (aA l i) fun a=>k {v:= .aW (RT.sv r a) 0} else aE
 | .own t _=>match nth s t with
  |some (.arr r l)=>bif ut (acf r) esz then iE (aA l i) fun a=>k {v:= .pa t r i a 0} else aE
  |_=>aE
 | .pre t len _ _=>match nth s t with
  |some (.arr r l)=>bif ut (acf r) esz then iE (aA (l.take len) i) fun a=>k {v:= .pa t r i a 0} else aE
  |_=>aE
 | .part t off len _ _=>match nth s t with
  |some (.arr r l)=>bif ut (acf r) esz then iE (aA ((l.drop off).take len) i) fun a=>k {v:= .pa t r (.ofNat (off+i.toNat)) a 0} else aE
  |_=>aE
 |_=>aE
def SA (s:List SB) (agg:Option Nat) (p:SV) (k:ej->eN R):eN R:=
 match p with
 | .bp t _ off=>match nth s t with
  |some (.box cs)=>iN (vj agg off cs) fun v=>k {v,rd:=[t]}
  |_=>aE
 | .pa t r _ a off=>match nth s t with
  |some (.arr _ _)=>iN (vj agg off (RT.sv r a)) fun v=>k {v,rd:=[t]}
  |_=>aE
 | .pb t i off=>match nth s t with
  |some (.arr r l)=>iE (aA l i) fun a=>iN (vj agg off (RT.sv r a)) fun v=>k {v,rd:=[t]}
  |_=>aE
 | .aW cs off=>iN (vj agg off cs) fun v=>k {v}
 |_=>aE
def Mn (s:List SB) (z:List Nat) (sz:Nat) (p v:SV) (k:ej->eN R):eN R:=
 match p with
 | .bp t _ off=>match nth s t with
  |some (.box cs)=>iN v.stored fun w=>bif ut (acf w) sz&&ww (off+sz) (acf cs)&&!has z t then k {v:= .undef,wr:=[(t,.box (mh off w cs))]} else aE
  |_=>aE
 | .pa t r i a off=>match nth s t with
  |some (.arr q l)=>bif ut (acf v.cells) sz&&ww (off+sz) (acf r)&&!has z t then
   iN (RT.of q (mh off v.cells (RT.sv r a))) fun b=>k {v:= .undef,wr:=[(t,.arr q (bA l i b))]} else aE
  |_=>aE
 | .pb t i off=>match nth s t with
  |some (.arr q l)=>bif ut (acf v.cells) sz&&ww (off+sz) (acf q)&&!has z t then
   (bif ut sz (acf q) then iN (RT.of q v.cells) fun b=>k {v:= .undef,wr:=[(t,.arr q (bA l i b))]}
   else iE (aA l i) fun a=>iN (RT.of q (mh off v.cells (RT.sv q a))) fun b=>k {v:= .undef,wr:=[(t,.arr q (bA l i b))]}) else aE
  |_=>aE
 |_=>aE
def Hw (e:SE) (t off len cap:Nat) (ex:Bool) (lo hi mx:Option dI) (k:ej->eN R):eN R:=
 iN (yJ e 0 lo) fun a=>iN (yJ e (.ofNat len) hi) fun b=>match mx with
  |none=>eu (acn (0<=a)&&acn (a<=b)&&acn (b<= .ofNat cap)) (k {v:= .part t (off+a.toNat) (b.toNat-a.toNat) (cap-a.toNat) ex}) aE
  |some m=>match bm e m with
   | .int _ c=>eu (acn (0<=a)&&acn (a<=b)&&acn (b<=c)&&acn (c<= .ofNat cap)) (k {v:= .part t (off+a.toNat) (b.toNat-a.toNat) (c.toNat-a.toNat) acl}) aE
   |_=>aE
def ZZ (e:SE) (s:List SB) (esz:Nat) (x:SV) (lo hi mx:Option dI) (k:ej->eN R):eN R:=
 match x with
 | .sl r l=>match mx with
  |none=>bif ut (acf r) esz then iN (yJ e 0 lo) fun a=>iN (yJ e (ab1 (acf l)) hi) fun b=>iE (gx l a b) fun m=>k {v:= .sl r m} else aE
  |some _=>aE
 | .own t ex=>match nth s t with
  |some (.arr r l)=>bif ut (acf r) esz then (match lo,hi,mx with
   |none,ach,ach=>k {v:= .own t ex}
   |none,acg h,ach=>match bm e h with
    | .int _ b=>iE (gx l 0 b) fun _=>k {v:= .pre t b.toNat (acf l) ex}
    |_=>aE
   |lo,hi,mx=>Hw e t 0 (acf l) (acf l) ex lo hi mx k) else aE
  |_=>aE
 | .pre t len cap ex=>match nth s t with
  |some (.arr r _)=>bif ut (acf r) esz then (match lo,hi,mx with
   |none,ach,ach=>eu (ww len cap) (k {v:= .pre t len cap ex}) aE
   |none,acg h,ach=>match bm e h with
    | .int _ b=>eu (acn (0<=b)&&acn (b<= .ofNat cap)) (k {v:= .pre t b.toNat cap ex}) aE
    |_=>aE
   |lo,hi,mx=>Hw e t 0 len cap ex lo hi mx k) else aE
  |_=>aE
 | .part t off len cap ex=>match nth s t with
  |some (.arr r _)=>bif ut (acf r) esz then Hw e t off len cap ex lo hi mx k else aE
  |_=>aE
 |_=>aE
def ek {α:Type} (l:List α) (n:Nat) (m:List α):List α:=l.take n++m++l.drop (n+acf m)
def SV.TJ:SV->Bool
 | .part .. =>acl
 |_=>acm
def I5 (s:List SB) (z:List Nat) (esz:Nat) (x y:SV) (k:ej->eN R):eN R:=
 match vn s y with
 |none=>aE
 |some ⟨q,m⟩=>bif ut (acf q) esz then (match x with
  | .nil _ c=>bif c then iE (bD m) fun m'=>k {v:= .own (acf s) acm,news:=[.arr q m'],rd:=qZ y} else aE
  | .own t ex=>match nth s t with
   |some (.arr r l)=>match oo q r m with
    |none=>aE
    |some m=>match ex with
     |true=>eu l.isEmpty (iE (bD m) fun m'=>k {v:= .own (acf s) acm,news:=[.arr r m'],rd:=t::qZ y})
      (eu m.isEmpty (k {v:= .own t acl,rd:=qZ y}) (iE (aX l m) fun l'=>k {v:= .own (acf s) acm,news:=[.arr r l'],rd:=t::qZ y}))
     |false=>eu m.isEmpty (k {v:= .own t acm,rd:=qZ y})
      (bif has z t then aE else iE (aX l m) fun l'=>k {v:= .own (acf s) acm,news:=[.arr r l'],wr:=[(t,.dead)],rd:=qZ y})
   |_=>aE
  | .pre t len cap ex=>match nth s t with
   |some (.arr r l)=>match oo q r m with
    |none=>aE
    |some m=>bif ex then aE else eu m.isEmpty (k {v:= .pre t len cap acm,rd:=qZ y})
     (eu (ww (len+acf m) cap) (eu (ww (len+acf m) (acf l)&&!has z t) (k {v:= .pre t (len+acf m) cap acm,wr:=[(t,.arr r (ek l len m))],rd:=qZ y}) aE)
      (bif has z t||y.TJ then aE else iE (aX (l.take len) m) fun l'=>eu (ww len (acf l)) (k {v:= .own (acf s) acm,news:=[.arr r l'],wr:=[(t,.dead)],rd:=qZ y}) aE))
   |_=>aE
  |_=>aE) else aE
def Mo (s:List SB) (z:List Nat) (esz:Nat) (zero:Row) (x:SV) (k:ej->eN R):eN R:=
 match x with
 | .part t off len _ _=>match nth s t with
  |some (.arr r l)=>match A' zero with
   |some q=>bif xl q r&&ut (acf r) esz then eu (ut len 0) (k {v:= .undef})
    (eu (ww (off+len) (acf l)&&!has z t) (k {v:= .undef,wr:=[(t,.arr r (ek l off (If len (RT.zero r))))]}) aE) else aE
   |none=>aE
  |_=>aE
 |_=>aE
def I6 (n:Option Nat) (zero:PV) (ok:Bool) (t:Nat) (l:List (List Int)) (q:SV) (k:ej->eN R):eN R:=
 match zero,ok with
 | .bool acm,acm=>iN (OY n q) fun a=>iE (FU l a) fun b=>k {v:= .bool b,rd:=[t]}
 |_,_=>aE
def Mp (n:Option Nat) (t:Nat) (l:List (List Int)) (q x:SV) (k:ej->eN R):eN R:=
 match x with
 | .bool acl=>iN (OY n q) fun a=>iE (FV l a) fun m=>k {v:= .undef,wr:=[(t,.set m)]}
 |_=>aE
def PT.get:(p:PT)->p.T->List (RT [.i .i64,p])->Int->p.T
 | .i _,z,l,k=>zy (α:=Int) z l k
 | .b,z,l,k=>zy (α:=Bool) z l k
def PT.put:(p:PT)->List (RT [.i .i64,p])->Int->p.T->List (RT [.i .i64,p])
 | .i _,l,k,a=>zz (α:=Int) l k a
 | .b,l,k,a=>zz (α:=Bool) l k a
def I7 (n:Option Nat) (zero:PV) (ok:Bool) (t:Nat) (p:PT) (l:List (RT [.i .i64,p])) (q:SV) (k:ej->eN R):eN R:=
 match n with
 |none=>match ok with
  |false=>match q with
   | .int .i64 a=>iN (p.of (OW zero)) fun z=>k {v:=p.sv (p.get z l a),rd:=[t]}
   |_=>aE
  |true=>aE
 |some _=>aE
def Mq (n:Option Nat) (t:Nat) (p:PT) (l:List (RT [.i .i64,p])) (q x:SV) (k:ej->eN R):eN R:=
 match n with
 |none=>match q with
  | .int .i64 a=>iN (p.of x) fun v=>k {v:= .undef,wr:=[(t,.bB p (p.put l a v))]}
  |_=>aE
 |some _=>aE
def Bb (s:List SB) (z:List Nat) (t:Nat) (r:List PT) (l:List (RT r)) (off len:Nat) (y:SV) (k:ej->eN R):eN R:=
 match vn s y with
 |none=>aE
 |some ⟨q,m⟩=>match oo q r m with
  |none=>aE
  |some m=>eu (m.take len).isEmpty (k {v:= .int .i64 0,rd:=qZ y})
   (eu (ww (off+(m.take len).length) (acf l)&&!has z t) (k {v:= .int .i64 (.ofNat (m.take len).length),wr:=[(t,.arr r (ek l off (m.take len)))],rd:=qZ y}) aE)
def SC (s:List SB) (z:List Nat) (esz:Nat) (x y:SV) (k:ej->eN R):eN R:=
 match x with
 | .own t _=>match nth s t with
  |some (.arr r l)=>bif ut (acf r) esz then Bb s z t r l 0 (acf l) y k else aE
  |_=>aE
 | .pre t len _ _=>match nth s t with
  |some (.arr r l)=>bif ut (acf r) esz then Bb s z t r l 0 len y k else aE
  |_=>aE
 | .part t off len _ _=>match nth s t with
  |some (.arr r l)=>bif ut (acf r) esz then Bb s z t r l off len y k else aE
  |_=>aE
 |_=>aE
def js (e:SE) (s:List SB) (z:List Nat) (op:iw) (k:ej->eN R):eN R:=
 match op with
 | .Lc x=>k {v:=bm e x}
 | .pick c a b=>match bm e c with
  | .bool c=>eu c (k {v:=bm e a}) (k {v:=bm e b})
  |_=>aE
 | .bin op x y=>match bm e x with
  | .int ka a=>match bm e y with
   | .int kb b=>match op with
    | .shl=>eu (acn (b<0)) aE (k {v:= .int ka (adr ka a b)})
    | .shr=>eu (acn (b<0)) aE (k {v:= .int ka (lG ka a b)})
    |op=>bif dF ka kb then Hv op ka a b (TI k) else aE
   |_=>aE
  |_=>aE
 | .E0 neg x y=>match bm e x with
  | .bool a=>match bm e y with
   | .bool b=>k {v:= .bool (bif neg then !(a==b) else a==b)}
   |_=>aE
  |_=>aE
 | .R3 n neg x y=>match bm e x with
  | .agg xs=>match bm e y with
   | .agg ys=>bif ut (acf xs) n&&ut (acf ys) n then iN (eqS xs ys) fun b=>k {v:= .bool (bif neg then !b else b)} else aE
   |_=>aE
  |_=>aE
 | .un op x=>match op with
  | .neg=>match bm e x with
   | .int a n=>k {v:= .int a (aa a (0-n))}
   |_=>aE
  | .not=>match bm e x with
   | .bool b=>k {v:= .bool !b}
   |_=>aE
  |_=>aE
 | .conv a x=>match bm e x with
  | .int _ n=>k {v:= .int a (aa a n)}
  |_=>aE
 | .len x=>match bm e x with
  | .nil _ _=>k {v:= .int .i64 0}
  | .pre _ len _ _=>k {v:= .int .i64 (.ofNat len)}
  | .part _ _ len _ _=>k {v:= .int .i64 (.ofNat len)}
  |v=>iN (vn s v) fun c=>k {v:= .int .i64 (.ofNat (acf c.l))}
 | .G0 n=>k {v:= .int .i64 (.ofNat n)}
 | .box x=>iN (bm e x).stored fun cs=>k {v:= .bp (acf s) (acf cs) 0,news:=[.box cs]}
 | .alloc cells=>k {v:= .bp (acf s) (acf cells) 0,news:=[.box (xm cells)]}
 | .build zero parts=>iN (q7 (tg e parts) (xm zero)) fun cs=>k {v:= .agg cs}
 | .wR esz n zero parts=>iN (A' zero) fun r=>bif ut (acf r) esz then iN (I3 r e n parts) fun ps=>
  k {v:= .own (acf s) acl,news:=[.arr r (D9 (fun i=>rowAt i (RT.zero r) ps) 0 n)]} else aE
 | .zl x y=>match bm e x with
  | .sl r l=>match bm e y with
   | .sl q m=>k {v:= .part (acf s) 0 2 2 acl,news:=[.box [.sl r l,.sl q m]]}
   |_=>aE
  |_=>aE
 | .load agg p=>SA s agg (bm e p) k
 | .store sz p v=>Mn s z sz (bm e p) (bm e v) k
 | .E1 x=>match bm e x with
  | .pa t r i a o=>k {v:= .pa t r i a o}
  | .pb t i o=>k {v:= .pb t i o}
  | .bp t n o=>k {v:= .bp t n o}
  | .aW c o=>k {v:= .aW c o}
  | .di f a b=>k {v:= .di f a b}
  |_=>aE
 | .E2 off p=>match bm e p with
  | .pa t r i a o=>k {v:= .pa t r i a (o+off)}
  | .pb t i o=>k {v:= .pb t i (o+off)}
  | .bp t n o=>k {v:= .bp t n (o+off)}
  | .aW c o=>k {v:= .aW c (o+off)}
  |_=>aE
 | .qL agg off x=>match bm e x with
  | .agg cs=>iN (vj agg off cs) (TI k)
  |_=>aE
 | .E3 esz x i=>match bm e i with
  | .int _ n=>Sz s esz (bm e x) n k
  |_=>aE
 | .zm n esz p i=>match bm e i with
  | .int _ j=>match bm e p with
   | .bp t m o=>Ba n j 0 fun j=>k {v:= .bp t m (o+j*esz)}
   | .aW c o=>Ba n j 0 fun j=>k {v:= .aW c (o+j*esz)}
   | .pb t r o=>Ba n j 0 fun j=>k {v:= .pb t r (o+j*esz)}
   | .pa t r i a o=>Ba n j 0 fun j=>k {v:= .pa t r i a (o+j*esz)}
   |_=>aE
  |_=>aE
 | .idx n esz agg x i=>match bm e i with
  | .int _ j=>match bm e x with
   | .agg cs=>Ba n j 0 fun j=>iN (vj agg (j*esz) cs) (TI k)
   |_=>aE
  |_=>aE
 | .E4 x i=>match bm e i with
  | .int _ j=>match bm e x with
   | .str t=>iE (Sy t j) fun b=>k {v:= .int .u8 b}
   |_=>aE
  |_=>aE
 | .JN esz x lo hi mx=>ZZ e s esz (bm e x) lo hi mx k
 | .clear esz zero x=>Mo s z esz zero (bm e x) k
 | .copy esz x y=>SC s z esz (bm e x) (bm e y) k
 | .R4 esz zero l c=>match bm e l with
  | .int _ n=>match bm e c with
   | .int _ m=>eu (n==m) (iN (A' zero) fun r=>bif ut (acf r) esz then iE (o9 n (RT.zero r)) fun x=>k {v:= .own (acf s) acl,news:=[.arr r x]} else aE) aE
   |_=>aE
  |_=>aE
 | .R5 fn a b=>k {v:= .di fn (gP e a) (gP e b)}
 | .R6 z=>match z with
  |none=>k {v:= .mp (acf s),news:=[.set []]}
  |some z=>iN (pN z) fun p=>k {v:= .mp (acf s),news:=[.bB p []]}
 | .lookup n zero ok m q=>match bm e m with
  | .mp t=>match nth s t with
   |some (.set l)=>I6 n zero ok t l (bm e q) k
   |some (.bB p l)=>I7 n zero ok t p l (bm e q) k
   |_=>aE
  |_=>aE
 | .DG n m q x=>match bm e m with
  | .mp t=>match nth s t with
   |some (.set l)=>bif has z t then aE else Mp n t l (bm e q) (bm e x) k
   |some (.bB p l)=>bif has z t then aE else Mq n t p l (bm e q) (bm e x) k
   |_=>aE
  |_=>aE
 | .ext i x=>match bm e x with
  | .bH vs=>iN (nth vs i) (TI k)
  |_=>aE
 | .append esz x y=>I5 s z esz (bm e x) (bm e y) k
 | .mm isMax x xs=>match bm e x with
  | .int a n=>iN (mmS isMax a n (gP e xs)) (TI k)
  |_=>aE
 |_=>aE
end
mutual
def C3 (s:List SB) (bx:Nat->Option (List SV)):SV->Option SV
 | .int k n=>acg (.int k n)
 | .bool b=>acg (.bool b)
 | .str x=>acg (.str x)
 | .cL=>acg .cL
 | .agg cs=>match oq s bx cs with|some l=>acg (.agg l)|none=>ach
 | .bH cs=>match oq s bx cs with|some l=>acg (.bH l)|none=>ach
 | .sl r l=>acg (.sl r l)
 | .nil e _=>acg (.nil e acm)
 | .own t _=>match nth s t with
  |some (.arr r l)=>acg (.sl r l)
  |_=>ach
 | .pre t len _ _=>match nth s t with
  |some (.arr r l)=>acg (.sl r (l.take len))
  |_=>ach
 | .part t off len _ _=>match nth s t with
  |some (.arr r l)=>acg (.sl r ((l.drop off).take len))
  |_=>ach
 | .pa t r _ a off=>match nth s t with
  |some (.arr _ _)=>acg (.aW (RT.sv r a) off)
  |_=>ach
 | .bp t _ off=>match nth s t with
  |some (.box _)=>match bx t with|some l=>acg (.aW l off)|none=>ach
  |_=>ach
 | .aW cs off=>match oq s bx cs with|some l=>acg (.aW l off)|none=>ach
 | .di f a b=>match oq s bx a,oq s bx b with
  |some x,acg y=>acg (.di f x y)
  |_,_=>ach
 |_=>ach
def oq (s:List SB) (bx:Nat->Option (List SV)):List SV->Option (List SV)
 | []=>acg []
 |x::xs=>match C3 s bx x,oq s bx xs with
  |some y,acg ys=>acg (y::ys)
  |_,_=>ach
end
def Hx (s:List SB) (bx:Nat->Option (List SV)):List SV->Bool
 | []=>acl
 |x::xs=>match x with
  | .mp _=>Hx s bx xs
  |x=>match C3 s bx x with
   |some _=>Hx s bx xs
   |none=>acm
def ic (s:List SB):Nat->Nat->Option (List SV)
 |0,_=>ach
 |n+1,t=>match nth s t with
  |some (.box cs)=>oq s (ic s n) cs
  |_=>ach
mutual
def Hy (bx:Nat->List Nat):SV->List Nat
 | .agg cs=>nN bx cs
 | .bH cs=>nN bx cs
 | .own t _=>[t]
 | .pre t _ _ _=>[t]
 | .part t _ _ _ _=>[t]
 | .pa t _ _ _ _=>t::bx t
 | .pb t _ _=>t::bx t
 | .bp t _ _=>t::bx t
 | .aW cs _=>nN bx cs
 | .mp t=>[t]
 | .di _ a b=>nN bx a++nN bx b
 |_=>[]
def nN (bx:Nat->List Nat):List SV->List Nat
 | []=>[]
 |x::xs=>Hy bx x++nN bx xs
end
def sJ (s:List SB):Nat->Nat->List Nat
 |0,_=>[]
 |n+1,t=>match nth s t with
  |some (.box cs)=>nN (sJ s n) cs
  |_=>[]
mutual
def SV.sure:SV->Bool
 | .fi=>acm
 | .agg cs=>jq cs
 | .bH cs=>jq cs
 | .aW cs _=>jq cs
 | .di _ a b=>jq a&&jq b
 |_=>acl
def jq:List SV->Bool
 | []=>acl
 |x::xs=>x.sure&&jq xs
end
mutual
def v7:SV->Bool
 | .int _ _| .bool _| .str _=>acl
 | .agg cs=>nO cs
 | .bH cs=>nO cs
 |_=>acm
def nO:List SV->Bool
 | []=>acl
 |x::xs=>v7 x&&nO xs
end
mutual
def Mr (s:List SB):SV->Option SV
 | .int k n=>acg (.int k n)
 | .bool b=>acg (.bool b)
 | .str x=>acg (.str x)
 | .agg cs=>match Hz s cs with|some l=>acg (.agg l)|none=>ach
 | .bH cs=>match Hz s cs with|some l=>acg (.bH l)|none=>ach
 | .sl r l=>acg (.sl r l)
 | .nil e _=>acg (.nil e acm)
 | .own t _=>match nth s t with
  |some (.arr r l)=>acg (.sl r l)
  |_=>ach
 | .pre t len _ _=>match nth s t with
  |some (.arr r l)=>acg (.sl r (l.take len))
  |_=>ach
 | .part t off len _ _=>match nth s t with
  |some (.arr r l)=>acg (.sl r ((l.drop off).take len))
  |_=>ach
 |_=>ach
def Hz (s:List SB):List SV->Option (List SV)
 | []=>acg []
 |x::xs=>match Mr s x,Hz s xs with
  |some y,acg ys=>acg (y::ys)
  |_,_=>ach
end
mutual
def Kr (s:List SB) (z:List Nat):List Nat->SV->Option (SV×List Nat)
 |seen,.int k n=>acg (.int k n,seen)
 |seen,.bool b=>acg (.bool b,seen)
 |seen,.agg cs=>match FW s z seen cs with|some p=>acg (.agg p.1,p.2)|none=>ach
 |seen,.bH cs=>match FW s z seen cs with|some p=>acg (.bH p.1,p.2)|none=>ach
 |seen,.nil e c=>bif c then acg (.nil e acm,seen) else ach
 |seen,.own t _=>match nth s t with
  |some (.arr r l)=>bif has seen t||has z t then ach else acg (.sl r l,t::seen)
  |_=>ach
 |_,_=>ach
def FW (s:List SB) (z:List Nat):List Nat->List SV->Option (List SV×List Nat)
 |seen,[]=>acg ([],seen)
 |seen,x::xs=>match Kr s z seen x with
  |some p=>match FW s z p.2 xs with
   |some q=>acg (p.1::q.1,q.2)
   |none=>ach
  |none=>ach
end
mutual
def th:Nat->SV->SV×List SB
 |nx,.sl r l=>(.own nx acm,[.arr r l])
 |nx,.nil e _=>(.own nx acm,[.arr (If e (.i .i64)) []])
 |nx,.agg cs=>(.agg (pO nx cs).1,(pO nx cs).2)
 |nx,.bH cs=>(.bH (pO nx cs).1,(pO nx cs).2)
 |_,v=>(v,[])
def pO:Nat->List SV->List SV×List SB
 |_,[]=>([],[])
 |nx,x::xs=>((th nx x).1::(pO (nx+(th nx x).2.length) xs).1,(th nx x).2++(pO (nx+(th nx x).2.length) xs).2)
end
def Bc:SB->List Nat
 | .box cs=>nN oP cs
 |_=>[]
def uw:SB->Bool
 | .box cs=>jq cs
 |_=>acl
def yK (s:List SB):Nat->List Nat->List Nat->Option (List Nat)
 |_,[],seen=>acg seen
 |0,_::_,_=>ach
 |n+1,t::ts,seen=>
  bif has seen t then yK s n ts seen
  else match nth s t with
   |some b=>bif uw b then yK s n (Bc b++ts) (seen++[t]) else ach
   |none=>ach
mutual
def mR (m:List Nat):SV->Option SV
 | .agg cs=>match pd m cs with|some l=>acg (.agg l)|none=>ach
 | .bH cs=>match pd m cs with|some l=>acg (.bH l)|none=>ach
 | .own t ex=>match mI t m with|some u=>acg (.own u ex)|none=>ach
 | .pre t len cap ex=>match mI t m with|some u=>acg (.pre u len cap ex)|none=>ach
 | .part t off len cap ex=>match mI t m with|some u=>acg (.part u off len cap ex)|none=>ach
 | .pa t _ i _ off=>match mI t m with|some u=>acg (.pb u i off)|none=>ach
 | .pb t i off=>match mI t m with|some u=>acg (.pb u i off)|none=>ach
 | .bp t n off=>match mI t m with|some u=>acg (.bp u n off)|none=>ach
 | .aW cs off=>match pd m cs with|some l=>acg (.aW l off)|none=>ach
 | .mp t=>match mI t m with|some u=>acg (.mp u)|none=>ach
 | .di f a b=>match pd m a,pd m b with
  |some x,acg y=>acg (.di f x y)
  |_,_=>ach
 | .fi=>ach
 |v=>acg v
def pd (m:List Nat):List SV->Option (List SV)
 | []=>acg []
 |x::xs=>match mR m x,pd m xs with
  |some y,acg ys=>acg (y::ys)
  |_,_=>ach
end
def HA (m:List Nat):SB->Option SB
 | .box cs=>match pd m cs with|some l=>acg (.box l)|none=>ach
 |b=>acg b
def CA (s:List SB) (m:List Nat):List Nat->Option (List SB)
 | []=>acg []
 |t::ts=>match nth s t with
  |some b=>match HA m b,CA s m ts with
   |some b',acg r=>acg (b'::r)
   |_,_=>ach
  |none=>ach
def rowOf (rk:List (Nat×List PT)) (esz:Nat):List PT:=
 match rk with
 | []=>If esz (.i .i64)
 |(n,r)::q=>bif ut n esz&&ut (acf r) esz then r else rowOf q esz
def D':Option Nat->SV->SV
 |some _,.own t _=> .own t acm
 |some _,.pre t l c _=> .pre t l c acm
 |some _,.part t o l c _=> .part t o l c acm
 |_,v=>v
def sx (rk:List (Nat×List PT)) (e:SE) (m:List Nat):Nat->List (Nat×Option Nat)->Option (SE×List SB)
 |_,[]=>acg ([],[])
 |nx,(s,k)::r=>
  match k,zA s e with
  |some esz,.nil _ acl=>match sx rk e m (nx+1) r with
   |some p=>acg ((s,.own nx acm)::p.1,.arr (rowOf rk esz) []::p.2)
   |none=>ach
  |_,v=>match mR m v,sx rk e m nx r with
   |some v',acg p=>acg ((s,D' k v')::p.1,p.2)
   |_,_=>ach
def Bd (rk:List (Nat×List PT)) (st:lH) (t c esz:Nat):lH:=
 match nth st.aj t with
 |some (.box cs)=>match nth cs c with
  |some (.nil _ acl)=>{st with aj:=st.aj.set t (.box (cs.set c (.own (acf st.aj) acm)))++[.arr (rowOf rk esz) []]}
  |_=>st
 |_=>st
def Ms:SV->Option Nat
 | .bp t _ 0=>acg t
 |_=>ach
def OZ:SV->Option Nat
 | .di _ _ (x::_)=>Ms x
 |x=>Ms x
def jd (rk:List (Nat×List PT)):List (Nat×Option Nat)->lH->lH
 | [],st=>st
 |(s,k)::r,st=>match k with
  |some n=>bif ww 1000 n then (match OZ (zA s st.env) with
   |some t=>jd rk r (Bd rk st t (n / 1000-1) (n%1000))
   |none=>jd rk r st) else jd rk r st
  |none=>jd rk r st
def C4 (s:List SB) (v:SV):SV:=
 match v with
 | .own t ex=>match nth s t with
  |some (.arr _ l)=> .pre t (acf l) (acf l) ex
  |_=>v
 |_=>v
def I8 (s:List SB) (c:Nat):SE->SE
 | []=>[]
 |(t,v)::r=>bif ut t c then (t,C4 s v)::r else (t,v)::I8 s c r
def xn:List (Nat×Option Nat)->lH->lH
 | [],st=>st
 |(t,_)::r,st=>bif ww 1000000 t then xn r {st with env:=I8 st.aj (t-1000000) st.env} else xn r st
def xo (e:SE):List (Nat×Option Nat)->Bool
 | []=>acl
 |(s,_)::r=>(zA s e).sure&&xo e r
def Be (e:SE):List (Nat×Option Nat)->List Nat
 | []=>[]
 |(s,_)::r=>Hy oP (zA s e)++Be e r
def HB:List SB->Nat->List Nat
 |b::r,n+1=>Bc b++HB r n
 |_,_=>[]
def Bf:List SB->Nat->Bool
 |b::r,n+1=>uw b&&Bf r n
 |_,_=>acl
def Bg (rk:List (Nat×List PT)) (live:List (Nat×Option Nat)) (st:lH):Option lH:=
 bif xo st.env live&&Bf st.aj st.kn then
  match yK st.aj 4096 (HB st.aj st.kn++Be st.env live) (qe st.kn) with
  |none=>ach
  |some m=>match CA st.aj m m,sx rk st.env m (acf m) live with
   |some s1,acg (e1,s2)=>acg (xn live (jd rk live {env:=e1,aj:=s1++s2,fz:=sR st.fz 0 m,kn:=st.kn}))
   |_,_=>ach
 else ach
def Bh (rk:List (Nat×List PT)) (live:List (Nat×Option Nat)) (st:lH):Option lH:=
 match Bg rk live st with
 |some s=>bif live.any fun p=>p.2.isSome then Bg rk live s else acg s
 |none=>ach
inductive AK where
 |i
 |b
 |n
 |l (r:List PT)
 |s
@[reducible] def AK.T : AK -> Type
  | .i => Int
  | .b => Bool
  | .n => Nat
  | .l r => List (RT r)
  | .s => List (List Int)
@[reducible] def fk : List AK -> Type
  | [] => Unit
  | [a] => a.T
  | a :: q :: r => a.T × fk (q :: r)
inductive sL where
 |i (n:Int)
 |b (x:Bool)
 |n (x:Nat)
 |l (r:List PT) (x:List (RT r))
 |s (x:List (List Int))
def sL.k:sL->AK
 | .i _=> .i
 | .b _=> .b
 | .n _=> .n
 | .l r _=> .l r
 | .s _=> .s
def AK.at:(a:AK)->a.T->sL
 | .i,x=> .i x
 | .b,x=> .b x
 | .n,x=> .n x
 | .l r,x=> .l r x
 | .s,x=> .s x
def AK.of:(a:AK)->sL->Option a.T
 | .i,.i x=>acg x
 | .b,.b x=>acg x
 | .n,.n x=>acg x
 | .l r,.l q x=>oo q r x
 | .s,.s x=>acg x
 |_,_=>ach
def iF:(ks:List AK)->fk ks->List sL
 | [],_=>[]
 | [a],x=>[a.at x]
 |a::q::r,x=>a.at x.1::iF (q::r) x.2
def iO:(ks:List AK)->List sL->Option (fk ks)
 | [],[]=>acg ()
 | [a],[x]=>a.of x
 |a::q::r,x::xs=>match a.of x,iO (q::r) xs with
  |some y,acg ys=>acg (y,ys)
  |_,_=>ach
 |_,_=>ach
mutual
def yL:SV->List sL
 | .int _ n=>[.i n]
 | .bool b=>[.b b]
 | .agg cs=>yM cs
 | .bH cs=>yM cs
 | .sl r l=>[.l r l]
 | .pre _ len cap _=>[.n len,.n cap]
 | .part _ off len cap _=>[.n off,.n len,.n cap]
 | .pb _ i _=>[.i i]
 | .aW cs _=>yM cs
 | .di _ a b=>yM a++yM b
 |_=>[]
def yM:List SV->List sL
 | []=>[]
 |x::xs=>yL x++yM xs
end
def Mt:SB->List sL
 | .arr r l=>[.l r l]
 | .box cs=>yM cs
 | .set l=>[.s l]
 | .bB p l=>[.l [.i .i64,p] l]
 | .dead=>[]
def Ea:List SB->List sL
 | []=>[]
 |b::r=>Mt b++Ea r
def Kt:SE->List sL
 | []=>[]
 |(_,v)::r=>yL v++Kt r
def kF (st:lH):List sL:=Kt st.env++Ea st.aj
mutual
def sy:SV->SV->Bool
 | .undef,.undef=>acl
 | .gJ,.gJ=>acl
 | .cL,.cL=>acl
 | .int k _,.int l _=>dF k l
 | .bool _,.bool _=>acl
 | .agg a,.agg b=>ti a b
 | .bH a,.bH b=>ti a b
 | .sl r _,.sl q _=>xl r q
 | .nil e c,.nil f d=>ut e f&&c==d
 | .own t x,.own u y=>ut t u&&x==y
 | .pre t _ _ x,.pre u _ _ y=>ut t u&&x==y
 | .part t _ _ _ x,.part u _ _ _ y=>ut t u&&x==y
 | .pb t _ o,.pb u _ p=>ut t u&&ut o p
 | .bp t n o,.bp u m p=>ut t u&&ut n m&&ut o p
 | .aW a o,.aW b p=>ti a b&&ut o p
 | .di f a b,.di g c d=>ut f g&&ti a c&&ti b d
 | .mp t,.mp u=>ut t u
 | .fi,.fi=>acl
 |_,_=>acm
def ti:List SV->List SV->Bool
 | [],[]=>acl
 |x::xs,y::ys=>sy x y&&ti xs ys
 |_,_=>acm
end
def SD:SB->SB->Bool
 | .arr r _,.arr q _=>xl r q
 | .box a,.box b=>ti a b
 | .set _,.set _=>acl
 | .bB p _,.bB q _=>p.same q
 | .dead,.dead=>acl
 |_,_=>acm
def Bi:List SB->List SB->Bool
 | [],[]=>acl
 |x::xs,y::ys=>SD x y&&Bi xs ys
 |_,_=>acm
def I9:SE->SE->Bool
 | [],[]=>acl
 |(t,x)::xs,(u,y)::ys=>ut t u&&sy x y&&I9 xs ys
 |_,_=>acm
def I':List Nat->List Nat->Bool
 | [],[]=>acl
 |x::xs,y::ys=>ut x y&&I' xs ys
 |_,_=>acm
def v8 (a b:lH):Bool:=I9 a.env b.env&&Bi a.aj b.aj&&I' a.fz b.fz&&ut a.kn b.kn
mutual
def oU:SV->List sL->SV×List sL
 | .int k _,.i n::q=>(.int k n,q)
 | .bool _,.b x::q=>(.bool x,q)
 | .agg cs,q=>(.agg (nP cs q).1,(nP cs q).2)
 | .bH cs,q=>(.bH (nP cs q).1,(nP cs q).2)
 | .sl _ _,.l r l::q=>(.sl r l,q)
 | .pre t _ _ x,.n len:: .n cap::q=>(.pre t len cap x,q)
 | .part t _ _ _ x,.n off:: .n len:: .n cap::q=>(.part t off len cap x,q)
 | .pb t _ o,.i i::q=>(.pb t i o,q)
 | .aW cs o,q=>(.aW (nP cs q).1 o,(nP cs q).2)
 | .di f a b,q=>(.di f (nP a q).1 (nP b (nP a q).2).1,(nP b (nP a q).2).2)
 |v,q=>(v,q)
def nP:List SV->List sL->List SV×List sL
 | [],q=>([],q)
 |x::xs,q=>((oU x q).1::(nP xs (oU x q).2).1,(nP xs (oU x q).2).2)
end
def HC:SB->List sL->SB×List sL
 | .arr _ _,.l r l::q=>(.arr r l,q)
 | .box cs,q=>(.box (nP cs q).1,(nP cs q).2)
 | .set _,.s l::q=>(.set l,q)
 | .bB _ _,.l [.i .i64,p] l::q=>(.bB p l,q)
 |b,q=>(b,q)
def v9:List SB->List sL->List SB×List sL
 | [],q=>([],q)
 |b::r,q=>((HC b q).1::(v9 r (HC b q).2).1,(v9 r (HC b q).2).2)
def FX:SE->List sL->SE×List sL
 | [],q=>([],q)
 |(t,v)::r,q=>((t,(oU v q).1)::(FX r (oU v q).2).1,(FX r (oU v q).2).2)
def qw (st:lH) (q:List sL):lH:={st with env:=(FX st.env q).1,aj:=(v9 st.aj (FX st.env q).2).1}
def Mu:List sL->List AK
 | []=>[]
 |a::r=>a.k::Mu r
def ptK {β:Type 1} (p:PT) (c:PT->β):β:=
 match p with
 | .i k=>c (.i k)
 | .b=>c .b
def rK {β:Type 1}:List PT->(List PT->β)->β
 | [],c=>c []
 |p::r,c=>ptK p fun p=>rK r fun r=>c (p::r)
def O0 {β:Type 1}:List AK->(List AK->β)->β
 | [],c=>c []
 | .i::r,c=>O0 r fun r=>c (.i::r)
 | .b::r,c=>O0 r fun r=>c (.b::r)
 | .n::r,c=>O0 r fun r=>c (.n::r)
 | .l q::r,c=>rK q fun q=>O0 r fun r=>c (.l q::r)
 | .s::r,c=>O0 r fun r=>c (.s::r)
mutual
def nB:SV->Option PV
 | .int k n=>acg (.int k n)
 | .bool b=>acg (.bool b)
 | .str x=>acg (.str x)
 | .cL=>acg .cL
 | .agg cs=>match lx cs with|some l=>acg (.agg l)|none=>ach
 | .bH cs=>match lx cs with|some l=>acg (.bH l)|none=>ach
 | .sl r l=>acg (.sl (acf r) acm (l.map (RT.pv r)))
 | .nil e c=>acg (.sl e c [])
 | .aW cs off=>match lx cs with|some l=>acg (.aW l off)|none=>ach
 | .di f a b=>match lx a,lx b with
  |some x,acg y=>acg (.di f x y)
  |_,_=>ach
 |_=>ach
def lx:List SV->Option (List PV)
 | []=>acg []
 |x::xs=>match nB x,lx xs with
  |some y,acg ys=>acg (y::ys)
  |_,_=>ach
end
structure cA (α:Type) where
 enc:α->List SV
 dec:List SV->Option (α×List SV)
 law: ∀{vs:List SV} {a:α} {rest:List SV} {ps:List PV},dec vs=acg (a,rest)->lx vs=acg ps-> ∃p q,ps=p++q/\lx (enc a)=acg p/\lx rest=acg q
structure Arg (α:Type) where
 enc:α->SV
 dec:SV->Option α
 law: ∀{v:SV} {a:α} {p:PV},dec v=acg a->nB v=acg p->nB (enc a)=acg p
structure ao (α:Type) where
 enc:α->List SV
 dec:List SV->Option α
 law: ∀{vs:List SV} {a:α} {ps:List PV},dec vs=acg a->lx vs=acg ps->lx (enc a)=acg ps
inductive Kd where
 |pure
 |qc
 |own
structure nC where
 {α β:Type}
 args:ao α
 res:Arg β
 fn:α->Option β
 kd:Kd
 ow:Bool
structure dQ where
 ka:List AK
 ta:List SV
 tb:List SB
 ko:List AK
 tv:SV
 to:List SB
 fn:fk ka->Option (fk ko)
def xp:(p:PT)->PV->Option p.T
 | .i k,.int l n=>bif dF l k then acg n else ach
 | .b,.bool x=>acg x
 |_,_=>ach
def CB:(r:List PT)->List PV->Option (RT r)
 | [],[]=>acg ()
 | [p],[v]=>xp p v
 |p::q::r,v::vs=>match xp p v,CB (q::r) vs with
  |some a,acg b=>acg (a,b)
  |_,_=>ach
 |_,_=>ach
def tj (r:List PT):List (List PV)->Option (List (RT r))
 | []=>acg []
 |x::xs=>match CB r x,tj r xs with
  |some a,acg l=>acg (a::l)
  |_,_=>ach
structure Yz where
 r:List PT
 g:Option FuncId
 fn:List (RT r)->Option (List (RT r))
def O1:Option FuncId->List PV->Bool
 |none,[]=>acl
 |some g,[.di h [] []]=>ut h g
 |_,_=>acm
def Mv (q:Yz) (args:List PV) (aj:bG) (fz:List Nat):Option (PV×bG×List Nat):=
 match args with
 | .own t e off len _ _::r=>match aj[t]? with
  |some (.arr e1 rows)=>if ut e (acf q.r)&&ut off 0&&ww len (acf rows)&&ww len jb&&!has fz t&&O1 q.g r then
   (match tj q.r (rows.take len) with
   |some l=>match q.fn l with
    |some m=>if ut (acf m) (acf l) then acg (.bH [],aj.set t (.arr e1 (m.map (RT.pv q.r)++rows.drop len)),fz) else ach
    |none=>ach
   |none=>ach) else ach
  |_=>ach
 |_=>ach
inductive Cd where
 |code (x:aG)
 |ins (esz:Nat)
 |srt (q:Yz)
 |cat
instance:Coe aG Cd:=⟨.code⟩
def Cd.ent:Cd->R7
 | .code x=> .code x
 | .ins n=> .JO (Ln n)
 | .srt q=> .JO (Mv q)
 | .cat=> .JO Ta
structure Ctx where
 lp:Option Nat
 SF:FuncId->List nC
 fpc:FuncId->List dQ
 code:FuncId->Option Cd
 rk:List (Nat×List PT)
 jn:Bool
inductive YA where
 |loc (r:ej)
 |shr (v:SV) (s:List SB) (z:List Nat)
def SV.TK:SV->Bool
 | .own .. | .pre .. | .part .. | .pa .. | .pb .. | .bp .. | .mp .. =>acl
 |_=>acm
def wa:List SV->Bool
 | []=>acm
 |x::xs=>x.TK||wa xs
mutual
def Om (ts:List Nat):SV->SV
 | .pa t r i a off=>bif has ts t then .pb t i off else .pa t r i a off
 | .agg cs=> .agg (Mw ts cs)
 | .bH cs=> .bH (Mw ts cs)
 | .aW cs off=> .aW (Mw ts cs) off
 | .di f a b=> .di f (Mw ts a) (Mw ts b)
 |v=>v
def Mw (ts:List Nat):List SV->List SV
 | []=>[]
 |x::xs=>Om ts x::Mw ts xs
end
def YB (ts:List Nat):SE->SE
 | []=>[]
 |(t,v)::r=>(t,Om ts v)::YB ts r
def O2 (ts:List Nat):SB->SB
 | .box cs=> .box (Mw ts cs)
 |b=>b
def yf (ts:List Nat):List SB->List SB
 | []=>[]
 |b::r=>O2 ts b::yf ts r
def Mx:List SB->Nat->SB->List SB
 | [],_,_=>[]
 |_::r,0,b=>b::r
 |x::r,n+1,b=>x::Mx r n b
def np:List (Nat×SB)->List SB->List SB
 | [],s=>s
 |(t,b)::r,s=>np r (Mx s t b)
def tl:List (Nat×SB)->List Nat
 | []=>[]
 |(t,_)::r=>t::tl r
def Eb (d:Option Nat) (v:SV) (e:SE):SE:=
 match d with
 |some t=>(t,v)::e
 |none=>e
def TL:List SB->List SB->List SB
 | [],l=>l
 |b::r,l=>b::TL r l
def ej.next (d:Option Nat) (st:lH) (r:ej):lH:=
 match r.wr with
 | []=>{env:=Eb d r.v st.env,aj:=TL st.aj r.news,fz:=r.fr++st.fz,kn:=st.kn}
 |w=>{env:=Eb d r.v (YB (tl w) st.env),aj:=TL (yf (tl w) (np w st.aj)) r.news,fz:=r.fr++st.fz,kn:=st.kn}
def ej.ok (z:List Nat) (r:ej):Bool:=(tl r.wr).all fun t=>!has z t
def ej.tr (nx:Nat) (r:ej):Tr:=
 ⟨r.rd++r.fr,tl r.wr,!r.news.isEmpty,acm,(r.rd++r.fr).all (ab9 · nx)&&(tl r.wr).all (ab9 · nx),nx,nx+acf r.news⟩
def My:Tr:=⟨[],[],acl,acl,acl,0,0⟩
def mi {R:Type}:List SB->List SB->eN R->eN R
 | [],_,k=>k
 |x::xs,y::ys,k=>match x with
  | .arr r l=>match y with
   | .arr q m=>bif xl r q then eu (acf m==acf l) (mi xs ys k) aE else aE
   | .dead=>mi xs ys k
   |_=>aE
  | .dead=>match y with
   | .dead=>mi xs ys k
   |_=>aE
  | .box _=>match y with
   | .box _=>mi xs ys k
   | .dead=>mi xs ys k
   |_=>aE
  |_=>mi xs ys k
 |_,_,_=>aE
abbrev O3:=FuncId->List SV->List SB->List Nat-> ∀R:Type,(SV->List SB->List Nat->eN R)->eN R
section
variable {R : Type}
def Z0 (_:FuncId) (_:List SV):eN R:=aE
def adt (_:FuncId) (_:List SV) (_:List SB):eN R:=aE
def HD (f:FuncId) (m:Bool) (s:List SB) (tk:List Nat) (vs:List SV) (k:YA->eN R):List nC->eN R
 | []=>Z0 f vs
 |c::r=>match c.args.dec vs with
  |some a=>bif m==c.ow then iE (c.fn a) fun b=>match c.kd with
   | .pure=>k (.loc {v:=c.res.enc b,rd:=tk})
   | .qc=>k (.loc {v:=c.res.enc b,rd:=tk,fr:=tk})
   | .own=>k (.loc {v:=(th (acf s) (c.res.enc b)).1,news:=(th (acf s) (c.res.enc b)).2,rd:=tk}) else HD f m s tk vs k r
  |none=>HD f m s tk vs k r
mutual
def FY (g:Nat->Nat):SV->SV
 | .agg cs=> .agg (zC g cs)
 | .bH cs=> .bH (zC g cs)
 | .own t ex=> .own (g t) ex
 | .pre t len cap ex=> .pre (g t) len cap ex
 | .part t off len cap ex=> .part (g t) off len cap ex
 | .pa t _ i _ off=> .pb (g t) i off
 | .pb t i off=> .pb (g t) i off
 | .bp t n off=> .bp (g t) n off
 | .aW cs off=> .aW (zC g cs) off
 | .mp t=> .mp (g t)
 | .di f a b=> .di f (zC g a) (zC g b)
 |v=>v
def zC (g:Nat->Nat):List SV->List SV
 | []=>[]
 |x::xs=>FY g x::zC g xs
end
def Mz (g:Nat->Nat):SB->SB
 | .box cs=> .box (zC g cs)
 |b=>b
def vo (g:Nat->Nat):List Nat->List SB->List (Nat×SB)
 |t::r,b::s=>(t,Mz g b)::vo g r s
 |_,_=>[]
def SG (k:Nat) (v:SV) (s:List SB):Bool:=(Hy oP v++s.flatMap Bc).all fun t=>ab9 t k
def YC (f : FuncId) (n : Nat) (tk : List Nat) (vs : List SV) (s0 : List SB) (k : YA -> eN R) : List dQ -> eN R
  | [] => adt f vs s0
  | c :: r => bif ti c.ta vs && Bi c.tb s0 then (match iO c.ka (yM vs ++ Ea s0) with
      | some a => iE (c.fn a) fun b =>
          k (.loc { v := FY (hG tk n) (oU c.tv (iF c.ko b)).1, wr := vo (hG tk n) tk (v9 c.to (oU c.tv (iF c.ko b)).2).1 })
      | none => YC f n tk vs s0 k r) else YC f n tk vs s0 k r
def C5 (cx:Ctx) (inl:O3) (e:SE) (s:List SB) (z:List Nat) (op:iw) (k:YA->eN R):eN R:=
 match op with
 | .call m f args=>match m with
  | .Ob=>match oq s (ic s deep) (gP e args) with
   |some vs=>HD f acm s (nN (sJ s deep) (gP e args)) vs k (cx.SF f)
   |none=>aE
  | .own=>match oq s (ic s deep) (gP e args) with
   |some vs=>HD f acl s (nN (sJ s deep) (gP e args)) vs k (cx.SF f)
   |none=>aE
  | .shr=>inl f (gP e args) s z R fun v s' z'=>k (.shr v s' z')
  | .fp=>match Hx s (ic s deep) (gP e args) with
   |false=>aE
   |true=>let tk:=lA (nN (sJ s deep) (gP e args))
    bif tk.all (fun t=>!has z t) then (match pd tk (gP e args),CA s tk tk with
     |some vs,acg s0=>YC f (acf s) tk vs s0 k (cx.fpc f)
     |_,_=>aE) else aE
 | .rY x args=>match bm e x with
  | .di f a b=>bif wa (gP e args++b) then inl f (a++gP e args++b) s z R fun v s' z'=>k (.shr v s' z')
   else match oq s (ic s deep) (a++gP e args++b) with
   |some vs=>HD f acm s (nN (sJ s deep) (a++gP e args++b)) vs k (cx.SF f)
   |none=>aE
  |_=>aE
 |op=>js e s z op fun r=>k (.loc r)
def Ja (d:Option Nat) (st:lH) (tr:List Tr) (k:lH->List Tr->eN R) (x:YA):eN R:=
 match x with
 | .loc r=>bif r.ok st.fz then OX r.v fun v=>k ({r with v}.next d st) (r.tr (acf st.aj)::tr) else aE
 | .shr v s z=>OX v fun v=>mi st.aj s (bif st.fz.all (has z) then k {env:=Eb d v (YB (qe (acf st.aj)) st.env),aj:=s,fz:=z,kn:=st.kn} (My::tr) else aE)
def lI (cx:Ctx) (inl:O3):List bk->lH->List Tr->(lH->List Tr->eN R)->eN R
 | [],st,tr,k=>k st tr
 |o::r,st,tr,k=>
  let run:=fun st:lH=>match o.op with
   | .pick (.t c) a b=>match zA c st.env with
    | .bool x=>eu x (Ja o.dst {st with env:=vZ c (.bool acl) st.env} tr (lI cx inl r · · k) (.loc {v:=bm st.env a}))
     (Ja o.dst {st with env:=vZ c (.bool acm) st.env} tr (lI cx inl r · · k) (.loc {v:=bm st.env b}))
    |_=>aE
   |op=>C5 cx inl st.env st.aj st.fz op (Ja o.dst st tr (lI cx inl r · · k))
  let skip:=fun st:lH=>lI cx inl r {st with env:=Eb o.dst .gJ st.env} (Tr.idle::tr) k
  match o.guard with
  |none=>run st
  |some (s,want)=>match zA s st.env with
   | .bool x=>bif want then eu x (run {st with env:=vZ s (.bool acl) st.env}) (skip {st with env:=vZ s (.bool acm) st.env})
    else eu x (skip {st with env:=vZ s (.bool acl) st.env}) (run {st with env:=vZ s (.bool acm) st.env})
   | .gJ=>skip st
   |_=>aE
def FZ (e:SE):List Nat->(SE->eN R)->eN R
 | [],k=>k []
 |s::r,k=>OX (zA s e) fun v=>FZ e r fun e'=>k ((s,v)::e')
def jnV:SV->SV->SV
 | .undef,_=> .fi
 |_,v=>v
def TM (o:SE):SE->SE
 | []=>[]
 |(t,v)::r=>(t,jnV (zA t o) v)::TM o r
def jnL (o:SE):List Nat->SE
 | []=>[]
 |t::r=>(t,jnV (zA t o) (zA t o))::jnL o r
def Ku (o:SE) (eg:List Nat) (st:lH):lH:={st with env:=jnL o eg}
def guards:List bk->Nat
 | []=>0
 |o::r=>match o.guard with
  |none=>guards r
  |some _=>guards r+1
def jnC:gC->Bool
 | .seq (.region _ ops _) (.cond _ _ _)=>ww 8 (guards ops)
 |_=>acm
def YD:gC->List Nat
 | .seq (.region _ _ eg) _=>eg
 |_=>[]
noncomputable def tn (cx:Ctx) (inl:O3):(c:gC)->(R:Type)->lH->(fj->lH->eN R)->eN R
 | .skip,_,st,k=>k .normal st
 | .region d ops eg,_,st,k=>lI cx inl ops st [] fun iq tr=>
  let fin:=FZ iq.env eg fun e=>k .normal {iq with env:=e}
  match d with
  |none=>fin
  |some bf=>match nJ 0 (tr.reverse.zip bf) with
   |true=>fin
   |false=>aE
 | .seq a b,R,st,k=>match cx.jn&&jnC a with
  |false=>tn cx inl a R st fun e iq=>match e with
   | .normal=>tn cx inl b R iq k
   |e=>k e iq
  |true=>O0 (Mu (kF (Ku st.env (YD a) st))) fun ks=>match iO ks (kF (Ku st.env (YD a) st)) with
   |none=>aE
   |some y0=>fun ρ w=>I1 cx.lp (fun y:Bool×fk ks=>eu y.1
    (tn cx inl a (Step (Bool×fk ks) ρ) st fun e sg=>match e with
     | .normal=>bif v8 (Ku st.env (YD a) st) {sg with env:=TM st.env sg.env} then (match iO ks (kF {sg with env:=TM st.env sg.env}) with
      |some y'=>zB (.next (acm,y'))
      |none=>aE) else aE
     |e=>fun sM w'=>k e sg sM fun r=>w' (.done (w r)))
    (fun sM w'=>tn cx inl b R (qw (Ku st.env (YD a) st) (iF ks y.2)) k sM fun r=>w' (.done (w r))) (Step (Bool×fk ks) ρ) fun z=>z) (acl,y0)
 | .cond c a b,R,st,k=>match bm st.env c with
  | .bool x=>eu x (tn cx inl a R st k) (tn cx inl b R st k)
  |_=>aE
 | .block id b,R,st,k=>tn cx inl b R st fun e iq=>match e with
  | .exit j=>bif ut j id then k .normal iq else k (.exit j) iq
  |e=>k e iq
 | .loop live b,_,st,k=>match Bh cx.rk live st with
  |none=>aE
  |some lg=>O0 (Mu (kF lg)) fun ks=>match iO ks (kF lg) with
   |none=>aE
   |some y0=>fun ρ w=>I1 cx.lp (fun y:fk ks=>tn cx inl b (Step (fk ks) ρ) (qw lg (iF ks y)) (fun e sg=>match e with
    | .normal=>match Bh cx.rk live sg with
     |some Kv=>bif v8 lg Kv then (match iO ks (kF Kv) with
      |some y'=>zB (.next y')
      |none=>aE) else aE
     |none=>aE
    |e=>fun sM w'=>k e sg sM fun r=>w' (.done (w r))) (Step (fk ks) ρ) fun z=>z) y0
 | .exit id,_,st,k=>k (.exit id) st
 | .ret,_,st,k=>k .ret st
def HE (st:lH):RV->Option SV
 | .tmp t=>acg (zA t st.env)
 | .cell t agg=>match zA t st.env with
  | .bp t _ off=>match nth st.aj t with
   |some (.box cs)=>vj agg off cs
   |_=>ach
  | .aW cs off=>vj agg off cs
  |_=>ach
def uy (st:lH):List RV->Option (List SV)
 | []=>acg []
 |r::rs=>match HE st r,uy st rs with
  |some v,acg vs=>acg (v::vs)
  |_,_=>ach
def yN:List SV->SV
 | [v]=>v
 |vs=> .bH vs
def HF:Nat->List SV->SE
 |_,[]=>[]
 |i,v::r=>(i,v)::HF (i+1) r
noncomputable def F0 (cx:Ctx) (inl:O3) (x:aG) (R:Type) (args:List SV) (s:List SB) (z:List Nat) (k:SV->List SB->List Nat->eN R):eN R:=
 bif ut (acf args) x.zn then tn cx inl x.code R {env:=HF 0 args,aj:=s,fz:=z,kn:=acf s} fun e st=>match e with
  | .exit _=>aE
  |_=>match uy st x.res with
   |some vs=>k (yN vs) st.aj st.fz
   |none=>aE
 else aE
def ej.j0 (s:List SB) (r:ej):List SB:=
 match r.wr with
 | []=>TL s r.news
 |w=>TL (yf (tl w) (np w s)) r.news
def zD:Option FuncId->List SV->Bool
 |none,[]=>acl
 |some g,[.di h [] []]=>ut h g
 |_,_=>acm
structure Z1 where
 t:Nat
 r:List PT
 l:List (RT r)
 i:Int
 m:List (RT r)
def O4 (esz:Nat) (args:List SV) (s:List SB) (z:List Nat):Option Z1:=
 match args with
 | [.own t _,.int .i64 i,.own u _]=>match nth s t with
  |some (.arr r l)=>match nth s u with
   |some (.arr q m)=>match oo q r m with
    |some m=>bif ut (acf r) esz&&!Nat.beq t u&&!has z t then acg ⟨t,r,l,i,m⟩ else ach
    |none=>ach
   |_=>ach
  |_=>ach
 |_=>ach
def TN (esz:Nat) (args:List SV) (s:List SB) (z:List Nat) (k:SV->List SB->List Nat->eN R):eN R:=
 match O4 esz args s z with
 |some a=>iE (D6 a.l a.i a.m) fun l'=>k (.own (acf s) acm) (ej.j0 s {v:= .own (acf s) acm,news:=[.arr a.r l'],wr:=[(a.t,.dead)]}) z
 |none=>aE
structure Z2 where
 t:Nat
 r:List PT
 l:List (RT r)
 m:List (RT r)
def O5 (args:List SV) (s:List SB) (z:List Nat):Option Z2:=
 match args with
 | [.part t off len _ _]=>match nth s t with
  |some (.box [.sl r l,.sl q m])=>match oo q r m with
   |some m=>bif ut (acf r) 1&&ut off 0&&ut len 2&&!has z t then acg ⟨t,r,l,m⟩ else ach
   |none=>ach
  |_=>ach
 |_=>ach
def TO (args:List SV) (s:List SB) (z:List Nat) (k:SV->List SB->List Nat->eN R):eN R:=
 match O5 args s z with
 |some a=>iE (TH a.l a.m) fun l'=>k (.own (acf s) acm) (ej.j0 s {v:= .own (acf s) acm,news:=[.arr a.r l'],wr:=[(a.t,.dead)]}) z
 |none=>aE
def O6 (r:List PT) (g:Option FuncId) (args:List SV) (s:List SB) (z:List Nat):Option (Nat×Option Nat×List (RT r)):=
 match args with
 | .own t _::a=>match nth s t with
  |some (.arr q l)=>match oo q r l with
   |some l=>bif !has z t&&zD g a then acg (t,ach,l) else ach
   |none=>ach
  |_=>ach
 | .pre t len _ _::a=>match nth s t with
  |some (.arr q l)=>match oo q r l with
   |some l=>bif !has z t&&zD g a then acg (t,acg len,l) else ach
   |none=>ach
  |_=>ach
 |_=>ach
def TP (q:Yz) (args:List SV) (s:List SB) (z:List Nat) (k:SV->List SB->List Nat->eN R):eN R:=
 match O6 q.r q.g args s z with
 |some (t,ach,l)=>iE (A9 q.fn l) fun m=>k (.bH []) (ej.j0 s {v:= .bH [],wr:=[(t,.arr q.r m)]}) z
 |some (t,acg len,l)=>iE (D7 q.fn len l) fun m=>k (.bH []) (ej.j0 s {v:= .bH [],wr:=[(t,.arr q.r m)]}) z
 |none=>aE
noncomputable def MA (cx:Ctx):Nat->O3
 |0=>fun _ _ _ _ _ _=>aE
 |n+1=>fun f args s z R k=>match cx.code f with
  |some (.code x)=>F0 cx (MA cx n) x R args s z k
  |some (.ins e)=>TN e args s z k
  |some (.srt q)=>TP q args s z k
  |some .cat=>TO args s z k
  |none=>aE
def MB (kd:Kd) {β:Type} (res:Arg β) (v:SV) (s:List SB) (z:List Nat):eN β:=
 match kd with
 | .pure=>bif v7 v then iN (res.dec v) zB else aE
 | .qc=>bif v7 v then aE else iN (Mr s v) fun u=>iN (res.dec u) zB
 | .own=>iN (Kr s z [] v) fun u=>iN (res.dec u.1) zB
noncomputable def SH (cx:Ctx) (x:aG) {α β:Type} (args:ao α) (res:Arg β) (kd:Kd) (a:α):Option β:=
 F0 cx (MA cx 8) x β (args.enc a) [] [] (MB kd res) β fun b=>b
def Bj:List SB->Bool
 | []=>acl
 |b::r=>uw b&&Bj r
def xq {R:Type}:List SB->List SB->eN R->eN R
 | [],[],k=>k
 |x::xs,y::ys,k=>match x with
  | .arr r l=>match y with
   | .arr q m=>bif xl r q then eu (acf m==acf l) (xq xs ys k) aE else aE
   |_=>aE
  | .dead=>match y with
   | .dead=>xq xs ys k
   |_=>aE
  | .box _=>match y with
   | .box _=>xq xs ys k
   |_=>aE
  | .set _=>match y with
   | .set _=>xq xs ys k
   |_=>aE
  | .bB _ _=>match y with
   | .bB _ _=>xq xs ys k
   |_=>aE
 |_,_,_=>aE
noncomputable def adu (wd:Bool) (cx:Ctx) (x:aG) (ka:List AK) (ta:List SV) (tb:List SB) (ko:List AK) (tv:SV) (to:List SB) (a:fk ka):Option (fk ko):=
 F0 cx (MA cx 8) x (fk ko) (nP ta (iF ka a)).1 (v9 tb (nP ta (iF ka a)).2).1 [] (fun v s z=>match z with
  | []=>let u:=bif wd then C4 s v else v
   let s1:=s.take (acf tb)
   bif sy tv u&&Bi to s1&&SG (acf tb) u s1&&u.sure&&Bj s1 then xq (v9 tb (nP ta (iF ka a)).2).1 s1 (iN (iO ko (yL u++Ea s1)) zB) else aE
  |_=>aE) (fk ko) fun b=>b
end
end Go.Vm
/- The types of arguments and results, as cells. -/
namespace Go.Vm
theorem lJ {r q:List PT} {l:List (RT r)} {m:List (RT q)} (h:oo r q l=acg m): ∃e:r=q,m=e▸l:=by
 unfold oo at h;split at h
 · rename_i hs
   injection h with h;exact ⟨qv hs,h.symm⟩
 cases h
theorem xt {r q:List PT} {l:List (RT r)} {m:List (RT q)} (h:oo r q l=acg m):r=q/\m.map (RT.pv q)=l.map (RT.pv r)/\acf m=(acf l):=by obtain ⟨rfl,rfl⟩:=lJ h;exact ⟨rfl,rfl,rfl⟩
theorem cY {x:SV} {xs:List SV} {ps:List PV}:lx (x::xs)=acg ps↔ ∃p qs,ps=p::qs/\nB x=acg p/\lx xs=acg qs:=by
 simp only [lx];constructor
 · intro h
   split at h
   · rename_i y ys h1 h2
     injection h with h;exact ⟨y,ys,h.symm,h1,h2⟩
   cases h
 rintro ⟨p,qs,rfl,h1,h2⟩
 rw [h1,h2]
theorem wb: ∀{xs ys:List SV} {p q:List PV},lx xs=acg p->lx ys=acg q->lx (xs++ys)=acg (p++q)
 | [],ys,p,q,h,k=>by simp only [lx,wn] at h;subst h;exact k
 |x::xs,ys,p,q,h,k=>by obtain ⟨a,as,rfl,h1,h2⟩:=cY.1 h;exact cY.2 ⟨a,as++q,rfl,h1,wb h2 k⟩
theorem PT.mj: ∀{p:PT} {v:SV} {a:p.T},p.of v=acg a->v=p.sv a
 | .i k,.int l n,a,h=>by
  simp only [PT.of] at h;cases hk:dF l k with
  |false=>rw [hk] at h;cases h
  |true=>rw [hk] at h;injection h with h;subst h;rw [dy.1 hk];rfl
 | .b,.bool x,a,h=>by injection h with h;subst h;rfl
 | .i k,.bool _,a,h=>by cases h
 | .b,.int _ _,a,h=>by cases h
 | .i _,.fi,a,h| .i _,.undef,a,h| .i _,.gJ,a,h| .i _,.cL,a,h| .i _,.str _,a,h| .i _,.agg _,a,h| .i _,.bH _,a,h| .i _,.sl _ _,a,h| .i _,.nil _ _,a,h| .i _,.own _ _,a,h| .i _,.pre _ _ _ _,a,h| .i _,.part _ _ _ _ _,a,h| .i _,.pa _ _ _ _ _,a,h| .i _,.pb _ _ _,a,h| .i _,.bp _ _ _,a,h| .i _,.aW _ _,a,h| .i _,.di _ _ _,a,h| .i _,.mp _,a,h=>by cases h
 | .b,.fi,a,h| .b,.undef,a,h| .b,.gJ,a,h| .b,.cL,a,h| .b,.str _,a,h| .b,.agg _,a,h| .b,.bH _,a,h| .b,.sl _ _,a,h| .b,.nil _ _,a,h| .b,.own _ _,a,h| .b,.pre _ _ _ _,a,h| .b,.part _ _ _ _ _,a,h| .b,.pa _ _ _ _ _,a,h| .b,.pb _ _ _,a,h| .b,.bp _ _ _,a,h| .b,.aW _ _,a,h| .b,.di _ _ _,a,h| .b,.mp _,a,h=>by cases h
theorem RT.mj: ∀{r:List PT} {vs:List SV} {a:RT r},RT.of r vs=acg a->vs=RT.sv r a
 | [],[],a,_=>rfl
 | [p],[v],a,h=>by have:=PT.mj (p:=p) h;rw [this];rfl
 |p::q::r,v::vs,a,h=>by
  simp only [RT.of] at h;split at h
  · rename_i x y h1 h2
    injection h with h;subst h;rw [PT.mj h1,RT.mj h2];rfl
  cases h
 | [],_::_,a,h=>by simp [RT.of] at h
 | [p],[],a,h=>by simp [RT.of] at h
 | [p],_::_::_,a,h=>by simp [RT.of] at h
 |_::_::_,[],a,h=>by simp [RT.of] at h
theorem PT.C6 (p:PT) (a:p.T):nB (p.sv a)=acg (p.pv a):=by cases p<;>rfl
theorem RT.C6: ∀(r:List PT) (a:RT r),lx (RT.sv r a)=acg (RT.pv r a)
 | [],_=>rfl
 | [p],a=>cY.2 ⟨_,_,rfl,PT.C6 p a,rfl⟩
 |p::q::r,a=>cY.2 ⟨_,_,rfl,PT.C6 p a.1,RT.C6 (q::r) a.2⟩
theorem RT.q8: ∀(r:List PT) (a:RT r),(RT.pv r a).length=acf r
 | [],_=>rfl
 | [p],a=>rfl
 |p::q::r,a=>by simp [RT.pv,RT.q8 (q::r) a.2]
theorem RT.Ec: ∀(r:List PT) (a:RT r),(RT.sv r a).length=acf r
 | [],_=>rfl
 | [p],a=>rfl
 |p::q::r,a=>by simp [RT.sv,RT.Ec (q::r) a.2]
theorem C7: ∀(n:Nat) {vs:List SV} {ps:List PV},lx vs=acg ps-> ∃p q,ps=p++q/\lx (vs.take n)=acg p/\lx (vs.drop n)=acg q
 |0,vs,ps,h=>⟨[],ps,rfl,by simp [lx],by simpa using h⟩
 |n+1,[],ps,h=>⟨[],ps,rfl,by simp [lx],by simpa using h⟩
 |n+1,v::vs,ps,h=>by obtain ⟨p,qs,rfl,h1,h2⟩:=cY.1 h;obtain ⟨a,b,rfl,h3,h4⟩:=C7 n h2;exact ⟨p::a,b,rfl,by rw [abO];exact cY.2 ⟨p,a,rfl,h1,h3⟩,by simpa using h4⟩
def cA.int (k:IntKind):cA Int where
 enc n:=[.int k n]
 dec vs:=match vs with
  | .int l n::r=>bif dF l k then acg (n,r) else ach
  |_=>ach
 law:=fun {vs a rest ps} h hp=>by
  split at h
  · rename_i l n r
    cases hk:dF l k with
    |false=>rw [hk] at h;cases h
    |true=>rw [hk] at h;simp only [ls,wn,IR] at h;obtain ⟨rfl,rfl⟩:=h;obtain ⟨p,qs,rfl,h1,h2⟩:=cY.1 hp;rw [dy.1 hk] at h1;exact ⟨[p],qs,rfl,cY.2 ⟨p,[],rfl,h1,rfl⟩,h2⟩
  cases h
def cA.bool:cA Bool where
 enc n:=[.bool n]
 dec vs:=match vs with
  | .bool n::r=>acg (n,r)
  |_=>ach
 law:=fun {vs a rest ps} h hp=>by
  split at h
  · simp only [wn,IR] at h
    obtain ⟨rfl,rfl⟩:=h;obtain ⟨p,qs,rfl,h1,h2⟩:=cY.1 hp;exact ⟨[p],qs,rfl,cY.2 ⟨p,[],rfl,h1,rfl⟩,h2⟩
  cases h
def Jb (r:List PT):SV->Option (List (RT r))
 | .sl q l=>oo q r l
 | .nil e c=>bif ut e (acf r)&&!c then acg [] else ach
 |_=>ach
theorem C8 {r:List PT} {v:SV} {l:List (RT r)} {p:PV} (h:Jb r v=acg l) (hp:nB v=acg p):nB (.sl r l)=acg p:=by
 cases v with
 |sl q m=>obtain ⟨rfl,h2,_⟩:=xt h;rw [<- hp];simp only [nB,h2]
 |nil e c=>
  simp only [Jb] at h;cases hc:(ut e (acf r)&&!c) with
  |false=>rw [hc] at h;cases h
  |true=>rw [hc] at h;injection h with h;subst h;simp only [pp,abS,aag] at hc;obtain ⟨rfl,rfl⟩:=hc;rw [<- hp];rfl
 |_=>cases h
def cA.sl (r:List PT):cA (List (RT r)) where
 enc l:=[.sl r l]
 dec vs:=match vs with
  |v::rest=>match Jb r v with
   |some l=>acg (l,rest)
   |none=>ach
  | []=>ach
 law:=fun {vs a rest ps} h hp=>by
  split at h
  · split at h
    · rename_i v r' x l hl
      simp only [wn,IR] at h;obtain ⟨rfl,rfl⟩:=h;obtain ⟨p,qs,rfl,h1,h2⟩:=cY.1 hp;exact ⟨[p],qs,rfl,cY.2 ⟨p,[],rfl,C8 hl h1,rfl⟩,h2⟩
    cases h
  cases h
def cA.row (r:List PT):cA (RT r) where
 enc:=RT.sv r
 dec vs:=match RT.of r (vs.take (acf r)) with
  |some a=>acg (a,vs.drop (acf r))
  |none=>ach
 law:=fun {vs a rest ps} h hp=>by
  split at h
  · rename_i x hx
    simp only [wn,IR] at h;obtain ⟨rfl,rfl⟩:=h;obtain ⟨p,q,rfl,h1,h2⟩:=C7 (acf r) hp;rw [RT.mj hx] at h1;exact ⟨p,q,rfl,h1,h2⟩
  cases h
def cA.prod {α β:Type} (A:cA α) (B:cA β):cA (α×β) where
 enc p:=A.enc p.1++B.enc p.2
 dec vs:=match A.dec vs with
  |some p=>match B.dec p.2 with
   |some q=>acg ((p.1,q.1),q.2)
   |none=>ach
  |none=>ach
 law:=fun {vs a rest ps} h hp=>by
  split at h
  · rename_i p hA
    split at h
    · rename_i q hB
      simp only [wn,IR] at h;obtain ⟨rfl,rfl⟩:=h;obtain ⟨p1,p2,rfl,h1,h2⟩:=A.law (a:=p.1) (rest:=p.2) hA hp;obtain ⟨q1,q2,rfl,h3,h4⟩:=B.law (a:=q.1) (rest:=q.2) hB h2;exact ⟨p1++q1,q2,by simp,wb h1 h3,h4⟩
    cases h
  cases h
def cA.TQ {α β:Type} (A:cA α) (f:α->β) (g:β->α) (h: ∀a,g (f a)=a):cA β where
 enc b:=A.enc (g b)
 dec vs:=match A.dec vs with
  |some p=>acg (f p.1,p.2)
  |none=>ach
 law:=fun {vs a rest ps} hd hp=>by
  split at hd
  · rename_i p hA
    simp only [wn,IR] at hd;obtain ⟨rfl,rfl⟩:=hd;rw [h];exact A.law hA hp
  cases hd
def Arg.int (k:IntKind):Arg Int where
 enc n:= .int k n
 dec v:=match v with
  | .int l n=>bif dF l k then acg n else ach
  |_=>ach
 law:=fun {v a p} h hp=>by
  split at h
  · rename_i l n
    cases hk:dF l k with
    |false=>rw [hk] at h;cases h
    |true=>rw [hk] at h;injection h with h;subst h;rw [dy.1 hk] at hp;exact hp
  cases h
def Arg.bool:Arg Bool where
 enc n:= .bool n
 dec v:=match v with
  | .bool n=>acg n
  |_=>ach
 law:=fun {v a p} h hp=>by
  split at h
  · injection h with h;subst h;exact hp
  cases h
def Arg.sl (r:List PT):Arg (List (RT r)) where
 enc l:= .sl r l
 dec:=Jb r
 law:=C8
def Arg.agg {α:Type} (A:cA α):Arg α where
 enc a:= .agg (A.enc a)
 dec v:=match v with
  | .agg cs=>match A.dec cs with
   |some p=>match p.2 with
    | []=>acg p.1
    |_=>ach
   |none=>ach
  |_=>ach
 law:=fun {v a p} h hp=>by
  split at h
  · rename_i cs
    split at h
    · rename_i q hA
      obtain ⟨x,rest⟩:=q;dsimp only at h;cases rest with
      |cons _ _=>cases h
      |nil=>
       injection h with h;subst h;simp only [nB] at hp;cases hc:lx cs with
       |none=>rw [hc] at hp;cases hp
       |some l=>rw [hc] at hp;injection hp with hp;subst hp;obtain ⟨p1,p2,rfl,h1,h2⟩:=A.law hA hc;simp only [lx,wn] at h2;subst h2;simp only [nB,h1,aah]
    cases h
  cases h
def Arg.ref {α:Type} (A:cA α):Arg α where
 enc a:= .aW (A.enc a) 0
 dec v:=match v with
  | .aW cs 0=>match A.dec cs with
   |some p=>match p.2 with
    | []=>acg p.1
    |_=>ach
   |none=>ach
  |_=>ach
 law:=fun {v a p} h hp=>by
  split at h
  · rename_i cs
    split at h
    · rename_i q hA
      obtain ⟨x,rest⟩:=q;dsimp only at h;cases rest with
      |cons _ _=>cases h
      |nil=>
       injection h with h;subst h;simp only [nB] at hp;cases hc:lx cs with
       |none=>rw [hc] at hp;cases hp
       |some l=>rw [hc] at hp;injection hp with hp;subst hp;obtain ⟨p1,p2,rfl,h1,h2⟩:=A.law hA hc;simp only [lx,wn] at h2;subst h2;simp only [nB,h1,aah]
    cases h
  cases h
def ao.nil:ao Unit where
 enc _:=[]
 dec vs:=match vs with
  | []=>acg ()
  |_=>ach
 law:=fun {vs a ps} h hp=>by
  split at h
  · exact hp
  cases h
def ao.one {α:Type} (A:Arg α):ao α where
 enc a:=[A.enc a]
 dec vs:=match vs with
  | [v]=>A.dec v
  |_=>ach
 law:=fun {vs a ps} h hp=>by
  split at h
  · obtain ⟨p,qs,rfl,h1,h2⟩:=cY.1 hp
    exact cY.2 ⟨p,qs,rfl,A.law h h1,h2⟩
  cases h
def ao.cons {α β:Type} (A:Arg α) (B:ao β):ao (α×β) where
 enc a:=A.enc a.1::B.enc a.2
 dec vs:=match vs with
  |v::r=>match A.dec v with
   |some x=>match B.dec r with
    |some y=>acg (x,y)
    |none=>ach
   |none=>ach
  | []=>ach
 law:=fun {vs a ps} h hp=>by
  split at h
  · split at h
    · rename_i x hx
      split at h
      · rename_i y hy
        injection h with h;subst h;obtain ⟨p,qs,rfl,h1,h2⟩:=cY.1 hp;exact cY.2 ⟨p,qs,rfl,A.law hx h1,B.law hy h2⟩
      cases h
    cases h
  cases h
def Arg.bH {α:Type} (A:ao α):Arg α where
 enc a:= .bH (A.enc a)
 dec v:=match v with
  | .bH vs=>A.dec vs
  |_=>ach
 law:=fun {v a p} h hp=>by
  split at h
  · rename_i vs
    simp only [nB] at hp;cases hc:lx vs with
    |none=>rw [hc] at hp;cases hp
    |some l=>rw [hc] at hp;injection hp with hp;subst hp;simp only [nB,A.law h hc]
  cases h
def Arg.di {α:Type} (f:FuncId) (A:ao α):Arg α where
 enc a:= .di f [] (A.enc a)
 dec v:=match v with
  | .di g [] b=>bif ut g f then A.dec b else ach
  |_=>ach
 law:=fun {v a p} h hp=>by
  split at h
  · rename_i g b
    cases hg:ut g f with
    |false=>rw [hg] at h;cases h
    |true=>
     rw [hg] at h;have:=pm hg;subst this;simp only [nB,lx] at hp ⊢;cases hc:lx b with
     |none=>rw [hc] at hp;cases hp
     |some l=>rw [hc] at hp;rw [A.law h hc];exact hp
  cases h
def nC.rows {α:Type} (A:Arg α) (q r:List PT) (g:α->List (RT q)) (fn:List (RT q)->Option (List (RT r))):nC:=⟨.one A,.sl r,fun a=>fn (g a),.own,acm⟩
def nC.clone (r:List PT):nC:=⟨.one (.sl r),.sl r,bD,.own,acm⟩
def lK (a b c:Int):Option (Int×Int):=bif acn (0<=a)&&acn (0<=b)&&acn (0<=c)&&acn (c<=1) then acg ((a+b+c)%18446744073709551616,(a+b+c) / 18446744073709551616) else ach
def nC.Jc:nC:=⟨.cons (.int .u64) (.cons (.int .u64) (.one (.int .u64))),.bH (.cons (.int .u64) (.one (.int .u64))),fun a=>lK a.1 a.2.1 a.2.2,.pure,acm⟩
def F1:List (Nat×nC)->FuncId->List nC
 | [],_=>[]
 |(g,c)::r,f=>bif ut g f then c::F1 r f else F1 r f
def F2:List (Nat×dQ)->FuncId->List dQ
 | [],_=>[]
 |(g,c)::r,f=>bif ut g f then c::F2 r f else F2 r f
def Ed:List (Nat×Cd)->FuncId->Option Cd
 | [],_=>ach
 |(g,c)::r,f=>bif ut g f then acg c else Ed r f
def pP (lp:Option Nat) (c:List (Nat×nC)) (p:List (Nat×dQ)) (x:List (Nat×Cd)) (rk:List (Nat×List PT)):Ctx:=⟨lp,F1 c,F2 p,Ed x,rk,acm⟩
end Go.Vm
/- What a typed value says of a value of the logical machine. -/
namespace Go.Vm
def OwnAt (s:List SB) (t e n:Nat):Prop:=(∃r l,s[t]? =acg (.arr r l)/\e=acf r/\n=acf l)\/s[t]? =acg .dead
def vp (s:List SB) (t e:Nat):Prop:=(∃r l,s[t]? =acg (.arr r l)/\e=acf r)\/s[t]? =acg .dead\/(∃cs,s[t]? =acg (.box cs)/\e=1)
def MC (s:List SB) (t:Nat) (r:List PT) (i:Int) (a:RT r):Prop:=(∃l,s[t]? =acg (.arr r l)/\aA l i=acg a)\/s[t]? =acg .dead
def TR (s:List SB) (t:Nat) (i:Int):Prop:=(∃r l,s[t]? =acg (.arr r l)/\(aA l i).isSome=acl)\/s[t]? =acg .dead
mutual
def R (s:List SB):SV->PV->Prop
 | .fi,_=>True
 | .undef,v=>v= .undef
 | .gJ,v=>v= .gJ
 | .cL,v=>v= .cL
 | .int k n,v=>v= .int k n
 | .bool b,v=>v= .bool b
 | .str x,v=>v= .str x
 | .agg cs,v=> ∃ps,v= .agg ps/\RL s cs ps
 | .bH cs,v=> ∃ps,v= .bH ps/\RL s cs ps
 | .sl r l,v=>v= .sl (acf r) acm (l.map (RT.pv r))
 | .nil e c,v=>v= .sl e c []
 | .own t ex,v=> ∃e n,v= .own t e 0 n n ex/\OwnAt s t e n
 | .pre t len cap ex,v=> ∃e,v= .own t e 0 len cap ex/\vp s t e
 | .part t off len cap ex,v=> ∃e,v= .own t e off len cap ex/\vp s t e
 | .pa t r i a off,v=>v= .ptr t (acf r) i.toNat off/\MC s t r i a
 | .pb t i off,v=> ∃e,v= .ptr t e i.toNat off/\TR s t i
 | .bp t n off,v=>v= .ptr t n 0 off
 | .aW cs off,v=> ∃ps,v= .aW ps off/\RL s cs ps
 | .di f a b,v=> ∃pa pb,v= .di f pa pb/\RL s a pa/\RL s b pb
 | .mp t,v=>v= .mp t
def RL (s:List SB):List SV->List PV->Prop
 | [],ps=>ps=[]
 |x::xs,ps=> ∃p q,ps=p::q/\R s x p/\RL s xs q
end
def oV:List Int->PV
 | [a]=> .int .i64 a
 |l=> .agg (l.map (.int .i64))
def xu (k:List Int):PV×PV:=(oV k,.bool acl)
def zY (p:PT) (a:RT [.i .i64,p]):PV×PV:=(.int .i64 a.1,p.pv a.2)
def RB (s:List SB):SB->gY->Prop
 | .arr r l,b=>b= .arr (acf r) (l.map (RT.pv r))
 | .box cs,b=> ∃ps,b= .box ps/\RL s cs ps
 | .set l,b=>b= .map (l.map xu)
 | .bB p l,b=>b= .map (l.map (zY p))
 | .dead,b=>b= .dead
structure bL (s:List SB) (p:bG):Prop where
 len:(acf p)=acf s
 at_: ∀(t:Nat) (b:SB),s[t]? =acg b-> ∃q,p[t]? =acg q/\RB s b q
def cK (s:List SB):SE->Env->Prop
 | [],e=>e=[]
 |(t,v)::r,e=> ∃p q,e=(t,p)::q/\R s v p/\cK s r q
structure uz (st:lH) (p:St):Prop where
 env:cK st.aj st.env p.env
 aj:bL st.aj p.aj
 fz:p.fz=st.fz
 kn:p.kn=st.kn
theorem jt: ∀(s l:List SB),TL s l=s++l
 | [],_=>rfl
 |b::r,l=>by simp [TL,jt r l]
theorem xw: ∀(s:List SB) (t:Nat) (b:SB),Mx s t b=s.set t b
 | [],_,_=>by simp [Mx]
 |_::_,0,_=>rfl
 |x::r,n+1,b=>by simp [Mx,xw r n b]
theorem RL.nil {s:List SB}:RL s [] []:=rfl
theorem RL.cons {s:List SB} {x:SV} {xs:List SV} {p:PV} {q:List PV} (h:R s x p) (k:RL s xs q):RL s (x::xs) (p::q):=⟨p,q,rfl,h,k⟩
theorem RL.cons_inv {s:List SB} {x:SV} {xs:List SV} {ps:List PV} (h:RL s (x::xs) ps): ∃p q,ps=p::q/\R s x p/\RL s xs q:=h
theorem RL.jr {s:List SB}: ∀{xs:List SV} {ps:List PV},RL s xs ps->acf ps=acf xs
 | [],ps,h=>by rw [show ps=[] from h];rfl
 |x::xs,ps,h=>by obtain ⟨p,q,rfl,_,h2⟩:=h.cons_inv;simp [h2.jr]
theorem RL.append {s:List SB}: ∀{xs:List SV} {ps:List PV},RL s xs ps-> ∀{ys:List SV} {qs:List PV},RL s ys qs->RL s (xs++ys) (ps++qs)
 | [],ps,h,_,_,k=>by rw [show ps=[] from h];exact k
 |x::xs,ps,h,_,_,k=>by obtain ⟨p,q,rfl,h1,h2⟩:=h.cons_inv;exact RL.cons h1 (h2.append k)
theorem RL.take {s:List SB}: ∀{xs:List SV} {ps:List PV},RL s xs ps-> ∀n,RL s (xs.take n) (ps.take n)
 | [],ps,h,n=>by rw [show ps=[] from h];simp;exact RL.nil
 |x::xs,ps,h,0=>by simp;exact RL.nil
 |x::xs,ps,h,n+1=>by obtain ⟨p,q,rfl,h1,h2⟩:=h.cons_inv;exact RL.cons h1 (h2.take n)
theorem RL.drop {s:List SB}: ∀{xs:List SV} {ps:List PV},RL s xs ps-> ∀n,RL s (xs.drop n) (ps.drop n)
 | [],ps,h,n=>by rw [show ps=[] from h];simp;exact RL.nil
 |x::xs,ps,h,0=>h
 |x::xs,ps,h,n+1=>by obtain ⟨p,q,rfl,h1,h2⟩:=h.cons_inv;exact h2.drop n
theorem RL.nth {s:List SB}: ∀{xs:List SV} {ps:List PV},RL s xs ps-> ∀{n:Nat} {v:SV},Vm.nth xs n=acg v-> ∃p,ps[n]? =acg p/\R s v p
 | [],_,_,_,_,e=>by cases e
 |x::xs,ps,h,0,v,e=>by obtain ⟨p,q,rfl,h1,_⟩:=h.cons_inv;injection e with e;subst e;exact ⟨p,rfl,h1⟩
 |x::xs,ps,h,n+1,v,e=>by obtain ⟨p,q,rfl,_,h2⟩:=h.cons_inv;obtain ⟨p',h3,h4⟩:=h2.nth (n:=n) e;exact ⟨p',by simpa using h3,h4⟩
mutual
theorem HG (s:List SB): ∀v:PV,R s (OW v) v
 | .undef=>rfl
 | .gJ=>rfl
 | .cL=>rfl
 | .int _ _=>rfl
 | .bool _=>rfl
 | .str _=>rfl
 | .agg cs=>⟨cs,rfl,q9 s cs⟩
 | .bH cs=>⟨cs,rfl,q9 s cs⟩
 | .sl e c rows=>by
  cases rows with
  |nil=>exact rfl
  |cons _ _=>trivial
 | .di f a b=>⟨a,b,rfl,q9 s a,q9 s b⟩
 | .own .. =>trivial
 | .ptr .. =>trivial
 | .aW .. =>trivial
 | .mp _=>trivial
theorem q9 (s:List SB): ∀l:List PV,RL s (xm l) l
 | []=>rfl
 |x::xs=>RL.cons (HG s x) (q9 s xs)
end
theorem cK.lk {s:List SB}: ∀{e:SE} {p:Env},cK s e p-> ∀t,R s (zA t e) (Vm.lk t p)
 | [],p,h,t=>by rw [show p=[] from h];rfl
 |(u,v)::r,p,h,t=>by
  obtain ⟨q,qs,rfl,h1,h2⟩:=h;simp only [zA,Vm.lk];cases hb:ut u t with
  |true=>exact h1
  |false=>exact cK.lk h2 t
theorem cK.vZ {s:List SB}: ∀{e:SE} {p:Env},cK s e p-> ∀{t:Nat} {v:SV},R s v (Vm.lk t p)->cK s (Vm.vZ t v e) p
 | [],p,h,t,v,_=>h
 |(u,x)::r,p,h,t,v,hv=>by
  obtain ⟨q,qs,rfl,h1,h2⟩:=h;simp only [Vm.vZ];simp only [Vm.lk] at hv;cases hb:ut u t with
  |true=>rw [hb] at hv;exact ⟨q,qs,rfl,hv,h2⟩
  |false=>rw [hb] at hv;exact ⟨q,qs,rfl,h1,cK.vZ h2 hv⟩
theorem cE {s:List SB} {e:SE} {p:Env} (h:cK s e p): ∀x:dI,R s (bm e x) (x.ev p)
 | .t n=>h.lk n
 | .c v=>HG s v
theorem uA {s:List SB} {e:SE} {p:Env} (h:cK s e p): ∀l:List dI,RL s (gP e l) (As p l)
 | []=>rfl
 |x::xs=>RL.cons (cE h x) (uA h xs)
def Fr (bad:List Nat) (s s':List SB):Prop:= ∀(t:Nat) (b:SB),s[t]? =acg b->match b with
 | .arr r l=>(∃l',s'[t]? =acg (.arr r l')/\acf l'=acf l/\(has bad t=acm->l'=l))\/s'[t]? =acg .dead
 | .dead=>s'[t]? =acg .dead
 | .box _=>(∃cs,s'[t]? =acg (.box cs))\/s'[t]? =acg .dead
 |_=>True
theorem Fr.refl (bad:List Nat) (s:List SB):Fr bad s s:=fun t b h=>by
 cases b with
 |arr r l=>exact .inl ⟨l,h,rfl,fun _=>rfl⟩
 |dead=>exact h
 |box cs=>exact .inl ⟨cs,h⟩
 |_=>trivial
theorem Fr.app (bad:List Nat) (s l:List SB):Fr bad s (s++l):=fun t b h=>by
 have h':(s++l)[t]? =acg b:=by have:=(v4.1 h).1;rw [rc this];exact h
 cases b with
 |arr r l=>exact .inl ⟨l,h',rfl,fun _=>rfl⟩
 |dead=>exact h'
 |box cs=>exact .inl ⟨cs,h'⟩
 |_=>trivial
theorem Fr.trans {bad:List Nat} {a b c:List SB} (h:Fr bad a b) (k:Fr bad b c):Fr bad a c:=fun t x hx=>by
 have h1:=h t x hx;cases x with
 |arr r l=>
  rcases h1 with ⟨l',h2,h3,h4⟩|h2
  · have k1:=k t _ h2
    rcases k1 with ⟨l2,k2,k3,k4⟩|k2
    · exact .inl ⟨l2,k2,k3.trans h3,fun hb=>(k4 hb).trans (h4 hb)⟩
    exact .inr k2
  exact .inr (k t _ h2)
 |dead=>exact k t _ h1
 |box cs=>
  rcases h1 with ⟨c2,h2⟩|h2
  · exact k t _ h2
  exact .inr (k t _ h2)
 |_=>trivial
theorem zE {α:Type} {l m:List α} {i:Int} (h:(aA l i).isSome=acl) (hl:(acf m)=acf l):(aA m i).isSome=acl:=by
 cases i with
 |ofNat n=>simp only [aA] at h ⊢;rw [abF] at h;obtain ⟨a,ha⟩:=h;have:=(v4.1 ha).1;rw [AC (by omega)];rfl
 |negSucc n=>simp [aA] at h
mutual
theorem R.fr {bad:List Nat} {s s':List SB} (hf:Fr bad s s'): ∀{v:SV} {p:PV},R s v p->R s' (Om bad v) p
 | .fi,_,_=>trivial
 | .undef,_,h=>h
 | .gJ,_,h=>h
 | .cL,_,h=>h
 | .int _ _,_,h=>h
 | .bool _,_,h=>h
 | .str _,_,h=>h
 | .agg cs,_,h=>by obtain ⟨ps,rfl,h⟩:=h;exact ⟨ps,rfl,RL.fr hf h⟩
 | .bH cs,_,h=>by obtain ⟨ps,rfl,h⟩:=h;exact ⟨ps,rfl,RL.fr hf h⟩
 | .sl _ _,_,h=>h
 | .nil _ _,_,h=>h
 | .own t ex,_,h=>by
  obtain ⟨e,n,rfl,h⟩:=h;refine ⟨e,n,rfl,?_⟩;rcases h with ⟨r,l,h1,h2,h3⟩|h1
  · rcases hf t _ h1 with ⟨l',k1,k2,_⟩|k1
    · exact .inl ⟨r,l',k1,h2,by rw [h3,k2]⟩
    exact .inr k1
  exact .inr (hf t _ h1)
 | .pre t len cap ex,_,h=>by
  obtain ⟨e,rfl,h⟩:=h;refine ⟨e,rfl,?_⟩;rcases h with ⟨r,l,h1,h2⟩|h1|⟨cs,h1,h2⟩
  · rcases hf t _ h1 with ⟨l',k1,_,_⟩|k1
    · exact .inl ⟨r,l',k1,h2⟩
    exact .inr (.inl k1)
  · exact .inr (.inl (hf t _ h1))
  rcases hf t _ h1 with ⟨c2,k1⟩|k1
  · exact .inr (.inr ⟨c2,k1,h2⟩)
  exact .inr (.inl k1)
 | .part t off len cap ex,_,h=>by
  obtain ⟨e,rfl,h⟩:=h;refine ⟨e,rfl,?_⟩;rcases h with ⟨r,l,h1,h2⟩|h1|⟨cs,h1,h2⟩
  · rcases hf t _ h1 with ⟨l',k1,_,_⟩|k1
    · exact .inl ⟨r,l',k1,h2⟩
    exact .inr (.inl k1)
  · exact .inr (.inl (hf t _ h1))
  rcases hf t _ h1 with ⟨c2,k1⟩|k1
  · exact .inr (.inr ⟨c2,k1,h2⟩)
  exact .inr (.inl k1)
 | .pa t r i a off,_,h=>by
  obtain ⟨rfl,h⟩:=h;simp only [Om];cases hb:has bad t with
  |true=>
   refine ⟨_,rfl,?_⟩;rcases h with ⟨l,h1,h2⟩|h1
   · rcases hf t _ h1 with ⟨l',k1,k2,_⟩|k1
     · exact .inl ⟨r,l',k1,zE (by rw [h2];rfl) k2⟩
     exact .inr k1
   exact .inr (hf t _ h1)
  |false=>
   refine ⟨rfl,?_⟩;rcases h with ⟨l,h1,h2⟩|h1
   · rcases hf t _ h1 with ⟨l',k1,_,k3⟩|k1
     · exact .inl ⟨l',k1,by rw [k3 hb];exact h2⟩
     exact .inr k1
   exact .inr (hf t _ h1)
 | .pb t i off,_,h=>by
  obtain ⟨e,rfl,h⟩:=h;refine ⟨e,rfl,?_⟩;rcases h with ⟨r,l,h1,h2⟩|h1
  · rcases hf t _ h1 with ⟨l',k1,k2,_⟩|k1
    · exact .inl ⟨r,l',k1,zE h2 k2⟩
    exact .inr k1
  exact .inr (hf t _ h1)
 | .bp _ _ _,_,h=>h
 | .aW cs off,_,h=>by obtain ⟨ps,rfl,h⟩:=h;exact ⟨ps,rfl,RL.fr hf h⟩
 | .di f a b,_,h=>by obtain ⟨pa,pb,rfl,h1,h2⟩:=h;exact ⟨pa,pb,rfl,RL.fr hf h1,RL.fr hf h2⟩
 | .mp _,_,h=>h
theorem RL.fr {bad:List Nat} {s s':List SB} (hf:Fr bad s s'): ∀{v:List SV} {p:List PV},RL s v p->RL s' (Mw bad v) p
 | [],_,h=>h
 |x::xs,_,h=>by obtain ⟨p,q,rfl,h1,h2⟩:=h.cons_inv;exact RL.cons (R.fr hf h1) (RL.fr hf h2)
end
mutual
theorem Jd: ∀v:SV,Om [] v=v
 | .fi| .undef| .gJ| .cL| .int _ _| .bool _| .str _| .sl _ _| .nil _ _| .own _ _| .pre _ _ _ _| .part _ _ _ _ _| .pb _ _ _| .bp _ _ _| .mp _=>rfl
 | .agg cs=>by simp only [Om,pf cs]
 | .bH cs=>by simp only [Om,pf cs]
 | .aW cs _=>by simp only [Om,pf cs]
 | .di _ a b=>by simp only [Om,pf a,pf b]
 | .pa t r i a off=>by simp [Om,has]
theorem pf: ∀v:List SV,Mw [] v=v
 | []=>rfl
 |x::xs=>by simp only [Mw,Jd x,pf xs]
end
theorem R.ext {s s':List SB} (hf:Fr [] s s') {v:SV} {p:PV} (h:R s v p):R s' v p:=by
 have:=R.fr hf h
 rwa [Jd] at this
theorem RL.ext {s s':List SB} (hf:Fr [] s s') {v:List SV} {p:List PV} (h:RL s v p):RL s' v p:=by
 have:=RL.fr hf h
 rwa [pf] at this
theorem RB.fr {bad:List Nat} {s s':List SB} (hf:Fr bad s s') {b:SB} {p:gY} (h:RB s b p):RB s' (O2 bad b) p:=by
 cases b with
 |box cs=>obtain ⟨ps,rfl,h⟩:=h;exact ⟨ps,rfl,RL.fr hf h⟩
 |_=>exact h
theorem RB.ext {s s':List SB} (hf:Fr [] s s') {b:SB} {p:gY} (h:RB s b p):RB s' b p:=by
 cases b with
 |box cs=>obtain ⟨ps,rfl,h⟩:=h;exact ⟨ps,rfl,RL.ext hf h⟩
 |_=>exact h
theorem cK.fr {bad:List Nat} {s s':List SB} (hf:Fr bad s s'): ∀{e:SE} {p:Env},cK s e p->cK s' (YB bad e) p
 | [],_,h=>h
 |(t,v)::r,_,h=>by obtain ⟨p,q,rfl,h1,h2⟩:=h;exact ⟨p,q,rfl,R.fr hf h1,cK.fr hf h2⟩
theorem cK.ext {s s':List SB} (hf:Fr [] s s'): ∀{e:SE} {p:Env},cK s e p->cK s' e p
 | [],_,h=>h
 |(t,v)::r,_,h=>by obtain ⟨p,q,rfl,h1,h2⟩:=h;exact ⟨p,q,rfl,R.ext hf h1,cK.ext hf h2⟩
theorem bL.app {s:List SB} {p:bG} (h:bL s p) {l:List SB} {q:bG} (hl:(acf q)=acf l) (hb: ∀(j:Nat) (b:SB),l[j]? =acg b-> ∃x,q[j]? =acg x/\RB (s++l) b x):bL (s++l) (p++q) where
 len:=by simp [h.len,hl]
 at_:=fun t b ht=>by
  rcases abk t (acf s) with dA|Sh
  · rw [rc dA] at ht
    obtain ⟨x,h1,h2⟩:=h.at_ t b ht;exact ⟨x,by rw [rc (by rw [h.len];exact dA)];exact h1,h2.ext (Fr.app [] s l)⟩
  rw [v6 Sh] at ht
  obtain ⟨x,h1,h2⟩:=hb _ b ht;exact ⟨x,by rw [v6 (by rw [h.len];exact Sh),h.len];exact h1,h2⟩
theorem nQ (ts:List Nat): ∀(s:List SB) (t:Nat),(yf ts s)[t]? =(s[t]?).map (O2 ts)
 | [],t=>by simp [yf]
 |b::r,0=>by simp [yf]
 |b::r,t+1=>by simp [yf,nQ ts r t]
theorem re (ts:List Nat): ∀(s:List SB),(yf ts s).length=acf s
 | []=>rfl
 |b::r=>by simp [yf,re ts r]
theorem Fr.dg {bad ts:List Nat} {s s':List SB} (h:Fr bad s s'):Fr bad s (yf ts s'):=fun t b hb=>by
 have h1:=h t b hb;cases b with
 |arr r l=>
  rcases h1 with ⟨l',h2,h3,h4⟩|h2
  · exact .inl ⟨l',by rw [nQ,h2];rfl,h3,h4⟩
  exact .inr (by rw [nQ,h2];rfl)
 |dead=>show (yf ts s')[t]? =_;rw [nQ,h1];rfl
 |box cs=>
  rcases h1 with ⟨c2,h2⟩|h2
  · exact .inl ⟨Mw ts c2,by rw [nQ,h2];rfl⟩
  exact .inr (by rw [nQ,h2];rfl)
 |_=>trivial
theorem C9 {s:List SB}: ∀(r:List PT) (a:RT r),RL s (RT.sv r a) (RT.pv r a)
 | [],_=>rfl
 | [p],a=>by refine RL.cons ?_ RL.nil;cases p<;>rfl
 |p::q::r,a=>by refine RL.cons ?_ (C9 (q::r) a.2);cases p<;>rfl
theorem uB {s:List SB}: ∀(r:List PT) (a:RT r) {ps:List PV},RL s (RT.sv r a) ps->ps=RT.pv r a
 | [],_,ps,h=>h
 | [p],a,ps,h=>by obtain ⟨x,q,rfl,h1,h2⟩:=h.cons_inv;have Kw:q=[]:=h2;subst Kw;cases p<;>(have GX:=h1;simp only [PT.sv,R] at GX;rw [GX];rfl)
 |p::q::r,a,ps,h=>by obtain ⟨x,qs,rfl,h1,h2⟩:=h.cons_inv;rw [uB (q::r) a.2 h2];cases p<;>(have GX:=h1;simp only [PT.sv,R] at GX;rw [GX];rfl)
theorem RT.plain: ∀(r:List PT) (a:RT r),(RT.pv r a).all PV.plain=acl
 | [],_=>rfl
 | [p],a=>by cases p<;>rfl
 |p::q::r,a=>by have:=RT.plain (q::r) a.2;cases p<;>(simp only [RT.pv,abQ,this,acd];rfl)
theorem R.cells {s:List SB} {v:SV} {p:PV} (h:R s v p) (hj:v≠ .fi):RL s v.cells p.cells:=by
 cases v with
 |fi=>exact absurd rfl hj
 |agg cs=>obtain ⟨ps,rfl,h⟩:=h;exact h
 |undef=>rw [show p= .undef from h];exact RL.cons rfl RL.nil
 |gJ=>rw [show p= .gJ from h];exact RL.cons rfl RL.nil
 |cL=>rw [show p= .cL from h];exact RL.cons rfl RL.nil
 |int k n=>rw [show p= .int k n from h];exact RL.cons rfl RL.nil
 |bool b=>rw [show p= .bool b from h];exact RL.cons rfl RL.nil
 |str x=>rw [show p= .str x from h];exact RL.cons rfl RL.nil
 |sl r l=>rw [show p=_ from h];exact RL.cons rfl RL.nil
 |nil e c=>rw [show p=_ from h];exact RL.cons rfl RL.nil
 |bp t n o=>rw [show p=_ from h];exact RL.cons rfl RL.nil
 |mp t=>rw [show p=_ from h];exact RL.cons rfl RL.nil
 |bH cs=>obtain ⟨ps,rfl,h⟩:=h;exact RL.cons ⟨ps,rfl,h⟩ RL.nil
 |own t ex=>obtain ⟨e,n,rfl,h⟩:=h;exact RL.cons ⟨e,n,rfl,h⟩ RL.nil
 |pre t a b c=>obtain ⟨e,rfl,h⟩:=h;exact RL.cons ⟨e,rfl,h⟩ RL.nil
 |part t o a b c=>obtain ⟨e,rfl,h⟩:=h;exact RL.cons ⟨e,rfl,h⟩ RL.nil
 |pa t r i a o=>obtain ⟨rfl,h⟩:=h;exact RL.cons ⟨rfl,h⟩ RL.nil
 |pb t i o=>obtain ⟨e,rfl,h⟩:=h;exact RL.cons ⟨e,rfl,h⟩ RL.nil
 |aW cs o=>obtain ⟨ps,rfl,h⟩:=h;exact RL.cons ⟨ps,rfl,h⟩ RL.nil
 |di f a b=>obtain ⟨pa,pb,rfl,h⟩:=h;exact RL.cons ⟨pa,pb,rfl,h⟩ RL.nil
theorem R.mG {s:List SB} {v:SV} {p:PV} (h:R s v p) (ho:v.mG=acl):p.mG=acl:=by
 cases v with
 |fi|undef|gJ|agg _|bH _=>cases ho
 |cL|int _ _|bool _|str _|sl _ _|nil _ _|bp _ _ _|mp _=>rw [show p=_ from h];rfl
 |own t ex=>obtain ⟨e,n,rfl,h⟩:=h;rfl
 |pre t a b c=>obtain ⟨e,rfl,h⟩:=h;rfl
 |part t o a b c=>obtain ⟨e,rfl,h⟩:=h;rfl
 |pa t r i a o=>obtain ⟨rfl,h⟩:=h;rfl
 |pb t i o=>obtain ⟨e,rfl,h⟩:=h;rfl
 |aW cs o=>obtain ⟨ps,rfl,h⟩:=h;rfl
 |di f a b=>obtain ⟨pa,pb,rfl,h⟩:=h;rfl
theorem RL.tf {s:List SB}: ∀{cs:List SV} {ps:List PV},RL s cs ps->Vm.tf cs=acl->ps.all PV.mG=acl
 | [],ps,h,_=>by rw [show ps=[] from h];rfl
 |x::xs,ps,h,ho=>by obtain ⟨p,q,rfl,h1,h2⟩:=h.cons_inv;simp only [Vm.tf,pp] at ho;simp only [abQ,pp];exact ⟨h1.mG ho.1,h2.tf ho.2⟩
theorem R.stored {s:List SB} {v:SV} {p:PV} {w:List SV} (h:R s v p) (hs:v.stored=acg w): ∃q,p.stored=acg q/\RL s w q:=by
 unfold SV.stored at hs;cases ha:Vm.tf v.cells with
 |false=>rw [ha] at hs;cases hs
 |true=>
  rw [ha] at hs;injection hs with hs;subst hs;have hj:v≠ .fi:=by intro e;subst e;cases ha
  have hc:=h.cells hj;exact ⟨p.cells,by unfold PV.stored;rw [ol (hc.tf ha)],hc⟩
theorem R.ofRow {s:List SB} {v:SV} {p:PV} {r:List PT} {a:RT r} (h:R s v p) (hr:RT.of r v.cells=acg a):p.bK=acg (RT.pv r a)/\acf v.cells=(acf r):=by
 have hc:=RT.mj hr;have hl:(acf v.cells)=(acf r):=by rw [hc,RT.Ec]
 refine ⟨?_,hl⟩;have hj:v≠ .fi:=by
  intro e;subst e;cases r with
  |nil=>simp [SV.cells,RT.of] at hr
  |cons p q=>cases q with
   |nil=>cases p<;>simp [SV.cells,RT.of,PT.of] at hr
   |cons _ _=>simp only [SV.cells,RT.of] at hr;split at hr<;>cases hr<;>(rename_i x y h1 h2;simp at h2)
 have h1:=h.cells hj;rw [hc] at h1;have h2:=uB r a h1;unfold PV.bK;rw [h2,ol (RT.plain r a)]
theorem pg {s:List SB} {agg:Option Nat} {off:Nat} {cs:List SV} {ps:List PV} {v:SV} (h:RL s cs ps) (hp:vj agg off cs=acg v): ∃p,part agg off ps=acg p/\R s v p:=by
 cases agg with
 |none=>obtain ⟨p,h1,h2⟩:=h.nth hp;exact ⟨p,h1,h2⟩
 |some n=>
  simp only [vj] at hp;cases hb:ww (off+n) (acf cs) with
  |false=>rw [hb] at hp;cases hp
  |true=>
   rw [hb] at hp;injection hp with hp;subst hp;have:off+n<=(acf ps):=by rw [h.jr];exact EQ hb
   exact ⟨.agg ((ps.drop off).take n),by simp only [part,ol this],_,rfl,(h.drop off).take n⟩
theorem uC {s:List SB} {off:Nat} {new old:List SV} {pn po:List PV} (h:RL s new pn) (k:RL s old po):RL s (mh off new old) (kq off pn po):=by unfold mh kq;rw [h.jr];exact ((k.take off).append h).append (k.drop _)
theorem Je {s:List SB} {ps:bG} {v:SV} {p:PV} {r:List PT} {l:List (RT r)} (hs:bL s ps) (h:R s v p) (hc:vn s v=acg ⟨r,l⟩):
 rowsOf ps (acf r) p=acg (l.map (RT.pv r))/\fU p=qZ v:=by
 cases v with
 |sl q m=>
  have yt:(⟨q,m⟩:Rows)=⟨r,l⟩:=by injection hc
  cases yt;rw [show p=_ from h];refine ⟨?_,rfl⟩;cases l with
  |nil=>rfl
  |cons a l=>simp [rowsOf]
 |own t ex=>
  simp only [vn,bz] at hc;split at hc
  · rename_i q m bw
    have yt:(⟨q,m⟩:Rows)=⟨r,l⟩:=by injection hc
    cases yt;obtain ⟨e,n,rfl,cm⟩:=h;rcases cm with ⟨q',m',h1,rfl,rfl⟩|h1
    · rw [bw] at h1
      injection h1 with h1;cases h1;obtain ⟨b,h2,h3⟩:=hs.at_ t _ bw;rw [show b=_ from h3] at h2;refine ⟨?_,rfl⟩;simp only [rowsOf,aau,if_true,h2,ab6];rw [ab0 (by simp)]
    rw [bw] at h1;cases h1
  cases hc
 |pre t len cap ex=>
  simp only [vn,bz] at hc;split at hc
  · rename_i q m bw
    have yt:(⟨q,m.take len⟩:Rows)=⟨r,l⟩:=by injection hc
    cases yt;obtain ⟨e,rfl,cm⟩:=h;rcases cm with ⟨q',m',h1,rfl⟩|h1|⟨_,h1,_⟩
    · rw [bw] at h1
      injection h1 with h1;cases h1;obtain ⟨b,h2,h3⟩:=hs.at_ t _ bw;rw [show b=_ from h3] at h2;refine ⟨?_,rfl⟩;simp only [rowsOf,aau,if_true,h2];simp
    · rw [bw] at h1;cases h1
    rw [bw] at h1;cases h1
  cases hc
 |part t off len cap ex=>
  simp only [vn,bz] at hc;split at hc
  · rename_i q m bw
    have yt:(⟨q,(m.drop off).take len⟩:Rows)=⟨r,l⟩:=by injection hc
    cases yt;obtain ⟨e,rfl,cm⟩:=h;rcases cm with ⟨q',m',h1,rfl⟩|h1|⟨_,h1,_⟩
    · rw [bw] at h1
      injection h1 with h1;cases h1;obtain ⟨b,h2,h3⟩:=hs.at_ t _ bw;rw [show b=_ from h3] at h2;refine ⟨?_,rfl⟩;simp only [rowsOf,aau,if_true,h2];simp
    · rw [bw] at h1;cases h1
    rw [bw] at h1;cases h1
  cases hc
 |_=>cases hc
end Go.Vm
/- Operation by operation: what the typed machine does, the logical machine does; the easy ones. -/
namespace Go.Vm
structure Good (s:List SB) (ps:bG) (sr:ej) (pr:kr):Prop where
 rd:pr.rd=sr.rd
 fr:pr.fr=sr.fr
 wr:pr.wr.map (·.1)=tl sr.wr
 nw:qO pr.wr=acl
 nl:(acf pr.news)=acf sr.news
 aj:bL (sr.j0 s) (oQ (ez pr.wr ps) pr.news)
 v:R (sr.j0 s) sr.v pr.v
 YE:Fr (tl sr.wr) s (sr.j0 s)
section
variable {s : List SB} {ps : bG}
theorem Good.val (hS:bL s ps) {v:SV} {p:PV} {rd fr:List Nat} (hv:R s v p):Good s ps {v,rd,fr} {v:=p,rd,fr} where
 rd:=rfl
 fr:=rfl
 wr:=rfl
 nw:=rfl
 nl:=rfl
 aj:=by simp only [ej.j0,jt,aah,ez,oQ];exact hS
 v:=by simp only [ej.j0,jt,aah];exact hv
 YE:=by simp only [ej.j0,jt,aah];exact Fr.refl _ _
theorem Good.news (hS:bL s ps) {v:SV} {p:PV} {l:List SB} {q:bG} {rd:List Nat} (hl:(acf q)=acf l) (hb: ∀(j:Nat) (b:SB),l[j]? =acg b-> ∃x,q[j]? =acg x/\RB (s++l) b x) (hv:R (s++l) v p):
 Good s ps {v,news:=l,rd} {v:=p,news:=q,rd} where
 rd:=rfl
 fr:=rfl
 wr:=rfl
 nw:=rfl
 nl:=hl
 aj:=by simp only [ej.j0,jt,ez,nI];exact hS.app hl hb
 v:=by simp only [ej.j0,jt];exact hv
 YE:=by simp only [ej.j0,jt];exact Fr.app _ _ _
theorem Good.new (hS:bL s ps) {v:SV} {p:PV} {b:SB} {q:gY} {rd:List Nat} (hb:RB (s++[b]) b q) (hv:R (s++[b]) v p):Good s ps {v,news:=[b],rd} {v:=p,news:=[q],rd}:=
 Good.news hS rfl (fun j x h=>by
  cases j with
  |zero=>simp at h;subst h;exact ⟨q,rfl,hb⟩
  |succ j=>simp at h) hv
def Jf (b0 b:SB):Prop:=
 match b0 with
 | .arr r l=>(∃l',b= .arr r l'/\acf l'=acf l)\/b= .dead
 | .dead=>b= .dead
 | .box _=>(∃cs,b= .box cs)\/b= .dead
 |_=>True
theorem Fr.set {t:Nat} {b0 b:SB} (h0:s[t]? =acg b0) (hk:Jf b0 b):Fr [t] s (s.set t b):=fun u x hu=>by
 by_cases GY:t=u
 · subst GY
   rw [h0] at hu;injection hu with hu;subst hu;have dA:=(v4.1 h0).1;have hb:(s.set t b)[t]? =acg b:=by simp [dA]
   cases b0 with
   |arr r l=>
    rcases hk with ⟨l',rfl,hl⟩|rfl
    · exact .inl ⟨l',hb,hl,fun h=>by simp [has] at h⟩
    exact .inr hb
   |dead=>rw [show b= .dead from hk] at hb ⊢;exact hb
   |box cs=>
    rcases hk with ⟨c2,rfl⟩|rfl
    · exact .inl ⟨c2,hb⟩
    exact .inr hb
   |_=>trivial
 have hb:(s.set t b)[u]? =acg x:=by rw [Do];simp [GY,hu]
 cases x with
 |arr r l=>exact .inl ⟨l,hb,rfl,fun _=>rfl⟩
 |dead=>exact hb
 |box cs=>exact .inl ⟨cs,hb⟩
 |_=>trivial
theorem bL.put (hS:bL s ps) {t:Nat} {b0 b:SB} {q:gY} (h0:s[t]? =acg b0) (hk:Jf b0 b) (hq:RB (yf [t] (s.set t b)) (O2 [t] b) q):bL (yf [t] (s.set t b)) (ps.set t q) where
 len:=by simp [re,hS.len]
 at_:=fun u x hu=>by
  have dA:=(v4.1 h0).1;rw [nQ] at hu
  by_cases GY:t=u
  · subst GY
    have hb:(s.set t b)[t]? =acg b:=by simp [dA]
    rw [hb] at hu;simp at hu;subst hu;exact ⟨q,by rw [Do];simp [hS.len,dA],hq⟩
  rw [Do] at hu
  simp only [GY,if_false,ab4] at hu;obtain ⟨y,hy,rfl⟩:=hu;obtain ⟨q',h1,h2⟩:=hS.at_ u y hy;exact ⟨q',by rw [Do];simp [GY,h1],h2.fr (Fr.dg (Fr.set h0 hk))⟩
theorem Good.put (hS:bL s ps) {v:SV} {p:PV} {t:Nat} {b0 b:SB} {q:gY} {l:List SB} {ql:bG} {rd:List Nat} (h0:s[t]? =acg b0) (hk:Jf b0 b) (hq:RB (yf [t] (s.set t b)) (O2 [t] b) q)
 (hl:(acf ql)=acf l) (hb: ∀(j:Nat) (x:SB),l[j]? =acg x-> ∃y,ql[j]? =acg y/\RB (yf [t] (s.set t b)++l) x y) (hv:R (yf [t] (s.set t b)++l) v p):
 Good s ps {v,wr:=[(t,b)],news:=l,rd} {v:=p,wr:=[(t,q)],news:=ql,rd} where
 rd:=rfl
 fr:=rfl
 wr:=rfl
 nw:=rfl
 nl:=hl
 aj:=by simp only [ej.j0,jt,ez,nI,tl,np,xw];exact (hS.put h0 hk hq).app hl hb
 v:=by simp only [ej.j0,jt,tl,np,xw];exact hv
 YE:=by simp only [ej.j0,jt,tl,np,xw];exact (Fr.dg (Fr.set h0 hk)).trans (Fr.app _ _ _)
theorem Good.MD (hS:bL s ps) {t:Nat} {b0 b:SB} {q:gY} {rd:List Nat} (h0:s[t]? =acg b0) (hk:Jf b0 b) (hq:RB (yf [t] (s.set t b)) (O2 [t] b) q):
 Good s ps {v:= .undef,wr:=[(t,b)],rd} {v:= .undef,wr:=[(t,q)],rd}:=
 Good.put hS h0 hk hq rfl (fun j x h=>by simp at h) rfl
end
section
variable {R' ρ : Type} {w : R' -> ρ} {y : ρ}
theorem bc {α:Type} {x:Option α} {k:α->eN R'} (h:iN x k ρ w=acg y): ∃a,x=acg a/\k a ρ w=acg y:=by
 cases x with
 |none=>cases h
 |some a=>exact ⟨a,rfl,h⟩
theorem bN {α:Type} {x:Option α} {k:α->eN R'} (h:iE x k ρ w=acg y): ∃a,x=acg a/\k a ρ w=acg y:=Hs h
theorem dz {c:Bool} {a b:eN R'} (h:eu c a b ρ w=acg y):(c=acl/\a ρ w=acg y)\/(c=acm/\b ρ w=acg y):=Ht h
theorem bO {c:Bool} {a:eN R'} (h:(bif c then a else aE) ρ w=acg y):c=acl/\a ρ w=acg y:=by
 cases c
 · cases h
 exact ⟨rfl,h⟩
theorem nY {c:Bool} {a:eN R'} (h:(bif c then aE else a) ρ w=acg y):c=acm/\a ρ w=acg y:=by
 cases c
 · exact ⟨rfl,h⟩
 cases h
theorem fA {c:Bool} {a:eN R'} (h:eu c a aE ρ w=acg y):c=acl/\a ρ w=acg y:=by
 rcases dz h with ⟨h1,h2⟩|⟨_,h2⟩
 · exact ⟨h1,h2⟩
 cases h2
theorem rf {c:Bool} {a:eN R'} (h:eu c aE a ρ w=acg y):c=acm/\a ρ w=acg y:=by
 rcases dz h with ⟨_,h2⟩|⟨h1,h2⟩
 · cases h2
 exact ⟨h1,h2⟩
end
def eT {R':Type} (s:List SB) (ps:bG) (po:Option kr) (k:ej->eN R') (ρ:Type) (w:R'->ρ) (y:ρ):Prop:=
 ∃sr pr,po=acg pr/\Good s ps sr pr/\k sr ρ w=acg y
section
variable {R' ρ : Type} {w : R' -> ρ} {y : ρ} {s : List SB} {ps : bG} {e : SE} {pe : Env} {z : List Nat} {k : ej -> eN R'}
theorem eT.val (hS:bL s ps) {po:Option kr} {v:SV} {p:PV} (h:k {v} ρ w=acg y) (hp:po=acg {v:=p}) (hv:R s v p):eT s ps po k ρ w y:=
 ⟨_,_,hp,Good.val hS hv,h⟩
theorem eT.rd (hS:bL s ps) {po:Option kr} {v:SV} {p:PV} {rd:List Nat} (h:k {v,rd} ρ w=acg y) (hp:po=acg {v:=p,rd}) (hv:R s v p):eT s ps po k ρ w y:=
 ⟨_,_,hp,Good.val hS hv,h⟩
theorem jK (hE:cK s e pe) {x:dI} {a:IntKind} {n:Int} (h:bm e x= .int a n):x.ev pe= .int a n:=by have:=cE hE x;rw [h] at this;exact this
theorem xx (hE:cK s e pe) {x:dI} {b:Bool} (h:bm e x= .bool b):x.ev pe= .bool b:=by have:=cE hE x;rw [h] at this;exact this
theorem Kx (hE:cK s e pe) {x:dI} {v:SV} (h:bm e x=v):R s v (x.ev pe):=by have:=cE hE x;rwa [h] at this
theorem F3 (k:IntKind):dF k k=acl:=by cases k<;>rfl
theorem HH (hS:bL s ps) {op:BinOp} {a:IntKind} {m n:Int} (h:Hv op a m n (TI k) ρ w=acg y): ∃p,arith op a m n=acg p/\eT s ps (acg {v:=p}) k ρ w y:=by
 cases op with
 |quo=>
  obtain ⟨h1,h2⟩:=rf h;have hn:n≠0:=by intro e;subst e;cases h1
  exact ⟨_,by simp only [arith,pi hn],eT.val hS h2 rfl rfl⟩
 |rem=>
  obtain ⟨h1,h2⟩:=rf h;have hn:n≠0:=by intro e;subst e;cases h1
  exact ⟨_,by simp only [arith,pi hn],eT.val hS h2 rfl rfl⟩
 |shl=>cases h
 |shr=>cases h
 |_=>exact ⟨_,rfl,eT.val hS h rfl rfl⟩
theorem O7 (hE:cK s e pe) (hS:bL s ps) {op:BinOp} {a b:dI} (h:js e s z (.bin op a b) k ρ w=acg y):eT s ps (aU pe ps z (.bin op a b)) k ρ w y:=by
 simp only [js] at h;generalize ha:bm e a=va at h;cases va with
 |int ka m=>
  generalize hb:bm e b=vb at h;cases vb with
  |int kb n=>
   have h1:=jK hE ha;have h2:=jK hE hb;have key:(op≠ .shl)->(op≠ .shr)->(bif dF ka kb then Hv op ka m n (TI k) else aE) ρ w=acg y->eT s ps (aU pe ps z (.bin op a b)) k ρ w y:=by
    intro n1 n2 h;obtain ⟨hk,h⟩:=bO h;obtain ⟨p,hp,hs⟩:=HH hS h;have:aU pe ps z (.bin op a b)=acg {v:=p}:=by simp only [aU,h1,h2];cases op<;>first|exact absurd rfl n1|exact absurd rfl n2|(simp only [JP,hk,if_true,hp];rfl)
    rw [this];exact hs
   cases op with
   |shl=>
    obtain ⟨hc,h⟩:=rf h;have yt: ¬n<0:=by simpa using hc
    exact eT.val hS h (by simp only [aU,h1,h2,JP,yh,pi yt];rfl) rfl
   |shr=>
    obtain ⟨hc,h⟩:=rf h;have yt: ¬n<0:=by simpa using hc
    exact eT.val hS h (by simp only [aU,h1,h2,JP,yh,pi yt];rfl) rfl
   |_=>exact key (by intro e;cases e) (by intro e;cases e) h
  |_=>cases h
 |_=>cases h
theorem ME (hE:cK s e pe) (hS:bL s ps) {neg:Bool} {a b:dI} (h:js e s z (.E0 neg a b) k ρ w=acg y):eT s ps (aU pe ps z (.E0 neg a b)) k ρ w y:=by
 simp only [js] at h;generalize ha:bm e a=va at h;cases va with
 |bool x=>
  generalize hb:bm e b=vb at h;cases vb with
  |bool x'=>refine eT.val hS h ?_ rfl;simp only [aU,xx hE ha,xx hE hb];cases neg<;>rfl
  |_=>cases h
 |_=>cases h
theorem MF: ∀{xs ys:List SV} {ps qs:List PV} {r:Bool},RL s xs ps->RL s ys qs->eqS xs ys=acg r->bV ps qs=acg r
 | [],[],ps,qs,r,h1,h2,h=>by rw [show ps=[] from h1,show qs=[] from h2];exact h
 |x::xs,b::ys,ps,qs,r,h1,h2,h=>by
  obtain ⟨p,ps,rfl,a1,a2⟩:=h1.cons_inv;obtain ⟨q,qs,rfl,b1,b2⟩:=h2.cons_inv;simp only [eqS] at h;split at h
  · rename_i ka m kb n
    have a1':p= .int ka m:=a1;have b1':q= .int kb n:=b1;subst a1' b1';cases hk:dF ka kb with
    |false=>rw [hk] at h;cases h
    |true=>
     rw [hk] at h;have hc:nf (.int ka m) (.int kb n)=acg (m==n):=by simp only [nf,hk,if_true]
     simp only [bV,hc];cases xs with
     |nil=>
      cases ys with
      |nil=>simp only [ls,wn] at h;subst h;rw [show ps=[] from a2,show qs=[] from b2];cases m==n<;>rfl
      |cons _ _=>cases h
     |cons x2 xs2=>
      simp only [ls] at h;split at h
      · rename_i r' hr
        injection h with h;subst h;rw [MF a2 b2 hr];cases m==n<;>rfl
      cases h
  cases h
 | [],_::_,ps,qs,r,h1,h2,h=>by cases h
 |_::_,[],ps,qs,r,h1,h2,h=>by cases h
theorem O8 (hE:cK s e pe) (hS:bL s ps) {n:Nat} {neg:Bool} {a b:dI} (h:js e s z (.R3 n neg a b) k ρ w=acg y):eT s ps (aU pe ps z (.R3 n neg a b)) k ρ w y:=by
 simp only [js] at h;generalize ha:bm e a=va at h;cases va with
 |agg xs=>
  generalize hb:bm e b=vb at h;cases vb with
  |agg ys=>obtain ⟨hl,h⟩:=bO h;obtain ⟨r,hr,h⟩:=bc h;obtain ⟨p,hp,h1⟩:=Kx hE ha;obtain ⟨q,hq,h2⟩:=Kx hE hb;refine eT.val hS h ?_ rfl;simp only [aU,hp,hq,h1.jr,h2.jr];rw [ol hl,MF h1 h2 hr];cases neg<;>rfl
  |_=>cases h
 |_=>cases h
theorem TS (hE:cK s e pe) (hS:bL s ps) {op:UnOp} {a:dI} (h:js e s z (.un op a) k ρ w=acg y):eT s ps (aU pe ps z (.un op a)) k ρ w y:=by
 simp only [js] at h;cases op with
 |neg=>
  dsimp only at h;generalize ha:bm e a=va at h;cases va with
  |int ka n=>exact eT.val hS h (by simp only [aU,jK hE ha];rfl) rfl
  |_=>cases h
 |not=>
  dsimp only at h;generalize ha:bm e a=va at h;cases va with
  |bool b=>exact eT.val hS h (by simp only [aU,xx hE ha];rfl) rfl
  |_=>cases h
 |_=>cases h
theorem MG (hE:cK s e pe) (hS:bL s ps) {a:IntKind} {x:dI} (h:js e s z (.conv a x) k ρ w=acg y):eT s ps (aU pe ps z (.conv a x)) k ρ w y:=by
 simp only [js] at h;generalize ha:bm e x=va at h;cases va with
 |int ka n=>exact eT.val hS h (by simp only [aU,jK hE ha]) rfl
 |_=>cases h
theorem O9 (hE:cK s e pe) (hS:bL s ps) {x:dI} (h:js e s z (.len x) k ρ w=acg y):eT s ps (aU pe ps z (.len x)) k ρ w y:=by
 simp only [js] at h;have hx:=cE hE x;generalize bm e x=v at h hx;cases v with
 |nil e' c=>exact eT.val hS h (by simp only [aU,show x.ev pe= .sl e' c [] from hx];rfl) rfl
 |pre t len cap ex=>obtain ⟨e',hx,_⟩:=hx;exact eT.val hS h (by simp only [aU,hx]) rfl
 |part t off len cap ex=>obtain ⟨e',hx,_⟩:=hx;exact eT.val hS h (by simp only [aU,hx]) rfl
 |sl q m=>exact eT.val hS h (by simp only [aU,show x.ev pe=_ from hx,aaj]) rfl
 |own t ex=>
  obtain ⟨c,hc,h⟩:=bc h;simp only [vn,bz] at hc;split at hc
  · rename_i q m bw
    injection hc with hc;subst hc;obtain ⟨e',n,hx,cm⟩:=hx;rcases cm with ⟨q',m',h1,rfl,rfl⟩|h1
    · rw [bw] at h1;injection h1 with h1;cases h1
      exact eT.val hS h (by simp only [aU,hx]) rfl
    rw [bw] at h1;cases h1
  cases hc
 |_=>obtain ⟨c,hc,h⟩:=bc h;cases hc
theorem xy: ∀{l:List (Nat×Nat×SV)} {pl:List (Nat×Nat×PV)} {cs:List SV} {pc:List PV} {r:List SV},
 (acf pl=acf l/\ ∀(j:Nat) (a:Nat×Nat×SV),l[j]? =acg a-> ∃b,pl[j]? =acg (a.1,a.2.1,b)/\R s a.2.2 b)->RL s cs pc->q7 l cs=acg r-> ∃q,jR pl pc=acg q/\RL s r q
 | [],pl,cs,pc,r,hl,hc,h=>by have:pl=[]:=abb.1 hl.1;subst this;injection h with h;subst h;exact ⟨pc,rfl,hc⟩
 |(off,sz,v)::l,pl,cs,pc,r,hl,hc,h=>by
  cases pl with
  |nil=>simp at hl
  |cons p pl=>
   obtain ⟨b,h1,h2⟩:=hl.2 0 _ rfl;simp at h1;subst h1;simp only [q7] at h;split at h
   · rename_i w hw
     obtain ⟨q,hq,SI⟩:=h2.stored hw;cases O':(ut (acf w) sz&&ww (off+sz) (acf cs)) with
     |false=>rw [O'] at h;cases h
     |true=>rw [O'] at h;simp only [ls] at h;obtain ⟨q2,h3,h4⟩:=xy (pl:=pl) ⟨by simpa using hl.1,fun j a ha=>hl.2 (j+1) a (by simpa using ha)⟩ (uC SI hc) h;refine ⟨q2,?_,h4⟩;simp only [jR,hq,SI.jr,hc.jr];rw [ol O'];exact h3
   cases h
theorem F4 (hE:cK s e pe): ∀(l:List (Nat×Nat×dI)),((l.map fun p=>(p.1,p.2.1,p.2.2.ev pe)).length=(tg e l).length/\ ∀(j:Nat) (a:Nat×Nat×SV),(tg e l)[j]? =acg a-> ∃b,(l.map fun p=>(p.1,p.2.1,p.2.2.ev pe))[j]? =acg (a.1,a.2.1,b)/\R s a.2.2 b)
 | []=>⟨rfl,fun j a h=>by simp [tg] at h⟩
 |p::l=>by
  obtain ⟨h1,h2⟩:=F4 hE l;refine ⟨by simp [tg] at h1 ⊢;omega,fun j a h=>?_⟩;cases j with
  |zero=>simp [tg] at h;subst h;exact ⟨_,rfl,cE hE _⟩
  |succ j=>simp only [tg,ab3] at h;obtain ⟨b,h3,h4⟩:=h2 j a h;exact ⟨b,by simpa using h3,h4⟩
theorem Ky (hE:cK s e pe) (hS:bL s ps) {zero:List PV} {parts:List (Nat×Nat×dI)} (h:js e s z (.build zero parts) k ρ w=acg y):eT s ps (aU pe ps z (.build zero parts)) k ρ w y:=by simp only [js] at h;obtain ⟨cs,hc,h⟩:=bc h;obtain ⟨q,hq,hr⟩:=xy (F4 hE parts) (q9 s zero) hc;exact eT.val hS h (by simp only [aU,hq];rfl) ⟨q,rfl,hr⟩
theorem Pa (hE:cK s e pe) (hS:bL s ps) {x:dI} (h:js e s z (.box x) k ρ w=acg y):eT s ps (aU pe ps z (.box x)) k ρ w y:=by simp only [js] at h;obtain ⟨cs,hc,h⟩:=bc h;obtain ⟨q,hq,hr⟩:=(cE hE x).stored hc;refine ⟨_,_,?_,Good.new hS (b:= .box cs) (q:= .box q) (v:= .bp (acf s) (acf cs) 0) (p:= .ptr (acf s) (acf cs) 0 0) (rd:=[]) ⟨q,rfl,hr.ext (Fr.app _ _ _)⟩ rfl,h⟩;simp only [aU,hq,hS.len,hr.jr]
theorem Kz (hS:bL s ps) {cells:List PV} (h:js e s z (.alloc cells) k ρ w=acg y):eT s ps (aU pe ps z (.alloc cells)) k ρ w y:=by simp only [js] at h;refine ⟨_,_,?_,Good.new hS (b:= .box (xm cells)) (q:= .box cells) (v:= .bp (acf s) (acf cells) 0) (p:= .ptr (acf s) (acf cells) 0 0) (rd:=[]) ⟨cells,rfl,q9 _ _⟩ rfl,h⟩;simp only [aU,hS.len]
theorem MH (hE:cK s e pe) (hS:bL s ps) {x:dI} (h:js e s z (.E1 x) k ρ w=acg y):eT s ps (aU pe ps z (.E1 x)) k ρ w y:=by
 simp only [js] at h;have hx:=cE hE x;generalize bm e x=v at h hx;cases v with
 |pa t r i a o=>exact eT.val hS h (by simp only [aU,hx.1]) ⟨rfl,hx.2⟩
 |pb t i o=>obtain ⟨e',h1,h2⟩:=hx;exact eT.val hS h (by simp only [aU,h1]) ⟨e',rfl,h2⟩
 |bp t n o=>exact eT.val hS h (by simp only [aU,show x.ev pe=_ from hx]) rfl
 |aW c o=>obtain ⟨q,h1,h2⟩:=hx;exact eT.val hS h (by simp only [aU,h1]) ⟨q,rfl,h2⟩
 |di f a b=>obtain ⟨pa,pb,h1,h2⟩:=hx;exact eT.val hS h (by simp only [aU,h1]) ⟨pa,pb,rfl,h2⟩
 |_=>cases h
theorem MI (hE:cK s e pe) (hS:bL s ps) {off:Nat} {x:dI} (h:js e s z (.E2 off x) k ρ w=acg y):eT s ps (aU pe ps z (.E2 off x)) k ρ w y:=by
 simp only [js] at h;have hx:=cE hE x;generalize bm e x=v at h hx;cases v with
 |pa t r i a o=>exact eT.val hS h (by simp only [aU,hx.1]) ⟨rfl,hx.2⟩
 |pb t i o=>obtain ⟨e',h1,h2⟩:=hx;exact eT.val hS h (by simp only [aU,h1]) ⟨e',rfl,h2⟩
 |bp t n o=>exact eT.val hS h (by simp only [aU,show x.ev pe=_ from hx]) rfl
 |aW c o=>obtain ⟨q,h1,h2⟩:=hx;exact eT.val hS h (by simp only [aU,h1]) ⟨q,rfl,h2⟩
 |_=>cases h
theorem Pb (hE:cK s e pe) (hS:bL s ps) {agg:Option Nat} {off:Nat} {x:dI} (h:js e s z (.qL agg off x) k ρ w=acg y):eT s ps (aU pe ps z (.qL agg off x)) k ρ w y:=by
 simp only [js] at h;generalize hv:bm e x=v at h;cases v with
 |agg cs=>obtain ⟨v,h1,h⟩:=bc h;obtain ⟨q,h2,h3⟩:=Kx hE hv;obtain ⟨p,h4,h5⟩:=pg h3 h1;exact eT.val hS h (by simp only [aU,h2,h4];rfl) h5
 |_=>cases h
theorem Pc (hE:cK s e pe) (hS:bL s ps) {i:Nat} {x:dI} (h:js e s z (.ext i x) k ρ w=acg y):eT s ps (aU pe ps z (.ext i x)) k ρ w y:=by
 simp only [js] at h;generalize hv:bm e x=v at h;cases v with
 |bH cs=>obtain ⟨v,h1,h⟩:=bc h;obtain ⟨q,h2,h3⟩:=Kx hE hv;obtain ⟨p,h4,h5⟩:=h3.nth h1;exact eT.val hS h (by simp only [aU,h2,h4];rfl) h5
 |_=>cases h
theorem Pd (hE:cK s e pe) (hS:bL s ps) {f:FuncId} {a b:List dI} (h:js e s z (.R5 f a b) k ρ w=acg y):eT s ps (aU pe ps z (.R5 f a b)) k ρ w y:=by simp only [js] at h;exact eT.val hS h rfl ⟨_,_,rfl,uA hE a,uA hE b⟩
theorem Pe (hS:bL s ps) {m:Option PV} (h:js e s z (.R6 m) k ρ w=acg y):eT s ps (aU pe ps z (.R6 m)) k ρ w y:=by
 simp only [js] at h;cases m with
 |none=>refine ⟨_,_,?_,Good.new hS (b:= .set []) (q:= .map []) (v:= .mp (acf s)) (p:= .mp (acf s)) (rd:=[]) rfl rfl,h⟩;simp only [aU,hS.len]
 |some m=>obtain ⟨p,_,h⟩:=bc h;refine ⟨_,_,?_,Good.new hS (b:= .bB p []) (q:= .map []) (v:= .mp (acf s)) (p:= .mp (acf s)) (rd:=[]) rfl rfl,h⟩;simp only [aU,hS.len]
theorem SJ: ∀{l:List SV} {q:List PV} {m:Bool} {a:IntKind} {n:Int} {v:SV},RL s l q->mmS m a n l=acg v-> ∃p,S' m a n q=acg p/\R s v p
 | [],q,m,a,n,v,hl,h=>by rw [show q=[] from hl];injection h with h;subst h;exact ⟨_,rfl,rfl⟩
 |x::l,q,m,a,n,v,hl,h=>by
  obtain ⟨p,q,rfl,h1,h2⟩:=hl.cons_inv;simp only [mmS] at h;split at h
  · rename_i b c
    have GX:p= .int b c:=h1;subst GX;cases hk:dF a b with
    |true=>rw [hk] at h;obtain ⟨p,h3,h4⟩:=SJ h2 h;refine ⟨p,?_,h4⟩;simp only [S',hk,if_true];rw [<- h3];cases m<;>rfl
    |false=>rw [hk] at h;cases h
  cases h
theorem TU (hE:cK s e pe) (hS:bL s ps) {m:Bool} {x:dI} {xs:List dI} (h:js e s z (.mm m x xs) k ρ w=acg y):eT s ps (aU pe ps z (.mm m x xs)) k ρ w y:=by
 simp only [js] at h;generalize hv:bm e x=v at h;cases v with
 |int a n=>obtain ⟨v,h1,h⟩:=bc h;obtain ⟨p,h2,h3⟩:=SJ (uA hE xs) h1;exact eT.val hS h (by simp only [aU,jK hE hv,h2];rfl) h3
 |_=>cases h
theorem MJ (hE:cK s e pe) (hS:bL s ps) {c a b:dI} (h:js e s z (.pick c a b) k ρ w=acg y):eT s ps (aU pe ps z (.pick c a b)) k ρ w y:=by
 simp only [js] at h;generalize hv:bm e c=v at h;cases v with
 |bool x=>
  rcases dz h with ⟨rfl,h⟩|⟨rfl,h⟩
  · exact eT.val hS h (by simp only [aU,xx hE hv]) (cE hE a)
  exact eT.val hS h (by simp only [aU,xx hE hv]) (cE hE b)
 |_=>cases h
end
end Go.Vm
/- Operation by operation, second part: elements, blocks, slices, sets. -/
namespace Go.Vm
section
variable {R' ρ : Type} {w : R' -> ρ} {y : ρ} {s : List SB} {ps : bG} {e : SE} {pe : Env} {z : List Nat} {k : ej -> eN R'}
theorem bL.arr (hS:bL s ps) {t:Nat} {r:List PT} {l:List (RT r)} (h:s[t]? =acg (.arr r l)):ps[t]? =acg (.arr (acf r) (l.map (RT.pv r))):=by obtain ⟨q,h1,h2⟩:=hS.at_ t _ h;rw [show q=_ from h2] at h1;exact h1
theorem bL.box (hS:bL s ps) {t:Nat} {cs:List SV} (h:s[t]? =acg (.box cs)): ∃q,ps[t]? =acg (.box q)/\RL s cs q:=by obtain ⟨q,h1,q',rfl,h2⟩:=hS.at_ t _ h;exact ⟨q',h1,h2⟩
theorem bL.Z3 (hS:bL s ps) {t:Nat} {l:List (List Int)} (h:s[t]? =acg (.set l)):ps[t]? =acg (.map (l.map xu)):=by obtain ⟨q,h1,h2⟩:=hS.at_ t _ h;rw [show q=_ from h2] at h1;exact h1
theorem bL.Pf (hS:bL s ps) {t:Nat} {p:PT} {l:List (RT [.i .i64,p])} (h:s[t]? =acg (.bB p l)):ps[t]? =acg (.map (l.map (zY p))):=by obtain ⟨q,h1,h2⟩:=hS.at_ t _ h;rw [show q=_ from h2] at h1;exact h1
theorem OwnAt.inv {t e n:Nat} {r:List PT} {l:List (RT r)} (h:OwnAt s t e n) (hs:s[t]? =acg (.arr r l)):e=acf r/\n=(acf l):=by
 rcases h with ⟨q,m,h1,rfl,rfl⟩|h1
 · rw [hs] at h1;injection h1 with h1;cases h1;exact ⟨rfl,rfl⟩
 rw [hs] at h1;cases h1
theorem vp.inv {t e:Nat} {r:List PT} {l:List (RT r)} (h:vp s t e) (hs:s[t]? =acg (.arr r l)):e=(acf r):=by
 rcases h with ⟨q,m,h1,rfl⟩|h1|⟨cs,h1,_⟩
 · rw [hs] at h1;injection h1 with h1;cases h1;rfl
 · rw [hs] at h1;cases h1
 rw [hs] at h1;cases h1
theorem MC.inv {t:Nat} {q r:List PT} {i:Int} {a:RT q} {l:List (RT r)} (h:MC s t q i a) (hs:s[t]? =acg (.arr r l)): ∃e:q=r,aA l i=acg (e▸a):=by
 rcases h with ⟨m,h1,h2⟩|h1
 · rw [hs] at h1;injection h1 with h1;cases h1;exact ⟨rfl,h2⟩
 rw [hs] at h1;cases h1
theorem TR.inv {t:Nat} {r:List PT} {i:Int} {l:List (RT r)} (h:TR s t i) (hs:s[t]? =acg (.arr r l)):(aA l i).isSome=acl:=by
 rcases h with ⟨q,m,h1,h2⟩|h1
 · rw [hs] at h1;injection h1 with h1;cases h1;exact h2
 rw [hs] at h1;cases h1
theorem C' {α:Type} {l:List α} {n:Nat} {i:Int} {a:α} (h:aA (l.take n) i=acg a): ∃m:Nat,i=ab1 m/\m<n/\l[m]? =acg a:=by
 obtain ⟨m,rfl,hm⟩:=jZ h;have dA:=(v4.1 hm).1;rw [ab7] at dA;have hmn:m<n:=by omega
 rw [abG hmn] at hm;exact ⟨m,rfl,hmn,hm⟩
theorem MK (hE:cK s e pe) (hS:bL s ps) {esz:Nat} {x i:dI} (h:js e s z (.E3 esz x i) k ρ w=acg y):eT s ps (aU pe ps z (.E3 esz x i)) k ρ w y:=by
 simp only [js] at h;generalize hi:bm e i=vi at h;cases vi with
 |int ki n=>
  have hi:=jK hE hi;have hx:=cE hE x;dsimp only at h;unfold Sz at h;generalize bm e x=v at h hx;cases v with
  |sl r l=>
   obtain ⟨he,h⟩:=bO h;obtain ⟨a,ha,hk⟩:=bN h;obtain ⟨m,rfl,hm⟩:=jZ ha;refine eT.val hS (p:= .aW (RT.pv r a) 0) hk ?_ ⟨_,rfl,C9 r a⟩;have hr:(l.map (RT.pv r))[m]? =acg (RT.pv r a):=by simp [hm]
   simp only [aU,hi,gD,show x.ev pe=_ from hx,hr,he,if_true]
  |own t ex=>
   simp only [bz] at h;generalize bw:s[t]? =b at h;cases b with
   |none=>cases h
   |some b=>
    cases b with
    |arr r l=>
     obtain ⟨he,h⟩:=bO h;obtain ⟨a,ha,hk⟩:=bN h;obtain ⟨m,rfl,hm⟩:=jZ ha;obtain ⟨e',n',hx,cm⟩:=hx;obtain ⟨rfl,rfl⟩:=cm.inv bw;have dA:=(v4.1 hm).1;have h1:ab9 m (acf l)=acl:=by simpa using dA
     refine eT.val hS (p:= .ptr t (acf r) m 0) hk ?_ ⟨rfl,.inl ⟨l,bw,ha⟩⟩;simp only [aU,hi,gD,hx,h1,he,PP,if_true,abm]
    |_=>cases h
  |pre t len cap ex=>
   simp only [bz] at h;generalize bw:s[t]? =b at h;cases b with
   |none=>cases h
   |some b=>
    cases b with
    |arr r l=>
     obtain ⟨he,h⟩:=bO h;obtain ⟨a,ha,hk⟩:=bN h;obtain ⟨m,rfl,dA,hm⟩:=C' ha;obtain ⟨e',hx,cm⟩:=hx;have:=cm.inv bw;subst this;have h1:ab9 m len=acl:=by simpa using dA
     refine eT.val hS (p:= .ptr t (acf r) m 0) hk ?_ ⟨rfl,.inl ⟨l,bw,hm⟩⟩;simp only [aU,hi,gD,hx,h1,he,PP,if_true,abm]
    |_=>cases h
  |part t off len cap ex=>
   simp only [bz] at h;generalize bw:s[t]? =b at h;cases b with
   |none=>cases h
   |some b=>
    cases b with
    |arr r l=>
     obtain ⟨he,h⟩:=bO h;obtain ⟨a,ha,hk⟩:=bN h;obtain ⟨m,rfl,dA,hm⟩:=C' ha;rw [List.getElem?_drop] at hm;obtain ⟨e',hx,cm⟩:=hx;have:=cm.inv bw;subst this;have h1:ab9 m len=acl:=by simpa using dA
     refine eT.val hS (p:= .ptr t (acf r) (off+m) 0) hk ?_ ⟨rfl,.inl ⟨l,bw,hm⟩⟩;simp only [aU,hi,gD,hx,h1,he,PP,if_true]
    |_=>cases h
  |_=>cases h
 |_=>cases h
theorem ot {n:Nat} {i:Int} {j:Nat} {f:Nat->eN R'}:Ba n i j f ρ w=acg y-> ∃m,i=ab1 m/\j<=m/\m<j+n/\f m ρ w=acg y:=by
 induction n generalizing j with
 |zero=>intro h;cases h
 |succ n ih=>
  intro h;rcases dz h with ⟨h1,h2⟩|⟨_,h2⟩
  · exact ⟨j,by simpa using h1,Nat.le_refl _,by omega,h2⟩
  obtain ⟨m,h3,h4,h5,h6⟩:=ih h2
  exact ⟨m,h3,by omega,by omega,h6⟩
theorem KA (hE:cK s e pe) (hS:bL s ps) {n esz:Nat} {p i:dI} (h:js e s z (.zm n esz p i) k ρ w=acg y):eT s ps (aU pe ps z (.zm n esz p i)) k ρ w y:=by
 simp only [js] at h;generalize hi:bm e i=vi at h;cases vi with
 |int ki j=>
  have hi:=jK hE hi;have hx:=cE hE p;generalize bm e p=v at h hx;cases v with
  |bp t m o=>
   obtain ⟨j',rfl,_,h2,h⟩:=ot h;have h1:ab9 j' n=acl:=by simp;omega
   exact eT.val hS h (by simp only [aU,hi,gD,h1,if_true,show p.ev pe=_ from hx]) rfl
  |aW c o=>
   obtain ⟨j',rfl,_,h2,h⟩:=ot h;have h1:ab9 j' n=acl:=by simp;omega
   obtain ⟨q,hq,hr⟩:=hx;exact eT.val hS h (by simp only [aU,hi,gD,h1,if_true,hq]) ⟨q,rfl,hr⟩
  |pb t m o=>
   obtain ⟨j',rfl,_,h2,h⟩:=ot h;have h1:ab9 j' n=acl:=by simp;omega
   obtain ⟨e',he,hr⟩:=hx;exact eT.val hS h (by simp only [aU,hi,gD,h1,if_true,he]) ⟨e',rfl,hr⟩
  |pa t r i a o=>
   obtain ⟨j',rfl,_,h2,h⟩:=ot h;have h1:ab9 j' n=acl:=by simp;omega
   exact eT.val hS h (by simp only [aU,hi,gD,h1,if_true,hx.1]) ⟨rfl,hx.2⟩
  |_=>cases h
 |_=>cases h
theorem Pg (hE:cK s e pe) (hS:bL s ps) {n esz:Nat} {agg:Option Nat} {x i:dI} (h:js e s z (.idx n esz agg x i) k ρ w=acg y):eT s ps (aU pe ps z (.idx n esz agg x i)) k ρ w y:=by
 simp only [js] at h;generalize hi:bm e i=vi at h;cases vi with
 |int ki j=>
  have hi:=jK hE hi;generalize hx:bm e x=v at h;cases v with
  |agg cs=>
   obtain ⟨j',rfl,_,h2,h⟩:=ot h;have h1:ab9 j' n=acl:=by simp;omega
   obtain ⟨v,hv,h⟩:=bc h;obtain ⟨q,hq,hr⟩:=Kx hE hx;obtain ⟨p,hp,hpr⟩:=pg hr hv;exact eT.val hS h (by simp only [aU,hi,gD,h1,if_true,hq,hp];rfl) hpr
  |_=>cases h
 |_=>cases h
theorem ML (hE:cK s e pe) (hS:bL s ps) {x i:dI} (h:js e s z (.E4 x i) k ρ w=acg y):eT s ps (aU pe ps z (.E4 x i)) k ρ w y:=by
 simp only [js] at h;generalize hi:bm e i=vi at h;cases vi with
 |int ki j=>
  have hi:=jK hE hi;generalize hx:bm e x=v at h;cases v with
  |str t=>
   obtain ⟨b,hb,h⟩:=bN h;have hx:=Kx hE hx;cases j with
   |negSucc _=>cases hb
   |ofNat m=>simp only [Sy,ab4] at hb;obtain ⟨c,hc,rfl⟩:=hb;exact eT.val hS h (by simp only [aU,hi,gD,show x.ev pe=_ from hx,hc]) rfl
  |_=>cases h
 |_=>cases h
theorem MM (hE:cK s e pe) (hS:bL s ps) {agg:Option Nat} {p:dI} (h:js e s z (.load agg p) k ρ w=acg y):eT s ps (aU pe ps z (.load agg p)) k ρ w y:=by
 simp only [js] at h;have hx:=cE hE p;unfold SA at h;generalize bm e p=v at h hx;cases v with
 |bp t n off=>
  simp only [bz] at h;generalize bw:s[t]? =b at h;cases b with
  |none=>cases h
  |some b=>
   cases b with
   |box cs=>obtain ⟨v,hv,h⟩:=bc h;obtain ⟨q,h1,h2⟩:=hS.box bw;obtain ⟨u,h3,h4⟩:=pg h2 hv;refine eT.rd hS h ?_ h4;show lz ps agg (p.ev pe)=_;rw [show p.ev pe=_ from hx];simp only [lz,h1,aau,if_true,h3];rfl
   |_=>cases h
 |pa t r i a off=>
  simp only [bz] at h;generalize bw:s[t]? =b at h;cases b with
  |none=>cases h
  |some b=>
   cases b with
   |arr q l=>
    obtain ⟨v,hv,hk⟩:=bc h;obtain ⟨hx,cm⟩:=hx;obtain ⟨rfl,hg⟩:=cm.inv bw;obtain ⟨u,h3,h4⟩:=pg (C9 r a) hv;obtain ⟨m,rfl,hm⟩:=jZ hg;refine eT.rd hS hk ?_ h4;show lz ps agg (p.ev pe)=_;rw [hx];have ye:(l.map (RT.pv r))[m]? =acg (RT.pv r a):=by simp [hm]
    have e1:(ab1 m).toNat=m:=rfl;simp only [lz,hS.arr bw,e1,ye,h3];rfl
   |_=>cases h
 |pb t i off=>
  simp only [bz] at h;generalize bw:s[t]? =b at h;cases b with
  |none=>cases h
  |some b=>
   cases b with
   |arr r l=>
    obtain ⟨a,ha,h⟩:=bN h;obtain ⟨v,hv,hk⟩:=bc h;obtain ⟨e',hx,cm⟩:=hx;obtain ⟨u,h3,h4⟩:=pg (C9 r a) hv;obtain ⟨m,rfl,hm⟩:=jZ ha;refine eT.rd hS hk ?_ h4;show lz ps agg (p.ev pe)=_;rw [hx];have ye:(l.map (RT.pv r))[m]? =acg (RT.pv r a):=by simp [hm]
    have e1:(ab1 m).toNat=m:=rfl;simp only [lz,hS.arr bw,e1,ye,h3];rfl
   |_=>cases h
 |aW cs off=>obtain ⟨v,hv,h⟩:=bc h;obtain ⟨q,hq,hr⟩:=hx;obtain ⟨u,h3,h4⟩:=pg hr hv;refine eT.val hS h ?_ h4;show lz ps agg (p.ev pe)=_;rw [hq];simp only [lz,h3];rfl
 |_=>cases h
theorem Ee (hS:bL s ps) {t:Nat} {r:List PT} {l:List (RT r)} (bw:s[t]? =acg (.arr r l)) {i:Int} {b:RT r} {rd:List Nat}:
 Good s ps {v:= .undef,wr:=[(t,.arr r (bA l i b))],rd} {v:= .undef,wr:=[(t,.arr (acf r) ((l.map (RT.pv r)).set i.toNat (RT.pv r b)))],rd}:=
 Good.MD hS bw (.inl ⟨_,rfl,by simp⟩) (by show _=_;simp [bA,abV])
theorem KB (hE:cK s e pe) (hS:bL s ps) {sz:Nat} {p x:dI} (h:js e s z (.store sz p x) k ρ w=acg y):eT s ps (aU pe ps z (.store sz p x)) k ρ w y:=by
 simp only [js] at h;have hx:=cE hE p;have hv:=cE hE x;unfold Mn at h;generalize bm e p=v at h hx;generalize bm e x=u at h hv;cases v with
 |bp t n off=>
  simp only [bz] at h;generalize bw:s[t]? =b at h;cases b with
  |none=>cases h
  |some b=>
   cases b with
   |box cs=>
    obtain ⟨w',hw,h⟩:=bc h;obtain ⟨hc,h⟩:=bO h;obtain ⟨q,h1,h2⟩:=hv.stored hw;obtain ⟨b,h3,h4⟩:=hS.box bw;have oe:=Fr.dg (ts:=[t]) (Fr.set (b:= .box (mh off w' cs)) bw (.inl ⟨_,rfl⟩));refine ⟨_,_,?_,Good.MD hS (b:= .box (mh off w' cs)) (q:= .box (kq off q b)) (rd:=[]) bw (.inl ⟨_,rfl⟩) ⟨_,rfl,RL.fr oe (uC h2 h4)⟩,h⟩
    show ob ps z sz (x.ev pe) (p.ev pe)=_
    rw [show p.ev pe=_ from hx];simp only [ob,h3,h1,h2.jr,h4.jr];rw [ol (by simpa using hc)]
   |_=>cases h
 |pa t r i a off=>
  simp only [bz] at h;generalize bw:s[t]? =b at h;cases b with
  |none=>cases h
  |some b=>
   cases b with
   |arr q l=>
    obtain ⟨hc,h⟩:=bO h;obtain ⟨a',EX,hk⟩:=bc h;obtain ⟨hx,cm⟩:=hx;obtain ⟨rfl,hg⟩:=cm.inv bw;obtain ⟨m,rfl,hm⟩:=jZ hg;refine ⟨_,_,?_,Ee hS bw (rd:=[]),hk⟩;show ob ps z sz (x.ev pe) (p.ev pe)=_;rw [hx];have ye:(l.map (RT.pv r))[m]? =acg (RT.pv r a):=by simp [hm]
    have e1:(ab1 m).toNat=m:=rfl;simp only [pp,aag] at hc;obtain ⟨⟨c1,c2⟩,c3⟩:=hc;have hj:u≠ .fi:=by
     intro e;subst e;have:=RT.mj EX;have hq:=congrArg (fun l=>l[off]?) this;have iC:=EQ c2;have lq:sz=1:=by have:=pm c1;simpa [SV.cells] using this.symm
     have dA:off<(acf r):=by omega
     have IH:off<(RT.sv r a).length:=by rw [RT.Ec];exact dA
     simp only [mh,SV.cells] at hq;rw [rc (by simp;omega),v6 (by simp;omega)] at hq;simp only [ab7,abM (abW IH),ace,abI] at hq;have: ∀(r:List PT) (b:RT r) (n:Nat),(RT.sv r b)[n]?≠acg .fi:=by
      intro r
      induction r with
      |nil=>intro b n h;simp [RT.sv] at h
      |cons p rest ih=>
       intro b n;cases rest with
       |nil=>cases n<;>cases p<;>simp [RT.sv,PT.sv]
       |cons p2 Z4=>cases n with
        |zero=>cases p<;>simp [RT.sv,PT.sv]
        |succ n=>simpa [RT.sv] using ih b.2 n
     exact this r a' off hq.symm
    have Bk:=hv.cells hj;have mM:=RT.mj EX;have h5:RL s (RT.sv r a') (kq off (x.ev pe).cells (RT.pv r a)):=by rw [<- mM];exact uC Bk (C9 r a)
    have h6:=uB r a' h5;have HI:(x.ev pe).bK=acg (x.ev pe).cells:=by unfold PV.bK;rw [ol ?_];have kC:=RT.plain r a';rw [<- h6] at kC;unfold kq at kC;simp only [aca,pp] at kC;exact kC.1.2
    simp only [ob,hS.arr bw,e1,ye,HI,Bk.jr,RT.q8];rw [ol (by simp [c1,c2,c3])];simp only [h6]
   |_=>cases h
 |pb t i off=>
  simp only [bz] at h;generalize bw:s[t]? =b at h;cases b with
  |none=>cases h
  |some b=>
   cases b with
   |arr r l=>
    obtain ⟨hc,h⟩:=bO h;obtain ⟨e',hx,cm⟩:=hx;have vW:=cm.inv bw;rw [abF] at vW;obtain ⟨a0,hg⟩:=vW;obtain ⟨m,rfl,hm⟩:=jZ hg;have ye:(l.map (RT.pv r))[m]? =acg (RT.pv r a0):=by simp [hm]
    have e1:(ab1 m).toNat=m:=rfl;simp only [pp,aag] at hc;obtain ⟨⟨c1,c2⟩,c3⟩:=hc;cases lq:ut sz (acf r) with
    |true=>
     rw [lq] at h;obtain ⟨a',EX,hk⟩:=bc h;obtain ⟨hp,hl⟩:=hv.ofRow EX;have Hc:=pm lq;have zR:off=0:=by have:=EQ c2;omega
     subst zR;refine ⟨_,_,?_,Ee hS bw (rd:=[]),hk⟩;show ob ps z sz (x.ev pe) (p.ev pe)=_;rw [hx];simp only [ob,hS.arr bw,e1,ye,hp,RT.q8];rw [ol (by rw [abm,Hc];simp [c3])];have:kq 0 (RT.pv r a') (RT.pv r a0)=RT.pv r a':=by unfold kq;rw [RT.q8,List.drop_of_length_le (by rw [RT.q8];omega)];simp
     rw [this]
    |false=>
     rw [lq] at h;obtain ⟨a,ha,h⟩:=bN h;obtain ⟨a',EX,hk⟩:=bc h;rw [hg] at ha;injection ha with ha;subst ha;refine ⟨_,_,?_,Ee hS bw (rd:=[]),hk⟩;show ob ps z sz (x.ev pe) (p.ev pe)=_;rw [hx];have hj:u≠ .fi:=by
      intro e;subst e;have:=RT.mj EX;have hq:=congrArg (fun l=>l[off]?) this;have iC:=EQ c2;have lq:sz=1:=by have:=pm c1;simpa [SV.cells] using this.symm
      have dA:off<(acf r):=by omega
      have IH:off<(RT.sv r a0).length:=by rw [RT.Ec];exact dA
      simp only [mh,SV.cells] at hq;rw [rc (by simp;omega),v6 (by simp;omega)] at hq;simp only [ab7,abM (abW IH),ace,abI] at hq;have: ∀(r:List PT) (b:RT r) (n:Nat),(RT.sv r b)[n]?≠acg .fi:=by
       intro r
       induction r with
       |nil=>intro b n h;simp [RT.sv] at h
       |cons p rest ih=>
        intro b n;cases rest with
        |nil=>cases n<;>cases p<;>simp [RT.sv,PT.sv]
        |cons p2 Z4=>cases n with
         |zero=>cases p<;>simp [RT.sv,PT.sv]
         |succ n=>simpa [RT.sv] using ih b.2 n
      exact this r a' off hq.symm
     have Bk:=hv.cells hj;have mM:=RT.mj EX;have h5:RL s (RT.sv r a') (kq off (x.ev pe).cells (RT.pv r a0)):=by rw [<- mM];exact uC Bk (C9 r a0)
     have h6:=uB r a' h5;have HI:(x.ev pe).bK=acg (x.ev pe).cells:=by unfold PV.bK;rw [ol ?_];have kC:=RT.plain r a';rw [<- h6] at kC;unfold kq at kC;simp only [aca,pp] at kC;exact kC.1.2
     simp only [ob,hS.arr bw,e1,ye,HI,Bk.jr,RT.q8];rw [ol (by simp [c1,c2,c3])];simp only [h6]
   |_=>cases h
 |_=>cases h
end
end Go.Vm
/- Operation by operation, third part: slices, new blocks, append, sets; all of them together. -/
namespace Go.Vm
section
variable {R' ρ : Type} {w : R' -> ρ} {y : ρ} {s : List SB} {ps : bG} {e : SE} {pe : Env} {z : List Nat} {k : ej -> eN R'}
def Bl (pe:Env) (o:Option dI):Option (Option Nat):=match o with|none=>acg ach|some a=>(gD (a.ev pe)).map acg
theorem qx (hE:cK s e pe) {o:Option dI} {d a:Int} {n:Nat} (h:yJ e d o=acg a) (hd:d=ab1 n) (h0:0<=a): ∃b,Bl pe o=acg b/\b.getD n=a.toNat:=by
 cases o with
 |none=>injection h with h;subst h hd;exact ⟨ach,rfl,rfl⟩
 |some x=>
  simp only [yJ] at h;split at h
  · rename_i ka m hx
    injection h with h;subst h;obtain ⟨b,rfl⟩:=aa7 h0;refine ⟨acg b,?_,rfl⟩;simp only [Bl,jK hE hx];rfl
  cases h
theorem wc {esz:Nat} {x:dI} {lo hi mx:Option dI} {l h m:Option Nat} {v:PV} (he:qd esz (x.ev pe)=acl) (h1:Bl pe lo=acg l) (h2:Bl pe hi=acg h) (h3:Bl pe mx=acg m) (hv:ng (x.ev pe) l h m=acg v):
 aU pe ps z (.JN esz x lo hi mx)=acg {v:=v}:=by
 have e:aU pe ps z (.JN esz x lo hi mx)=(match Bl pe lo,Bl pe hi,Bl pe mx with|some l,acg h,acg m=>(ng (x.ev pe) l h m).map fun v=>({v}:kr)|_,_,_=>ach):=by simp only [aU,he,abR,UV,if_false];rfl
 rw [e,h1,h2,h3];simp only [hv];rfl
theorem Bm {α:Type} {l r:List α} {lo hi:Int} (h:gx l lo hi=acg r): ∃a b:Nat,lo=ab1 a/\hi=ab1 b/\a<=b/\b<=acf l/\r=(l.drop a).take (b-a):=by
 unfold gx at h;split at h
 · rename_i hc
   obtain ⟨a,rfl⟩:=aa7 hc.1;obtain ⟨b,rfl⟩:=aa7 (abE hc.1 hc.2.1);injection h with h;exact ⟨a,b,rfl,rfl,by omega,by omega,by rw [<- h];simp⟩
 cases h
theorem Ef (hE:cK s e pe) (hS:bL s ps) {esz t off len cap:Nat} {ex:Bool} {x:dI} {lo hi mx:Option dI} (hx:x.ev pe= .own t esz off len cap ex) (cm:vp s t esz) (h:Hw e t off len cap ex lo hi mx k ρ w=acg y):
 eT s ps (aU pe ps z (.JN esz x lo hi mx)) k ρ w y:=by
 unfold Hw at h;obtain ⟨a,ha,h⟩:=bc h;obtain ⟨b,hb,h⟩:=bc h;have he:qd esz (x.ev pe)=acl:=by rw [hx];simp [qd]
 cases mx with
 |none=>
  obtain ⟨hc,h⟩:=fA h;simp only [pp,decide_eq_true_eq] at hc;obtain ⟨⟨c1,c2⟩,c3⟩:=hc;obtain ⟨l,h1,h2⟩:=qx hE (n:=0) ha rfl c1;obtain ⟨u,h3,h4⟩:=qx hE (n:=len) hb rfl (abE c1 c2);refine eT.val hS h (wc he h1 h3 (m:=ach) rfl ?_) ⟨esz,rfl,cm⟩;rw [hx];have c4:(ww a.toNat b.toNat&&ww b.toNat cap)=acl:=by have c3':b<=(cap:Int):=c3;simp;omega
  simp only [ng,h2,h4,c4,if_true]
 |some mo=>
  dsimp only at h;generalize hm:bm e mo=vm at h;cases vm with
  |int km c=>
   obtain ⟨hc,h⟩:=fA h;simp only [pp,decide_eq_true_eq] at hc;obtain ⟨⟨⟨c1,c2⟩,c3⟩,c4⟩:=hc;obtain ⟨l,h1,h2⟩:=qx hE (n:=0) ha rfl c1;obtain ⟨u,h3,h4⟩:=qx hE (n:=len) hb rfl (abE c1 c2);have Cr:0<=c:=abE (abE c1 c2) c3;obtain ⟨c,rfl⟩:=aa7 Cr;refine eT.val hS h (wc he h1 h3 (m:=acg c) (by simp only [Bl,jK hE hm];rfl) ?_) ⟨esz,rfl,cm⟩;rw [hx];have c5:(ww a.toNat b.toNat&&ww b.toNat c&&ww c cap)=acl:=by have c4':(c:Int)<=(cap:Int):=c4;simp;omega
   simp only [ng,h2,h4,c5,if_true];rfl
  |_=>cases h
theorem Ph (hE:cK s e pe) (hS:bL s ps) {esz:Nat} {x:dI} {lo hi mx:Option dI} (h:js e s z (.JN esz x lo hi mx) k ρ w=acg y):eT s ps (aU pe ps z (.JN esz x lo hi mx)) k ρ w y:=by
 simp only [js] at h;have hx:=cE hE x;unfold ZZ at h;generalize bm e x=v at h hx;cases v with
 |sl r l=>
  cases mx with
  |some _=>cases h
  |none=>
   dsimp only at h;obtain ⟨he,h⟩:=bO h;have he:=pm he;obtain ⟨a,ha,h⟩:=bc h;obtain ⟨b,hb,h⟩:=bc h;obtain ⟨m,hm,hk⟩:=bN h;obtain ⟨n1,n2,rfl,rfl,c1,c2,rfl⟩:=Bm hm;obtain ⟨u1,h1,h2⟩:=qx hE (n:=0) ha rfl (by simp);obtain ⟨u2,h3,h4⟩:=qx hE (n:=acf l) hb rfl (by simp);have Z5:x.ev pe= .sl (acf r) acm (l.map (RT.pv r)):=hx;subst he;refine eT.val hS (p:= .sl (acf r) acm ((((l.drop n1).take (n2-n1))).map (RT.pv r))) hk (wc (m:=ach) (by rw [Z5];simp [qd]) h1 h3 rfl ?_) rfl;rw [Z5];have Kw:u1.getD 0=n1:=by rw [h2];rfl
   have h4':u2.getD (l.map (RT.pv r)).length=n2:=by rw [aaj,h4];rfl
   have c3:(ww n1 n2&&ww n2 (l.map (RT.pv r)).length)=acl:=by simp [c1,c2]
   simp only [ng,Kw,h4',c3,if_true,Bool.false_and,ab2,abH]
 |own t ex=>
  simp only [bz] at h;generalize bw:s[t]? =b at h;cases b with
  |none=>cases h
  |some b=>
   cases b with
   |arr r l=>
    dsimp only at h;obtain ⟨he,hk⟩:=bO h;have he:=pm he;obtain ⟨e',n',hx,cm⟩:=hx;obtain ⟨rfl,rfl⟩:=cm.inv bw;subst he;have zS:vp s t (acf r):= .inl ⟨r,l,bw,rfl⟩;have gen:Hw e t 0 (acf l) (acf l) ex lo hi mx k ρ w=acg y->eT s ps (aU pe ps z (.JN (acf r) x lo hi mx)) k ρ w y:=fun h=>Ef hE hS hx zS h
    have he:qd (acf r) (x.ev pe)=acl:=by rw [hx];simp [qd]
    cases mx with
    |some m=>cases lo<;>cases hi<;>exact gen hk
    |none=>
     cases lo with
     |some _=>cases hi<;>exact gen hk
     |none=>
      cases hi with
      |none=>refine eT.val hS hk (wc (l:=ach) (h:=ach) (m:=ach) he rfl rfl rfl ?_) ⟨acf r,acf l,rfl,cm⟩;rw [hx];simp [ng]
      |some ho=>
       dsimp only at hk;generalize hh:bm e ho=vh at hk;cases vh with
       |int kh b=>
        obtain ⟨m,hm,hk⟩:=bN hk;obtain ⟨n1,n2,h0,rfl,c1,c2,rfl⟩:=Bm hm;refine eT.val hS hk (wc (l:=ach) (h:=acg n2) (m:=ach) he rfl (by simp only [Bl,jK hE hh];rfl) rfl ?_) ⟨acf r,rfl,zS⟩;rw [hx];have c3:(ww 0 n2&&ww n2 (acf l))=acl:=by simp [c2]
        simp only [ng,abK,ac3,c3,if_true];rfl
       |_=>cases hk
   |_=>cases h
 |pre t len cap ex=>
  simp only [bz] at h;generalize bw:s[t]? =b at h;cases b with
  |none=>cases h
  |some b=>
   cases b with
   |arr r l=>
    dsimp only at h;obtain ⟨he,hk⟩:=bO h;have he:=pm he;obtain ⟨e',hx,cm⟩:=hx;have:=cm.inv bw;subst this;subst he;have gen:Hw e t 0 len cap ex lo hi mx k ρ w=acg y->eT s ps (aU pe ps z (.JN (acf r) x lo hi mx)) k ρ w y:=fun h=>Ef hE hS hx cm h
    have he:qd (acf r) (x.ev pe)=acl:=by rw [hx];simp [qd]
    cases mx with
    |some m=>cases lo<;>cases hi<;>exact gen hk
    |none=>
     cases lo with
     |some _=>cases hi<;>exact gen hk
     |none=>
      cases hi with
      |none=>
       obtain ⟨hlc,hk⟩:=fA hk;refine eT.val hS hk (wc (l:=ach) (h:=ach) (m:=ach) he rfl rfl rfl ?_) ⟨acf r,rfl,cm⟩;rw [hx];have c3:(ww 0 len&&ww len cap)=acl:=by simp [hlc]
       simp only [ng,abK,c3,if_true];simp
      |some ho=>
       dsimp only at hk;generalize hh:bm e ho=vh at hk;cases vh with
       |int kh b=>
        obtain ⟨hc,hk⟩:=fA hk;simp only [pp,decide_eq_true_eq] at hc;obtain ⟨c1,c2⟩:=hc;obtain ⟨b,rfl⟩:=aa7 c1;refine eT.val hS hk (wc (l:=ach) (h:=acg b) (m:=ach) he rfl (by simp only [Bl,jK hE hh];rfl) rfl ?_) ⟨acf r,rfl,cm⟩;rw [hx];have c3:(ww 0 b&&ww b cap)=acl:=by have c2':(b:Int)<=(cap:Int):=c2;simp;omega
        simp only [ng,abK,ac3,c3,if_true];rfl
       |_=>cases hk
   |_=>cases h
 |part t off len cap ex=>
  simp only [bz] at h;generalize bw:s[t]? =b at h;cases b with
  |none=>cases h
  |some b=>
   cases b with
   |arr r l=>dsimp only at h;obtain ⟨he,hk⟩:=bO h;have he:=pm he;obtain ⟨e',hx,cm⟩:=hx;have:=cm.inv bw;subst this;subst he;exact Ef hE hS hx cm hk
   |_=>cases h
 |_=>cases h
theorem jx {b:SB}:(s++[b])[acf s]? =acg b:=by simp
theorem je: ∀{v:PV} {p:PT},pN v=acg p->p.pv p.zero=v
 | .int k n,p,h=>by
  simp only [pN] at h;split at h
  · injection h with h;subst h;rfl
  cases h
 | .bool b,p,h=>by
  simp only [pN] at h;split at h
  · injection h with h;subst h;rfl
  cases h
 | .undef,_,h| .gJ,_,h| .str _,_,h| .agg _,_,h| .bH _,_,h| .sl _ _ _,_,h| .own _ _ _ _ _ _,_,h| .ptr _ _ _ _,_,h| .aW _ _,_,h| .mp _,_,h| .di _ _ _,_,h| .cL,_,h=>by cases h
theorem xz : ∀ {l : List PV} {r : List PT}, A' l = acg r -> RT.pv r (RT.zero r) = l
  | [], r, h => by injection h with h; subst h; rfl
  | v :: vs, r, h => by
    simp only [A'] at h
    split at h
    · rename_i p q h1 h2
      injection h with h; subst h
      have e1 := je h1
      have e2 := xz h2
      cases q with
      | nil =>
        have : vs = [] := by
          cases vs with
          | nil => rfl
          | cons a b => simp only [RT.pv] at e2; cases e2
        subst this
        show [p.pv p.zero] = _
        rw [e1]
      | cons p2 q2 =>
        show p.pv p.zero :: RT.pv (p2 :: q2) (RT.zero (p2 :: q2)) = _
        rw [e1, e2]
    cases h
theorem Pj (hE:cK s e pe) (hS:bL s ps) {esz:Nat} {zero:Row} {l c:dI} (h:js e s z (.R4 esz zero l c) k ρ w=acg y):eT s ps (aU pe ps z (.R4 esz zero l c)) k ρ w y:=by
 simp only [js] at h;generalize hl:bm e l=vl at h;cases vl with
 |int kl n=>
  generalize hc:bm e c=vc at h;cases vc with
  |int kc m=>
   obtain ⟨hnm,h1⟩:=fA h;obtain ⟨r,hr,h2⟩:=bc h1;obtain ⟨he,h3⟩:=bO h2;obtain ⟨x,hx,hk⟩:=bN h3;have hnm:n=m:=by simpa using hnm
   subst hnm;have he:=pm he;subst he;unfold o9 at hx;split at hx
   · rename_i Ac
     injection hx with hx;subst hx;obtain ⟨a,rfl⟩:=aa7 Ac.1;have h1:(ww a a&&ww a jb)=acl:=by simp [jb];omega
     refine ⟨_,_,?_,Good.new hS (b:= .arr r (If (ab1 a).toNat (RT.zero r))) (q:= .arr (acf r) (If a zero)) (v:= .own (acf s) acl) (p:= .own (acf s) (acf r) 0 a a acl) (rd:=[]) ?_ ?_,hk⟩
     · have e1:gD (.int kl (a:Int))=acg a:=rfl
       have e2:gD (.int kc (a:Int))=acg a:=rfl;simp only [aU,jK hE hl,jK hE hc,e1,e2];rw [ol h1,hS.len]
     · show _=_
       simp [xz hr]
     exact ⟨acf r,a,rfl,.inl ⟨r,_,jx,rfl,by simp⟩⟩
   cases hx
  |_=>cases h
 |_=>cases h
def rh {α:Type}:List α->List (Nat×α)->List α
 |l,[]=>l
 |l,(i,a)::r=>rh (l.set i a) r
theorem Bn {α : Type} : ∀ (q : List (Nat × α)) (l : List α) (i : Nat), (rh l q)[i]? = (l[i]?).map fun z => rowAt i z q
  | [], l, i => by simp [rh, rowAt]
  | (j, a) :: q, l, i => by
    simp only [rh, rowAt]
    rw [Bn q (l.set j a) i, Do]
    by_cases OJ : j = i
    · subst OJ
      cases hl : l[j]? with
      | none =>
        have : ¬ j < (acf l) := by intro h; rw [AC h] at hl; cases hl
        simp [this]
      | some z =>
        have : j < (acf l) := (v4.1 hl).1
        simp [this]
    have : ut j i = acm := by
      cases hb : ut j i with
      | false => rfl
      | true => exact absurd (pm hb) OJ
    simp [OJ, this]
theorem F5 {α:Type} (f:Nat->α): ∀(n i j:Nat),(D9 f i n)[j]? =if j<n then acg (f (i+j)) else ach
 |0,i,j=>by simp [D9]
 |n+1,i,0=>by simp [D9]
 |n+1,i,j+1=>by
  simp only [D9,ab3];rw [F5 f n (i+1) j,show i+1+j=i+(j+1) by omega]
  by_cases h:j<n
  · simp [h]
  simp [h]
theorem Bo {α:Type} (z:α) (n:Nat) (q:List (Nat×α)):rh (If n z) q=D9 (fun i=>rowAt i z q) 0 n:=by
 apply abX;intro i;rw [Bn,F5]
 by_cases h:i<n
 · simp [h]
 simp [h]
theorem Bp (hE:cK s e pe) {r:List PT} {n:Nat}: ∀{parts:List (Nat×dI)} {q:List (Nat×RT r)} {l:List (RT r)},I3 r e n parts=acg q->acf l=n->
 mH (parts.map fun p=>(p.1,p.2.ev pe)) (l.map (RT.pv r)) (acf r)=acg ((rh l q).map (RT.pv r))
 | [],q,l,h,hl=>by injection h with h;subst h;rfl
 |p::parts,q,l,h,hl=>by
  simp only [I3] at h;split at h
  · rename_i a q' h1 h2
    cases hb:ab9 p.1 n with
    |false=>rw [hb] at h;cases h
    |true=>rw [hb] at h;injection h with h;subst h;have hp:=((cE hE p.2).ofRow h1).1;simp only [NE,mH,hp,RT.q8,aaj,hl,hb,aau,PP,if_true,rh];rw [<- abV];exact Bp hE h2 (by simp [hl])
  cases h
theorem KC (hE:cK s e pe) (hS:bL s ps) {esz n:Nat} {zero:Row} {parts:List (Nat×dI)} (h:js e s z (.wR esz n zero parts) k ρ w=acg y):eT s ps (aU pe ps z (.wR esz n zero parts)) k ρ w y:=by
 simp only [js] at h;obtain ⟨r,hr,h1⟩:=bc h;obtain ⟨he,h2⟩:=bO h1;obtain ⟨q,hq,hk⟩:=bc h2;have he:=pm he;subst he;have hf:=Bp hE (l:=If n (RT.zero r)) hq (by simp);rw [Bo] at hf;have hz:(If n (RT.zero r)).map (RT.pv r)=If n zero:=by simp [xz hr]
 rw [hz] at hf;refine ⟨_,_,?_,Good.new hS (b:= .arr r (D9 (fun i=>rowAt i (RT.zero r) q) 0 n)) (q:= .arr (acf r) ((D9 (fun i=>rowAt i (RT.zero r) q) 0 n).map (RT.pv r))) (v:= .own (acf s) acl) (p:= .own (acf s) (acf r) 0 n n acl) (rd:=[]) rfl ?_,hk⟩
 · simp only [aU,hf,hS.len]
   rfl
 refine ⟨acf r,n,rfl,.inl ⟨r,_,jx,rfl,?_⟩⟩
 rw [<- Bo];have: ∀(q:List (Nat×RT r)) (l:List (RT r)),(rh l q).length=(acf l):=by
  intro q
  induction q with
  |nil=>intro l;rfl
  |cons p q ih=>intro l;simp [rh,ih]
 rw [this];simp
theorem Jg: ∀{cs:List SV} {q:List PV} {l:List Int},RL s cs q->I4 cs=acg l->q=l.map (.int .i64)
 | [],q,l,h,hi=>by injection hi with hi;subst hi;exact h
 |x::xs,q,l,h,hi=>by
  obtain ⟨p,q,rfl,h1,h2⟩:=h.cons_inv;simp only [I4] at hi;split at hi
  · rename_i n l' hx
    injection hi with hi;subst hi;rw [show p= .int .i64 n from h1,Jg h2 hx];rfl
  cases hi
theorem MN {v:SV} {p:PV} {n:Option Nat} {l:List Int} (h:R s v p) (hk:OY n v=acg l):p=oV l/\gK n (oV l)=acl/\(oV l).bK=acg (oV l).cells/\(oV l).cells=l.map (.int .i64)/\(n=ach->acf l=1)/\(∀m,n=acg m->acf l=m/\m≠1):=by
 cases n with
 |none=>
  cases v with
  |int kk a=>
   cases kk with
   |i64=>injection hk with hk;subst hk;exact ⟨h,rfl,rfl,rfl,fun _=>rfl,fun m hm=>by cases hm⟩
   |_=>cases hk
  |_=>cases hk
 |some m=>
  cases v with
  |agg cs=>
   simp only [OY] at hk;cases hc:(ut (acf cs) m&&!Nat.beq m 1) with
   |false=>rw [hc] at hk;cases hk
   |true=>
    rw [hc] at hk;simp only [ls] at hk;simp only [pp,abS,aag] at hc;obtain ⟨c1,c2⟩:=hc;obtain ⟨q,rfl,hq⟩:=h;have Ld:=Jg hq hk;have bI:(acf l)=m:=by have:=hq.jr;rw [Ld] at this;simp at this;omega
    have hm1:m≠1:=by intro e;subst e;cases c2
    have Of:oV l= .agg (l.map (.int .i64)):=by
     unfold oV;split
     · simp at bI;omega
     rfl
    refine ⟨by rw [Of,Ld],by rw [Of];simp [gK,bI],?_,by rw [Of];rfl,(fun h=>by cases h),fun m' hm=>by injection hm with hm;subst hm;exact ⟨bI,hm1⟩⟩;rw [Of];unfold PV.bK;rw [ol];simp [PV.cells,PV.plain]
  |_=>cases hk
theorem ri: ∀(a b:List Int),acf a=acf b->bV (a.map (.int .i64)) (b.map (.int .i64))=acg (a==b)
 | [],[],_=>rfl
 |x::a,y::b,h=>by
  have ih:=ri a b (by simpa using h);simp only [NE,bV,nf,F3,if_true];cases OC:x==y with
  |true=>simp only [ih];simp [abT,OC]
  |false=>simp [abT,OC]
 | [],_::_,h=>by simp at h
 |_::_,[],h=>by simp at h
theorem yO {n : Option Nat} {a : List Int} (ha : (oV a).cells = a.map (.int .i64)) (hn : (n = ach -> (acf a) = 1) /\ (∀ m, n = acg m -> (acf a) = m /\ m ≠ 1)) : ∀ (l : List (List Int)) (i : Nat), (∀ r, dE n (oV a) (l.map xu) i = acg r -> (match r with | none => zX l a = acm | some j => i <= j /\ zX l a = acl /\ l[j - i]? = acg a))
  | [], i, r, h => by
    simp only [abY, dE, wn] at h
    subst h; rfl
  | b :: l, i, r, h => by
    simp only [NE, xu, dE] at h
    split at h
    · rename_i hk
      have hb : (oV b).cells = b.map (.int .i64) /\ (acf a) = (acf b) := by
        cases n with
        | none =>
          have hl := hn.1 rfl
          unfold oV at hk ⊢
          split at hk
          · exact ⟨rfl, by simpa using hl⟩
          cases hk
        | some m =>
          obtain ⟨hl, hm⟩ := hn.2 m rfl
          unfold oV at hk ⊢
          split at hk
          · cases hk
          simp only [gK, aaj, abS] at hk
          exact ⟨rfl, by omega⟩
      rw [ha, hb.1, ri a b hb.2] at h
      cases Fj : a == b with
      | true =>
        rw [Fj] at h
        injection h with h; subst h
        have : a = b := by simpa using Fj
        subst this
        exact ⟨Nat.le_refl _, by simp [zX], by simp⟩
      | false =>
        rw [Fj] at h
        have := yO ha hn l (i + 1) r h
        cases r with
        | none => simpa [zX, Fj] using this
        | some j =>
          obtain ⟨h1, h2, h3⟩ := this
          refine ⟨by omega, by simp only [zX] at h2; simp [zX, h2], ?_⟩
          rw [show j - i = (j - (i + 1)) + 1 by omega]; simpa using h3
    cases h
theorem xA {n:Option Nat} {a:List Int} (ha:(oV a).cells=a.map (.int .i64)) (hn:(n=ach->acf a=1)/\(∀m,n=acg m->acf a=m/\m≠1)) {l:List (List Int)} (hl:l.all (fun b=>gK n (oV b))=acl): ∀i,∃r,dE n (oV a) (l.map xu) i=acg r:=by
 induction l with
 |nil=>intro i;exact ⟨ach,rfl⟩
 |cons b l ih=>
  intro i;simp only [abQ,pp] at hl;obtain ⟨r,hr⟩:=ih hl.2 (i+1);simp only [NE,xu,dE,hl.1,if_true];have hb:(oV b).cells=b.map (.int .i64)/\acf a=(acf b):=by
   have hk:=hl.1;cases n with
   |none=>
    have jE:=hn.1 rfl;unfold oV at hk ⊢;split at hk
    · exact ⟨rfl,by simpa using jE⟩
    cases hk
   |some m=>
    obtain ⟨jE,hm⟩:=hn.2 m rfl;unfold oV at hk ⊢;split at hk
    · cases hk
    simp only [gK,aaj,abS] at hk
    exact ⟨rfl,by omega⟩
  rw [ha,hb.1,ri a b hb.2];cases Fj:a==b with
  |true=>exact ⟨acg i,rfl⟩
  |false=>exact ⟨r,hr⟩
theorem zF {n:Option Nat} {a:List Int} (hn:(n=ach->acf a=1)/\(∀m,n=acg m->acf a=m/\m≠1)) {l:List (List Int)} (hl: ∀b∈l,acf b=acf a):l.all (fun b=>gK n (oV b))=acl:=by
 rw [abL];intro b hb;have bI:=hl b hb;cases n with
 |none=>
  have h1:=hn.1 rfl;rw [h1] at bI
  match b,bI with
  | [x],_=>rfl
 |some m=>
  obtain ⟨h1,h2⟩:=hn.2 m rfl;unfold oV;split
  · rename_i x;simp at bI;omega
  simp [gK];omega
theorem xB {a:List Int} {l:List (List Int)} (h:kE a l=acl): ∀b∈l,acf b=(acf a):=by intro b hb;exact pm (abL.1 h b hb)
theorem PT.Z6 {s:List SB} {p:PT} {v:SV} {q:PV} {a:p.T} (h:R s v q) (ho:p.of v=acg a):q=p.pv a:=by
 cases p with
 |i k=>
  cases v with
  |int l n=>
   simp only [PT.of] at ho;cases hk:dF l k with
   |false=>rw [hk] at ho;cases ho
   |true=>rw [hk] at ho;obtain rfl:=dy.1 hk;injection ho with ho;subst ho;exact h
  |_=>cases ho
 |b=>
  cases v with
  |bool x=>injection ho with ho;subst ho;exact h
  |_=>cases ho
theorem Bq {β:Type} (g:Int×β->PV×PV) (hg: ∀x,(g x).1= .int .i64 x.1) (k:Int): ∀(l:List (Int×β)) (i:Nat),
 (∃j x,dE ach (.int .i64 k) (l.map g) i=acg (acg (i+j))/\l[j]? =acg x/\(∀z,zy z l k=x.2)/\ ∀a,zz l k a=l.set j (k,a))\/
 (dE ach (.int .i64 k) (l.map g) i=acg ach/\(∀z,zy z l k=z)/\ ∀a,zz l k a=l++[(k,a)])
 | [],i=> .inr ⟨rfl,fun _=>rfl,fun _=>rfl⟩
 |x::l,i=>by
  have hk:gK ach (g x).1=acl:=by rw [hg];rfl
  have he:bV (PV.int .i64 k).cells (g x).1.cells=acg (k==x.1):=by rw [hg];show bV [.int .i64 k] [.int .i64 x.1]=_;simp only [bV,nf,dF,if_true];cases k==x.1<;>rfl
  have hf:dE ach (.int .i64 k) ((x::l).map g) i=(match acg (k==x.1) with
   |some acl=>acg (acg i)
   |some acm=>dE ach (.int .i64 k) (l.map g) (i+1)
   |none=>ach):=by
   rw [NE];show (if gK ach (g x).1 then _ else ach)=_;rw [ol hk,he];cases k==x.1<;>rfl
  cases hb:k==x.1 with
  |true=>rw [hb] at hf;exact .inl ⟨0,x,hf,rfl,fun z=>by simp only [zy,hb,ls],fun a=>by simp only [zz,hb,ls,List.set_cons_zero]⟩
  |false=>
   rw [hb] at hf;rcases Bq g hg k l (i+1) with ⟨j,y,h1,h2,h3,h4⟩|⟨h1,h2,h3⟩
   · refine .inl ⟨j+1,y,?_,by simpa using h2,fun z=>?_,fun a=>?_⟩
     · rw [hf];show dE ach (.int .i64 k) (l.map g) (i+1)=_
       rw [h1,show i+1+j=i+(j+1) by omega]
     · simp only [zy,hb,lw,h3]
     simp only [zz,hb,lw,h4,List.set_cons_succ]
   exact .inr ⟨hf.trans h1,fun z=>by simp only [zy,hb,lw,h2],fun a=>by simp only [zz,hb,lw,h3,ac5]⟩
theorem Br (p:PT) (k:Int) (l:List (RT [.i .i64,p])):
 (∃(j:Nat) (x:RT [.i .i64,p]),dE ach (.int .i64 k) (l.map (zY p)) 0=acg (acg j)/\l[j]? =acg x/\(∀z,p.get z l k=x.2)/\ ∀a,p.put l k a=l.set j (k,a))\/
 (dE ach (.int .i64 k) (l.map (zY p)) 0=acg ach/\(∀z,p.get z l k=z)/\ ∀a,p.put l k a=l++[(k,a)]):=by
 cases p with
 |i d=>
  rcases Bq (β:=Int) (zY (.i d)) (fun _=>rfl) k l 0 with ⟨j,x,h1,h2,h3,h4⟩|h
  · exact .inl ⟨j,x,by rw [h1,abm],h2,h3,h4⟩
  exact .inr h
 |b=>
  rcases Bq (β:=Bool) (zY .b) (fun _=>rfl) k l 0 with ⟨j,x,h1,h2,h3,h4⟩|h
  · exact .inl ⟨j,x,by rw [h1,abm],h2,h3,h4⟩
  exact .inr h
theorem PT.adx {s:List SB} (p:PT) (a:p.T):R s (p.sv a) (p.pv a):=by cases p<;>rfl
theorem PT.F6 (p:PT) (a:p.T):(p.pv a).bK=acg [p.pv a]:=by cases p<;>rfl
theorem HJ (hE:cK s e pe) (hS:bL s ps) {n:Option Nat} {zero:PV} {ok:Bool} {m q:dI} (h:js e s z (.lookup n zero ok m q) k ρ w=acg y):eT s ps (aU pe ps z (.lookup n zero ok m q)) k ρ w y:=by
 simp only [js] at h;have hx:=cE hE m;generalize bm e m=v at h hx;cases v with
 |mp t=>
  simp only [bz] at h;generalize bw:s[t]? =b at h;cases b with
  |none=>cases h
  |some b=>
   cases b with
   |set l=>
    dsimp only at h;unfold I6 at h;cases zero with
    |bool b=>
     cases b with
     |true=>cases h
     |false=>
      cases ok with
      |true=>cases h
      |false=>
       obtain ⟨a,ha,h1⟩:=bc h;obtain ⟨b,hb,hk⟩:=bN h1;obtain ⟨k1,k2,k3,k4,k5⟩:=MN (cE hE q) ha;unfold FU at hb;cases pL:kE a l with
       |false=>rw [pL] at hb;cases hb
       |true=>
        rw [pL] at hb;injection hb with hb;subst hb;obtain ⟨r,hr⟩:=xA k4 k5 (zF k5 (xB pL)) 0;have hf:=yO k4 k5 l 0 r hr;refine eT.rd hS hk ?_ rfl;show oX ps n (.bool acm) acm (m.ev pe) (q.ev pe)=_;rw [show m.ev pe=_ from hx,k1];simp only [oX,hS.Z3 bw,k2,if_true,hr];cases r with
        |none=>simp only at hf;simp [hf]
        |some j=>
         obtain ⟨_,h2,h3⟩:=hf;have:(l.map xu)[j]? =acg (xu a):=by simp at h3;simp [h3]
         simp [this,h2,xu]
    |_=>cases h
   |bB p l=>
    dsimp only at h;unfold I7 at h;cases n with
    |some _=>cases h
    |none=>
     cases ok with
     |true=>cases h
     |false=>
      have hq:=cE hE q;generalize bm e q=u at h hq;cases u with
      |int d a=>
       cases d with
       |i64=>
        obtain ⟨zv,hz,hk⟩:=bc h;have Z7:=PT.Z6 (HG s zero) hz;refine eT.rd hS hk ?_ (PT.adx p _);show oX ps ach zero acm (m.ev pe) (q.ev pe)=_;rw [show m.ev pe=_ from hx,show q.ev pe=_ from hq];rcases Br p a l with ⟨j,x,h1,h2,h3,_⟩|⟨h1,h2,_⟩
        · have h5:(l.map (zY p))[j]? =acg (zY p x):=by simp [h2]
          simp only [oX,hS.Pf bw,gK,if_true,h1,h5,h3,zY,UV,if_false]
        simp only [oX,hS.Pf bw,gK,if_true,h1,h2,Z7,UV,if_false]
       |_=>cases h
      |_=>cases h
   |_=>cases h
 |_=>cases h
theorem MO (hE:cK s e pe) (hS:bL s ps) {n:Option Nat} {m q x:dI} (h:js e s z (.DG n m q x) k ρ w=acg y):eT s ps (aU pe ps z (.DG n m q x)) k ρ w y:=by
 simp only [js] at h;have hx:=cE hE m;generalize bm e m=v at h hx;cases v with
 |mp t=>
  simp only [bz] at h;generalize bw:s[t]? =b at h;cases b with
  |none=>cases h
  |some b=>
   cases b with
   |set l=>
    obtain ⟨hz,h0⟩:=nY h;unfold Mp at h0;have hv:=cE hE x;generalize bm e x=u at h0 hv;cases u with
    |bool b=>
     cases b with
     |false=>cases h0
     |true=>
      obtain ⟨a,ha,h1⟩:=bc h0;obtain ⟨b,hb,hk⟩:=bN h1;obtain ⟨k1,k2,k3,k4,k5⟩:=MN (cE hE q) ha;unfold FV at hb;cases pL:kE a l with
      |false=>rw [pL] at hb;cases hb
      |true=>
       rw [pL] at hb;injection hb with hb;subst hb;obtain ⟨r,hr⟩:=xA k4 k5 (zF k5 (xB pL)) 0;have hf:=yO k4 k5 l 0 r hr;refine ⟨_,_,?_,Good.MD hS (b:= .set (Hu l a)) (q:= .map ((Hu l a).map xu)) (rd:=[]) bw trivial rfl,hk⟩;show zo ps z n (m.ev pe) (q.ev pe) (x.ev pe)=_;rw [show m.ev pe=_ from hx,k1,show x.ev pe= .bool acl from hv];have p2:(PV.bool acl).bK=acg [.bool acl]:=rfl;simp only [zo,hS.Z3 bw,k2,hz,abx,PP,if_true,k3,p2,hr];cases r with
       |none=>simp only at hf;simp [Hu,hf,xu]
       |some j=>
        obtain ⟨_,h2,h3⟩:=hf;have h5:l[j]? =acg a:=by simpa using h3
        have:(l.map xu).set j (oV a,.bool acl)=l.map xu:=by
         apply abX;intro i;rw [Do];split
         · rename_i lr
           subst lr;have dA:=(v4.1 h5).1;have h6:l[j]=a:=(v4.1 h5).2;simp [dA,h6,xu]
         rfl
        simp [Hu,h2,this]
    |_=>cases h0
   |bB p l=>
    obtain ⟨hz,h0⟩:=nY h;unfold Mq at h0;cases n with
    |some _=>cases h0
    |none=>
     have hq:=cE hE q;generalize bm e q=u at h0 hq;cases u with
     |int d a=>
      cases d with
      |i64=>
       obtain ⟨xv,hxv,hk⟩:=bc h0;have MP:=PT.Z6 (cE hE x) hxv;refine ⟨_,_,?_,Good.MD hS (b:= .bB p (p.put l a xv)) (q:= .map ((p.put l a xv).map (zY p))) (rd:=[]) bw trivial rfl,hk⟩;show zo ps z ach (m.ev pe) (q.ev pe) (x.ev pe)=_;rw [show m.ev pe=_ from hx,show q.ev pe=_ from hq,MP];have p1:(PV.int .i64 a).bK=acg [.int .i64 a]:=rfl;rcases Br p a l with ⟨j,x,h1,_,_,h3⟩|⟨h1,_,h3⟩
       · simp only [zo,hS.Pf bw,gK,hz,abx,PP,if_true,p1,PT.F6,h1,h3,abV,zY]
       simp only [zo,hS.Pf bw,gK,hz,abx,PP,if_true,p1,PT.F6,h1,h3,acb,NE,abY,zY]
      |_=>cases h0
     |_=>cases h0
   |_=>cases h
 |_=>cases h
theorem vp.fr' {s s':List SB} {bad:List Nat} {t e:Nat} (h:vp s t e) (hf:Fr bad s s'):vp s' t e:=by
 rcases h with ⟨r,l,h1,h2⟩|h1|⟨cs,h1,h2⟩
 · rcases hf t _ h1 with ⟨l',k1,_,_⟩|k1
   · exact .inl ⟨r,l',k1,h2⟩
   exact .inr (.inl k1)
 · exact .inr (.inl (hf t _ h1))
 rcases hf t _ h1 with ⟨c2,k1⟩|k1
 · exact .inr (.inr ⟨c2,k1,h2⟩)
 exact .inr (.inl k1)
theorem we {α:Type} {l r:List α} (h:bD l=acg r):r=l/\acf l<=1048576:=by
 unfold bD at h;split at h
 · injection h with h;exact ⟨h.symm,by assumption⟩
 cases h
theorem tq {α:Type} {l m r:List α} (h:aX l m=acg r):r=l++m/\acf l+acf m<=1048576:=by
 unfold aX at h;split at h
 · injection h with h;exact ⟨h.symm,by assumption⟩
 cases h
theorem ph: ∀(m l:List Row) (n:Nat),n+acf m<=acf l->iB n m l=ek l n m
 | [],l,n,h=>by simp [iB,ek]
 |a::m,l,n,h=>by
  simp only [M2] at h;rw [iB,ph m (l.set n a) (n+1) (by simp;omega)];unfold ek;rw [List.take_set,List.drop_set];have hn:n<(acf l):=by omega
  have h1: ¬(n+1+acf m<=n):=by omega
  rw [ol (by omega)];have:(l.take (n+1)).set n a=l.take n++[a]:=by rw [List.take_succ_eq_append_getElem hn,List.set_append_right _ _ (by simp;omega)];simp [abM (abW hn)]
  rw [this];simp only [ab5,ac5,List.nil_append,M2];rw [show n+1+acf m=n+(acf m+1) by omega]
theorem Bs {α β:Type} (f:α->β) (l m:List α) (n:Nat):(ek l n m).map f=ek (l.map f) n (m.map f):=by simp [ek,ab2,abH]
theorem xC {α:Type} (l m:List α) (n:Nat) (h:n+acf m<=acf l):(ek l n m).length=(acf l):=by simp [ek];omega
theorem HK (hE:cK s e pe) (hS:bL s ps) {esz:Nat} {x yy:dI} (h:js e s z (.append esz x yy) k ρ w=acg y):eT s ps (aU pe ps z (.append esz x yy)) k ρ w y:=by
 simp only [js] at h;have hx:=cE hE x;have L8:=cE hE yy;unfold I5 at h;generalize bm e yy=vy at h L8;cases hc:vn s vy with
 |none=>rw [hc] at h;cases h
 |some cc=>
  obtain ⟨q,m⟩:=cc;rw [hc] at h;dsimp only at h;obtain ⟨he,h⟩:=bO h;have he:=pm he;obtain ⟨wN,yx⟩:=Je hS L8 hc;rw [he] at wN;have rj:aU pe ps z (.append esz x yy)=fV ps z esz (x.ev pe) (yy.ev pe):=rfl;generalize bm e x=v at h hx;cases v with
  |nil e' c=>
   dsimp only at h;obtain ⟨ET,h⟩:=bO h;obtain ⟨m',ye,hk⟩:=bN h;obtain ⟨rfl,iC⟩:=we ye;refine ⟨_,_,?_,Good.new hS (b:= .arr q m') (q:= .arr esz (m'.map (RT.pv q))) (v:= .own (acf s) acm) (p:= .own (acf s) esz 0 (acf m') (acf m') acm) (rd:=qZ vy) (by rw [<- he];rfl) ⟨esz,acf m',rfl,.inl ⟨q,m',jx,he.symm,rfl⟩⟩,hk⟩;rw [rj];have ady:c=acl:=ET;subst ady;rw [show x.ev pe= .sl e' acl [] from hx];unfold fV;rw [wN];cases m' with
   |nil=>simp [hS.len,yx]
   |cons a m'=>
    have h2:ww ((a::m').length) jb=acl:=by simp [jb] at iC ⊢;omega
    simp only [M2] at h2;simp [hS.len,yx,h2]
  |own t ex=>
   dsimp only at h;simp only [bz] at h;generalize bw:s[t]? =b at h;cases b with
   |none=>cases h
   |some b=>
    cases b with
    |arr r l=>
     dsimp only at h;cases MQ:oo q r m with
     |none=>rw [MQ] at h;cases h
     |some m2=>
      rw [MQ] at h;dsimp only at h;obtain ⟨rfl,Z8,Cp⟩:=xt MQ;obtain ⟨e',n',hx,cm⟩:=hx;obtain ⟨rfl,rfl⟩:=cm.inv bw;rw [<- Z8] at wN;have Cy:=hS.arr bw;cases ex with
      |true=>
       dsimp only at h;rcases dz h with ⟨hl,h⟩|⟨hl,h⟩
       · obtain ⟨m',ye,hk⟩:=bN h
         obtain ⟨rfl,iC⟩:=we ye;have hl:l=[]:=by simpa using hl
         subst hl;refine ⟨_,_,?_,Good.new hS (b:= .arr q m') (q:= .arr (acf q) (m'.map (RT.pv q))) (v:= .own (acf s) acm) (p:= .own (acf s) (acf q) 0 (acf m') (acf m') acm) (rd:=t::qZ vy) rfl ⟨acf q,acf m',rfl,.inl ⟨q,m',jx,rfl,rfl⟩⟩,hk⟩;rw [rj,hx];unfold fV;rw [wN];subst he;cases m' with
         |nil=>simp [hS.len,yx]
         |cons a m'=>
          have h2:ww ((a::m').length) jb=acl:=by simp [jb] at iC ⊢;omega
          simp only [M2] at h2;simp [hS.len,yx,h2,Cy]
       have hl:l≠[]:=by intro e;subst e;cases hl
       have EV:(acf l)≠0:=by intro e;exact hl (abb.1 e)
       have hb0:ut (acf l) 0=acm:=by
        cases hb:ut (acf l) 0 with
        |false=>rfl
        |true=>exact absurd (pm hb) EV
       rcases dz h with ⟨hm,h⟩|⟨hm,h⟩
       · have hm:m2=[]:=by simpa using hm
         subst hm;refine eT.rd hS h ?_ ⟨_,_,rfl,cm⟩;rw [rj,hx];unfold fV;rw [wN];simp [hb0,yx]
       obtain ⟨l',jE,hk⟩:=bN h
       obtain ⟨rfl,iC⟩:=tq jE;refine ⟨_,_,?_,Good.new hS (b:= .arr q (l++m2)) (q:= .arr (acf q) ((l++m2).map (RT.pv q))) (v:= .own (acf s) acm) (p:= .own (acf s) (acf q) 0 (l++m2).length (l++m2).length acm) (rd:=t::qZ vy) rfl ⟨acf q,(l++m2).length,rfl,.inl ⟨q,l++m2,jx,rfl,rfl⟩⟩,hk⟩;rw [rj,hx];unfold fV;rw [wN];subst he;cases m2 with
       |nil=>cases hm
       |cons a m2=>
        have h2:ww (acf l+(a::m2).length) jb=acl:=by simp [jb] at iC ⊢;omega
        have h3:ww (acf l+(acf m2+1)) (acf l)=acm:=by
         cases hb:ww (acf l+(acf m2+1)) (acf l) with
         |false=>rfl
         |true=>have:=EQ hb;omega
        simp only [M2] at h2;simp [hS.len,yx,h2,h3,Cy,ab0]
      |false=>
       dsimp only at h;rcases dz h with ⟨hm,h⟩|⟨hm,h⟩
       · have hm:m2=[]:=by simpa using hm
         subst hm;refine eT.rd hS h ?_ ⟨_,_,rfl,cm⟩;rw [rj,hx];unfold fV;rw [wN];simp [yx]
       obtain ⟨hz,h⟩:=nY h
       obtain ⟨l',jE,hk⟩:=bN h;obtain ⟨rfl,iC⟩:=tq jE;have bI:(yf [t] (s.set t .dead)).length=(acf s):=by rw [re];simp
       refine ⟨_,_,?_,Good.put hS (b:= .dead) (q:= .dead) (l:=[.arr q (l++m2)]) (ql:=[.arr (acf q) ((l++m2).map (RT.pv q))]) (v:= .own (acf s) acm) (p:= .own (acf s) (acf q) 0 (l++m2).length (l++m2).length acm) (rd:=qZ vy) bw (.inr rfl) rfl rfl
        (fun j b hj=>by
         cases j with
         |zero=>simp at hj;subst hj;exact ⟨_,rfl,rfl⟩
         |succ j=>simp at hj)
        ⟨acf q,(l++m2).length,rfl,.inl ⟨q,l++m2,by rw [<- bI];exact jx,rfl,rfl⟩⟩,hk⟩
       rw [rj,hx];unfold fV;rw [wN];subst he;cases m2 with
       |nil=>cases hm
       |cons a m2=>
        have h2:ww (acf l+(a::m2).length) jb=acl:=by simp [jb] at iC ⊢;omega
        have h3:ww (acf l+(acf m2+1)) (acf l)=acm:=by
         cases hb:ww (acf l+(acf m2+1)) (acf l) with
         |false=>rfl
         |true=>have:=EQ hb;omega
        simp only [M2] at h2;simp [hS.len,yx,h2,h3,Cy,hz,ab0]
    |_=>cases h
  |pre t len cap ex=>
   dsimp only at h;simp only [bz] at h;generalize bw:s[t]? =b at h;cases b with
   |none=>cases h
   |some b=>
    cases b with
    |arr r l=>
     dsimp only at h;cases MQ:oo q r m with
     |none=>rw [MQ] at h;cases h
     |some m2=>
      rw [MQ] at h;dsimp only at h;obtain ⟨rfl,Z8,Cp⟩:=xt MQ;obtain ⟨e',hx,cm⟩:=hx;have:=cm.inv bw;subst this;rw [<- Z8] at wN;have Cy:=hS.arr bw;obtain ⟨hex,h⟩:=nY h;subst hex;rcases dz h with ⟨hm,h⟩|⟨hm,h⟩
      · have hm:m2=[]:=by simpa using hm
        subst hm;refine eT.rd hS h ?_ ⟨_,rfl,cm⟩;rw [rj,hx];unfold fV;rw [wN];simp [yx]
      rcases dz h with ⟨c1,h⟩|⟨c1,h⟩
      · obtain ⟨Ac,hk⟩:=fA h
        simp only [pp,aag] at Ac;obtain ⟨c2,c3⟩:=Ac;have c2':=EQ c2;refine ⟨_,_,?_,Good.put hS (b:= .arr q (ek l len m2)) (q:= .arr (acf q) ((ek l len m2).map (RT.pv q))) (l:=[]) (ql:=[]) (v:= .pre t (len+acf m2) cap acm) (p:= .own t (acf q) 0 (len+acf m2) cap acm) (rd:=qZ vy) bw (.inl ⟨_,rfl,xC _ _ _ c2'⟩) rfl rfl
         (fun j b hj=>by simp at hj) ⟨acf q,rfl,?_⟩,hk⟩
        · rw [rj,hx]
          unfold fV;rw [wN];subst he;have gq:iB (0+len) (m2.map (RT.pv q)) (l.map (RT.pv q))=(ek l len m2).map (RT.pv q):=by rw [ph _ _ _ (by simp;omega),Bs,abm]
          cases m2 with
          |nil=>cases hm
          |cons a m2=>simp only [M2] at c1;simp only [NE] at gq ⊢;simp only [Cy,aau,abR,UV,if_false,M2,aaj,c1,if_true,c3,gq,yx]
        have:=vp.fr' (s:=s) (s':=yf [t] (s.set t (.arr q (ek l len m2)))++[]) cm ((Fr.dg (ts:=[t]) (Fr.set bw (.inl ⟨_,rfl,xC _ _ _ c2'⟩))).trans (Fr.app [t] _ []))
        exact this
      obtain ⟨hz0,h⟩:=nY h
      have hz:has z t=acm:=by
       cases hh:has z t with
       |false=>rfl
       |true=>rw [hh] at hz0;cases hz0
      obtain ⟨l',jE,h⟩:=bN h;obtain ⟨vQ,hk⟩:=fA h;obtain ⟨adz,iC⟩:=tq jE;subst adz;have aiC:=EQ vQ;have Kc:(l.take len).length=len:=by rw [ab7];omega
      rw [Kc] at iC;have bI:(yf [t] (s.set t .dead)).length=(acf s):=by rw [re];simp
      have hal:(l.take len++m2).length=len+(acf m2):=by rw [List.length_append,Kc]
      refine ⟨_,_,?_,Good.put hS (b:= .dead) (q:= .dead) (l:=[.arr q (l.take len++m2)]) (ql:=[.arr (acf q) ((l.take len++m2).map (RT.pv q))]) (v:= .own (acf s) acm) (p:= .own (acf s) (acf q) 0 (l.take len++m2).length (l.take len++m2).length acm) (rd:=qZ vy) bw (.inr rfl) rfl rfl
       (fun j b hj=>by
        cases j with
        |zero=>simp at hj;subst hj;exact ⟨_,rfl,rfl⟩
        |succ j=>simp at hj)
       ⟨acf q,(l.take len++m2).length,rfl,.inl ⟨q,l.take len++m2,by rw [<- bI];exact jx,rfl,rfl⟩⟩,hk⟩
      rw [rj,hx];unfold fV;rw [wN];subst he;cases m2 with
      |nil=>cases hm
      |cons a m2=>
       have h2:ww (len+(acf m2+1)) jb=acl:=by simp [jb] at iC ⊢;omega
       simp only [M2] at c1 hal;simp only [NE,M2,aaj,Cy,aau,abR,UV,if_false,c1,h2,hz,hS.len,yx,hal,ab6,acb,ab2]
    |_=>cases h
  |_=>cases h
end
end Go.Vm
/- Operation by operation: all of them. -/
namespace Go.Vm
section
variable {R' ρ : Type} {w : R' -> ρ} {y : ρ} {s : List SB} {ps : bG} {e : SE} {pe : Env} {z : List Nat} {k : ej -> eN R'}
theorem KD (hE:cK s e pe) (hS:bL s ps) {esz:Nat} {zero:Row} {x:dI} (h:js e s z (.clear esz zero x) k ρ w=acg y):eT s ps (aU pe ps z (.clear esz zero x)) k ρ w y:=by
 simp only [js] at h;have hx:=cE hE x;unfold Mo at h;generalize bm e x=v at h hx;cases v with
 |part t off len cap ex=>
  simp only [bz] at h;generalize bw:s[t]? =b at h;cases b with
  |none=>cases h
  |some b=>
   cases b with
   |arr r l=>
    dsimp only at h;cases hq:A' zero with
    |none=>rw [hq] at h;cases h
    |some q=>
     rw [hq] at h;dsimp only at h;obtain ⟨hc,h1⟩:=bO h;simp only [pp] at hc;obtain ⟨SI,he⟩:=hc;have SI:=qv SI;have he:=pm he;obtain ⟨e',hx,cm⟩:=hx;have:=cm.inv bw;subst this;subst SI;subst he;rcases dz h1 with ⟨hl,hk⟩|⟨hl,hk⟩
     · have hl:=pm hl
       subst hl;exact eT.val hS hk (by simp only [aU,hx]) rfl
     obtain ⟨Ac,hk⟩:=fA hk
     simp only [pp,aag] at Ac;obtain ⟨c1,c2⟩:=Ac;have Z9:=EQ c1;have bI:=xC l (If len (RT.zero q)) off (by simpa using Z9);refine ⟨_,_,?_,Good.MD hS (b:= .arr q (ek l off (If len (RT.zero q)))) (q:= .arr (acf q) ((ek l off (If len (RT.zero q))).map (RT.pv q))) (rd:=[]) bw (.inl ⟨_,rfl,bI⟩) rfl,hk⟩;cases len with
     |zero=>cases hl
     |succ len=>
      have gq:iB off (If (len+1) zero) (l.map (RT.pv q))=(ek l off (If (len+1) (RT.zero q))).map (RT.pv q):=by rw [Bs,ph _ _ _ (by simpa using Z9)];simp [xz hq]
      simp only [aU,hx,hS.arr bw,aau,c2,abx,PP,if_true,gq]
   |_=>cases h
 |_=>cases h
theorem wg (hS:bL s ps) {t off len cap:Nat} {ex:Bool} {r:List PT} {l:List (RT r)} {x yy:dI} {vy:SV} (bw:s[t]? =acg (.arr r l)) (hx:x.ev pe= .own t (acf r) off len cap ex) (L8:R s vy (yy.ev pe))
 (h:Bb s z t r l off len vy k ρ w=acg y):eT s ps (aU pe ps z (.copy (acf r) x yy)) k ρ w y:=by
 unfold Bb at h;cases hc:vn s vy with
 |none=>rw [hc] at h;cases h
 |some cc=>
  obtain ⟨q,m⟩:=cc;rw [hc] at h;dsimp only at h;cases MQ:oo q r m with
  |none=>rw [MQ] at h;cases h
  |some m2=>
   rw [MQ] at h;dsimp only at h;obtain ⟨SI,Z8,Cp⟩:=xt MQ;subst SI;obtain ⟨wN,yx⟩:=Je hS L8 hc;rw [<- Z8] at wN;have Bt:(m2.map (RT.pv q)).take len=(m2.take len).map (RT.pv q):=by rw [ab2]
   generalize m2.take len=mm at h Bt;rcases dz h with ⟨hm,hk⟩|⟨hm,hk⟩
   · have hm:mm=[]:=by simpa using hm
     subst hm;refine eT.rd hS hk ?_ rfl;simp only [aU,wN,hx,Bt,abY,yx]
   obtain ⟨Ac,hk⟩:=fA hk
   simp only [pp,aag] at Ac;obtain ⟨c1,c2⟩:=Ac;have Z9:=EQ c1;have bI:=xC l mm off Z9;refine ⟨_,_,?_,Good.put hS (b:= .arr q (ek l off mm)) (q:= .arr (acf q) ((ek l off mm).map (RT.pv q))) (l:=[]) (ql:=[]) (v:= .int .i64 (.ofNat (acf mm))) (p:= .int .i64 (.ofNat (acf mm))) (rd:=qZ vy) bw (.inl ⟨_,rfl,bI⟩) rfl rfl (fun j b hj=>by simp at hj) rfl,hk⟩;have gq:iB off (mm.map (RT.pv q)) (l.map (RT.pv q))=(ek l off mm).map (RT.pv q):=by rw [Bs,ph _ _ _ (by simpa using Z9)]
   cases mm with
   |nil=>cases hm
   |cons a mm=>simp only [NE] at gq Bt;simp only [aU,wN,hx,Bt,hS.arr bw,aau,c2,abx,PP,if_true,gq,yx,aaj,M2]
theorem MR (hE:cK s e pe) (hS:bL s ps) {esz:Nat} {x yy:dI} (h:js e s z (.copy esz x yy) k ρ w=acg y):eT s ps (aU pe ps z (.copy esz x yy)) k ρ w y:=by
 simp only [js] at h;have hx:=cE hE x;have L8:=cE hE yy;unfold SC at h;generalize bm e yy=vy at h L8;generalize bm e x=v at h hx;cases v with
 |own t ex=>
  simp only [bz] at h;generalize bw:s[t]? =b at h;cases b with
  |none=>cases h
  |some b=>
   cases b with
   |arr r l=>obtain ⟨he,hk⟩:=bO h;have he:=pm he;subst he;obtain ⟨e',n',hx,cm⟩:=hx;obtain ⟨rfl,rfl⟩:=cm.inv bw;exact wg hS bw hx L8 hk
   |_=>cases h
 |pre t len cap ex=>
  simp only [bz] at h;generalize bw:s[t]? =b at h;cases b with
  |none=>cases h
  |some b=>
   cases b with
   |arr r l=>obtain ⟨he,hk⟩:=bO h;have he:=pm he;subst he;obtain ⟨e',hx,cm⟩:=hx;have:=cm.inv bw;subst this;exact wg hS bw hx L8 hk
   |_=>cases h
 |part t off len cap ex=>
  simp only [bz] at h;generalize bw:s[t]? =b at h;cases b with
  |none=>cases h
  |some b=>
   cases b with
   |arr r l=>obtain ⟨he,hk⟩:=bO h;have he:=pm he;subst he;obtain ⟨e',hx,cm⟩:=hx;have:=cm.inv bw;subst this;exact wg hS bw hx L8 hk
   |_=>cases h
 |_=>cases h
theorem KE (hE:cK s e pe) (hS:bL s ps) {x1 x2:dI} (h:js e s z (.zl x1 x2) k ρ w=acg y):eT s ps (aU pe ps z (.zl x1 x2)) k ρ w y:=by
 simp only [js] at h;have hx:=cE hE x1;have hy:=cE hE x2;generalize bm e x1=v at h hx;generalize bm e x2=u at h hy;cases v with
 |sl r l=>
  cases u with
  |sl q m=>have hx:x1.ev pe= .sl (acf r) acm (l.map (RT.pv r)):=hx;have hy:x2.ev pe= .sl (acf q) acm (m.map (RT.pv q)):=hy;refine ⟨_,_,?_,Good.new hS (b:= .box [.sl r l,.sl q m]) (q:= .box [.sl (acf r) acm (l.map (RT.pv r)),.sl (acf q) acm (m.map (RT.pv q))]) (v:= .part (acf s) 0 2 2 acl) (p:= .own (acf s) 1 0 2 2 acl) (rd:=[]) ⟨_,rfl,_,_,rfl,rfl,_,_,rfl,rfl,rfl⟩ ⟨1,rfl,.inr (.inr ⟨_,jx,rfl⟩)⟩,h⟩;simp only [aU,hx,hy,hS.len];rfl
  |_=>cases h
 |_=>cases h
theorem Pk (hE:cK s e pe) (hS:bL s ps) {op:iw} (h:js e s z op k ρ w=acg y):eT s ps (aU pe ps z op) k ρ w y:=by
 cases op with
 |Lc x=>exact eT.val hS h rfl (cE hE x)
 |pick c a b=>exact MJ hE hS h
 |bin op a b=>exact O7 hE hS h
 |E0 n a b=>exact ME hE hS h
 |R3 n g a b=>exact O8 hE hS h
 |un op a=>exact TS hE hS h
 |conv a x=>exact MG hE hS h
 |len x=>exact O9 hE hS h
 |G0 n=>exact eT.val hS h rfl rfl
 |box x=>exact Pa hE hS h
 |alloc c=>exact Kz hS h
 |build z p=>exact Ky hE hS h
 |wR a b c d=>exact KC hE hS h
 |zl a b=>exact KE hE hS h
 |load a p=>exact MM hE hS h
 |store a p x=>exact KB hE hS h
 |E1 x=>exact MH hE hS h
 |E2 o x=>exact MI hE hS h
 |qL a o x=>exact Pb hE hS h
 |E3 a x i=>exact MK hE hS h
 |zm n a x i=>exact KA hE hS h
 |idx n a g x i=>exact Pg hE hS h
 |E4 x i=>exact ML hE hS h
 |JN a x l h' m=>exact Ph hE hS h
 |R4 a z l c=>exact Pj hE hS h
 |R5 f a b=>exact Pd hE hS h
 |R6 m=>exact Pe hS h
 |lookup n z o m q=>exact HJ hE hS h
 |DG n m q x=>exact MO hE hS h
 |ext i x=>exact Pc hE hS h
 |append a x b=>exact HK hE hS h
 |copy a x b=>exact MR hE hS h
 |clear a z x=>exact KD hE hS h
 |mm m x xs=>exact TU hE hS h
 |call m f a=>cases h
 |rY x a=>cases h
 |bad=>cases h
mutual
theorem Z' {bx:Nat->Option (List SV)} {MS:Nat->Option (List PV)} (hS:bL s ps) (hb: ∀t l,bx t=acg l-> ∃q,MS t=acg q/\lx l=acg q): ∀{v u:SV} {p:PV},R s v p->C3 s bx v=acg u-> ∃q,yi ps MS p=acg q/\nB u=acg q
 | .int k n,u,p,h,hx=>by injection hx with hx;subst hx;rw [show p=_ from h];exact ⟨_,rfl,rfl⟩
 | .bool b,u,p,h,hx=>by injection hx with hx;subst hx;rw [show p=_ from h];exact ⟨_,rfl,rfl⟩
 | .str x,u,p,h,hx=>by injection hx with hx;subst hx;rw [show p=_ from h];exact ⟨_,rfl,rfl⟩
 | .cL,u,p,h,hx=>by injection hx with hx;subst hx;rw [show p=_ from h];exact ⟨_,rfl,rfl⟩
 | .agg cs,u,p,h,hx=>by
  obtain ⟨q,rfl,h⟩:=h;simp only [C3] at hx;split at hx
  · rename_i l hl
    injection hx with hx;subst hx;obtain ⟨q',h1,h2⟩:=pQ hS hb h hl;exact ⟨.agg q',by simp only [yi,h1];rfl,by simp only [nB,h2]⟩
  cases hx
 | .bH cs,u,p,h,hx=>by
  obtain ⟨q,rfl,h⟩:=h;simp only [C3] at hx;split at hx
  · rename_i l hl
    injection hx with hx;subst hx;obtain ⟨q',h1,h2⟩:=pQ hS hb h hl;exact ⟨.bH q',by simp only [yi,h1];rfl,by simp only [nB,h2]⟩
  cases hx
 | .sl r l,u,p,h,hx=>by injection hx with hx;subst hx;rw [show p=_ from h];exact ⟨_,rfl,rfl⟩
 | .nil e c,u,p,h,hx=>by injection hx with hx;subst hx;rw [show p=_ from h];exact ⟨_,rfl,rfl⟩
 | .own t ex,u,p,h,hx=>by
  simp only [C3,bz] at hx;split at hx
  · rename_i r l bw
    injection hx with hx;subst hx;obtain ⟨e,n,rfl,cm⟩:=h;obtain ⟨rfl,rfl⟩:=cm.inv bw;refine ⟨.sl (acf r) acm (l.map (RT.pv r)),?_,rfl⟩;simp only [yi,hS.arr bw,ab6];rw [ab0 (by simp)]
  cases hx
 | .pre t len cap ex,u,p,h,hx=>by
  simp only [C3,bz] at hx;split at hx
  · rename_i r l bw
    injection hx with hx;subst hx;obtain ⟨e,rfl,cm⟩:=h;have:=cm.inv bw;subst this;refine ⟨.sl (acf r) acm ((l.take len).map (RT.pv r)),?_,rfl⟩;simp only [yi,hS.arr bw,ab6,ab2]
  cases hx
 | .part t off len cap ex,u,p,h,hx=>by
  simp only [C3,bz] at hx;split at hx
  · rename_i r l bw
    injection hx with hx;subst hx;obtain ⟨e,rfl,cm⟩:=h;have:=cm.inv bw;subst this;refine ⟨.sl (acf r) acm (((l.drop off).take len).map (RT.pv r)),?_,rfl⟩;simp only [yi,hS.arr bw,ab2,abH]
  cases hx
 | .pa t r i a off,u,p,h,hx=>by
  simp only [C3,bz] at hx;split at hx
  · rename_i q l bw
    injection hx with hx;subst hx;obtain ⟨rfl,cm⟩:=h;obtain ⟨rfl,hg⟩:=cm.inv bw;obtain ⟨m,rfl,hm⟩:=jZ hg;refine ⟨.aW (RT.pv r a) off,?_,by simp only [nB,RT.C6]⟩;have ye:(l.map (RT.pv r))[m]? =acg (RT.pv r a):=by simp [hm]
    have e1:(ab1 m).toNat=m:=rfl;simp only [yi,hS.arr bw,e1,ye];rfl
  cases hx
 | .bp t n off,u,p,h,hx=>by
  simp only [C3,bz] at hx;split at hx
  · rename_i cs bw
    split at hx
    · rename_i l hl
      injection hx with hx;subst hx;rw [show p=_ from h];obtain ⟨q,h1,h2⟩:=hb t l hl;obtain ⟨c,h3,_⟩:=hS.box bw;refine ⟨.aW q off,?_,by simp only [nB,h2]⟩;simp only [yi,h3,aau,if_true,h1];rfl
    cases hx
  cases hx
 | .aW cs off,u,p,h,hx=>by
  obtain ⟨q,rfl,h⟩:=h;simp only [C3] at hx;split at hx
  · rename_i l hl
    injection hx with hx;subst hx;obtain ⟨q',h1,h2⟩:=pQ hS hb h hl;exact ⟨.aW q' off,by simp only [yi,h1];rfl,by simp only [nB,h2]⟩
  cases hx
 | .di f a b,u,p,h,hx=>by
  obtain ⟨pa,pb,rfl,h1,h2⟩:=h;simp only [C3] at hx;split at hx
  · rename_i x y' h3 h4
    injection hx with hx;subst hx;obtain ⟨qa,h5,h6⟩:=pQ hS hb h1 h3;obtain ⟨qb,h7,h8⟩:=pQ hS hb h2 h4;exact ⟨.di f qa qb,by simp only [yi,h5,h7],by simp only [nB,h6,h8]⟩
  cases hx
 | .fi,_,_,_,hx| .undef,_,_,_,hx| .gJ,_,_,_,hx| .pb _ _ _,_,_,_,hx| .mp _,_,_,_,hx=>by cases hx
theorem pQ {bx:Nat->Option (List SV)} {MS:Nat->Option (List PV)} (hS:bL s ps) (hb: ∀t l,bx t=acg l-> ∃q,MS t=acg q/\lx l=acg q): ∀{v u:List SV} {p:List PV},RL s v p->oq s bx v=acg u-> ∃q,yj ps MS p=acg q/\lx u=acg q
 | [],u,p,h,hx=>by injection hx with hx;subst hx;rw [show p=_ from h];exact ⟨_,rfl,rfl⟩
 |x::xs,u,p,h,hx=>by
  obtain ⟨q,qs,rfl,h1,h2⟩:=h.cons_inv;simp only [oq] at hx;split at hx
  · rename_i y' ys h3 h4
    injection hx with hx;subst hx;obtain ⟨a,h5,h6⟩:=Z' hS hb h1 h3;obtain ⟨as,h7,h8⟩:=pQ hS hb h2 h4;exact ⟨a::as,by simp only [yj,h5,h7],cY.2 ⟨a,as,rfl,h6,h8⟩⟩
  cases hx
end
theorem Aj (hS:bL s ps): ∀(n t:Nat) (l:List SV),ic s n t=acg l-> ∃q,sO ps n t=acg q/\lx l=acg q
 |0,t,l,h=>by cases h
 |n+1,t,l,h=>by
  simp only [ic,bz] at h;split at h
  · rename_i cs bw
    obtain ⟨q,h1,h2⟩:=hS.box bw;obtain ⟨u,h3,h4⟩:=pQ hS (Aj hS n) h2 h;exact ⟨u,by simp only [sO,h1,h3],h4⟩
  cases h
mutual
theorem MT {bx MS:Nat->List Nat} (hb: ∀t,bx t=MS t): ∀{v:SV} {p:PV},R s v p->v.sure=acl->Hy bx v=gm MS p
 | .fi,_,_,h=>by cases h
 | .undef,p,h,_| .gJ,p,h,_| .cL,p,h,_| .int _ _,p,h,_| .bool _,p,h,_| .str _,p,h,_| .sl _ _,p,h,_| .nil _ _,p,h,_=>by rw [show p=_ from h];rfl
 | .agg cs,p,h,hs=>by obtain ⟨q,rfl,h⟩:=h;exact wj hb h hs
 | .bH cs,p,h,hs=>by obtain ⟨q,rfl,h⟩:=h;exact wj hb h hs
 | .own t ex,p,h,_=>by obtain ⟨e,n,rfl,_⟩:=h;rfl
 | .pre t a b c,p,h,_=>by obtain ⟨e,rfl,_⟩:=h;rfl
 | .part t o a b c,p,h,_=>by obtain ⟨e,rfl,_⟩:=h;rfl
 | .pa t r i a o,p,h,_=>by obtain ⟨rfl,_⟩:=h;simp only [Hy,gm,hb]
 | .pb t i o,p,h,_=>by obtain ⟨e,rfl,_⟩:=h;simp only [Hy,gm,hb]
 | .bp t n o,p,h,_=>by rw [show p=_ from h];simp only [Hy,gm,hb]
 | .aW cs o,p,h,hs=>by obtain ⟨q,rfl,h⟩:=h;exact wj hb h hs
 | .mp t,p,h,_=>by rw [show p=_ from h];rfl
 | .di f a b,p,h,hs=>by obtain ⟨pa,pb,rfl,h1,h2⟩:=h;simp only [SV.sure,pp] at hs;simp only [Hy,gm,wj hb h1 hs.1,wj hb h2 hs.2]
theorem wj {bx MS:Nat->List Nat} (hb: ∀t,bx t=MS t): ∀{v:List SV} {p:List PV},RL s v p->jq v=acl->nN bx v=ck MS p
 | [],p,h,_=>by rw [show p=_ from h];rfl
 |x::xs,p,h,hs=>by obtain ⟨q,qs,rfl,h1,h2⟩:=h.cons_inv;simp only [jq,pp] at hs;simp only [nN,ck,MT hb h1 hs.1,wj hb h2 hs.2]
end
end
end Go.Vm
/- The head of a loop: what the typed machine keeps there, the logical machine keeps there. -/
namespace Go.Vm
section
variable {s : List SB} {ps : bG}
mutual
theorem aaa {n:Nat} (hS:bL s ps) (hB: ∀t l,ic s n t=acg l->sJ s n t=bW ps n t): ∀{v u:SV} {p:PV},R s v p->C3 s (ic s n) v=acg u->Hy (sJ s n) v=gm (bW ps n) p
 | .int _ _,_,p,h,_| .bool _,_,p,h,_| .str _,_,p,h,_| .cL,_,p,h,_| .sl _ _,_,p,h,_| .nil _ _,_,p,h,_=>by rw [show p=_ from h];rfl
 | .agg cs,u,p,h,hx=>by
  obtain ⟨q,rfl,h⟩:=h;simp only [C3] at hx;split at hx
  · rename_i l hl;exact vq hS hB h hl
  cases hx
 | .bH cs,u,p,h,hx=>by
  obtain ⟨q,rfl,h⟩:=h;simp only [C3] at hx;split at hx
  · rename_i l hl;exact vq hS hB h hl
  cases hx
 | .own t ex,_,p,h,_=>by obtain ⟨e,n,rfl,_⟩:=h;rfl
 | .pre t a b c,_,p,h,_=>by obtain ⟨e,rfl,_⟩:=h;rfl
 | .part t o a b c,_,p,h,_=>by obtain ⟨e,rfl,_⟩:=h;rfl
 | .pa t r i a o,_,p,h,hx=>by
  obtain ⟨rfl,cm⟩:=h;simp only [C3,bz] at hx;split at hx
  · rename_i q l bw
    simp only [Hy,gm];cases n with
    |zero=>rfl
    |succ n=>simp only [sJ,bW,bz,bw,hS.arr bw]
  cases hx
 | .bp t m o,u,p,h,hx=>by
  rw [show p=_ from h];simp only [C3,bz] at hx;split at hx
  · split at hx
    · rename_i l hl
      simp only [Hy,gm,hB t l hl]
    cases hx
  cases hx
 | .aW cs o,u,p,h,hx=>by
  obtain ⟨q,rfl,h⟩:=h;simp only [C3] at hx;split at hx
  · rename_i l hl;exact vq hS hB h hl
  cases hx
 | .di f a b,u,p,h,hx=>by
  obtain ⟨pa,pb,rfl,h1,h2⟩:=h;simp only [C3] at hx;split at hx
  · rename_i x y h3 h4
    simp only [Hy,gm,vq hS hB h1 h3,vq hS hB h2 h4]
  cases hx
 | .fi,_,_,_,hx| .undef,_,_,_,hx| .gJ,_,_,_,hx| .pb _ _ _,_,_,_,hx| .mp _,_,_,_,hx=>by cases hx
theorem vq {n:Nat} (hS:bL s ps) (hB: ∀t l,ic s n t=acg l->sJ s n t=bW ps n t): ∀{v u:List SV} {p:List PV},RL s v p->oq s (ic s n) v=acg u->nN (sJ s n) v=ck (bW ps n) p
 | [],_,p,h,_=>by rw [show p=_ from h];rfl
 |x::xs,u,p,h,hx=>by
  obtain ⟨q,qs,rfl,h1,h2⟩:=h.cons_inv;simp only [oq] at hx;split at hx
  · rename_i a b h3 h4
    simp only [nN,ck,aaa hS hB h1 h3,vq hS hB h2 h4]
  cases hx
end
theorem MU {n:Nat} (hS:bL s ps) (hB: ∀t l,ic s n t=acg l->sJ s n t=bW ps n t): ∀{v:List SV} {p:List PV},RL s v p->Hx s (ic s n) v=acl->nN (sJ s n) v=ck (bW ps n) p
 | [],p,h,_=>by rw [show p=[] from h];rfl
 |x::xs,p,h,hx=>by
  obtain ⟨a,as,rfl,h1,h2⟩:=h.cons_inv;have other: ∀u,C3 s (ic s n) x=acg u->Hx s (ic s n) xs=acl->nN (sJ s n) (x::xs)=ck (bW ps n) (a::as):=fun u h3 h4=>by simp only [nN,ck,aaa hS hB h1 h3,MU hS hB h2 h4]
  unfold Hx at hx;split at hx
  · rename_i t
    rw [show a= .mp t from h1];simp only [nN,ck,Hy,gm,MU hS hB h2 hx]
  split at hx
  · rename_i u h3
    exact other u h3 hx
  cases hx
theorem Bu (hS:bL s ps): ∀(n t:Nat) (l:List SV),ic s n t=acg l->sJ s n t=bW ps n t
 |0,t,l,h=>rfl
 |n+1,t,l,h=>by
  simp only [ic,bz] at h;split at h
  · rename_i cs bw
    obtain ⟨q,h1,h2⟩:=hS.box bw;simp only [sJ,bW,bz,bw,h1];exact vq hS (Bu hS n) h2 h
  cases h
theorem Eg {b:SB} {q:gY} (h:RB s b q) (hs:uw b=acl):Bc b=nF q:=by
 cases b with
 |box cs=>obtain ⟨c,rfl,h⟩:=h;exact wj (fun _=>rfl) h hs
 |arr r l=>rw [show q=_ from h];rfl
 |set l=>rw [show q=_ from h];rfl
 |bB p l=>rw [show q=_ from h];rfl
 |dead=>rw [show q=_ from h];rfl
theorem Bv (hS:bL s ps): ∀(n:Nat) (ts seen m:List Nat),yK s n ts seen=acg m->reach ps n ts seen=acg m
 |n,[],seen,m,h=>by cases n<;>(simp only [yK] at h;exact h)
 |0,_::_,_,_,h=>by cases h
 |n+1,t::ts,seen,m,h=>by
  simp only [yK,bz] at h;simp only [reach];cases hh:has seen t with
  |true=>rw [hh] at h;simp only [ls] at h;simp only [if_true];exact Bv hS n ts seen m h
  |false=>
   rw [hh] at h;simp only [lw] at h;simp only [UV,if_false];split at h
   · rename_i b bw
     obtain ⟨q,h1,h2⟩:=hS.at_ t b bw;cases hb:uw b with
     |false=>rw [hb] at h;cases h
     |true=>rw [hb] at h;simp only [ls] at h;rw [h1,Eg h2 hb] at*;exact Bv hS n _ _ m h
   cases h
theorem Bw: ∀{t u:Nat} {m:List Nat},mI t m=acg u->m[u]? =acg t
 |t,u,[],h=>by cases h
 |t,u,x::m,h=>by
  simp only [mI] at h;cases hb:ut x t with
  |true=>rw [hb] at h;simp at h;subst h;simp [pm hb]
  |false=>rw [hb] at h;simp only [UV,if_false,ab4] at h;obtain ⟨v,hv,rfl⟩:=h;simpa using Bw hv
def Bx (m:List Nat) (s s':List SB):Prop:= ∀(t u:Nat) (b:SB),mI t m=acg u->s[t]? =acg b->match b with
 | .arr r l=>s'[u]? =acg (.arr r l)
 | .dead=>s'[u]? =acg .dead
 | .box _=> ∃cs,s'[u]? =acg (.box cs)
 |_=>True
mutual
theorem MV {m:List Nat} {s':List SB} (hr:Bx m s s'): ∀{v u:SV} {p:PV},R s v p->mR m v=acg u-> ∃q,wS m p=acg q/\R s' u q
 | .fi,_,_,_,hx=>by cases hx
 | .undef,u,p,h,hx| .gJ,u,p,h,hx| .cL,u,p,h,hx| .int _ _,u,p,h,hx| .bool _,u,p,h,hx| .str _,u,p,h,hx| .sl _ _,u,p,h,hx| .nil _ _,u,p,h,hx=>by injection hx with hx;subst hx;rw [show p=_ from h];exact ⟨_,rfl,rfl⟩
 | .agg cs,u,p,h,hx=>by
  obtain ⟨q,rfl,h⟩:=h;simp only [mR] at hx;split at hx
  · rename_i l hl
    injection hx with hx;subst hx;obtain ⟨q',h1,h2⟩:=pj hr h hl;exact ⟨.agg q',by simp only [wS,h1];rfl,q',rfl,h2⟩
  cases hx
 | .bH cs,u,p,h,hx=>by
  obtain ⟨q,rfl,h⟩:=h;simp only [mR] at hx;split at hx
  · rename_i l hl
    injection hx with hx;subst hx;obtain ⟨q',h1,h2⟩:=pj hr h hl;exact ⟨.bH q',by simp only [wS,h1];rfl,q',rfl,h2⟩
  cases hx
 | .own t ex,u,p,h,hx=>by
  obtain ⟨e,n,rfl,cm⟩:=h;simp only [mR] at hx;split at hx
  · rename_i v hv
    injection hx with hx;subst hx;refine ⟨.own v e 0 n n ex,by simp only [wS,hv];rfl,e,n,rfl,?_⟩;rcases cm with ⟨r,l,h1,h2,h3⟩|h1
    · exact .inl ⟨r,l,hr t v _ hv h1,h2,h3⟩
    exact .inr (hr t v _ hv h1)
  cases hx
 | .pre t len cap ex,u,p,h,hx=>by
  obtain ⟨e,rfl,cm⟩:=h;simp only [mR] at hx;split at hx
  · rename_i v hv
    injection hx with hx;subst hx;refine ⟨.own v e 0 len cap ex,by simp only [wS,hv];rfl,e,rfl,?_⟩;rcases cm with ⟨r,l,h1,h2⟩|h1|⟨cs,h1,h2⟩
    · exact .inl ⟨r,l,hr t v _ hv h1,h2⟩
    · exact .inr (.inl (hr t v _ hv h1))
    obtain ⟨c2,h3⟩:=hr t v _ hv h1
    exact .inr (.inr ⟨c2,h3,h2⟩)
  cases hx
 | .part t off len cap ex,u,p,h,hx=>by
  obtain ⟨e,rfl,cm⟩:=h;simp only [mR] at hx;split at hx
  · rename_i v hv
    injection hx with hx;subst hx;refine ⟨.own v e off len cap ex,by simp only [wS,hv];rfl,e,rfl,?_⟩;rcases cm with ⟨r,l,h1,h2⟩|h1|⟨cs,h1,h2⟩
    · exact .inl ⟨r,l,hr t v _ hv h1,h2⟩
    · exact .inr (.inl (hr t v _ hv h1))
    obtain ⟨c2,h3⟩:=hr t v _ hv h1
    exact .inr (.inr ⟨c2,h3,h2⟩)
  cases hx
 | .pa t r i a off,u,p,h,hx=>by
  obtain ⟨rfl,cm⟩:=h;simp only [mR] at hx;split at hx
  · rename_i v hv
    injection hx with hx;subst hx;refine ⟨.ptr v (acf r) i.toNat off,by simp only [wS,hv];rfl,acf r,rfl,?_⟩;rcases cm with ⟨l,h1,h2⟩|h1
    · exact .inl ⟨r,l,hr t v _ hv h1,by rw [h2];rfl⟩
    exact .inr (hr t v _ hv h1)
  cases hx
 | .pb t i off,u,p,h,hx=>by
  obtain ⟨e,rfl,cm⟩:=h;simp only [mR] at hx;split at hx
  · rename_i v hv
    injection hx with hx;subst hx;refine ⟨.ptr v e i.toNat off,by simp only [wS,hv];rfl,e,rfl,?_⟩;rcases cm with ⟨r,l,h1,h2⟩|h1
    · exact .inl ⟨r,l,hr t v _ hv h1,h2⟩
    exact .inr (hr t v _ hv h1)
  cases hx
 | .bp t n off,u,p,h,hx=>by
  rw [show p=_ from h];simp only [mR] at hx;split at hx
  · rename_i v hv
    injection hx with hx;subst hx;exact ⟨.ptr v n 0 off,by simp only [wS,hv];rfl,rfl⟩
  cases hx
 | .aW cs off,u,p,h,hx=>by
  obtain ⟨q,rfl,h⟩:=h;simp only [mR] at hx;split at hx
  · rename_i l hl
    injection hx with hx;subst hx;obtain ⟨q',h1,h2⟩:=pj hr h hl;exact ⟨.aW q' off,by simp only [wS,h1];rfl,q',rfl,h2⟩
  cases hx
 | .mp t,u,p,h,hx=>by
  rw [show p=_ from h];simp only [mR] at hx;split at hx
  · rename_i v hv
    injection hx with hx;subst hx;exact ⟨.mp v,by simp only [wS,hv];rfl,rfl⟩
  cases hx
 | .di f a b,u,p,h,hx=>by
  obtain ⟨pa,pb,rfl,h1,h2⟩:=h;simp only [mR] at hx;split at hx
  · rename_i x y h3 h4
    injection hx with hx;subst hx;obtain ⟨qa,h5,h6⟩:=pj hr h1 h3;obtain ⟨qb,h7,h8⟩:=pj hr h2 h4;exact ⟨.di f qa qb,by simp only [wS,h5,h7],qa,qb,rfl,h6,h8⟩
  cases hx
theorem pj {m:List Nat} {s':List SB} (hr:Bx m s s'): ∀{v u:List SV} {p:List PV},RL s v p->pd m v=acg u-> ∃q,uU m p=acg q/\RL s' u q
 | [],u,p,h,hx=>by injection hx with hx;subst hx;rw [show p=_ from h];exact ⟨_,rfl,rfl⟩
 |x::xs,u,p,h,hx=>by
  obtain ⟨q,qs,rfl,h1,h2⟩:=h.cons_inv;simp only [pd] at hx;split at hx
  · rename_i a b h3 h4
    injection hx with hx;subst hx;obtain ⟨a',h5,h6⟩:=MV hr h1 h3;obtain ⟨b',h7,h8⟩:=pj hr h2 h4;exact ⟨a'::b',by simp only [uU,h5,h7],RL.cons h6 h8⟩
  cases hx
end
theorem TV {m:List Nat} {s':List SB} (hr:Bx m s s') {b c:SB} {q:gY} (h:RB s b q) (hx:HA m b=acg c): ∃q',kv m q=acg q'/\RB s' c q':=by
 cases b with
 |box cs=>
  obtain ⟨p,rfl,h⟩:=h;simp only [HA] at hx;split at hx
  · rename_i l hl
    injection hx with hx;subst hx;obtain ⟨q',h1,h2⟩:=pj hr h hl;exact ⟨.box q',by simp only [kv,h1];rfl,q',rfl,h2⟩
  cases hx
 |arr r l=>injection hx with hx;subst hx;rw [show q=_ from h];exact ⟨_,rfl,rfl⟩
 |set l=>injection hx with hx;subst hx;rw [show q=_ from h];exact ⟨_,rfl,rfl⟩
 |bB p l=>injection hx with hx;subst hx;rw [show q=_ from h];exact ⟨_,rfl,rfl⟩
 |dead=>injection hx with hx;subst hx;rw [show q=_ from h];exact ⟨_,rfl,rfl⟩
theorem tu {m:List Nat}: ∀{ts:List Nat} {s1:List SB},CA s m ts=acg s1->acf s1=acf ts/\ ∀(j t:Nat),ts[j]? =acg t-> ∃b c,s[t]? =acg b/\HA m b=acg c/\s1[j]? =acg c
 | [],s1,h=>by injection h with h;subst h;exact ⟨rfl,fun j t h=>by simp at h⟩
 |t::ts,s1,h=>by
  simp only [CA,bz] at h;split at h
  · rename_i b hb
    split at h
    · rename_i c r hc hr
      injection h with h;subst h;obtain ⟨h1,h2⟩:=tu hr;refine ⟨by simp [h1],fun j u hj=>?_⟩;cases j with
      |zero=>simp at hj;subst hj;exact ⟨b,c,hb,hc,rfl⟩
      |succ j=>simpa using h2 j u (by simpa using hj)
    cases h
  cases h
theorem yP (hS:bL s ps) {m:List Nat} {s':List SB} (hr:Bx m s s'): ∀{ts:List Nat} {s1:List SB},CA s m ts=acg s1-> ∃p1,sQ ps m ts=acg p1/\acf p1=acf s1/\ ∀(j:Nat) (b:SB),s1[j]? =acg b-> ∃q,p1[j]? =acg q/\RB s' b q
 | [],s1,h=>by injection h with h;subst h;exact ⟨[],rfl,rfl,fun j b h=>by simp at h⟩
 |t::ts,s1,h=>by
  simp only [CA,bz] at h;split at h
  · rename_i b hb
    split at h
    · rename_i c r hc TW
      injection h with h;subst h;obtain ⟨q,h1,h2⟩:=hS.at_ t b hb;obtain ⟨q',h3,h4⟩:=TV hr h2 hc;obtain ⟨p1,h5,h6,h7⟩:=yP hS hr TW;refine ⟨q'::p1,by simp only [sQ,h1,h3,h5],by simp [h6],fun j x hj=>?_⟩;cases j with
      |zero=>simp at hj;subst hj;exact ⟨q',rfl,h4⟩
      |succ j=>simpa using h7 j x (by simpa using hj)
    cases h
  cases h
theorem Bx.of {m:List Nat} {s1 l:List SB} (h:CA s m m=acg s1):Bx m s (s1++l):=fun t u b hu hb=>by
 have hm:=Bw hu;obtain ⟨h1,h2⟩:=tu h;obtain ⟨b',c,h3,h4,h5⟩:=h2 u t hm;rw [hb] at h3;injection h3 with h3;subst h3;have dA:=(v4.1 h5).1;cases b with
 |arr r l'=>injection h4 with h4;subst h4;rw [rc dA];exact h5
 |dead=>injection h4 with h4;subst h4;rw [rc dA];exact h5
 |box cs=>
  simp only [HA] at h4;split at h4
  · injection h4 with h4;subst h4;exact ⟨_,by rw [rc dA];exact h5⟩
  cases h4
 |_=>trivial
theorem qy: ∀(rk:List (Nat×List PT)) (n:Nat),(rowOf rk n).length=n
 | [],n=>by simp [rowOf]
 |(m,r)::q,n=>by
  simp only [rowOf];cases hc:(ut m n&&ut (acf r) n) with
  |true=>simp only [pp] at hc;exact pm hc.2
  |false=>exact qy q n
theorem yQ {rk:List (Nat×List PT)} {e:SE} {m:List Nat}: ∀{live:List (Nat×Option Nat)} {nx:Nat} {e1:SE} {s2:List SB},sx rk e m nx live=acg (e1,s2)-> ∀(j:Nat) (b:SB),s2[j]? =acg b-> ∃r,b= .arr r []
 | [],nx,e1,s2,h,j,b,hj=>by simp only [sx,wn,IR] at h;rw [<- h.2] at hj;simp at hj
 |(t,k)::live,nx,e1,s2,h,j,b,hj=>by
  simp only [sx] at h;split at h
  · split at h
    · rename_i p hp
      simp only [wn,IR] at h;obtain ⟨rfl,rfl⟩:=h;cases j with
      |zero=>simp at hj;exact ⟨_,hj.symm⟩
      |succ j=>exact yQ (e1:=p.1) (s2:=p.2) hp j b (by simpa using hj)
    cases h
  split at h
  · rename_i v' p hv hp
    simp only [wn,IR] at h;obtain ⟨rfl,rfl⟩:=h;exact yQ (e1:=p.1) (s2:=p.2) hp j b hj
  cases h
mutual
theorem yR {m:List Nat}: ∀{v u:SV},mR m v=acg u->u.sure=acl
 | .fi,_,h=>by cases h
 | .undef,u,h| .gJ,u,h| .cL,u,h| .int _ _,u,h| .bool _,u,h| .str _,u,h| .sl _ _,u,h| .nil _ _,u,h=>by injection h with h;subst h;rfl
 | .agg cs,u,h=>by
  simp only [mR] at h;split at h
  · rename_i l hl;injection h with h;subst h;exact jL hl
  cases h
 | .bH cs,u,h=>by
  simp only [mR] at h;split at h
  · rename_i l hl;injection h with h;subst h;exact jL hl
  cases h
 | .aW cs _,u,h=>by
  simp only [mR] at h;split at h
  · rename_i l hl;injection h with h;subst h;exact jL hl
  cases h
 | .own _ _,u,h=>by simp only [mR] at h;split at h<;>first|(injection h with h;subst h;rfl)|cases h
 | .pre _ _ _ _,u,h=>by simp only [mR] at h;split at h<;>first|(injection h with h;subst h;rfl)|cases h
 | .part _ _ _ _ _,u,h=>by simp only [mR] at h;split at h<;>first|(injection h with h;subst h;rfl)|cases h
 | .pa _ _ _ _ _,u,h=>by simp only [mR] at h;split at h<;>first|(injection h with h;subst h;rfl)|cases h
 | .pb _ _ _,u,h=>by simp only [mR] at h;split at h<;>first|(injection h with h;subst h;rfl)|cases h
 | .bp _ _ _,u,h=>by simp only [mR] at h;split at h<;>first|(injection h with h;subst h;rfl)|cases h
 | .mp _,u,h=>by simp only [mR] at h;split at h<;>first|(injection h with h;subst h;rfl)|cases h
 | .di f a b,u,h=>by
  simp only [mR] at h;split at h
  · rename_i x y h1 h2
    injection h with h;subst h;simp only [SV.sure,jL h1,jL h2,PP]
  cases h
theorem jL {m:List Nat}: ∀{v u:List SV},pd m v=acg u->jq u=acl
 | [],u,h=>by injection h with h;subst h;rfl
 |x::xs,u,h=>by
  simp only [pd] at h;split at h
  · rename_i a b h1 h2
    injection h with h;subst h;simp only [jq,yR h1,jL h2,PP]
  cases h
end
theorem Pm {s:List SB} {v:SV} {p:PV} (h:R s v p): ∀k:Option Nat,v.sure=acl->R s (D' k v) (CO k p)
 |none,_=>h
 |some _,hs=>by
  cases v with
  |own t ex=>obtain ⟨e,n,rfl,h⟩:=h;exact ⟨e,n,rfl,h⟩
  |pre t l c ex=>obtain ⟨e,rfl,h⟩:=h;exact ⟨e,rfl,h⟩
  |part t o l c ex=>obtain ⟨e,rfl,h⟩:=h;exact ⟨e,rfl,h⟩
  |fi=>cases hs
  |undef|gJ|cL|int _ _|bool _|str _|bp _ _ _|mp _|sl _ _|nil _ _=>rw [show p=_ from h];rfl
  |agg _|bH _|aW _ _=>obtain ⟨q,rfl,h⟩:=h;exact ⟨q,rfl,h⟩
  |di _ _ _=>obtain ⟨q,q2,rfl,h⟩:=h;exact ⟨q,q2,rfl,h⟩
  |pa _ _ _ _ _=>obtain ⟨rfl,h⟩:=h;exact ⟨rfl,h⟩
  |pb _ _ _=>obtain ⟨q,rfl,h⟩:=h;exact ⟨q,rfl,h⟩
theorem HL {v:SV} (h:v.sure=acl) (k:Option Nat):(D' k v).sure=acl:=by unfold D';split<;>first|rfl|exact h
theorem Eh {rk:List (Nat×List PT)} {e:SE} {pe:Env} (hE:cK s e pe) {m:List Nat} {s':List SB} (hr:Bx m s s'): ∀{live:List (Nat×Option Nat)} {nx:Nat} {e1:SE} {s2:List SB},sx rk e m nx live=acg (e1,s2)->(∀(j:Nat) (b:SB),s2[j]? =acg b->s'[nx+j]? =acg b)->
 ∃p1 q2,nG pe m nx live=acg (p1,q2)/\cK s' e1 p1/\acf q2=acf s2/\ ∀(j:Nat) (b:SB),s2[j]? =acg b-> ∃q,q2[j]? =acg q/\RB s' b q
 | [],nx,e1,s2,h,_=>by simp only [sx,wn,IR] at h;obtain ⟨rfl,rfl⟩:=h;exact ⟨[],[],rfl,rfl,rfl,fun j b h=>by simp at h⟩
 |(t,k)::live,nx,e1,s2,h,hs=>by
  have pL:=hE.lk t;simp only [sx] at h;split at h
  · rename_i kk esz en hv
    split at h
    · rename_i p hp
      simp only [wn,IR] at h;obtain ⟨rfl,rfl⟩:=h;rw [hv] at pL;obtain ⟨p1,q2,h1,h2,h3,h4⟩:=Eh (live:=live) (nx:=nx+1) (e1:=p.1) (s2:=p.2) hE hr hp (fun j b hj=>by have:=hs (j+1) b (by simpa using hj);rw [show nx+1+j=nx+(j+1) by omega];exact this);refine ⟨(t,.own nx esz 0 0 0 acm)::p1,.arr esz []::q2,?_,⟨_,_,rfl,⟨esz,0,rfl,.inl ⟨rowOf rk esz,[],by simpa using hs 0 _ rfl,(qy rk esz).symm,rfl⟩⟩,h2⟩,by simp [h3],fun j b hj=>?_⟩
      · have TX:lk t pe= .sl en acl []:=pL
        simp only [nG,TX,h1];rfl
      cases j with
      |zero=>simp at hj;subst hj;exact ⟨_,rfl,by show _=_;rw [qy];rfl⟩
      |succ j=>simpa using h4 j b (by simpa using hj)
    cases h
  rename_i dK
  split at h
  · rename_i v' p hv hp
    simp only [wn,IR] at h;obtain ⟨rfl,rfl⟩:=h;obtain ⟨q',h5,h6⟩:=MV hr pL hv;obtain ⟨p1,q2,h1,h2,h3,h4⟩:=Eh (live:=live) (e1:=p.1) (s2:=p.2) hE hr hp hs;refine ⟨(t,CO _ q')::p1,q2,?_,⟨_,_,rfl,Pm h6 _ (yR hv),h2⟩,h3,h4⟩;simp only [nG];split
    · rename_i esz x hx
      exfalso;rw [hx] at pL;generalize zA t e=v0 at pL hv dK;cases v0 with
      |fi=>cases hv
      |nil e' c=>have TX:PV.sl x acl []= .sl e' c []:=pL;injection TX with h1 h2;subst h2;exact dK _ _ rfl rfl
      |undef|gJ|cL|int _ _|bool _|str _|bp _ _ _|mp _=>cases (show PV.sl x acl []=_ from pL)
      |sl r l=>cases (show PV.sl x acl []=_ from pL)
      |agg _|bH _|aW _ _=>obtain ⟨q,hq,_⟩:=pL;cases hq
      |di _ _ _=>obtain ⟨q,q2,hq,_⟩:=pL;cases hq
      |own _ _=>obtain ⟨q,q2,hq,_⟩:=pL;cases hq
      |pre _ _ _ _=>obtain ⟨q,hq,_⟩:=pL;cases hq
      |part _ _ _ _ _=>obtain ⟨q,hq,_⟩:=pL;cases hq
      |pa _ _ _ _ _=>obtain ⟨hq,_⟩:=pL;cases hq
      |pb _ _ _=>obtain ⟨q,hq,_⟩:=pL;cases hq
    simp only [h5,h1]
  cases h
def SK (s:List SB):Prop:= ∀(t:Nat) (cs:List SV),s[t]? =acg (.box cs)->jq cs=acl
def Da:SE->Prop
 | []=>True
 |(_,v)::r=>v.sure=acl/\Da r
theorem Da.lk: ∀{e:SE},Da e-> ∀t,(zA t e).sure=acl
 | [],_,t=>rfl
 |(u,v)::r,h,t=>by
  simp only [zA];cases hb:ut u t with
  |true=>exact h.1
  |false=>exact Da.lk h.2 t
theorem wm {rk:List (Nat×List PT)} {e:SE} {m:List Nat}: ∀{live:List (Nat×Option Nat)} {nx:Nat} {e1:SE} {s2:List SB},sx rk e m nx live=acg (e1,s2)->Da e1
 | [],nx,e1,s2,h=>by simp only [sx,wn,IR] at h;rw [<- h.1];trivial
 |(t,k)::live,nx,e1,s2,h=>by
  simp only [sx] at h;split at h
  · split at h
    · rename_i p hp
      simp only [wn,IR] at h;obtain ⟨rfl,rfl⟩:=h;exact ⟨rfl,wm (e1:=p.1) (s2:=p.2) hp⟩
    cases h
  split at h
  · rename_i v' p hv hp
    simp only [wn,IR] at h;obtain ⟨rfl,rfl⟩:=h;exact ⟨HL (yR hv) _,wm (e1:=p.1) (s2:=p.2) hp⟩
  cases h
theorem Db: ∀{l:List SV},jq l=acl-> ∀{n:Nat} {v:SV},nth l n=acg v->v.sure=acl
 | [],_,_,_,h=>by cases h
 |x::xs,hs,0,v,h=>by injection h with h;subst h;simp only [jq,pp] at hs;exact hs.1
 |x::xs,hs,n+1,v,h=>by simp only [jq,pp] at hs;exact Db hs.2 (n:=n) h
theorem Dc: ∀{l:List SV},jq l=acl-> ∀(n:Nat) {v:SV},v.sure=acl->jq (l.set n v)=acl
 | [],_,n,v,_=>rfl
 |x::xs,hs,0,v,h=>by simp only [jq,pp] at hs;simp [jq,h,hs.2]
 |x::xs,hs,n+1,v,h=>by simp only [jq,pp] at hs;simp [jq,hs.1,Dc hs.2 n h]
theorem RL.set {s:List SB}: ∀{xs:List SV} {ps:List PV},RL s xs ps-> ∀(n:Nat) {v:SV} {p:PV},R s v p->RL s (xs.set n v) (ps.set n p)
 | [],ps,h,n,v,p,_=>by rw [show ps=[] from h];exact RL.nil
 |x::xs,ps,h,0,v,p,hv=>by obtain ⟨a,q,rfl,h1,h2⟩:=h.cons_inv;exact RL.cons hv h2
 |x::xs,ps,h,n+1,v,p,hv=>by obtain ⟨a,q,rfl,h1,h2⟩:=h.cons_inv;exact RL.cons h1 (RL.set h2 n hv)
structure Pn (st:lH) (p:St):Prop where
 r:uz st p
 s:SK st.aj
 e:Da st.env
theorem HM {rk:List (Nat×List PT)} {st:lH} {p:St} (h:Pn st p) (t c esz:Nat):Pn (Bd rk st t c esz) (nH p t c esz):=by
 unfold Bd nH;rw [bz];cases bw:st.aj[t]? with
 |none=>
  have:p.aj[t]? =ach:=by rw [ab8] at bw ⊢;rw [h.r.aj.len];exact bw
  rw [this];exact h
 |some b=>
  obtain ⟨q,h1,h2⟩:=h.r.aj.at_ t b bw;rw [h1];cases b with
  |arr r l=>rw [show q=_ from h2];exact h
  |set l=>rw [show q=_ from h2];exact h
  |bB p l=>rw [show q=_ from h2];exact h
  |dead=>rw [show q=_ from h2];exact h
  |box cs=>
   obtain ⟨pc,rfl,h3⟩:=h2;dsimp only;cases hc:nth cs c with
   |none=>
    have:pc[c]? =ach:=by rw [bz,ab8] at hc;rw [ab8,h3.jr];exact hc
    rw [this];exact h
   |some v=>
    obtain ⟨pv,h4,h5⟩:=h3.nth hc;rw [h4];have aab:=Db (h.s t cs bw) hc;have o5:=h.s t cs bw;have other:(∀e,pv≠ .sl e acl [])->(∀e,v≠ .nil e acl)->Pn (match acg v with
     |some (.nil _ acl)=>{st with aj:=st.aj.set t (.box (cs.set c (.own (acf st.aj) acm)))++[.arr (rowOf rk esz) []]}
     |_=>st) (match acg pv with
     |some (.sl _ acl [])=>{p with aj:=p.aj.set t (.box (pc.set c (.own (acf p.aj) esz 0 0 0 acm)))++[.arr esz []]}
     |_=>p):=by
     intro n1 n2;split
     · rename_i e he;injection he with he;exact absurd he (n2 e)
     split
     · rename_i e he;injection he with he;exact absurd he (n1 e)
     exact h
    cases v with
    |fi=>cases aab
    |nil e' cl=>
     have h5':pv= .sl e' cl []:=h5;subst h5';cases cl with
     |false=>exact other (fun e he=>by cases he) (fun e he=>by cases he)
     |true=>
      dsimp only;have dA:=(v4.1 bw).1;have oe:Fr [] st.aj (st.aj.set t (.box (cs.set c (.own (acf st.aj) acm)))++[.arr (rowOf rk esz) []]):=fun u x hu=>by
       by_cases GY:t=u
       · subst GY;rw [bw] at hu;injection hu with hu;subst hu;exact .inl ⟨_,by rw [rc (by simpa using dA),Do];simp [dA];rfl⟩
       have Jh:=(v4.1 hu).1
       have:(st.aj.set t (.box (cs.set c (.own (acf st.aj) acm)))++[.arr (rowOf rk esz) []])[u]? =acg x:=by rw [rc (by simpa using Jh),Do];simp [GY,hu]
       cases x with
       |arr r l=>exact .inl ⟨l,this,rfl,fun _=>rfl⟩
       |dead=>exact this
       |box c2=>exact .inl ⟨c2,this⟩
       |_=>trivial
      have bI:(st.aj.set t (.box (cs.set c (.own (acf st.aj) acm)))).length=(acf st.aj):=by simp
      have TY:R (st.aj.set t (.box (cs.set c (.own (acf st.aj) acm)))++[.arr (rowOf rk esz) []]) (.own (acf st.aj) acm) (.own (acf p.aj) esz 0 0 0 acm):=by refine ⟨esz,0,by rw [h.r.aj.len],.inl ⟨rowOf rk esz,[],?_,(qy rk esz).symm,rfl⟩⟩;rw [v6 (by simp)];simp
      refine ⟨⟨cK.ext oe h.r.env,⟨by simp [h.r.aj.len],fun u x hu=>?_⟩,h.r.fz,h.r.kn⟩,fun u x hu=>?_,h.e⟩
      · rcases abk u (acf st.aj) with Jh|Jh
        · rw [rc (by simpa using Jh),Do] at hu
          by_cases GY:t=u
          · subst GY
            simp [dA] at hu;subst hu;refine ⟨.box (pc.set c (.own (acf p.aj) esz 0 0 0 acm)),?_,_,rfl,RL.set (RL.ext oe h3) c TY⟩;rw [rc (by simp [h.r.aj.len,Jh]),Do];simp [h.r.aj.len,Jh]
          simp [GY] at hu
          obtain ⟨q,h6,h7⟩:=h.r.aj.at_ u x hu;refine ⟨q,?_,h7.ext oe⟩;rw [rc (by simp [h.r.aj.len,Jh]),Do];simp [GY,h6]
        rw [v6 (by simpa using Jh)] at hu
        simp only [bI] at hu;have OH:u-(acf st.aj)=0:=by
         rcases Nat.eq_zero_or_pos (u-(acf st.aj)) with h|h
         · exact h
         rw [List.getElem?_eq_none (by simp;omega)] at hu;cases hu
        rw [OH] at hu;simp at hu;subst hu;refine ⟨.arr esz [],?_,by show _=_;rw [qy];rfl⟩;rw [v6 (by simp [h.r.aj.len];omega)];simp [h.r.aj.len,OH]
      rcases abk u (acf st.aj) with Jh|Jh
      · rw [rc (by simpa using Jh),Do] at hu
        by_cases GY:t=u
        · subst GY
          simp [dA] at hu;subst hu;exact Dc o5 c rfl
        simp [GY] at hu;exact h.s u x hu
      rw [v6 (by simpa using Jh)] at hu
      cases hj:u- (st.aj.set t (.box (cs.set c (.own (acf st.aj) acm)))).length with
      |zero=>rw [hj] at hu;simp at hu
      |succ j=>rw [hj] at hu;simp at hu
    |undef|gJ|cL|int _ _|bool _|str _|bp _ _ _|mp _=>exact other (fun e he=>by rw [show pv=_ from h5] at he;cases he) (fun e he=>by cases he)
    |sl r l=>exact other (fun e he=>by rw [show pv=_ from h5] at he;cases he) (fun e he=>by cases he)
    |agg _|bH _|aW _ _=>exact other (fun e he=>by obtain ⟨q,hq,_⟩:=h5;rw [hq] at he;cases he) (fun e he=>by cases he)
    |di _ _ _=>exact other (fun e he=>by obtain ⟨q,q2,hq,_⟩:=h5;rw [hq] at he;cases he) (fun e he=>by cases he)
    |own _ _=>exact other (fun e he=>by obtain ⟨q,q2,hq,_⟩:=h5;rw [hq] at he;cases he) (fun e he=>by cases he)
    |pre _ _ _ _|part _ _ _ _ _|pb _ _ _=>exact other (fun e he=>by obtain ⟨q,hq,_⟩:=h5;rw [hq] at he;cases he) (fun e he=>by cases he)
    |pa _ _ _ _ _=>exact other (fun e he=>by obtain ⟨hq,_⟩:=h5;rw [hq] at he;cases he) (fun e he=>by cases he)
theorem Ei {p:St} {t c esz:Nat} (h: ∀cs,p.aj[t]?≠acg (.box cs)):nH p t c esz=p:=by
 unfold nH;split
 · rename_i cs o5;exact absurd o5 (h cs)
 rfl
theorem MW {st:lH} {p:St} (h:Pn st p) {v:SV} {q:PV} (hv:R st.aj v q) (hs:v≠ .fi):(∃t,Ms v=acg t/\Au q=acg t)\/(Ms v=ach/\ ∀t,Au q=acg t-> ∀cs,p.aj[t]?≠acg (.box cs)):=by
 cases v with
 |fi=>exact absurd rfl hs
 |bp u m off=>
  have hq:q= .ptr u m 0 off:=hv;subst hq;cases off with
  |zero=>exact .inl ⟨u,rfl,rfl⟩
  |succ off=>exact .inr ⟨rfl,fun t ht=>by cases ht⟩
 |pb u i off=>
  obtain ⟨e',hq,cm⟩:=hv;subst hq;refine .inr ⟨rfl,fun t ht cs o5=>?_⟩;have:t=u:=by
   unfold Au at ht;split at ht
   · rename_i Y6;injection Y6 with e1;injection ht with ht;rw [<- ht,e1]
   cases ht
  subst this;rcases cm with ⟨r,l,h1,_⟩|h1
  · rw [h.r.aj.arr h1] at o5;cases o5
  obtain ⟨q,h2,h3⟩:=h.r.aj.at_ t _ h1
  rw [o5] at h2;injection h2 with h2;subst h2;cases (show gY.box cs= .dead from h3)
 |pa u r i a off=>
  obtain ⟨hq,cm⟩:=hv;subst hq;refine .inr ⟨rfl,fun t ht cs o5=>?_⟩;have:t=u:=by
   unfold Au at ht;split at ht
   · rename_i Y6;injection Y6 with e1;injection ht with ht;rw [<- ht,e1]
   cases ht
  subst this;rcases cm with ⟨l,h1,_⟩|h1
  · rw [h.r.aj.arr h1] at o5;cases o5
  obtain ⟨q,h2,h3⟩:=h.r.aj.at_ t _ h1
  rw [o5] at h2;injection h2 with h2;subst h2;cases (show gY.box cs= .dead from h3)
 |undef|gJ|cL|int _ _|bool _|str _|mp _|sl _ _|nil _ _=>exact .inr ⟨rfl,fun t ht=>by rw [show q=_ from hv] at ht;cases ht⟩
 |agg _|bH _|aW _ _=>exact .inr ⟨rfl,fun t ht=>by obtain ⟨_,rfl,_⟩:=hv;cases ht⟩
 |di _ _ _=>exact .inr ⟨rfl,fun t ht=>by obtain ⟨_,_,rfl,_⟩:=hv;cases ht⟩
 |own _ _=>exact .inr ⟨rfl,fun t ht=>by obtain ⟨_,_,rfl,_⟩:=hv;cases ht⟩
 |pre _ _ _ _|part _ _ _ _ _=>exact .inr ⟨rfl,fun t ht=>by obtain ⟨_,rfl,_⟩:=hv;cases ht⟩
theorem TZ {st:lH} {p:St} (h:Pn st p) {v:SV} {q:PV} (hv:R st.aj v q) (hs:v.sure=acl):(∃t,OZ v=acg t/\E5 q=acg t)\/(OZ v=ach/\ ∀t,E5 q=acg t-> ∀cs,p.aj[t]?≠acg (.box cs)):=by
 have hj:v≠ .fi:=fun e=>by subst e;cases hs
 by_cases hc: ∃f a b,v= .di f a b
 · obtain ⟨f,a,b,rfl⟩:=hc
   obtain ⟨pa,pb,rfl,h1,h2⟩:=hv;cases b with
   |nil=>have:pb=[]:=h2;subst this;exact .inr ⟨rfl,fun t ht=>by cases ht⟩
   |cons y ys=>obtain ⟨z,zs,rfl,g1,g2⟩:=h2;exact MW h g1 (fun e=>by subst e;simp [SV.sure,jq] at hs)
 have e1:OZ v=Ms v:=by
  cases v with
  |di f a b=>exact absurd ⟨f,a,b,rfl⟩ hc
  |_=>rfl
 have e2:E5 q=Au q:=by
  cases q with
  |di f a b=>
   exfalso;cases v with
   |fi=>exact hj rfl
   |di f a b=>exact hc ⟨f,a,b,rfl⟩
   |bp _ _ _|undef|gJ|cL|int _ _|bool _|str _|mp _|sl _ _|nil _ _=>cases (show PV.di f a b=_ from hv)
   |agg _|bH _|aW _ _|pre _ _ _ _|part _ _ _ _ _|pb _ _ _=>obtain ⟨_,hq,_⟩:=hv;cases hq
   |own _ _=>obtain ⟨_,_,hq,_⟩:=hv;cases hq
   |pa _ _ _ _ _=>obtain ⟨hq,_⟩:=hv;cases hq
  |_=>rfl
 rw [e1,e2];exact MW h hv hj
theorem j5 {rk:List (Nat×List PT)}: ∀(live:List (Nat×Option Nat)) {st:lH} {p:St},Pn st p->Pn (jd rk live st) (hZ live p)
 | [],st,p,h=>h
 |(t,k)::live,st,p,h=>by
  cases k with
  |none=>simp only [jd,hZ];exact j5 live h
  |some n=>
   simp only [jd,hZ];cases hn:ww 1000 n with
   |false=>simp only [lw,UV,if_false];exact j5 live h
   |true=>
    simp only [ls,if_true];have pL:=h.r.env.lk t;have ZM:=h.e.lk t;rcases TZ h pL ZM with ⟨u,e1,e2⟩|⟨e1,e2⟩
    · rw [e1,e2]
      exact j5 live (HM h u _ _)
    rw [e1]
    cases hb:E5 (lk t p.env) with
    |none=>exact j5 live h
    |some u=>show Pn (jd rk live st) (hZ live (nH p u (n / 1000-1) (n%1000)));rw [Ei (e2 u hb)];exact j5 live h
theorem F7 {e:SE} {pe:Env} (hE:cK s e pe): ∀{live:List (Nat×Option Nat)},xo e live=acl->Be e live=live.flatMap fun p=>gm oP (lk p.1 pe)
 | [],_=>rfl
 |(t,k)::live,h=>by simp only [xo,pp] at h;simp only [Be,abZ,F7 hE h.2];rw [MT (fun _=>rfl) (hE.lk t) h.1]
theorem MX: ∀{s':List SB} {s:List SB} {ps:bG} (n:Nat),(acf ps=acf s/\ ∀(t:Nat) (b:SB),s[t]? =acg b-> ∃q,ps[t]? =acg q/\RB s' b q)->Bf s n=acl->HB s n=(ps.take n).flatMap nF
 |s',[],ps,n,h,_=>by have:ps=[]:=abb.1 (by simpa using h.1);subst this;cases n<;>simp [HB]
 |s',b::s,ps,0,h,_=>by simp [HB]
 |s',b::s,ps,n+1,h,hk=>by
  cases ps with
  |nil=>have:=h.1;simp at this
  |cons q ps=>simp only [Bf,pp] at hk;obtain ⟨q',h1,h2⟩:=h.2 0 b rfl;simp at h1;subst h1;simp only [HB,abO,abZ,Eg h2 hk.1];rw [MX (s':=s') (ps:=ps) n ⟨by simpa using h.1,fun t x hx=>by simpa using h.2 (t+1) x (by simpa using hx)⟩ hk.2]
theorem Ji {s:List SB} {v:SV} {p:PV} (h:R s v p):R s (C4 s v) p:=by
 unfold C4;split
 · rename_i t ex
   rw [bz];split
   · rename_i r l bw
     obtain ⟨e,n,rfl,cm⟩:=h;obtain ⟨rfl,rfl⟩:=cm.inv bw;exact ⟨acf r,rfl,.inl ⟨r,l,bw,rfl⟩⟩
   exact h
 exact h
theorem Jj {s:List SB} (c:Nat): ∀{e:SE} {p:Env},cK s e p->cK s (I8 s c e) p
 | [],_,h=>h
 |(t,v)::r,_,h=>by
  obtain ⟨q,qs,rfl,h1,h2⟩:=h;simp only [I8];cases hb:ut t c with
  |true=>exact ⟨q,qs,rfl,Ji h1,h2⟩
  |false=>exact ⟨q,qs,rfl,h1,Jj c h2⟩
theorem yS: ∀(live:List (Nat×Option Nat)) {st:lH} {p:St},uz st p->uz (xn live st) p
 | [],st,p,h=>h
 |(t,k)::r,st,p,h=>by
  simp only [xn];cases hn:ww 1000000 t with
  |true=>exact yS r ⟨Jj _ h.env,h.aj,h.fz,h.kn⟩
  |false=>exact yS r h
theorem F8 {rk:List (Nat×List PT)} {live:List (Nat×Option Nat)} {st lg:lH} {p:St} (h:uz st p) (hn:Bg rk live st=acg lg): ∃p1,Av live p=acg p1/\uz lg p1:=by
 unfold Bg at hn;cases hc:(xo st.env live&&Bf st.aj st.kn) with
 |false=>rw [hc] at hn;cases hn
 |true=>
  rw [hc] at hn;simp only [ls] at hn;simp only [pp] at hc;split at hn
  · cases hn
  rename_i m hm
  split at hn
  · rename_i s1 e1 s2 h1 h2
    injection hn with hn;subst hn;have ht:HB st.aj st.kn++Be st.env live=(p.aj.take p.kn).flatMap nF++live.flatMap fun q=>gm oP (lk q.1 p.env):=by rw [F7 h.env hc.1,MX (s':=st.aj) st.kn ⟨h.aj.len,h.aj.at_⟩ hc.2,h.kn]
    rw [ht] at hm;have ye:=Bv h.aj _ _ _ _ hm;have hr:Bx m st.aj (s1++s2):=Bx.of h1;obtain ⟨p1,a1,a2,a3⟩:=yP h.aj hr h1;have bI:(acf s1)=(acf m):=(tu h1).1;obtain ⟨pe1,q2,b1,b2,b3,b4⟩:=Eh h.env hr h2 (fun j b hj=>by rw [<- bI,v6 (by omega)];simpa using hj);have mN:bL (s1++s2) (p1++q2):=⟨by simp [a2,b3],fun t b ht=>by
     rcases abk t (acf s1) with hl|hl
     · rw [rc hl] at ht
       obtain ⟨q,c1,c2⟩:=a3 t b ht;exact ⟨q,by rw [rc (by omega)];exact c1,c2⟩
     rw [v6 hl] at ht
     obtain ⟨q,c1,c2⟩:=b4 _ b ht;exact ⟨q,by rw [v6 (by omega),a2];exact c1,c2⟩⟩
    have hs:SK (s1++s2):=fun t cs ht=>by
     rcases abk t (acf s1) with hl|hl
     · rw [rc hl] at ht
       obtain ⟨b,c,d1,d2,d3⟩:=(tu h1).2 t (m[t]'(by omega)) (AC (by omega));rw [ht] at d3;injection d3 with d3;subst d3;cases b with
       |box x=>
        simp only [HA] at d2;split at d2
        · rename_i l jE;injection d2 with d2;injection d2 with d2;subst d2;exact jL jE
        cases d2
       |arr _ _=>injection d2 with d2;cases d2
       |set _=>injection d2 with d2;cases d2
       |bB _ _=>injection d2 with d2;cases d2
       |dead=>injection d2 with d2;cases d2
     rw [v6 hl] at ht
     obtain ⟨r,TW⟩:=yQ h2 _ _ ht;cases TW
    have hR:Pn {env:=e1,aj:=s1++s2,fz:=sR st.fz 0 m,kn:=st.kn} {env:=pe1,aj:=p1++q2,fz:=sR p.fz 0 m,kn:=p.kn}:=
     ⟨⟨b2,mN,by rw [h.fz],h.kn⟩,hs,wm h2⟩
    refine ⟨_,?_,yS live (j5 live hR).r⟩;unfold Av;rw [h.kn] at ye;rw [h.kn];rw [ye];dsimp only;rw [a1,b1]
  cases hn
theorem Jk {rk:List (Nat×List PT)} {live:List (Nat×Option Nat)} {st lg:lH} {p:St} (h:uz st p) (hn:Bh rk live st=acg lg): ∃p1,norm live p=acg p1/\uz lg p1:=by
 unfold Bh at hn;cases h1:Bg rk live st with
 |none=>rw [h1] at hn;cases hn
 |some s=>
  rw [h1] at hn;dsimp only at hn;obtain ⟨p1,h2,h3⟩:=F8 h h1;unfold norm;rw [h2];dsimp only;cases ha:(live.any fun p=>p.2.isSome) with
  |true=>rw [ha] at hn;simp only [ls] at hn;rw [ol rfl];exact F8 h3 hn
  |false=>rw [ha] at hn;injection hn with hn;subst hn;exact ⟨p1,by rw [pi (by simp)],h3⟩
mutual
theorem Ak: ∀{a b:SV} (q:List sL),sy a b=acl->oU a (yL b++q)=(b,q)
 | .undef,.undef,q,_=>rfl
 | .gJ,.gJ,q,_=>rfl
 | .cL,.cL,q,_=>rfl
 | .int k _,.int l n,q,h=>by rw [dy.1 h];rfl
 | .bool _,.bool _,q,_=>rfl
 | .agg a,.agg b,q,h=>by simp only [oU,yL,kG q h]
 | .bH a,.bH b,q,h=>by simp only [oU,yL,kG q h]
 | .sl r _,.sl r' l,q,h=>rfl
 | .nil e c,.nil f d,q,h=>by simp only [sy,pp,beq_iff_eq] at h;rw [pm h.1,h.2];rfl
 | .own t x,.own u y,q,h=>by simp only [sy,pp,beq_iff_eq] at h;rw [pm h.1,h.2];rfl
 | .pre t _ _ x,.pre u _ _ y,q,h=>by simp only [sy,pp,beq_iff_eq] at h;rw [pm h.1,h.2];rfl
 | .part t _ _ _ x,.part u _ _ _ y,q,h=>by simp only [sy,pp,beq_iff_eq] at h;rw [pm h.1,h.2];rfl
 | .pb t _ o,.pb u _ p,q,h=>by simp only [sy,pp] at h;rw [pm h.1,pm h.2];rfl
 | .bp t n o,.bp u m p,q,h=>by simp only [sy,pp] at h;rw [pm h.1.1,pm h.1.2,pm h.2];rfl
 | .aW a o,.aW b p,q,h=>by simp only [sy,pp] at h;simp only [oU,yL,kG q h.1,pm h.2]
 | .di f a b,.di g c d,q,h=>by simp only [sy,pp] at h;simp only [oU,yL,ab5,kG _ h.1.2,kG q h.2,pm h.1.1]
 | .mp t,.mp u,q,h=>by rw [pm h];rfl
 | .fi,.fi,q,_=>rfl
theorem kG: ∀{a b:List SV} (q:List sL),ti a b=acl->nP a (yM b++q)=(b,q)
 | [],[],q,_=>rfl
 |x::xs,y::ys,q,h=>by simp only [ti,pp] at h;simp only [nP,yM,ab5,Ak _ h.1,kG q h.2]
 | [],_::_,_,h=>by cases h
 |_::_,[],_,h=>by cases h
end
theorem MY: ∀{a b:SB} (q:List sL),SD a b=acl->HC a (Mt b++q)=(b,q)
 | .arr r _,.arr r' l,q,h=>rfl
 | .box a,.box b,q,h=>by simp only [HC,Mt,kG q h]
 | .set _,.set _,q,_=>rfl
 | .bB p _,.bB p' l,q,h=>by obtain rfl:p=p':=PT.I2 h;rfl
 | .dead,.dead,q,_=>rfl
 | .arr _ _,.box _,_,h| .arr _ _,.set _,_,h| .arr _ _,.dead,_,h| .box _,.arr _ _,_,h| .box _,.set _,_,h| .box _,.dead,_,h| .set _,.arr _ _,_,h| .set _,.box _,_,h| .set _,.dead,_,h| .dead,.arr _ _,_,h| .dead,.box _,_,h| .dead,.set _,_,h
 | .bB _ _,.arr _ _,_,h| .bB _ _,.box _,_,h| .bB _ _,.set _,_,h| .bB _ _,.dead,_,h| .arr _ _,.bB _ _,_,h| .box _,.bB _ _,_,h| .set _,.bB _ _,_,h| .dead,.bB _ _,_,h=>by cases h
theorem xD: ∀{a b:List SB} (q:List sL),Bi a b=acl->v9 a (Ea b++q)=(b,q)
 | [],[],q,_=>rfl
 |x::xs,y::ys,q,h=>by simp only [Bi,pp] at h;simp only [v9,Ea,ab5,MY _ h.1,xD q h.2]
 | [],_::_,_,h=>by cases h
 |_::_,[],_,h=>by cases h
theorem F9: ∀{a b:SE} (q:List sL),I9 a b=acl->FX a (Kt b++q)=(b,q)
 | [],[],q,_=>rfl
 |(t,x)::xs,(u,y)::ys,q,h=>by simp only [I9,pp] at h;simp only [FX,Kt,ab5,Ak _ h.1.2,F9 q h.2,pm h.1.1]
 | [],_::_,_,h=>by cases h
 |_::_,[],_,h=>by cases h
theorem F': ∀{a b:List Nat},I' a b=acl->a=b
 | [],[],_=>rfl
 |x::xs,y::ys,h=>by simp only [I',pp] at h;rw [pm h.1,F' h.2]
 | [],_::_,h=>by cases h
 |_::_,[],h=>by cases h
theorem Dd {a b:lH} (h:v8 a b=acl):qw a (kF b)=b:=by obtain ⟨e1,s1,z1,k1⟩:=a;obtain ⟨e2,s2,z2,k2⟩:=b;simp only [v8,pp] at h;obtain ⟨⟨⟨h1,h2⟩,h3⟩,h4⟩:=h;have hs:=xD [] h2;rw [aah] at hs;simp only [qw,kF,F9 _ h1,hs,F' h3,pm h4]
theorem AK.SL: ∀{a:AK} {x:sL} {y:a.T},a.of x=acg y->a.at y=x
 | .i,.i _,y,h=>by injection h with h;subst h;rfl
 | .b,.b _,y,h=>by injection h with h;subst h;rfl
 | .n,.n _,y,h=>by injection h with h;subst h;rfl
 | .l r,.l q x,y,h=>by obtain ⟨rfl,rfl⟩:=lJ h;rfl
 | .s,.s _,y,h=>by injection h with h;subst h;rfl
 | .i,.b _,_,h| .i,.n _,_,h| .i,.l _ _,_,h| .i,.s _,_,h| .b,.i _,_,h| .b,.n _,_,h| .b,.l _ _,_,h| .b,.s _,_,h| .n,.i _,_,h| .n,.b _,_,h| .n,.l _ _,_,h| .n,.s _,_,h
 | .l _,.i _,_,h| .l _,.b _,_,h| .l _,.n _,_,h| .l _,.s _,_,h| .s,.i _,_,h| .s,.b _,_,h| .s,.n _,_,h| .s,.l _ _,_,h=>by cases h
theorem lL: ∀{ks:List AK} {l:List sL} {y:fk ks},iO ks l=acg y->iF ks y=l
 | [],[],y,_=>rfl
 | [a],[x],y,h=>by have:=AK.SL (a:=a) h;simp only [iF,this]
 |a::q::r,x::xs,y,h=>by
  simp only [iO] at h;split at h
  · rename_i u v h1 h2
    injection h with h;subst h;simp only [iF,AK.SL h1,lL h2]
  cases h
 | [],_::_,_,h=>by cases h
 | [_],[],_,h=>by cases h
 | [_],_::_::_,_,h=>by cases h
 |_::_::_,[],_,h=>by cases h
end
end Go.Vm
/- What is known of functions, and what a call of one comes to. -/
namespace Go.Vm
mutual
def yT:Nat->PV->Option (PV×bG)
 |_,.int k n=>acg (.int k n,[])
 |_,.bool b=>acg (.bool b,[])
 |nx,.agg cs=>match By nx cs with|some r=>acg (.agg r.1,r.2)|none=>ach
 |nx,.bH cs=>match By nx cs with|some r=>acg (.bH r.1,r.2)|none=>ach
 |nx,.sl e acm rows=>acg (.own nx e 0 (acf rows) (acf rows) acm,[.arr e rows])
 |_,_=>ach
def By:Nat->List PV->Option (List PV×bG)
 |_,[]=>acg ([],[])
 |nx,x::xs=>match yT nx x with
  |some a=>match By (nx+acf a.2) xs with
   |some b=>acg (a.1::b.1,a.2++b.2)
   |none=>ach
  |none=>ach
end
def rl (s:List SB) (n:Nat) (l:List SB):Prop:= ∀(j:Nat) (b:SB),l[j]? =acg b->s[n+j]? =acg b
theorem rl.left {s:List SB} {n:Nat} {l m:List SB} (h:rl s n (l++m)):rl s n l:=fun j b hj=>h j b (by rw [rc (v4.1 hj).1];exact hj)
theorem rl.right {s:List SB} {n:Nat} {l m:List SB} (h:rl s n (l++m)):rl s (n+acf l) m:=fun j b hj=>by
 have:=h (acf l+j) b (by rw [v6 (by omega)];simpa using hj)
 rwa [Nat.add_assoc]
def HN (s:List SB) (l:List SB) (q:bG):Prop:=acf q=acf l/\ ∀(j:Nat) (b:SB),l[j]? =acg b-> ∃x,q[j]? =acg x/\RB s b x
theorem HN.append {s l m:List SB} {q r:bG} (h:HN s l q) (k:HN s m r):HN s (l++m) (q++r):=by
 refine ⟨by simp [h.1,k.1],fun j b hj=>?_⟩;rcases abk j (acf l) with hl|hl
 · rw [rc hl] at hj
   obtain ⟨x,h1,h2⟩:=h.2 j b hj;exact ⟨x,by rw [rc (by rw [h.1];exact hl)];exact h1,h2⟩
 rw [v6 hl] at hj
 obtain ⟨x,h1,h2⟩:=k.2 _ b hj;exact ⟨x,by rw [v6 (by rw [h.1];exact hl),h.1];exact h1,h2⟩
theorem HN.nil {s:List SB}:HN s [] []:=⟨rfl,fun j b h=>by simp at h⟩
theorem HN.one {s:List SB} {b:SB} {x:gY} (h:RB s b x):HN s [b] [x]:=⟨rfl,fun j c hc=>by
 cases j with
 |zero=>simp at hc;subst hc;exact ⟨x,rfl,h⟩
 |succ j=>simp at hc⟩
mutual
theorem Jl: ∀{v:SV} {nx:Nat} {p0 p:PV} {q:bG},nB v=acg p0->yT nx p0=acg (p,q)-> ∀{s:List SB},rl s nx (th nx v).2->R s (th nx v).1 p/\HN s (th nx v).2 q
 | .int k n,nx,p0,p,q,h0,h,s,_=>by injection h0 with h0;subst h0;injection h with h;injection h with h1 h2;subst h1 h2;exact ⟨rfl,HN.nil⟩
 | .bool b,nx,p0,p,q,h0,h,s,_=>by injection h0 with h0;subst h0;injection h with h;injection h with h1 h2;subst h1 h2;exact ⟨rfl,HN.nil⟩
 | .agg cs,nx,p0,p,q,h0,h,s,hb=>by
  simp only [nB] at h0;split at h0
  · rename_i l hl
    injection h0 with h0;subst h0;simp only [yT] at h;split at h
    · rename_i r hr
      injection h with h;injection h with h1 h2;subst h1 h2;obtain ⟨h3,h4⟩:=Bz (p:=r.1) (q:=r.2) hl hr hb;exact ⟨⟨r.1,rfl,h3⟩,h4⟩
    cases h
  cases h0
 | .bH cs,nx,p0,p,q,h0,h,s,hb=>by
  simp only [nB] at h0;split at h0
  · rename_i l hl
    injection h0 with h0;subst h0;simp only [yT] at h;split at h
    · rename_i r hr
      injection h with h;injection h with h1 h2;subst h1 h2;obtain ⟨h3,h4⟩:=Bz (p:=r.1) (q:=r.2) hl hr hb;exact ⟨⟨r.1,rfl,h3⟩,h4⟩
    cases h
  cases h0
 | .sl r l,nx,p0,p,q,h0,h,s,hb=>by injection h0 with h0;subst h0;injection h with h;injection h with h1 h2;subst h1 h2;refine ⟨⟨acf r,acf l,by simp,.inl ⟨r,l,hb 0 _ rfl,rfl,rfl⟩⟩,HN.one rfl⟩
 | .nil e c,nx,p0,p,q,h0,h,s,hb=>by
  injection h0 with h0;subst h0;cases c with
  |true=>simp [yT] at h
  |false=>injection h with h;injection h with h1 h2;subst h1 h2;exact ⟨⟨e,0,rfl,.inl ⟨_,[],hb 0 _ rfl,by simp,rfl⟩⟩,HN.one (by show _=_;simp)⟩
 | .str _,nx,p0,p,q,h0,h,s,_=>by injection h0 with h0;subst h0;cases h
 | .cL,nx,p0,p,q,h0,h,s,_=>by injection h0 with h0;subst h0;cases h
 | .aW cs o,nx,p0,p,q,h0,h,s,_=>by
  simp only [nB] at h0;split at h0
  · injection h0 with h0;subst h0;cases h
  cases h0
 | .di f a b,nx,p0,p,q,h0,h,s,_=>by
  simp only [nB] at h0;split at h0
  · injection h0 with h0;subst h0;cases h
  cases h0
 | .fi,_,_,_,_,h0,_,_,_| .undef,_,_,_,_,h0,_,_,_| .gJ,_,_,_,_,h0,_,_,_| .own _ _,_,_,_,_,h0,_,_,_| .pre _ _ _ _,_,_,_,_,h0,_,_,_| .part _ _ _ _ _,_,_,_,_,h0,_,_,_
 | .pa _ _ _ _ _,_,_,_,_,h0,_,_,_| .pb _ _ _,_,_,_,_,h0,_,_,_| .bp _ _ _,_,_,_,_,h0,_,_,_| .mp _,_,_,_,_,h0,_,_,_=>by cases h0
theorem Bz: ∀{v:List SV} {nx:Nat} {p0 p:List PV} {q:bG},lx v=acg p0->By nx p0=acg (p,q)-> ∀{s:List SB},rl s nx (pO nx v).2->RL s (pO nx v).1 p/\HN s (pO nx v).2 q
 | [],nx,p0,p,q,h0,h,s,_=>by injection h0 with h0;subst h0;injection h with h;injection h with h1 h2;subst h1 h2;exact ⟨rfl,HN.nil⟩
 |x::xs,nx,p0,p,q,h0,h,s,hb=>by
  obtain ⟨a,as,rfl,h1,h2⟩:=cY.1 h0;simp only [By] at h;split at h
  · rename_i ra hra
    split at h
    · rename_i rb hrb
      injection h with h;injection h with e1 e2;subst e1 e2;simp only [pO] at hb ⊢;obtain ⟨k1,k2⟩:=Jl (p:=ra.1) (q:=ra.2) h1 hra hb.left;rw [k2.1] at hrb;obtain ⟨k3,k4⟩:=Bz (p:=rb.1) (q:=rb.2) h2 hrb hb.right;exact ⟨RL.cons k1 k3,k2.append k4⟩
    cases h
  cases h
end
mutual
theorem MZ {s:List SB} {ps:bG} {z:List Nat} (hS:bL s ps): ∀{v v':SV} {p:PV} {seen seen':List Nat} (nx:Nat),R s v p->Kr s z seen v=acg (v',seen')-> ∃p0 p' q,nB v'=acg p0/\yT nx p0=acg (p',q)/\sP ps z nx seen p=acg (p',q,seen')
 | .int k n,v',p,seen,seen',nx,h,hx=>by injection hx with hx;injection hx with h1 h2;subst h1 h2;rw [show p=_ from h];exact ⟨_,_,_,rfl,rfl,rfl⟩
 | .bool k,v',p,seen,seen',nx,h,hx=>by injection hx with hx;injection hx with h1 h2;subst h1 h2;rw [show p=_ from h];exact ⟨_,_,_,rfl,rfl,rfl⟩
 | .agg cs,v',p,seen,seen',nx,h,hx=>by
  obtain ⟨q,rfl,h⟩:=h;simp only [Kr] at hx;split at hx
  · rename_i r hr
    injection hx with hx;injection hx with h1 h2;subst h1 h2;obtain ⟨p0,p',q',h3,h4,h5⟩:=Ej hS (v':=r.1) (seen':=r.2) nx h hr;exact ⟨.agg p0,.agg p',q',by simp only [nB,h3],by simp only [yT,h4],by simp only [sP,h5];rfl⟩
  cases hx
 | .bH cs,v',p,seen,seen',nx,h,hx=>by
  obtain ⟨q,rfl,h⟩:=h;simp only [Kr] at hx;split at hx
  · rename_i r hr
    injection hx with hx;injection hx with h1 h2;subst h1 h2;obtain ⟨p0,p',q',h3,h4,h5⟩:=Ej hS (v':=r.1) (seen':=r.2) nx h hr;exact ⟨.bH p0,.bH p',q',by simp only [nB,h3],by simp only [yT,h4],by simp only [sP,h5];rfl⟩
  cases hx
 | .nil e c,v',p,seen,seen',nx,h,hx=>by
  cases c with
  |false=>cases hx
  |true=>injection hx with hx;injection hx with h1 h2;subst h1 h2;rw [show p=_ from h];exact ⟨_,_,_,rfl,rfl,rfl⟩
 | .own t ex,v',p,seen,seen',nx,h,hx=>by
  obtain ⟨e,n,rfl,cm⟩:=h;simp only [Kr,bz] at hx;split at hx
  · rename_i r l bw
    obtain ⟨rfl,rfl⟩:=cm.inv bw;cases hc:(has seen t||has z t) with
    |true=>rw [hc] at hx;cases hx
    |false=>rw [hc] at hx;injection hx with hx;injection hx with h1 h2;subst h1 h2;refine ⟨_,_,_,rfl,rfl,?_⟩;simp only [sP,hS.arr bw,hc];simp
  cases hx
 | .fi,_,_,_,_,_,_,hx| .undef,_,_,_,_,_,_,hx| .gJ,_,_,_,_,_,_,hx| .cL,_,_,_,_,_,_,hx| .str _,_,_,_,_,_,_,hx| .sl _ _,_,_,_,_,_,_,hx| .pre _ _ _ _,_,_,_,_,_,_,hx| .part _ _ _ _ _,_,_,_,_,_,_,hx
 | .pa _ _ _ _ _,_,_,_,_,_,_,hx| .pb _ _ _,_,_,_,_,_,_,hx| .bp _ _ _,_,_,_,_,_,_,hx| .aW _ _,_,_,_,_,_,_,hx| .di _ _ _,_,_,_,_,_,_,hx| .mp _,_,_,_,_,_,_,hx=>by cases hx
theorem Ej {s:List SB} {ps:bG} {z:List Nat} (hS:bL s ps): ∀{v v':List SV} {p:List PV} {seen seen':List Nat} (nx:Nat),RL s v p->FW s z seen v=acg (v',seen')-> ∃p0 p' q,lx v'=acg p0/\By nx p0=acg (p',q)/\DI ps z nx seen p=acg (p',q,seen')
 | [],v',p,seen,seen',nx,h,hx=>by injection hx with hx;injection hx with h1 h2;subst h1 h2;rw [show p=_ from h];exact ⟨_,_,_,rfl,rfl,rfl⟩
 |x::xs,v',p,seen,seen',nx,h,hx=>by
  obtain ⟨a,as,rfl,h1,h2⟩:=h.cons_inv;simp only [FW] at hx;split at hx
  · rename_i r hr
    split at hx
    · rename_i r2 L7
      injection hx with hx;injection hx with e1 e2;subst e1 e2;obtain ⟨p0,p',q,k1,k2,k3⟩:=MZ hS (v':=r.1) (seen':=r.2) nx h1 hr;obtain ⟨p02,p'2,q2,k4,k5,k6⟩:=Ej hS (v':=r2.1) (seen':=r2.2) (nx+acf q) h2 L7;exact ⟨p0::p02,p'::p'2,q++q2,cY.2 ⟨_,_,rfl,k1,k4⟩,by simp only [By,k2,k5],by simp only [DI,k3,k6]⟩
    cases hx
  cases hx
end
mutual
theorem Ga {s:List SB}: ∀{v:SV} {p:PV},R s v p->v7 v=acl->p.hY=acl
 | .int _ _,p,h,_| .bool _,p,h,_| .str _,p,h,_=>by rw [show p=_ from h];rfl
 | .agg cs,p,h,hn=>by obtain ⟨q,rfl,h⟩:=h;exact yU h hn
 | .bH cs,p,h,hn=>by obtain ⟨q,rfl,h⟩:=h;exact yU h hn
 | .fi,_,_,h| .undef,_,_,h| .gJ,_,_,h| .cL,_,_,h| .sl _ _,_,_,h| .nil _ _,_,_,h| .own _ _,_,_,h| .pre _ _ _ _,_,_,h| .part _ _ _ _ _,_,_,h| .pa _ _ _ _ _,_,_,h| .pb _ _ _,_,_,h| .bp _ _ _,_,_,h| .aW _ _,_,_,h| .di _ _ _,_,_,h| .mp _,_,_,h=>by cases h
theorem yU {s:List SB}: ∀{v:List SV} {p:List PV},RL s v p->nO v=acl->qM p=acl
 | [],p,h,_=>by rw [show p=_ from h];rfl
 |x::xs,p,h,hn=>by obtain ⟨a,as,rfl,h1,h2⟩:=h.cons_inv;simp only [nO,pp] at hn;simp only [qM,Ga h1 hn.1,yU h2 hn.2,PP]
end
mutual
theorem De {s:List SB} {u:SV}: ∀{v:SV} {p:PV},R s v p->v7 v=acm->Mr s v=acg u->p.hY=acm
 | .int _ _,p,h,hn,_| .bool _,p,h,hn,_| .str _,p,h,hn,_=>by cases hn
 | .agg cs,p,h,hn,hi=>by
  obtain ⟨q,rfl,h⟩:=h;simp only [Mr] at hi;split at hi
  · rename_i l hl;exact wo h hn hl
  cases hi
 | .bH cs,p,h,hn,hi=>by
  obtain ⟨q,rfl,h⟩:=h;simp only [Mr] at hi;split at hi
  · rename_i l hl;exact wo h hn hl
  cases hi
 | .sl _ _,p,h,_,_=>by rw [show p=_ from h];rfl
 | .nil _ _,p,h,_,_=>by rw [show p=_ from h];rfl
 | .own _ _,p,h,_,_=>by obtain ⟨e,n,rfl,_⟩:=h;rfl
 | .pre _ _ _ _,p,h,_,_=>by obtain ⟨e,rfl,_⟩:=h;rfl
 | .part _ _ _ _ _,p,h,_,_=>by obtain ⟨e,rfl,_⟩:=h;rfl
 | .fi,_,_,_,h| .undef,_,_,_,h| .gJ,_,_,_,h| .cL,_,_,_,h| .pa _ _ _ _ _,_,_,_,h| .pb _ _ _,_,_,_,h| .bp _ _ _,_,_,_,h| .aW _ _,_,_,_,h| .di _ _ _,_,_,_,h| .mp _,_,_,_,h=>by cases h
theorem wo {s:List SB}: ∀{v u:List SV} {p:List PV},RL s v p->nO v=acm->Hz s v=acg u->qM p=acm
 | [],u,p,h,hn,_=>by cases hn
 |x::xs,u,p,h,hn,hi=>by
  obtain ⟨a,as,rfl,h1,h2⟩:=h.cons_inv;simp only [Hz] at hi;split at hi
  · rename_i y ys h3 h4
    simp only [nO] at hn;simp only [qM];cases hx:v7 x with
    |false=>rw [De h1 hx h3];rfl
    |true=>rw [hx] at hn;rw [wo h2 (by simpa using hn) h4];simp
  cases hi
end
mutual
theorem SM {s:List SB} {ps:bG} (hS:bL s ps): ∀{v u:SV} {p:PV},R s v p->Mr s v=acg u-> ∃q,uc ps p=acg q/\nB u=acg q
 | .int k n,u,p,h,hx=>by injection hx with hx;subst hx;rw [show p=_ from h];exact ⟨_,rfl,rfl⟩
 | .bool b,u,p,h,hx=>by injection hx with hx;subst hx;rw [show p=_ from h];exact ⟨_,rfl,rfl⟩
 | .str x,u,p,h,hx=>by injection hx with hx;subst hx;rw [show p=_ from h];exact ⟨_,rfl,rfl⟩
 | .agg cs,u,p,h,hx=>by
  obtain ⟨q,rfl,h⟩:=h;simp only [Mr] at hx;split at hx
  · rename_i l hl
    injection hx with hx;subst hx;obtain ⟨q',h1,h2⟩:=HO hS h hl;exact ⟨.agg q',by simp only [uc,h1];rfl,by simp only [nB,h2]⟩
  cases hx
 | .bH cs,u,p,h,hx=>by
  obtain ⟨q,rfl,h⟩:=h;simp only [Mr] at hx;split at hx
  · rename_i l hl
    injection hx with hx;subst hx;obtain ⟨q',h1,h2⟩:=HO hS h hl;exact ⟨.bH q',by simp only [uc,h1];rfl,by simp only [nB,h2]⟩
  cases hx
 | .sl r l,u,p,h,hx=>by injection hx with hx;subst hx;rw [show p=_ from h];exact ⟨_,rfl,rfl⟩
 | .nil e c,u,p,h,hx=>by injection hx with hx;subst hx;rw [show p=_ from h];exact ⟨_,rfl,rfl⟩
 | .own t ex,u,p,h,hx=>by
  simp only [Mr,bz] at hx;split at hx
  · rename_i r l bw
    injection hx with hx;subst hx;obtain ⟨e,n,rfl,cm⟩:=h;obtain ⟨rfl,rfl⟩:=cm.inv bw;refine ⟨.sl (acf r) acm (l.map (RT.pv r)),?_,rfl⟩;simp only [uc,hS.arr bw,ab6];rw [ab0 (by simp)]
  cases hx
 | .pre t len cap ex,u,p,h,hx=>by
  simp only [Mr,bz] at hx;split at hx
  · rename_i r l bw
    injection hx with hx;subst hx;obtain ⟨e,rfl,cm⟩:=h;have:=cm.inv bw;subst this;refine ⟨.sl (acf r) acm ((l.take len).map (RT.pv r)),?_,rfl⟩;simp only [uc,hS.arr bw,ab6,ab2]
  cases hx
 | .part t off len cap ex,u,p,h,hx=>by
  simp only [Mr,bz] at hx;split at hx
  · rename_i r l bw
    injection hx with hx;subst hx;obtain ⟨e,rfl,cm⟩:=h;have:=cm.inv bw;subst this;refine ⟨.sl (acf r) acm (((l.drop off).take len).map (RT.pv r)),?_,rfl⟩;simp only [uc,hS.arr bw,ab2,abH]
  cases hx
 | .fi,_,_,_,hx| .undef,_,_,_,hx| .gJ,_,_,_,hx| .cL,_,_,_,hx| .pa _ _ _ _ _,_,_,_,hx| .pb _ _ _,_,_,_,hx| .bp _ _ _,_,_,_,hx| .aW _ _,_,_,_,hx| .di _ _ _,_,_,_,hx| .mp _,_,_,_,hx=>by cases hx
theorem HO {s:List SB} {ps:bG} (hS:bL s ps): ∀{v u:List SV} {p:List PV},RL s v p->Hz s v=acg u-> ∃q,DH ps p=acg q/\lx u=acg q
 | [],u,p,h,hx=>by injection hx with hx;subst hx;rw [show p=_ from h];exact ⟨_,rfl,rfl⟩
 |x::xs,u,p,h,hx=>by
  obtain ⟨a,as,rfl,h1,h2⟩:=h.cons_inv;simp only [Hz] at hx;split at hx
  · rename_i y ys h3 h4
    injection hx with hx;subst hx;obtain ⟨q,h5,h6⟩:=SM hS h1 h3;obtain ⟨qs,h7,h8⟩:=HO hS h2 h4;exact ⟨q::qs,by simp only [DH,h5,h7],cY.2 ⟨_,_,rfl,h6,h8⟩⟩
  cases hx
end
mutual
theorem M0 {s:List SB}: ∀{v:SV} {p:PV},nB v=acg p->R s v p
 | .int _ _,p,h| .bool _,p,h| .str _,p,h| .cL,p,h| .sl _ _,p,h| .nil _ _,p,h=>by injection h with h;exact h.symm
 | .agg cs,p,h=>by
  simp only [nB] at h;split at h
  · rename_i l hl;injection h with h;exact ⟨l,h.symm,BA hl⟩
  cases h
 | .bH cs,p,h=>by
  simp only [nB] at h;split at h
  · rename_i l hl;injection h with h;exact ⟨l,h.symm,BA hl⟩
  cases h
 | .aW cs o,p,h=>by
  simp only [nB] at h;split at h
  · rename_i l hl;injection h with h;exact ⟨l,h.symm,BA hl⟩
  cases h
 | .di f a b,p,h=>by
  simp only [nB] at h;split at h
  · rename_i x y h1 h2;injection h with h;exact ⟨x,y,h.symm,BA h1,BA h2⟩
  cases h
 | .fi,_,h| .undef,_,h| .gJ,_,h| .own _ _,_,h| .pre _ _ _ _,_,h| .part _ _ _ _ _,_,h| .pa _ _ _ _ _,_,h| .pb _ _ _,_,h| .bp _ _ _,_,h| .mp _,_,h=>by cases h
theorem BA {s:List SB}: ∀{v:List SV} {p:List PV},lx v=acg p->RL s v p
 | [],p,h=>by injection h with h;exact h.symm
 |x::xs,p,h=>by obtain ⟨a,as,rfl,h1,h2⟩:=cY.1 h;exact RL.cons (M0 h1) (BA h2)
end
def SN (kd:Kd) (n:Nat) (tk:List Nat) (v:SV) (r:kr):Prop:=
 match kd with
 | .pure=> ∃p,nB v=acg p/\r={v:=p,rd:=tk}
 | .qc=> ∃p,nB v=acg p/\r={v:=p,rd:=tk,fr:=tk}
 | .own=> ∃p0 p q,nB v=acg p0/\yT n p0=acg (p,q)/\r={v:=p,news:=q,rd:=tk}
def cM (F : jl) (f : FuncId) (c : nC) : Prop :=
  ∀ (a : c.α) (b : c.β) (as args : List PV) (aj : bG) (fz : List Nat), c.fn a = acg b -> lx (c.args.enc a) = acg args -> yj aj (sO aj deep) as = acg args ->
    ∃ n r, bC F (run F n) c.ow f as aj fz = acg r /\ SN c.kd (acf aj) (ck (bW aj deep) as) (c.res.enc b) r
def dQ.va (c:dQ) (a:fk c.ka):List SV:=(nP c.ta (iF c.ka a)).1
def dQ.sa (c:dQ) (a:fk c.ka):List SB:=(v9 c.tb (nP c.ta (iF c.ka a)).2).1
def dQ.vb (c:dQ) (b:fk c.ko):SV:=(oU c.tv (iF c.ko b)).1
def dQ.sb (c:dQ) (b:fk c.ko):List SB:=(v9 c.to (oU c.tv (iF c.ko b)).2).1
def M1:SB->SB->Prop
 | .arr r l,.arr q m=>r=q/\acf m=acf l
 | .box _,.box _=>True
 | .set _,.set _=>True
 | .bB _ _,.bB _ _=>True
 | .dead,.dead=>True
 |_,_=>False
def qz (F : jl) (f : FuncId) (c : dQ) : Prop :=
  ∀ (a : fk c.ka) (b : fk c.ko) (pa : List PV) (ps : bG), c.fn a = acg b -> RL (c.sa a) (c.va a) pa -> bL (c.sa a) ps ->
    ∃ n v s, run F n (.func f pa ps []) = acg (.func v s []) /\ fw (c.sa a).length v s = acl /\ R (c.sb b) (c.vb b) v /\ bL (c.sb b) (s.take (c.sa a).length) /\ (c.sb b).length = (c.sa a).length /\
      ∀ (t : Nat) (x y : SB), (c.sa a)[t]? = acg x -> (c.sb b)[t]? = acg y -> M1 x y
def wq (F:jl):List (Nat×nC)->Prop
 | []=>True
 |(f,c)::r=>cM F f c/\wq F r
def Df (F:jl):List (Nat×dQ)->Prop
 | []=>True
 |(f,c)::r=>qz F f c/\Df F r
def xE (F:jl):List (Nat×Cd)->Prop
 | []=>True
 |(f,x)::r=>F f=acg x.ent/\xE F r
structure ly (F:jl) (cx:Ctx):Prop where
 SF: ∀f c,c∈cx.SF f->cM F f c
 fpc: ∀f c,c∈cx.fpc f->qz F f c
 code: ∀f x,cx.code f=acg x->F f=acg x.ent
theorem wq.mem {F:jl}: ∀{l:List (Nat×nC)},wq F l-> ∀f c,c∈F1 l f->cM F f c
 | [],_,f,c,h=>by cases h
 |(g,d)::r,hl,f,c,h=>by
  simp only [F1] at h;cases hb:ut g f with
  |true=>
   rw [hb] at h;have:=pm hb;subst this;simp only [ls] at h;rcases h with _|⟨_,h⟩
   · exact hl.1
   exact wq.mem hl.2 _ c h
  |false=>rw [hb] at h;exact wq.mem hl.2 f c h
theorem Df.mem {F:jl}: ∀{l:List (Nat×dQ)},Df F l-> ∀f c,c∈F2 l f->qz F f c
 | [],_,f,c,h=>by cases h
 |(g,d)::r,hl,f,c,h=>by
  simp only [F2] at h;cases hb:ut g f with
  |true=>
   rw [hb] at h;have:=pm hb;subst this;simp only [ls] at h;rcases h with _|⟨_,h⟩
   · exact hl.1
   exact Df.mem hl.2 _ c h
  |false=>rw [hb] at h;exact Df.mem hl.2 f c h
theorem xE.mem {F:jl}: ∀{l:List (Nat×Cd)},xE F l-> ∀f x,Ed l f=acg x->F f=acg x.ent
 | [],_,f,c,h=>by cases h
 |(g,d)::r,hl,f,c,h=>by
  simp only [Ed] at h;cases hb:ut g f with
  |true=>rw [hb] at h;have:=pm hb;subst this;injection h with h;subst h;exact hl.1
  |false=>rw [hb] at h;exact xE.mem hl.2 f c h
theorem ly.make {F:jl} {lp:Option Nat} {c:List (Nat×nC)} {p:List (Nat×dQ)} {x:List (Nat×Cd)} {rk:List (Nat×List PT)} (h1:wq F c) (h2:Df F p) (h3:xE F x):ly F (pP lp c p x rk):=
 ⟨h1.mem,h2.mem,h3.mem⟩
section
variable {F : jl} {R' ρ : Type} {w : R' -> ρ} {y : ρ} {s : List SB} {ps : bG} {z : List Nat}
theorem tz {f:FuncId} {m:Bool} {tk:List Nat} {vs:List SV} {k:YA->eN R'} (hS:bL s ps) {as args:List PV} (hx:yj ps (sO ps deep) as=acg args) (hv:lx vs=acg args) (yx:tk=ck (bW ps deep) as):
 ∀{l:List nC},(∀c∈l,cM F f c)->HD f m s tk vs k l ρ w=acg y-> ∃sr pr,(∃n,bC F (run F n) m f as ps z=acg pr)/\Good s ps sr pr/\k (.loc sr) ρ w=acg y
 | [],_,h=>by cases h
 |c::l,hl,h=>by
  simp only [HD] at h;cases hd:c.args.dec vs with
  |none=>rw [hd] at h;exact tz hS hx hv yx (fun c hc=>hl c (abD _ hc)) h
  |some a=>
   rw [hd] at h;cases Tw:(m==c.ow) with
   |false=>rw [Tw] at h;exact tz hS hx hv yx (fun c hc=>hl c (abD _ hc)) h
   |true=>
   rw [Tw] at h;obtain ⟨b,hb,h2⟩:=bN h;have hm:m=c.ow:=by simpa using Tw
   subst hm;have adA:=c.args.law hd hv;obtain ⟨n,r,hr,xi⟩:=hl c (abU ..) a b as args ps z hb adA hx;cases hkd:c.kd with
   |pure=>rw [hkd] at h2 xi;obtain ⟨p,h3,rfl⟩:=xi;exact ⟨_,_,⟨n,hr⟩,by rw [<- yx];exact Good.val hS (M0 h3),h2⟩
   |qc=>rw [hkd] at h2 xi;obtain ⟨p,h3,rfl⟩:=xi;exact ⟨_,_,⟨n,hr⟩,by rw [<- yx];exact Good.val hS (M0 h3),h2⟩
   |own=>
    rw [hkd] at h2 xi;obtain ⟨p0,p,q,h3,h4,rfl⟩:=xi;rw [hS.len] at h4;have hbh:rl (s++(th (acf s) (c.res.enc b)).2) (acf s) (th (acf s) (c.res.enc b)).2:=fun j x hj=>by rw [v6 (by omega)];simpa using hj
    obtain ⟨k1,k2⟩:=Jl h3 h4 hbh;exact ⟨_,_,⟨n,hr⟩,by rw [<- yx];exact Good.news hS k2.1 k2.2 k1,h2⟩
end
end Go.Vm
/- A call of a function that works on the blocks that are lent to it. -/
namespace Go.Vm
def nq {α:Type}:List (Nat×α)->List α->List α
 | [],s=>s
 |(t,b)::r,s=>nq r (s.set t b)
theorem rm: ∀(l:List (Nat×SB)) (s:List SB),np l s=nq l s
 | [],s=>rfl
 |(t,b)::r,s=>by simp only [np,nq,xw,rm r]
theorem zG: ∀(l:List (Nat×gY)) (s:bG),ez l s=nq l s
 | [],s=>rfl
 |(t,b)::r,s=>by simp only [ez,nq,zG r]
theorem wv {α:Type}: ∀(l:List (Nat×α)) (s:List α),(nq l s).length=acf s
 | [],s=>rfl
 |(t,b)::r,s=>by simp [nq,wv r]
theorem rq {α:Type}: ∀(l:List (Nat×α)) (s:List α) (t:Nat),t∉l.map (·.1)->(nq l s)[t]? =s[t]?
 | [],s,t,_=>rfl
 |(u,b)::r,s,t,h=>by simp only [NE,List.mem_cons,not_or] at h;simp only [nq];rw [rq r _ t h.2,Do];simp [Ne.symm h.1]
theorem yV {α:Type}: ∀(l:List (Nat×α)) (s:List α) (j t:Nat) (b:α),(l.map (·.1)).Nodup->l[j]? =acg (t,b)->t<acf s->(nq l s)[t]? =acg b
 | [],s,j,t,b,_,h,_=>by simp at h
 |(u,c)::r,s,0,t,b,hn,h,ht=>by simp at h;obtain ⟨rfl,rfl⟩:=h;simp only [NE,abN] at hn;simp only [nq];rw [rq r _ u hn.1,Do];simp [ht]
 |(u,c)::r,s,j+1,t,b,hn,h,ht=>by simp only [NE,abN] at hn;simp only [nq];exact yV r _ j t b hn.2 (by simpa using h) (by simpa using ht)
theorem xF: ∀(l:List (Nat×SB)),tl l=l.map (·.1)
 | []=>rfl
 |(t,b)::r=>by simp [tl,xF r]
theorem Dg (g:Nat->Nat): ∀(tk:List Nat) (s:List SB),acf s=acf tk->(vo g tk s).map (·.1)=tk/\ ∀(j t:Nat) (b:SB),tk[j]? =acg t->s[j]? =acg b->(vo g tk s)[j]? =acg (t,Mz g b)
 | [],s,h=>⟨by simp [vo],fun j t b hj=>by simp at hj⟩
 |t::tk,[],h=>by simp at h
 |t::tk,b::s,h=>by
  obtain ⟨h1,h2⟩:=Dg g tk s (by simpa using h);refine ⟨by simp [vo,h1],fun j u c hj hc=>?_⟩;cases j with
  |zero=>simp at hj hc;subst hj hc;rfl
  |succ j=>simp only [vo,ab3];exact h2 j u c (by simpa using hj) (by simpa using hc)
theorem BB (g:Nat->Nat): ∀(tk:List Nat) (s:bG),acf tk<=acf s->(lB g tk s).map (·.1)=tk/\ ∀(j t:Nat) (b:gY),tk[j]? =acg t->s[j]? =acg b->(lB g tk s)[j]? =acg (t,u4 g b)
 | [],s,h=>⟨by simp [lB],fun j t b hj=>by simp at hj⟩
 |t::tk,[],h=>by simp at h
 |t::tk,b::s,h=>by
  obtain ⟨h1,h2⟩:=BB g tk s (by simpa using h);refine ⟨by simp [lB,h1],fun j u c hj hc=>?_⟩;cases j with
  |zero=>simp at hj hc;subst hj hc;rfl
  |succ j=>simp only [lB,ab3];exact h2 j u c (by simpa using hj) (by simpa using hc)
theorem Dh: ∀{l:List (Nat×gY)},(l.map (·.1)).Nodup->qO l=acl
 | [],_=>rfl
 |p::r,h=>by
  simp only [NE,abN] at h;simp only [qO,pp,abL,aag];refine ⟨fun q hq=>?_,Dh h.2⟩;cases hb:ut q.1 p.1 with
  |false=>rfl
  |true=>exact absurd (List.mem_map.2 ⟨q,hq,pm hb⟩) h.1
theorem Ek: ∀(s:List SB),yf [] s=s
 | []=>rfl
 |b::r=>by simp only [yf,Ek r];cases b<;>simp [O2,pf]
theorem Gb (s:List SB) (r:ej):r.j0 s=yf (tl r.wr) (np r.wr s)++r.news:=by
 unfold ej.j0;split
 · rename_i h;rw [h];simp only [tl,np,Ek,jt]
 simp only [jt]
def T0 (g:Nat->Nat) (s s2:List SB):Prop:= ∀(u:Nat) (x:SB),s[u]? =acg x->match x with
 | .arr r l=>s2[g u]? =acg (.arr r l)
 | .dead=>s2[g u]? =acg .dead
 | .box _=> ∃cs,s2[g u]? =acg (.box cs)
 |_=>True
mutual
theorem Jm {g:Nat->Nat} {s s2:List SB} (hb:T0 g s s2): ∀{v:SV} {p:PV},R s v p->R s2 (FY g v) (yk g p)
 | .fi,_,_=>trivial
 | .undef,p,h| .gJ,p,h| .cL,p,h| .int _ _,p,h| .bool _,p,h| .str _,p,h| .sl _ _,p,h| .nil _ _,p,h| .bp _ _ _,p,h| .mp _,p,h=>by rw [show p=_ from h];rfl
 | .agg cs,p,h=>by obtain ⟨q,rfl,h⟩:=h;exact ⟨_,rfl,ru hb h⟩
 | .bH cs,p,h=>by obtain ⟨q,rfl,h⟩:=h;exact ⟨_,rfl,ru hb h⟩
 | .aW cs o,p,h=>by obtain ⟨q,rfl,h⟩:=h;exact ⟨_,rfl,ru hb h⟩
 | .di f a b,p,h=>by obtain ⟨pa,pb,rfl,h1,h2⟩:=h;exact ⟨_,_,rfl,ru hb h1,ru hb h2⟩
 | .own t ex,p,h=>by
  obtain ⟨e,n,rfl,cm⟩:=h;refine ⟨e,n,rfl,?_⟩;rcases cm with ⟨r,l,h1,h2,h3⟩|h1
  · exact .inl ⟨r,l,hb t _ h1,h2,h3⟩
  exact .inr (hb t _ h1)
 | .pre t a b c,p,h=>by
  obtain ⟨e,rfl,cm⟩:=h;refine ⟨e,rfl,?_⟩;rcases cm with ⟨r,l,h1,h2⟩|h1|⟨cs,h1,h2⟩
  · exact .inl ⟨r,l,hb t _ h1,h2⟩
  · exact .inr (.inl (hb t _ h1))
  obtain ⟨c2,h3⟩:=hb t _ h1
  exact .inr (.inr ⟨c2,h3,h2⟩)
 | .part t o a b c,p,h=>by
  obtain ⟨e,rfl,cm⟩:=h;refine ⟨e,rfl,?_⟩;rcases cm with ⟨r,l,h1,h2⟩|h1|⟨cs,h1,h2⟩
  · exact .inl ⟨r,l,hb t _ h1,h2⟩
  · exact .inr (.inl (hb t _ h1))
  obtain ⟨c2,h3⟩:=hb t _ h1
  exact .inr (.inr ⟨c2,h3,h2⟩)
 | .pa t r i a o,p,h=>by
  obtain ⟨rfl,cm⟩:=h;refine ⟨_,rfl,?_⟩;rcases cm with ⟨l,h1,h2⟩|h1
  · exact .inl ⟨r,l,hb t _ h1,by rw [h2];rfl⟩
  exact .inr (hb t _ h1)
 | .pb t i o,p,h=>by
  obtain ⟨e,rfl,cm⟩:=h;refine ⟨e,rfl,?_⟩;rcases cm with ⟨r,l,h1,h2⟩|h1
  · exact .inl ⟨r,l,hb t _ h1,h2⟩
  exact .inr (hb t _ h1)
theorem ru {g:Nat->Nat} {s s2:List SB} (hb:T0 g s s2): ∀{v:List SV} {p:List PV},RL s v p->RL s2 (zC g v) (rZ g p)
 | [],p,h=>by rw [show p=_ from h];rfl
 |x::xs,p,h=>by obtain ⟨a,as,rfl,h1,h2⟩:=h.cons_inv;exact RL.cons (Jm hb h1) (ru hb h2)
end
theorem BC: ∀{a b:bG},(∀(t:Nat) (x:gY),a[t]? =acg x-> ∃y,b[t]? =acg y/\x.ba=y.ba)->qN a b=acl
 | [],b,_=>by cases b<;>rfl
 |x::a,[],h=>by obtain ⟨y,hy,_⟩:=h 0 x rfl;simp at hy
 |x::a,y::b,h=>by obtain ⟨y',h1,h2⟩:=h 0 x rfl;simp at h1;subst h1;have:=BC (a:=a) (b:=b) (fun t x hx=>by simpa using h (t+1) x (by simpa using hx));simp only [qN,this,acd,h2];cases y.ba<;>rfl
section
variable {F : jl} {R' ρ : Type} {w : R' -> ρ} {y : ρ} {s : List SB} {ps : bG} {z : List Nat}
theorem Jn {f:FuncId} {tk:List Nat} {HP vs:List SV} {s0:List SB} {k:YA->eN R'} (hS:bL s ps) {On:List PV} (hv:RL s HP On) (yx:tk=lA (ck (bW ps deep) On)) (hz:(tk.all fun t=>!has z t)=acl)
 (h1:pd tk HP=acg vs) (h2:CA s tk tk=acg s0):
 ∀{l:List dQ},(∀c∈l,qz F f c)->YC f (acf s) tk vs s0 k l ρ w=acg y-> ∃sr pr,(∃n,pE (run F n) f On ps z=acg pr)/\Good s ps sr pr/\k (.loc sr) ρ w=acg y
 | [],_,h=>by cases h
 |c::l,hl,h=>by
  have next:YC f (acf s) tk vs s0 k l ρ w=acg y-> ∃sr pr,(∃n,pE (run F n) f On ps z=acg pr)/\Good s ps sr pr/\k (.loc sr) ρ w=acg y:=
   fun h=>Jn hS hv yx hz h1 h2 (fun c hc=>hl c (abD _ hc)) h
  simp only [YC] at h;cases pL:(ti c.ta vs&&Bi c.tb s0) with
  |false=>rw [pL] at h;exact next h
  |true=>
   rw [pL] at h;simp only [ls] at h;cases Zi:iO c.ka (yM vs++Ea s0) with
   |none=>rw [Zi] at h;exact next h
   |some a=>
    rw [Zi] at h;obtain ⟨b,hb,h3⟩:=bN h;simp only [pp] at pL;have AQ:=lL Zi;have hva:c.va a=vs:=by unfold dQ.va;rw [AQ,kG _ pL.1]
    have hsa:c.sa a=s0:=by unfold dQ.sa;rw [AQ,kG _ pL.1];have:=xD [] pL.2;rw [aah] at this;rw [this]
    have AV:Bx tk s s0:=by have:=Bx.of (l:=[]) h2;rwa [aah] at this
    obtain ⟨pa',a1,a2⟩:=pj AV hv h1;obtain ⟨p0,b1,b2,b3⟩:=yP hS AV h2;have D0:bL s0 p0:=⟨b2,b3⟩;obtain ⟨Po,aac⟩:=tu h2;obtain ⟨n,v,sr,r1,r2,r3,r4,r5,r6⟩:=hl c (abU ..) a b pa' p0 hb (by rw [hva,hsa];exact a2) (by rw [hsa];exact D0);rw [hsa] at r2 r4 r5 r6;have yC:tk.Nodup:=by rw [yx];exact o8
    have Kc: ∀t∈tk,t<(acf s):=fun t ht=>by obtain ⟨j,hj,he⟩:=abP ht;obtain ⟨x,c',d1,_,_⟩:=aac j t (by rw [AC hj,he]);exact (v4.1 d1).1
    have aad:(c.sb b).length=(acf tk):=by rw [r5,Po]
    have adD:(acf tk)<=(acf sr):=by have:=r4.len;rw [ab7,aad] at this;rw [Po] at this;omega
    have Bt: ∀j,j<acf tk->(sr.take (acf s0))[j]? =sr[j]?:=fun j hj=>abG (by rw [Po];exact hj)
    have LQ:qN p0 sr=acl:=BC (fun t x hx=>by
     have adE:t<(acf s0):=by have:=(v4.1 hx).1;rw [b2] at this;exact this
     obtain ⟨x0,FO⟩: ∃x0,s0[t]? =acg x0:=⟨s0[t],AC adE⟩;obtain ⟨q,q1,q2⟩:=b3 t x0 FO;rw [hx] at q1;injection q1 with q1;subst q1;obtain ⟨y0,KF⟩: ∃y0,(c.sb b)[t]? =acg y0:=⟨(c.sb b)[t]'(by omega),AC (by omega)⟩;obtain ⟨q',q3,q4⟩:=r4.at_ t y0 KF;rw [Bt t (by omega)] at q3;refine ⟨q',q3,?_⟩;have Cx:=r6 t x0 y0 FO KF;cases x0 with
     |arr r l=>cases y0 with
      |arr r' l'=>obtain ⟨rfl,vQ⟩:=Cx;rw [show x=_ from q2,show q'=_ from q4];cases l<;>cases l'<;>simp_all [gY.ba]
      |_=>exact Cx.elim
     |box cs=>cases y0 with
      |box CP=>obtain ⟨_,rfl,_⟩:=q2;obtain ⟨_,rfl,_⟩:=q4;rfl
      |_=>exact Cx.elim
     |set l=>cases y0 with
      |set l'=>rw [show x=_ from q2,show q'=_ from q4];rfl
      |_=>exact Cx.elim
     |bB p l=>cases y0 with
      |bB p' l'=>rw [show x=_ from q2,show q'=_ from q4];rfl
      |_=>exact Cx.elim
     |dead=>cases y0 with
      |dead=>rw [show x=_ from q2,show q'=_ from q4]
      |_=>exact Cx.elim)
    let g:=hG tk (acf s)
    have hg: ∀j t,tk[j]? =acg t->g j=t:=fun j t hj=>by show hG tk (acf s) j=t;unfold hG;rw [hj]
    obtain ⟨w1,w2⟩:=Dg g tk (c.sb b) aad;obtain ⟨u1,u2⟩:=BB g tk sr adD
    let s2:=yf tk (np (vo g tk (c.sb b)) s)
    have vW: ∀(j t:Nat) (x:SB),tk[j]? =acg t->(c.sb b)[j]? =acg x->s2[t]? =acg (O2 tk (Mz g x)):=fun j t x hj hx=>by show (yf tk _)[t]? =_;rw [nQ,rm,yV _ s j t _ (by rw [w1];exact yC) (w2 j t x hj hx) (Kc t (List.mem_of_getElem? hj))];rfl
    have aae: ∀(t:Nat),t∉tk->s2[t]? =(s[t]?).map (O2 tk):=fun t ht=>by show (yf tk _)[t]? =_;rw [nQ,rm,rq _ s t (by rw [w1];exact ht)]
    have wZ: ∀t∈tk,∃j,tk[j]? =acg t:=fun t ht=>by obtain ⟨j,hj,he⟩:=abP ht;exact ⟨j,by rw [AC hj,he]⟩
    have oe:Fr tk s s2:=fun t x hx=>by
     by_cases ht:t∈tk
     · obtain ⟨j,hj⟩:=wZ t ht
       have G5:j<(acf tk):=(v4.1 hj).1;obtain ⟨x',c',d1,d2,d3⟩:=aac j t hj;rw [hx] at d1;injection d1 with d1;subst d1;obtain ⟨y0,KF⟩: ∃y0,(c.sb b)[j]? =acg y0:=⟨(c.sb b)[j]'(by omega),AC (by omega)⟩;have Cx:=r6 j c' y0 d3 KF;have SO:=vW j t y0 hj KF;cases x with
       |arr r l=>
        injection d2 with d2;subst d2;cases y0 with
        |arr r' l'=>
         obtain ⟨rfl,vQ⟩:=Cx;refine .inl ⟨l',SO,vQ,fun hb=>?_⟩;exfalso;have:has tk t=acl:=by unfold has;rw [List.any_eq_true];exact ⟨t,ht,by simp⟩
         rw [this] at hb;cases hb
        |_=>exact Cx.elim
       |dead=>
        injection d2 with d2;subst d2;cases y0 with
        |dead=>exact SO
        |_=>exact Cx.elim
       |box cs=>
        simp only [HA] at d2;split at d2
        · injection d2 with d2;subst d2
          cases y0 with
          |box c2=>exact .inl ⟨_,SO⟩
          |_=>exact Cx.elim
        cases d2
       |_=>trivial
     have:=aae t ht
     rw [hx] at this;cases x with
     |arr r l=>exact .inl ⟨l,this,rfl,fun _=>rfl⟩
     |dead=>exact this
     |box c2=>exact .inl ⟨_,this⟩
     |_=>trivial
    have SP:T0 g (c.sb b) s2:=fun u x hx=>by
     have Jh:u<(acf tk):=by have:=(v4.1 hx).1;omega
     have hj:tk[u]? =acg tk[u]:=AC Jh;have:=vW u _ x hj hx;rw [hg u _ hj];cases x with
     |arr r l=>exact this
     |dead=>exact this
     |box cs=>exact ⟨_,this⟩
     |_=>trivial
    have adF:(∃n,pE (run F n) f On ps z=acg {v:=yk g v,wr:=lB g tk sr}):=by
     refine ⟨n,?_⟩;unfold pE Oq;rw [<- yx,ol hz,a1,b1];dsimp only;rw [r1];dsimp only;unfold Ax;rw [ol LQ,hS.len];have:fw (acf tk) v sr=acl:=by rw [<- Po];exact r2
     rw [ol this]
    refine ⟨{v:=FY g (c.vb b),wr:=vo g tk (c.sb b)},_,adF,?_,h3⟩;have bw:ej.j0 s {v:=FY g (c.vb b),wr:=vo g tk (c.sb b)}=s2:=by rw [Gb,aah,xF,w1]
    exact {
     rd:=rfl
     fr:=rfl
     wr:=by rw [xF,w1];exact u1
     nw:=Dh (by rw [u1];exact yC)
     nl:=rfl
     aj:=by
      rw [bw];show bL s2 (ez (lB g tk sr) ps);rw [zG];refine ⟨by rw [wv,re,rm,wv,hS.len],fun t x hx=>?_⟩
      by_cases ht:t∈tk
      · obtain ⟨j,hj⟩:=wZ t ht
        have G5:j<(acf tk):=(v4.1 hj).1;obtain ⟨y0,KF⟩: ∃y0,(c.sb b)[j]? =acg y0:=⟨(c.sb b)[j]'(by omega),AC (by omega)⟩;have SO:=vW j t y0 hj KF;rw [hx] at SO;injection SO with SO;subst SO;obtain ⟨q',q3,q4⟩:=r4.at_ j y0 KF;rw [Bt j G5] at q3;refine ⟨u4 g q',yV _ ps j t _ (by rw [u1];exact yC) (u2 j t q' hj q3) (by rw [hS.len];exact Kc t ht),?_⟩;cases y0 with
        |box cs=>obtain ⟨pc,rfl,hpc⟩:=q4;exact ⟨_,rfl,RL.fr (Fr.refl tk s2) (ru SP hpc)⟩
        |arr r l=>rw [show q'=_ from q4];rfl
        |set l=>rw [show q'=_ from q4];rfl
        |bB p l=>rw [show q'=_ from q4];rfl
        |dead=>rw [show q'=_ from q4];rfl
      rw [aae t ht,ab4] at hx
      obtain ⟨x0,FO,rfl⟩:=hx;obtain ⟨q,q1,q2⟩:=hS.at_ t x0 FO;exact ⟨q,by rw [rq _ ps t (by rw [u1];exact ht)];exact q1,q2.fr oe⟩
     v:=by rw [bw];exact Jm SP r3
     YE:=by rw [bw,xF,w1];exact oe}
end
end Go.Vm
