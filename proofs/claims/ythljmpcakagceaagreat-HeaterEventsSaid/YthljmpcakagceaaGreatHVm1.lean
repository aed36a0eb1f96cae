/- The logical machine, part 1: VmDef, VmWp, VmChk, VmRel, VmRen, VmOps1, VmEff, VmOps2, VmOps3, VmOps4, VmOps5, VmOps6, VmOps7, VmOps8, VmOps9, VmEq, VmMap, VmOpsA, VmCall, VmCall2. -/
import GoSem.Dispatch
import Derived.Laws.StructEq
import Derived.Calls
import Derived.Below
import Derived.Laws.CopyRow
import Derived.Deep.AppendSrc
import Derived.Deep.Upon
import Derived.WideKeyRuns
open Bool renaming and_eq_true->v6,false_eq_true->aak,not_eq_true'->aar,or_eq_true->agq,true_and->ahi,and_true->ahk,true->ahs,false->aht
open Option.some renaming injEq->ww
open Go.Result renaming andThen_ok->AC
open Option renaming map_eq_some_iff->Do,getD_some->aaq,isSome_iff_exists->aaE,getD_none->abq,isSome_some->agP,map_some->ahb,any_some->ahe,some->ahq,none->ahr
open Go.Sem renaming run_bind->EQ,run_pure->If
open Nat renaming le_refl->IR,beq->M2,add_mul->aa2,mul_le_mul_right->aa6,lt_or_ge->aai,ble->aal,beq_eq->aav,ble_eq->ab1,add_assoc->aba,blt->abo,le_max_right->abW,zero_add->agc,le_max_left->age,eq_zero_or_pos->agS,min_eq_left->ahc,mul_eq_zero->ahd,mul_le_mul->ahf,add_zero->ahm,zero_mul->ahn
open Array renaming getElem?_eq_some_iff->NE,getElem?_setIfInBounds->aam,ext'->aat,length_toList->aaS,map->abj,range->abK,toList_map->acm,getElem?_eq_none->adc,getElem?_push->agF
open List renaming getElem?_eq_none->PP,getElem?_eq_getElem->UV,getElem?_append_right->aa9,getElem?_append_left->aaj,mem_singleton->aap,getElem?_eq_some_iff->aas,replicate->aau,getElem?_toArray->aaw,mem_append->aay,flatMap_cons->aaA,length_cons->aaV,length_append->aaX,size_toArray->ab0,getElem?_take_of_lt->ab5,mem_cons->abe,foldl_cons->abg,drop_eq_nil_of_le->abp,mem_of_getElem?->abr,mem_iff_getElem->abt,mem_cons_of_mem->abx,getElem?_drop->abz,extract_eq_take_drop->abE,ext_getElem?->abI,flatMap_nil->abY,getElem?_cons_zero->acj,length_take->acl,length_eq_zero_iff->acr,getElem?_set_self->agb,take_of_length_le->agd,length_nil->agm,take_append_drop->agB,getElem?_set_ne->agD,flatMap_append->agO,mem_replicate->ah5,append_assoc->ah6,isEmpty_iff->ah7,foldlM_cons->ah8,all_eq_true->ah9,drop_drop->ahg,mapM_cons->ahh,map_cons->ahj,getD->ahl,length->aho,length->ahp
open Prod.mk renaming injEq->aaF
open Int renaming toNat_natCast->abQ
open Decidable renaming decide->ahu
/- Definitions of a logical machine over pure values: what it computes is tied to the model's runs in VmSound. -/
namespace Go.Vm
universe u
theorem lw{α:Sort u}{a b:α}:cond ahs a b=a:=rfl
theorem pp{α:Sort u}{a b:α}:cond aht a b=b:=rfl
theorem rc{c:Prop}{h:Decidable c}(p:c){α:Sort u}{t e:α}:ite c t e=t:=if_pos p
theorem ut{c:Prop}{h:Decidable c}(p:¬c){α:Sort u}{t e:α}:ite c t e=e:=if_neg p
inductive PV where
 |undef
 |jl
 |int (k:IntKind) (n:Int)
 |bool (b:Bool)
 |str (s:ByteArray)
 |agg (cs:List PV)
 |bS (cs:List PV)
 |sl (esz:Nat) (qn:Bool) (rows:List (List PV))
 |own (t esz off len cap:Nat) (ex:Bool)
 |ptr (t esz row off:Nat)
 |bu (cells:List PV) (off:Nat)
 |mp (t:Nat)
 |eh (fn:FuncId) (fst cap:List PV)
 |dz
instance:Inhabited PV:=⟨.undef⟩
abbrev Row:=List PV
inductive jL where
 |arr (esz:Nat) (rows:List Row)
 |box (cells:List PV)
 |map (es:List (PV×PV))
 |dead
abbrev bW:=List jL
abbrev Env:=List (Nat×PV)
inductive fj where
 |t (n:Nat)
 |c (v:PV)
inductive CM where
 |TN|own|shr|fp
inductive kG where
 |Ql (x:fj)
 |pick (c a b:fj)
 |bin (op:BinOp) (x y:fj)
 |I3 (neg:Bool) (x y:fj)
 |eqc (n:Nat) (neg:Bool) (x y:fj)
 |un (op:UnOp) (x:fj)
 |conv (k:IntKind) (x:fj)
 |len (x:fj)
 |Ll (n:Nat)
 |box (x:fj)
 |alloc (cells:List PV)
 |build (zero:List PV) (parts:List (Nat×Nat×fj))
 |Az (esz n:Nat) (zero:Row) (parts:List (Nat×fj))
 |CL (x y:fj)
 |load (agg:Option Nat) (p:fj)
 |store (sz:Nat) (p v:fj)
 |I4 (x:fj)
 |I5 (off:Nat) (p:fj)
 |iD (agg:Option Nat) (off:Nat) (x:fj)
 |I6 (esz:Nat) (x i:fj)
 |CN (n esz:Nat) (p i:fj)
 |idx (n esz:Nat) (agg:Option Nat) (x i:fj)
 |I7 (x i:fj)
 |OG (esz:Nat) (x:fj) (lo hi mx:Option fj)
 |mks (esz:Nat) (zero:Row) (len cap:fj)
 |mkf (fn:FuncId) (fst cap:List fj)
 |mkm (z:Option PV)
 |lookup (n:Option Nat) (zero:PV) (ok:Bool) (m k:fj)
 |HA (n:Option Nat) (m k v:fj)
 |ext (i:Nat) (x:fj)
 |append (esz:Nat) (x y:fj)
 |copy (esz:Nat) (x y:fj)
 |clear (esz:Nat) (zero:Row) (x:fj)
 |mm (isMax:Bool) (x:fj) (xs:List fj)
 |call (m:CM) (f:FuncId) (args:List fj)
 |wF (x:fj) (args:List fj)
 |bad
structure bE where
 dst:Option Nat
 op:kG
 guard:Option (Nat×Bool)
inductive ji where
 |skip
 |region (draw:Option (List Nat)) (ops:List bE) (fH:List Nat)
 |seq (a b:ji)
 |cond (c:fj) (a b:ji)
 |block (id:Nat) (b:ji)
 |loop (live:List (Nat×Option Nat)) (b:ji)
 |exit (id:Nat)
 |ret
inductive RV where
 |tmp (t:Nat)
 |cell (t:Nat) (agg:Option Nat)
structure aK where
 CO:Nat
 code:ji
 res:List RV
inductive TO where
 |code (x:aK)
 |iZ (M3:Bool) (f:List PV->Option (PV×bW))
 |OH (f:List PV->bW->List Nat->Option (PV×bW×List Nat))
abbrev kH:=FuncId->Option TO
structure St where
 env:Env
 aA:bW
 fz:List Nat
 kn:Nat
inductive gS where
 |normal
 |exit (id:Nat)
 |ret
def lk (t:Nat):Env->PV
 | []=> .undef
 |(s,v)::r=>if M2 s t then v else lk t r
def fj.ev (e:Env):fj->PV
 | .t n=>lk n e
 | .c v=>v
def PV.pJ:PV->Bool
 | .undef| .jl| .agg _| .bS _=>aht
 |_=>ahs
def PV.plain:PV->Bool
 | .int _ _| .bool _| .str _=>ahs
 |_=>aht
def PV.cells:PV->List PV
 | .agg cs=>cs
 |v=>[v]
def PV.stored (v:PV):Option (List PV):=if v.cells.all PV.pJ then ahq v.cells else ahr
def PV.cb (v:PV):Option (List PV):=if v.cells.all PV.plain then ahq v.cells else ahr
def part (agg:Option Nat) (off:Nat) (cs:List PV):Option PV:=
 match agg with
 |some s=>if off+s<=(ahp cs) then ahq (.agg ((cs.drop off).take s)) else ahr
 |none=>cs[off]?
def nA (off:Nat) (new old:List PV):List PV:=old.take off++new++old.drop (off+ahp new)
def ai (k:IntKind) (n:Int):Int:=
 match k,n with
 | .i64,.ofNat m=>if abo m 9223372036854775808 then .ofNat m else IntKind.wrap .i64 n
 | .i64,.negSucc m=>if abo m 9223372036854775808 then .negSucc m else IntKind.wrap .i64 n
 | .u64,.ofNat m=> .ofNat (Nat.mod m 18446744073709551616)
 |k,n=>IntKind.wrap k n
def arith (op:BinOp) (k:IntKind) (a b:Int):Option PV:=
 match op with
 | .add=>ahq (.int k (ai k (a+b)))
 | .sub=>ahq (.int k (ai k (a-b)))
 | .mul=>ahq (.int k (ai k (a*b)))
 | .quo=>if b=0 then ahr else ahq (.int k (ai k (a.tdiv b)))
 | .rem=>if b=0 then ahr else ahq (.int k (a.tmod b))
 | .and=>ahq (.int k (k.wrap (BitVec.ofInt k.bits a&&&BitVec.ofInt k.bits b).toNat))
 | .or=>ahq (.int k (k.wrap (BitVec.ofInt k.bits a|||BitVec.ofInt k.bits b).toNat))
 | .xor=>ahq (.int k (k.wrap (BitVec.ofInt k.bits a^^^BitVec.ofInt k.bits b).toNat))
 | .andNot=>ahq (.int k (k.wrap (BitVec.ofInt k.bits a&&& ~~~ BitVec.ofInt k.bits b).toNat))
 | .eql=>ahq (.bool (a==b))
 | .neq=>ahq (.bool (a !=b))
 | .lss=>ahq (.bool (ahu (a<b)))
 | .leq=>ahq (.bool (ahu (a<=b)))
 | .gtr=>ahq (.bool (ahu (a>b)))
 | .geq=>ahq (.bool (ahu (a>=b)))
 | .shl| .shr=>ahr
def BM (op:BinOp) (k:IntKind) (a b:Int):Option PV:=
 if b<0 then ahr else
 let n:=min b.toNat k.bits
 match op with
 | .shl=>ahq (.int k (k.wrap (a*2^n)))
 | .shr=>ahq (.int k (a.fdiv (2^n)))
 |_=>ahr
def eZ:IntKind->IntKind->Bool
 | .i8,.i8| .i16,.i16| .i32,.i32| .i64,.i64| .u8,.u8| .u16,.u16| .u32,.u32| .u64,.u64=>ahs
 |_,_=>aht
def OI (op:BinOp) (x y:PV):Option PV:=
 match x,y with
 | .int k a,.int l b=>
  match op with
  | .shl=>BM .shl k a b
  | .shr=>BM .shr k a b
  |op=>if eZ k l then arith op k a b else ahr
 |_,_=>ahr
def qo:PV->PV->Option Bool
 | .int k a,.int l b=>if eZ k l then ahq (a==b) else ahr
 |_,_=>ahr
def c8:List PV->List PV->Option Bool
 | [],[]=>ahq ahs
 |x::xs,y::ys=>
  match qo x y with
  |some ahs=>c8 xs ys
  |some aht=>ahq aht
  |none=>ahr
 |_,_=>ahr
def unE (op:UnOp) (x:PV):Option PV:=
 match op,x with
 | .neg,.int k n=>ahq (.int k (ai k (0-n)))
 | .not,.bool b=>ahq (.bool !b)
 |_,_=>ahr
def rowsOf (aA:bW) (esz:Nat):PV->Option (List Row)
 | .sl e _ rows=>match rows with
  | []=>ahq []
  |_=>if M2 e esz then ahq rows else ahr
 | .own t e off len _ _=>if M2 e esz then (match aA[t]? with
  |some (.arr _ rows)=>ahq ((rows.drop off).take len)
  |_=>ahr) else ahr
 |_=>ahr
def iP:PV->List Nat
 | .own t _ _ _ _ _=>[t]
 |_=>[]
structure nB where
 v:PV
 news:bW:=[]
 wr:List (Nat×jL):=[]
 rd:List Nat:=[]
 fr:List Nat:=[]
def mT:List (Nat×Nat×PV)->List PV->Option (List PV)
 | [],cs=>ahq cs
 |(off,sz,v)::r,cs=>
  match v.stored with
  |some w=>if M2 (ahp w) sz&&aal (off+sz) (ahp cs) then mT r (nA off w cs) else ahr
  |none=>ahr
def pK:List (Nat×PV)->List Row->Nat->Option (List Row)
 | [],rows,_=>ahq rows
 |(i,v)::r,rows,esz=>
  match v.cb with
  |some w=>if M2 (ahp w) esz&&abo i (ahp rows) then pK r (rows.set i w) esz else ahr
  |none=>ahr
def jM:PV->Option Nat
 | .int _ n=>match n with
  | .ofNat m=>ahq m
  | .negSucc _=>ahr
 |_=>ahr
def js (n:Option Nat) (k:PV):Bool:=
 match n,k with
 |none,.int _ _=>ahs
 |some n,.agg cs=>M2 (ahp cs) n
 |_,_=>aht
def eX (n:Option Nat) (k:PV):List (PV×PV)->Nat->Option (Option Nat)
 | [],_=>ahq ahr
 |(a,_)::r,i=>
  if js n a then
   match c8 k.cells a.cells with
   |some ahs=>ahq (ahq i)
   |some aht=>eX n k r (i+1)
   |none=>ahr
  else ahr
def lI:Nat:=1048576
def ox (aA:bW) (agg:Option Nat):PV->Option nB
 | .ptr t _ row off=>match aA[t]? with
  |some (.arr _ rows)=>match rows[row]? with
   |some cs=>(part agg off cs).map fun v=>{v,rd:=[t]}
   |none=>ahr
  |some (.box cs)=>if M2 row 0 then (part agg off cs).map fun v=>{v,rd:=[t]} else ahr
  |_=>ahr
 | .bu cs off=>(part agg off cs).map fun v=>{v}
 |_=>ahr
def has (l:List Nat) (t:Nat):Bool:=l.any (M2 t)
def rG (aA:bW) (fz:List Nat) (sz:Nat) (v:PV):PV->Option nB
 | .ptr t _ row off=>match aA[t]? with
  |some (.arr e rows)=>match rows[row]?,v.cb with
   |some cs,ahq w=>if M2 (ahp w) sz&&aal (off+sz) (ahp cs)&&!has fz t then
    ahq {v:= .undef,wr:=[(t,.arr e (rows.set row (nA off w cs)))]} else ahr
   |_,_=>ahr
  |some (.box cs)=>match v.stored with
   |some w=>if M2 row 0&&M2 (ahp w) sz&&aal (off+sz) (ahp cs)&&!has fz t then
    ahq {v:= .undef,wr:=[(t,.box (nA off w cs))]} else ahr
   |none=>ahr
  |_=>ahr
 |_=>ahr
def uo (esz:Nat):PV->Bool
 | .sl e _ rows=>M2 e esz||rows.isEmpty
 | .own _ e _ _ _ _=>M2 e esz
 |_=>aht
def qp (x:PV) (lo hi mx:Option Nat):Option PV:=
 match x with
 | .sl e qn rows=>
  let l:=lo.getD 0
  let h:=hi.getD (ahp rows)
  match mx with
  |none=>if aal l h&&aal h (ahp rows) then ahq (.sl e (qn&&M2 h (ahp rows)) ((rows.drop l).take (h-l))) else ahr
  |some m=>if aal l h&&aal h m&&aal m (ahp rows) then ahq (.sl e (M2 h m) ((rows.drop l).take (h-l))) else ahr
 | .own t e off len cap ex=>
  let l:=lo.getD 0
  let h:=hi.getD len
  match mx with
  |none=>if aal l h&&aal h cap then ahq (.own t e (off+l) (h-l) (cap-l) ex) else ahr
  |some m=>if aal l h&&aal h m&&aal m cap then ahq (.own t e (off+l) (h-l) (m-l) ahs) else ahr
 |_=>ahr
def kK:Nat->List Row->List Row->List Row
 |_,[],rows=>rows
 |i,w::r,rows=>kK (i+1) r (rows.set i w)
def iQ (aA:bW) (fz:List Nat) (esz:Nat) (x y:PV):Option nB:=
 match rowsOf aA esz y with
 |none=>ahr
 |some new=>
  match new with
  | []=>match x with
   | .sl _ qn rows=>if qn&&rows.isEmpty then ahq {v:= .own (ahp aA) esz 0 0 0 aht,news:=[.arr esz []],rd:=iP y} else ahq {v:=x,rd:=iP y}
   | .own t _ _ len cap ex=>if M2 len 0&&M2 cap 0&&ex then ahq {v:= .own (ahp aA) esz 0 0 0 aht,news:=[.arr esz []],rd:=t::iP y} else ahq {v:=x,rd:=iP y}
   |_=>ahr
  |_=>
   let m:=ahp new
   match x with
   | .sl e qn rows=>
    if qn&&(M2 e esz||M2 (ahp rows) 0)&&aal (ahp rows+m) lI then
     ahq {v:= .own (ahp aA) esz 0 (ahp rows+m) (ahp rows+m) aht,news:=[.arr esz (rows++new)],rd:=iP y}
    else ahr
   | .own t e off len cap ex=>
    match aA[t]? with
    |some (.arr _ rows)=>
     if !Nat.beq e esz then ahr
     else if aal (len+m) cap then
      if has fz t then ahr else ahq {v:= .own t e off (len+m) cap ex,wr:=[(t,.arr e (kK (off+len) new rows))],rd:=iP y}
     else if !Nat.ble (len+m) lI then ahr
     else if ex then
      ahq {v:= .own (ahp aA) e 0 (len+m) (len+m) aht,news:=[.arr e ((rows.drop off).take len++new)],rd:=t::iP y}
     else if has fz t then ahr
     else ahq {v:= .own (ahp aA) e 0 (len+m) (len+m) aht,news:=[.arr e ((rows.drop off).take len++new)],wr:=[(t,.dead)],rd:=iP y}
    |_=>ahr
   |_=>ahr
def mmE (isMax:Bool) (k:IntKind):Int->List PV->Option PV
 |a,[]=>ahq (.int k a)
 |a,x::r=>match x with
  | .int l b=>if eZ k l then mmE isMax k (if isMax then (if b>a then b else a) else (if b<a then b else a)) r else ahr
  |_=>ahr
def D2 (e:Env) (l:List fj):List PV:=l.map (fj.ev e)
def sK (aA:bW) (n:Option Nat) (zero:PV) (ok:Bool) (m k:PV):Option nB:=
 match m with
 | .mp t=>match aA[t]? with
  |some (.map es)=>if js n k then (match eX n k es 0 with
   |some (ahq i)=>match es[i]? with
    |some p=>ahq {v:=if ok then .bS [p.2,.bool ahs] else p.2,rd:=[t]}
    |none=>ahr
   |some ahr=>ahq {v:=if ok then .bS [zero,.bool aht] else zero,rd:=[t]}
   |none=>ahr) else ahr
  |_=>ahr
 |_=>ahr
def CP (aA:bW) (fz:List Nat) (n:Option Nat) (m k v:PV):Option nB:=
 match m with
 | .mp t=>match aA[t]? with
  |some (.map es)=>if js n k&&!has fz t then (match k.cb,v.cb with
   |some _,ahq _=>match eX n k es 0 with
    |some (ahq i)=>ahq {v:= .undef,wr:=[(t,.map (es.set i (k,v)))]}
    |some ahr=>ahq {v:= .undef,wr:=[(t,.map (es++[(k,v)]))]}
    |none=>ahr
   |_,_=>ahr) else ahr
  |_=>ahr
 |_=>ahr
def bo (e:Env) (aA:bW) (fz:List Nat):kG->Option nB
 | .Ql x=>ahq {v:=x.ev e}
 | .pick c a b=>match c.ev e with
  | .bool ahs=>ahq {v:=a.ev e}
  | .bool aht=>ahq {v:=b.ev e}
  |_=>ahr
 | .bin op x y=>(OI op (x.ev e) (y.ev e)).map fun v=>{v}
 | .I3 neg x y=>match x.ev e,y.ev e with
  | .bool a,.bool b=>ahq {v:= .bool (if neg then !(a==b) else a==b)}
  |_,_=>ahr
 | .eqc n neg x y=>match x.ev e,y.ev e with
  | .agg xs,.agg ys=>if M2 (ahp xs) n&&M2 (ahp ys) n then (c8 xs ys).map fun b=>{v:= .bool (if neg then !b else b)} else ahr
  |_,_=>ahr
 | .un op x=>(unE op (x.ev e)).map fun v=>{v}
 | .conv k x=>match x.ev e with
  | .int _ n=>ahq {v:= .int k (ai k n)}
  |_=>ahr
 | .len x=>match x.ev e with
  | .sl _ _ rows=>ahq {v:= .int .i64 (.ofNat (ahp rows))}
  | .own _ _ _ len _ _=>ahq {v:= .int .i64 (.ofNat len)}
  |_=>ahr
 | .Ll n=>ahq {v:= .int .i64 (.ofNat n)}
 | .box x=>match (x.ev e).stored with
  |some cs=>ahq {v:= .ptr (ahp aA) (ahp cs) 0 0,news:=[.box cs]}
  |none=>ahr
 | .alloc cells=>ahq {v:= .ptr (ahp aA) (ahp cells) 0 0,news:=[.box cells]}
 | .build zero parts=>(mT (parts.map fun p=>(p.1,p.2.1,p.2.2.ev e)) zero).map fun cs=>{v:= .agg cs}
 | .Az esz n zero parts=>(pK (parts.map fun p=>(p.1,p.2.ev e)) (aau n zero) esz).map fun rows=>
  {v:= .own (ahp aA) esz 0 n n ahs,news:=[.arr esz rows]}
 | .CL x y=>if (x.ev e).pJ&&(y.ev e).pJ then ahq {v:= .own (ahp aA) 1 0 2 2 ahs,news:=[.box [x.ev e,y.ev e]]} else ahr
 | .load agg p=>ox aA agg (p.ev e)
 | .store sz p v=>rG aA fz sz (v.ev e) (p.ev e)
 | .I4 x=>match x.ev e with
  | .ptr t s r o=>ahq {v:= .ptr t s r o}
  | .bu c o=>ahq {v:= .bu c o}
  | .eh f a b=>ahq {v:= .eh f a b}
  |_=>ahr
 | .I5 off p=>match p.ev e with
  | .ptr t s r o=>ahq {v:= .ptr t s r (o+off)}
  | .bu c o=>ahq {v:= .bu c (o+off)}
  |_=>ahr
 | .iD agg off x=>match x.ev e with
  | .agg cs=>(part agg off cs).map fun v=>{v}
  |_=>ahr
 | .I6 esz x i=>match jM (i.ev e) with
  |none=>ahr
  |some n=>match x.ev e with
   | .sl s _ rows=>match rows[n]? with
    |some cs=>if M2 s esz then ahq {v:= .bu cs 0} else ahr
    |none=>ahr
   | .own t s off len _ _=>if abo n len&&M2 s esz then ahq {v:= .ptr t s (off+n) 0} else ahr
   |_=>ahr
 | .CN n esz p i=>match jM (i.ev e) with
  |none=>ahr
  |some j=>if abo j n then (match p.ev e with
   | .ptr t s r o=>ahq {v:= .ptr t s r (o+j*esz)}
   | .bu c o=>ahq {v:= .bu c (o+j*esz)}
   |_=>ahr) else ahr
 | .idx n esz agg x i=>match jM (i.ev e) with
  |none=>ahr
  |some j=>if abo j n then (match x.ev e with
   | .agg cs=>(part agg (j*esz) cs).map fun v=>{v}
   |_=>ahr) else ahr
 | .I7 x i=>match jM (i.ev e),x.ev e with
  |some j,.str s=>match s[j]? with
   |some b=>ahq {v:= .int .u8 b.toNat}
   |none=>ahr
  |_,_=>ahr
 | .OG esz x lo hi mx=>
  if !uo esz (x.ev e) then ahr else
  match (match lo with|none=>ahq ahr|some a=>(jM (a.ev e)).map ahq),
   (match hi with|none=>ahq ahr|some a=>(jM (a.ev e)).map ahq),
   (match mx with|none=>ahq ahr|some a=>(jM (a.ev e)).map ahq) with
  |some l,ahq h,ahq m=>(qp (x.ev e) l h m).map fun v=>{v}
  |_,_,_=>ahr
 | .mks esz zero l c=>match jM (l.ev e),jM (c.ev e) with
  |some n,ahq m=>if aal n m&&aal m lI then
   ahq {v:= .own (ahp aA) esz 0 n m ahs,news:=[.arr esz (aau m zero)]} else ahr
  |_,_=>ahr
 | .mkf fn a b=>ahq {v:= .eh fn (D2 e a) (D2 e b)}
 | .mkm _=>ahq {v:= .mp (ahp aA),news:=[.map []]}
 | .lookup n zero ok m k=>sK aA n zero ok (m.ev e) (k.ev e)
 | .HA n m k v=>CP aA fz n (m.ev e) (k.ev e) (v.ev e)
 | .ext i x=>match x.ev e with
  | .bS vs=>vs[i]?.map fun v=>{v}
  |_=>ahr
 | .append esz x y=>iQ aA fz esz (x.ev e) (y.ev e)
 | .copy esz x y=>match rowsOf aA esz (y.ev e),x.ev e with
  |some src,.own t s off len _ _=>match src.take len with
   | []=>ahq {v:= .int .i64 0,rd:=iP (y.ev e)}
   |r::rs=>match aA[t]? with
    |some (.arr s' rows)=>
     if M2 s esz&&!has fz t then
      ahq {v:= .int .i64 (.ofNat (ahp rs+1)),wr:=[(t,.arr s' (kK off (r::rs) rows))],rd:=iP (y.ev e)}
     else ahr
    |_=>ahr
  |_,_=>ahr
 | .clear esz zero x=>match x.ev e with
  | .own t s off len _ _=>match len with
   |0=>ahq {v:= .undef}
   |len+1=>match aA[t]? with
    |some (.arr s' rows)=>
     if M2 s esz&&!has fz t then
      ahq {v:= .undef,wr:=[(t,.arr s' (kK off (aau (len+1) zero) rows))]}
     else ahr
    |_=>ahr
  | .sl _ _ []=>ahq {v:= .undef}
  |_=>ahr
 | .mm isMax x xs=>match x.ev e with
  | .int k a=>(mmE isMax k a (D2 e xs)).map fun v=>{v}
  |_=>ahr
 | .call .. =>ahr
 | .wF .. =>ahr
 | .bad=>ahr
mutual
def BN (aA:bW) (bx:Nat->Option (List PV)):PV->Option PV
 | .undef=>ahr
 | .jl=>ahr
 | .int k n=>ahq (.int k n)
 | .bool b=>ahq (.bool b)
 | .str s=>ahq (.str s)
 | .agg cs=>(BH aA bx cs).map .agg
 | .bS cs=>(BH aA bx cs).map .bS
 | .sl e _ rows=>ahq (.sl e aht rows)
 | .own t e off len _ _=>match aA[t]? with
  |some (.arr _ rows)=>ahq (.sl e aht ((rows.drop off).take len))
  |_=>ahr
 | .ptr t _ row off=>match aA[t]? with
  |some (.box _)=>if M2 row 0 then (bx t).map (.bu · off) else ahr
  |some (.arr _ rows)=>rows[row]?.map (.bu · off)
  |_=>ahr
 | .bu cs off=>(BH aA bx cs).map (.bu · off)
 | .mp _=>ahr
 | .eh f a b=>match BH aA bx a,BH aA bx b with
  |some a',ahq b'=>ahq (.eh f a' b')
  |_,_=>ahr
 | .dz=>ahq .dz
def BH (aA:bW) (bx:Nat->Option (List PV)):List PV->Option (List PV)
 | []=>ahq []
 |x::xs=>match BN aA bx x,BH aA bx xs with
  |some y,ahq ys=>ahq (y::ys)
  |_,_=>ahr
end
def wU (aA:bW):Nat->Nat->Option (List PV)
 |0,_=>ahr
 |n+1,t=>match aA[t]? with
  |some (.box cs)=>BH aA (wU aA n) cs
  |_=>ahr
mutual
def ja (bx:Nat->List Nat):PV->List Nat
 | .agg cs=>cW bx cs
 | .bS cs=>cW bx cs
 | .own t _ _ _ _ _=>[t]
 | .ptr t _ _ _=>t::bx t
 | .bu cs _=>cW bx cs
 | .mp t=>[t]
 | .eh _ a b=>cW bx a++cW bx b
 | .undef| .jl| .int _ _| .bool _| .str _| .sl .. | .dz=>[]
def cW (bx:Nat->List Nat):List PV->List Nat
 | []=>[]
 |x::xs=>ja bx x++cW bx xs
end
def sC (_:Nat):List Nat:=[]
def cK (aA:bW):Nat->Nat->List Nat
 |0,_=>[]
 |n+1,t=>match aA[t]? with
  |some (.box cs)=>cW (cK aA n) cs
  |_=>[]
mutual
def PV.jt:PV->Bool
 | .int _ _| .bool _| .str _=>ahs
 | .agg cs=>rH cs
 | .bS cs=>rH cs
 |_=>aht
def rH:List PV->Bool
 | []=>ahs
 |x::xs=>x.jt&&rH xs
end
mutual
def w5 (aA:bW):PV->Option PV
 | .int k n=>ahq (.int k n)
 | .bool b=>ahq (.bool b)
 | .str s=>ahq (.str s)
 | .agg cs=>(D3 aA cs).map .agg
 | .bS cs=>(D3 aA cs).map .bS
 | .sl e _ rows=>ahq (.sl e aht rows)
 | .own t e off len _ _=>match aA[t]? with
  |some (.arr _ rows)=>ahq (.sl e aht ((rows.drop off).take len))
  |_=>ahr
 |_=>ahr
def D3 (aA:bW):List PV->Option (List PV)
 | []=>ahq []
 |x::xs=>match w5 aA x,D3 aA xs with
  |some y,ahq ys=>ahq (y::ys)
  |_,_=>ahr
end
mutual
def yY (aA:bW) (fz:List Nat):Nat->List Nat->PV->Option (PV×bW×List Nat)
 |_,seen,.int k n=>ahq (.int k n,[],seen)
 |_,seen,.bool b=>ahq (.bool b,[],seen)
 |nx,seen,.agg cs=>(HB aA fz nx seen cs).map fun r=>(.agg r.1,r.2)
 |nx,seen,.bS cs=>(HB aA fz nx seen cs).map fun r=>(.bS r.1,r.2)
 |nx,seen,.sl e ahs []=>ahq (.own nx e 0 0 0 aht,[.arr e []],seen)
 |nx,seen,.own t e off len cap _=>match aA[t]? with
  |some (.arr e' rows)=>if has seen t||has fz t then ahr else ahq (.own nx e off len cap aht,[.arr e' rows],t::seen)
  |_=>ahr
 |_,_,_=>ahr
def HB (aA:bW) (fz:List Nat):Nat->List Nat->List PV->Option (List PV×bW×List Nat)
 |_,seen,[]=>ahq ([],[],seen)
 |nx,seen,x::xs=>match yY aA fz nx seen x with
  |some (y,n1,ahx)=>match HB aA fz (nx+ahp n1) ahx xs with
   |some (ys,n2,ahy)=>ahq (y::ys,n1++n2,ahy)
   |none=>ahr
  |none=>ahr
end
def qH:jL->List Nat
 | .box cs=>cW sC cs
 |_=>[]
def reach (aA:bW):Nat->List Nat->List Nat->Option (List Nat)
 |_,[],seen=>ahq seen
 |0,_::_,_=>ahr
 |n+1,t::ts,seen=>
  if has seen t then reach aA n ts seen
  else match aA[t]? with
   |some b=>reach aA n (qH b++ts) (seen++[t])
   |none=>ahr
def idxOf (t:Nat):List Nat->Option Nat
 | []=>ahr
 |s::r=>if M2 s t then ahq 0 else (idxOf t r).map (· +1)
mutual
def ui (m:List Nat):PV->Option PV
 | .agg cs=>(yZ m cs).map .agg
 | .bS cs=>(yZ m cs).map .bS
 | .own t e off len cap ex=>(idxOf t m).map fun u=> .own u e off len cap ex
 | .ptr t e row off=>(idxOf t m).map fun u=> .ptr u e row off
 | .bu cs off=>(yZ m cs).map (.bu · off)
 | .mp t=>(idxOf t m).map .mp
 | .eh f a b=>match yZ m a,yZ m b with
  |some a',ahq b'=>ahq (.eh f a' b')
  |_,_=>ahr
 | .undef=>ahq .undef
 | .jl=>ahq .jl
 | .int k n=>ahq (.int k n)
 | .bool b=>ahq (.bool b)
 | .str s=>ahq (.str s)
 | .sl e c rows=>ahq (.sl e c rows)
 | .dz=>ahq .dz
def yZ (m:List Nat):List PV->Option (List PV)
 | []=>ahq []
 |x::xs=>match ui m x,yZ m xs with
  |some y,ahq ys=>ahq (y::ys)
  |_,_=>ahr
end
def nC (m:List Nat):jL->Option jL
 | .box cs=>(yZ m cs).map .box
 | .arr e rows=>ahq (.arr e rows)
 | .map es=>ahq (.map es)
 | .dead=>ahq .dead
def xf (aA:bW) (m:List Nat):List Nat->Option bW
 | []=>ahq []
 |t::ts=>match aA[t]? with
  |some b=>match nC m b,xf aA m ts with
   |some b',ahq r=>ahq (b'::r)
   |_,_=>ahr
  |none=>ahr
def xg (fz:List Nat):Nat->List Nat->List Nat
 |_,[]=>[]
 |i,t::ts=>if has fz t then i::xg fz (i+1) ts else xg fz (i+1) ts
def Gy:Option Nat->PV->PV
 |some _,.own t e off len cap _=> .own t e off len cap aht
 |_,v=>v
def qI (e:Env) (m:List Nat):Nat->List (Nat×Option Nat)->Option (Env×bW)
 |_,[]=>ahq ([],[])
 |nx,(s,k)::r=>
  match k,lk s e with
  |some esz,.sl _ ahs []=>(qI e m (nx+1) r).map fun p=>((s,.own nx esz 0 0 0 aht)::p.1,.arr esz []::p.2)
  |_,v=>match ui m v,qI e m nx r with
   |some v',ahq p=>ahq ((s,Gy k v')::p.1,p.2)
   |_,_=>ahr
def uq:Nat->List Nat
 |0=>[]
 |n+1=>uq n++[n]
def qJ (st:St) (t c esz:Nat):St:=
 match st.aA[t]? with
 |some (.box cs)=>match cs[c]? with
  |some (.sl _ ahs [])=>{st with aA:=st.aA.set t (.box (cs.set c (.own (ahp st.aA) esz 0 0 0 aht)))++[.arr esz []]}
  |_=>st
 |_=>st
def D4:PV->Option Nat
 | .ptr t _ 0 0=>ahq t
 |_=>ahr
def I8:PV->Option Nat
 | .eh _ _ (x::_)=>D4 x
 |x=>D4 x
def j9:List (Nat×Option Nat)->St->St
 | [],st=>st
 |(s,k)::r,st=>match k with
  |some n=>if aal 1000 n then (match I8 (lk s st.env) with
   |some t=>j9 r (qJ st t (n / 1000-1) (n%1000))
   |none=>j9 r st) else j9 r st
  |none=>j9 r st
def D5 (live:List (Nat×Option Nat)) (st:St):Option St:=
 match reach st.aA 4096 ((st.aA.take st.kn).flatMap qH++live.flatMap fun p=>ja sC (lk p.1 st.env)) (uq st.kn) with
 |none=>ahr
 |some m=>match xf st.aA m m,qI st.env m (ahp m) live with
  |some s1,ahq (e1,s2)=>ahq (j9 live {env:=e1,aA:=s1++s2,fz:=xg st.fz 0 m,kn:=st.kn})
  |_,_=>ahr
def norm (live:List (Nat×Option Nat)) (st:St):Option St:=
 match D5 live st with
 |some s=>if live.any fun p=>p.2.isSome then D5 live s else ahq s
 |none=>ahr
inductive Task where
 |func (f:FuncId) (args:List PV) (aA:bW) (fz:List Nat)
 |loop (live:List (Nat×Option Nat)) (b:ji) (st:St)
inductive Out where
 |func (v:PV) (aA:bW) (fz:List Nat)
 |code (e:gS) (st:St)
structure Tr where
 rd:List Nat
 wr:List Nat
 al:Bool
 I9:Bool
 cl:Bool
 lo:Nat
 hi:Nat
inductive XR where
 |loc (r:nB)
 |shr (v:PV) (aA:bW) (fz:List Nat)
def fR:List (Nat×jL)->bW->bW
 | [],s=>s
 |(t,b)::r,s=>fR r (s.set t b)
def D6:PV->Bool
 | .ptr .. =>ahs
 | .own .. =>ahs
 | .mp _=>ahs
 |_=>aht
def deep:Nat:=8
def cC (F:kH) (rec:Task->Option Out) (own:Bool) (f:FuncId) (args:List PV) (aA:bW) (fz:List Nat):Option nB:=
 match BH aA (wU aA deep) args with
 |none=>ahr
 |some mU=>
  let tk:=cW (cK aA deep) args
  match F f with
  |some (.iZ M3 p)=>match p mU with
   |some (v,news)=>match yY news [] (ahp aA) [] v with
    |some (v',n2,_)=>
     if M3 then match args with
      | .own t _ _ _ _ _::r=>
       let tr:=cW (cK aA deep) r
       if has fz t||has tr t then ahr
       else ahq {v:=v',news:=n2,wr:=[(t,.dead)],rd:=tr}
      |_=>ahr
     else ahq {v:=v',news:=n2,rd:=tk}
    |none=>ahr
   |none=>ahr
  |_=>match rec (.func f mU [] []) with
   |some (.func v s1 z1)=>
    if own then match yY s1 z1 (ahp aA) [] v with
     |some (v',n2,_)=>ahq {v:=v',news:=n2,rd:=tk}
     |none=>ahr
    else if v.jt then ahq {v,rd:=tk}
    else match w5 s1 v with
     |some v'=>ahq {v:=v',rd:=tk,fr:=tk}
     |none=>ahr
   |_=>ahr
def jL.bA:jL->Bool
 | .dead=>aht
 | .arr _ []=>aht
 |_=>ahs
def oy:List Nat->List Nat
 | []=>[]
 |t::r=>if has r t then oy r else t::oy r
mutual
def BO (g:Nat->Nat):PV->PV
 | .agg cs=> .agg (wG g cs)
 | .bS cs=> .bS (wG g cs)
 | .own t e off len cap ex=> .own (g t) e off len cap ex
 | .ptr t e row off=> .ptr (g t) e row off
 | .bu cs off=> .bu (wG g cs) off
 | .mp t=> .mp (g t)
 | .eh f a b=> .eh f (wG g a) (wG g b)
 | .undef=> .undef
 | .jl=> .jl
 | .int k n=> .int k n
 | .bool b=> .bool b
 | .str s=> .str s
 | .sl e c rows=> .sl e c rows
 | .dz=> .dz
def wG (g:Nat->Nat):List PV->List PV
 | []=>[]
 |x::xs=>BO g x::wG g xs
end
def za (g:Nat->Nat):jL->jL
 | .box cs=> .box (wG g cs)
 |b=>b
def AA (g:Nat->Nat):bW->bW
 | []=>[]
 |b::r=>za g b::AA g r
def jV (tk:List Nat) (n u:Nat):Nat:=
 match tk[u]? with
 |some t=>t
 |none=>n+(u-(ahp tk))
def oB (g:Nat->Nat):List Nat->bW->List (Nat×jL)
 |t::r,b::s=>(t,za g b)::oB g r s
 |_,_=>[]
def uY:bW->bW->Bool
 | [],_=>ahs
 |b::r,c::q=>(match b.bA,c.bA with|true,ahs=>ahs|false,aht=>ahs|_,_=>aht)&&uY r q
 |_::_,[]=>aht
def T0 (args:List PV) (aA:bW) (fz:List Nat) (tk:List Nat):Option (List PV×bW):=
 if tk.all fun t=>!has fz t then
  match yZ tk args,xf aA tk tk with
  |some a,ahq s=>ahq (a,s)
  |_,_=>ahr
 else ahr
def gZ (k:Nat) (v:PV) (s:bW):Bool:=(ja sC v++(s.take k).flatMap qH).all fun t=>abo t k
def D7 (tk:List Nat) (n:Nat) (s0:bW) (v:PV) (s:bW):Option nB:=
 if uY s0 s then ahq {v:=BO (jV tk n) v,news:=if gZ (ahp tk) v s then [] else AA (jV tk n) (s.drop (ahp tk)),wr:=oB (jV tk n) tk s} else ahr
def tu (rec:Task->Option Out) (f:FuncId) (args:List PV) (aA:bW) (fz:List Nat):Option nB:=
 match T0 args aA fz (oy (cW (cK aA deep) args)) with
 |none=>ahr
 |some (a,s0)=>match rec (.func f a s0 []) with
  |some (.func v s [])=>D7 (oy (cW (cK aA deep) args)) (ahp aA) s0 v s
  |_=>ahr
def fI (rec:Task->Option Out) (f:FuncId) (args:List PV) (aA:bW) (fz:List Nat):Option XR:=
 match rec (.func f args aA fz) with
 |some (.func v s z)=>if aal (ahp aA) (ahp s)&&fz.all (has z) then ahq (.shr v s z) else ahr
 |_=>ahr
def wH (F:kH) (rec:Task->Option Out) (e:Env) (aA:bW) (fz:List Nat):kG->Option XR
 | .call m f args=>match m with
  | .TN=>(cC F rec aht f (D2 e args) aA fz).map .loc
  | .own=>(cC F rec ahs f (D2 e args) aA fz).map .loc
  | .shr=>fI rec f (D2 e args) aA fz
  | .fp=>(tu rec f (D2 e args) aA fz).map .loc
 | .wF x args=>match x.ev e with
  | .eh f a b=>
   if (D2 e args++b).any D6 then fI rec f (a++D2 e args++b) aA fz
   else (cC F rec aht f (a++D2 e args++b) aA fz).map .loc
  |_=>ahr
 |op=>(bo e aA fz op).map .loc
def iK (d:Option Nat) (v:PV) (e:Env):Env:=
 match d with
 |some t=>(t,v)::e
 |none=>e
def sD (s:bW):List jL->bW
 | []=>s
 |b::r=>s++b::r
theorem qK (s:bW) (l:List jL):sD s l=s++l:=by
 cases l
 · exact (List.append_nil s).symm
 rfl
def XR.next (d:Option Nat) (st:St):XR->St
 | .loc r=>{env:=iK d r.v st.env,aA:=sD (fR r.wr st.aA) r.news,fz:=r.fr++st.fz,kn:=st.kn}
 | .shr v s z=>{env:=iK d v st.env,aA:=s,fz:=z,kn:=st.kn}
def XR.tr (nx:Nat):XR->Tr
 | .loc r=>⟨r.rd++r.fr,r.wr.map (·.1),!r.news.isEmpty,aht,(r.rd++r.fr).all (abo · nx)&&r.wr.all (fun p=>abo p.1 nx),nx,nx+ahp r.news⟩
 | .shr .. =>⟨[],[],ahs,ahs,ahs,0,0⟩
def uZ:List (Nat×jL)->Bool
 | []=>ahs
 |p::r=>(r.all fun q=>!Nat.beq q.1 p.1)&&uZ r
def XR.ok (fz:List Nat):XR->Bool
 | .loc r=>(r.wr.all fun p=>!has fz p.1)&&uZ r.wr
 | .shr .. =>ahs
def Tr.idle:Tr:=⟨[],[],aht,aht,ahs,0,0⟩
def wanted (g:Option (Nat×Bool)) (e:Env):Option Bool:=
 match g with
 |none=>ahq ahs
 |some (s,want)=>match lk s e with
  | .bool b=>ahq (b==want)
  | .jl=>ahq aht
  |_=>ahr
def mf (F:kH) (rec:Task->Option Out):List bE->St->List Tr->Option (St×List Tr)
 | [],st,tr=>ahq (st,tr)
 |o::r,st,tr=>
  match wanted o.guard st.env with
  |some ahs=>match wH F rec st.env st.aA st.fz o.op with
   |some x=>if x.ok st.fz then mf F rec r (x.next o.dst st) (x.tr (ahp st.aA)::tr) else ahr
   |none=>ahr
  |some aht=>mf F rec r {st with env:=iK o.dst .jl st.env} (Tr.idle::tr)
  |none=>ahr
def meets (a b:List Nat):Bool:=a.any (has b)
def Tr.gM (a:Tr):Bool:=!a.rd.isEmpty||!a.wr.isEmpty||a.al||a.I9
def Tr.ur (a b:Tr):Bool:=
 (a.I9&&b.gM)||(b.I9&&a.gM)||meets a.wr b.rd||meets a.wr b.wr||meets a.rd b.wr||
  b.wr.any fun t=>aal a.lo t&&abo t a.hi
def BP (rows:List Row):Bool:=rows.all fun r=>M2 (ahp r) 1&&r.all PV.plain
def abk (args:List PV) (aA:bW) (fz:List Nat):Option (PV×bW×List Nat):=
 match args with
 | [.own t e off len _ _]=>match aA[t]? with
  |some (.box [.sl e1 _ x,.sl e2 _ y])=>if M2 e 1&&M2 off 0&&M2 len 2&&!has fz t&&BP x&&BP y&&aal 1 (ahp x+ahp y)&&aal (ahp x+ahp y) lI&&(M2 e1 1||x.isEmpty)&&(M2 e2 1||y.isEmpty) then
   ahq (.own (ahp aA) 1 0 (x++y).length (x++y).length aht,aA.set t .dead++[.arr 1 (x++y)],fz)
   else ahr
  |_=>ahr
 |_=>ahr
def HC (i:Nat) (a:Tr):List (Tr×Nat)->Bool
 | []=>ahs
 |(b,bf)::r=>(!a.ur b||bf.testBit i)&&HC i a r
def qL:Nat->List (Tr×Nat)->Bool
 |_,[]=>ahs
 |i,(a,_)::r=>a.cl&&HC i a r&&qL (i+1) r
def kZ (F:kH) (rec:Task->Option Out) (draw:Option (List Nat)) (ops:List bE) (fH:List Nat) (st:St):Option St:=
 match mf F rec ops st [] with
 |none=>ahr
 |some (kA,tr)=>
  let st2:St:={kA with env:=fH.map fun s=>(s,lk s kA.env)}
  match draw with
  |none=>ahq st2
  |some bf=>if qL 0 (tr.reverse.zip bf) then ahq st2 else ahr
def sE (F:kH) (rec:Task->Option Out):ji->St->Option (gS×St)
 | .skip,st=>ahq (.normal,st)
 | .region d ops fH,st=>(kZ F rec d ops fH st).map fun s=>(.normal,s)
 | .seq a b,st=>match sE F rec a st with
  |some (.normal,kA)=>sE F rec b kA
  |r=>r
 | .cond c a b,st=>match c.ev st.env with
  | .bool ahs=>sE F rec a st
  | .bool aht=>sE F rec b st
  |_=>ahr
 | .block id b,st=>match sE F rec b st with
  |some (.exit j,kA)=>if M2 j id then ahq (.normal,kA) else ahq (.exit j,kA)
  |r=>r
 | .loop live b,st=>match rec (.loop live b st) with
  |some (.code e kA)=>ahq (e,kA)
  |_=>ahr
 | .exit id,st=>ahq (.exit id,st)
 | .ret,st=>ahq (.ret,st)
def D8 (st:St):RV->Option PV
 | .tmp t=>ahq (lk t st.env)
 | .cell t agg=>(ox st.aA agg (lk t st.env)).map (·.v)
def nD (st:St):List RV->Option (List PV)
 | []=>ahq []
 |r::rs=>match D8 st r,nD st rs with
  |some v,ahq vs=>ahq (v::vs)
  |_,_=>ahr
def results1:List PV->PV
 | [v]=>v
 |vs=> .bS vs
def uu:Nat->List PV->Env
 |_,[]=>[]
 |i,v::r=>(i,v)::uu (i+1) r
def step (F:kH) (rec:Task->Option Out):Task->Option Out
 | .func f args aA fz=>match F f with
  |some (.code x)=>
   if M2 (ahp args) x.CO then
    match sE F rec x.code {env:=uu 0 args,aA,fz,kn:=ahp aA} with
    |some (.normal,st)=>(nD st x.res).map fun vs=> .func (results1 vs) st.aA st.fz
    |some (.ret,st)=>(nD st x.res).map fun vs=> .func (results1 vs) st.aA st.fz
    |_=>ahr
   else ahr
  |some (.OH p)=>(p args aA fz).map fun r=> .func r.1 r.2.1 r.2.2
  |_=>ahr
 | .loop live b st=>match norm live st with
  |none=>ahr
  |some st1=>match sE F rec b st1 with
   |some (.normal,st2)=>rec (.loop live b st2)
   |some (e,st2)=>ahq (.code e st2)
   |none=>ahr
def fk (esz:Nat):List PV->Option (PV×bW)
 | [.sl e _ rows]=>match rows with
  | []=>ahq (.own 1 esz 0 0 0 aht,[.arr esz [],.arr esz []])
  |r::rs=>if M2 e esz&&aal (ahp rs+1) lI then ahq (.own 1 esz 0 (0+(ahp rs+1)) (0+(ahp rs+1)) aht,[.arr esz [],.arr esz (r::rs)]) else ahr
 |_=>ahr
def Qw (esz:Nat) (args:List PV) (aA:bW) (fz:List Nat):Option (PV×bW×List Nat):=
 match args with
 | [.own t e off len _ _,.int .i64 i,.own u e2 ahz I' _ _]=>
  match aA[t]?,aA[u]? with
  |some (.arr _ rows),ahq (.arr _ new)=>
   if M2 e esz&&M2 e2 esz&&M2 off 0&&M2 ahz 0&&M2 len (ahp rows)&&M2 I' 1&&M2 (ahp new) 1&&!Nat.beq t u&&!has fz t&&ahu (0<=i)&&aal i.toNat len&&aal (len+1) lI then
    ahq (.own (ahp aA) esz 0 (len+1) (len+1) aht,aA.set t .dead++[.arr esz (rows.take i.toNat++new++rows.drop i.toNat)],fz)
   else ahr
  |_,_=>ahr
 |_=>ahr
def zB:List PV->Option (PV×bW)
 | [.int .u64 (.ofNat a),.int .u64 (.ofNat b),.int .u64 (.ofNat c)]=>
  if aal c 1 then
   let s:=a+b+c
   ahq (.bS [.int .u64 (.ofNat (s%18446744073709551616)),.int .u64 (.ofNat (s / 18446744073709551616))],[])
  else ahr
 |_=>ahr
noncomputable def run (F:kH) (n:Nat):Task->Option Out:=Nat.rec (fun _=>ahr) (fun _ ih=>step F ih) n
end Go.Vm
/- Rules for the logical machine: what more fuel keeps, and a calculus of its runs. -/
namespace Go.Vm
def Le (r s:Task->Option Out):Prop:= ∀t o,r t=ahq o->s t=ahq o
structure T1 (F G:kH) (r:Task->Option Out):Prop where
 yes: ∀f e,F f=ahq e->G f=ahq e
 no: ∀f,F f=ahr->G f=ahr\/ ∀a,r (.func f a [] [])=ahr
theorem T1.refl (F:kH) (r:Task->Option Out):T1 F F r:=⟨fun _ _ h=>h,fun _ h=> .inl h⟩
theorem o6 {F G:kH} {r s:Task->Option Out} (g:T1 F G r) (h:Le r s) {own:Bool} {f:FuncId} {args:List PV} {aA:bW} {fz:List Nat} {x:nB}
 (hx:cC F r own f args aA fz=ahq x):cC G s own f args aA fz=ahq x:=by
 cases ha:BH aA (wU aA deep) args with
 |none=>simp [cC,ha] at hx
 |some a=>
  simp only [cC,ha] at hx ⊢;cases hp:F f with
  |none=>
   rw [hp] at hx;dsimp only at hx;cases hr:r (.func f a [] []) with
   |none=>rw [hr] at hx;cases hx
   |some o=>
    rw [hr] at hx;rcases g.no f hp with hq|hq
    · rw [hq];dsimp only;rw [h _ _ hr];exact hx
    rw [hq a] at hr;cases hr
  |some en=>
   rw [hp] at hx;rw [g.yes f _ hp];cases en with
   |iZ k p=>exact hx
   |code x=>
    dsimp only at hx ⊢;cases hr:r (.func f a [] []) with
    |none=>rw [hr] at hx;cases hx
    |some o=>rw [hr] at hx;rw [h _ _ hr];exact hx
   |OH x=>
    dsimp only at hx ⊢;cases hr:r (.func f a [] []) with
    |none=>rw [hr] at hx;cases hx
    |some o=>rw [hr] at hx;rw [h _ _ hr];exact hx
theorem wI {r s:Task->Option Out} (h:Le r s) {f:FuncId} {args:List PV} {aA:bW} {fz:List Nat} {x:XR}
 (hx:fI r f args aA fz=ahq x):fI s f args aA fz=ahq x:=by
 unfold fI at hx ⊢;cases hr:r (.func f args aA fz) with
 |none=>rw [hr] at hx;cases hx
 |some o=>rw [hr] at hx;rw [h _ _ hr];exact hx
theorem Ja {r s:Task->Option Out} (h:Le r s) {f:FuncId} {args:List PV} {aA:bW} {fz:List Nat} {x:nB}
 (hx:tu r f args aA fz=ahq x):tu s f args aA fz=ahq x:=by
 unfold tu at hx ⊢;cases hl:T0 args aA fz (oy (cW (cK aA deep) args)) with
 |none=>rw [hl] at hx;cases hx
 |some p=>
  rw [hl] at hx;dsimp only at hx ⊢;cases hr:r (.func f p.1 p.2 []) with
  |none=>rw [hr] at hx;cases hx
  |some o=>rw [hr] at hx;rw [h _ _ hr];exact hx
theorem Jb {F G:kH} {r s:Task->Option Out} (g:T1 F G r) (h:Le r s) {e:Env} {aA:bW} {fz:List Nat} {op:kG} {x:XR}
 (hx:wH F r e aA fz op=ahq x):wH G s e aA fz op=ahq x:=by
 cases op with
 |call m f args=>
  cases m with
  |TN=>simp only [wH,Do] at hx ⊢;obtain ⟨a,ha,rfl⟩:=hx;exact ⟨a,o6 g h ha,rfl⟩
  |own=>simp only [wH,Do] at hx ⊢;obtain ⟨a,ha,rfl⟩:=hx;exact ⟨a,o6 g h ha,rfl⟩
  |shr=>exact wI h hx
  |fp=>simp only [wH,Do] at hx ⊢;obtain ⟨a,ha,rfl⟩:=hx;exact ⟨a,Ja h ha,rfl⟩
 |wF c args=>
  simp only [wH] at hx ⊢;split at hx
  · split at hx
    · rename_i hc;simp only [hc,if_true];exact wI h hx
    rename_i hc
    rw [ut hc];rw [Do] at hx ⊢;obtain ⟨a,ha,rfl⟩:=hx;exact ⟨a,o6 g h ha,rfl⟩
  cases hx
 |_=>exact hx
theorem D9 {F G:kH} {r s:Task->Option Out} (g:T1 F G r) (h:Le r s) (ops:List bE):
 ∀(st:St) (tr:List Tr) (x:St×List Tr),mf F r ops st tr=ahq x->mf G s ops st tr=ahq x:=by
 induction ops with
 |nil=>intro st tr x hx;exact hx
 |cons o l ih=>
  intro st tr x hx;simp only [mf] at hx ⊢;cases hw:wanted o.guard st.env with
  |none=>rw [hw] at hx;cases hx
  |some b=>
   rw [hw] at hx;cases b with
   |false=>exact ih _ _ _ hx
   |true=>
    dsimp only at hx ⊢;cases hy:wH F r st.env st.aA st.fz o.op with
    |none=>rw [hy] at hx;cases hx
    |some y=>
     rw [hy] at hx;rw [Jb g h hy];dsimp only at hx ⊢;split at hx
     · rename_i zC;rw [rc zC];exact ih _ _ _ hx
     cases hx
theorem Gh {F G:kH} {r s:Task->Option Out} (g:T1 F G r) (h:Le r s) {d:Option (List Nat)} {ops:List bE} {fH:List Nat} {st kA:St}
 (hx:kZ F r d ops fH st=ahq kA):kZ G s d ops fH st=ahq kA:=by
 unfold kZ at hx ⊢;cases hy:mf F r ops st [] with
 |none=>rw [hy] at hx;cases hx
 |some y=>rw [hy] at hx;rw [D9 g h _ _ _ _ hy];exact hx
theorem pL {F G:kH} {r s:Task->Option Out} (g:T1 F G r) (h:Le r s) (c:ji):
 ∀(st:St) (x:gS×St),sE F r c st=ahq x->sE G s c st=ahq x:=by
 induction c with
 |skip=>intro st x hx;exact hx
 |region d ops fH=>intro st x hx;simp only [sE,Do] at hx ⊢;obtain ⟨a,ha,rfl⟩:=hx;exact ⟨a,Gh g h ha,rfl⟩
 |seq a b iha T2=>
  intro st x hx;simp only [sE] at hx ⊢;cases hy:sE F r a st with
  |none=>rw [hy] at hx;cases hx
  |some y=>
   rw [hy] at hx;rw [iha _ _ hy];obtain ⟨e,st1⟩:=y;cases e with
   |normal=>exact T2 _ _ hx
   |exit i=>exact hx
   |ret=>exact hx
 |cond c a b iha T2=>
  intro st x hx;simp only [sE] at hx ⊢;split at hx
  · exact iha _ _ hx
  · exact T2 _ _ hx
  cases hx
 |block id b ih=>
  intro st x hx;simp only [sE] at hx ⊢;cases hy:sE F r b st with
  |none=>rw [hy] at hx;cases hx
  |some y=>rw [hy] at hx;rw [ih _ _ hy];exact hx
 |loop live b _=>
  intro st x hx;simp only [sE] at hx ⊢;split at hx
  · rename_i e st1 hr;rw [h _ _ hr];exact hx
  cases hx
 |exit id=>intro st x hx;exact hx
 |ret=>intro st x hx;exact hx
theorem Gz {F G:kH} {r s:Task->Option Out} (g:T1 F G r) (h:Le r s):Le (step F r) (step G s):=by
 intro t o ho;cases t with
 |func f args aA fz=>
  simp only [step] at ho ⊢;split at ho
  · rename_i x hx
    rw [g.yes f _ hx];dsimp only;split at ho
    · rename_i hl
      simp only [hl,if_true];split at ho
      · rename_i st1 hc;rw [pL g h _ _ _ hc];exact ho
      · rename_i st1 hc;rw [pL g h _ _ _ hc];exact ho
      cases ho
    cases ho
  · rename_i p hx
    rw [g.yes f _ hx];exact ho
  cases ho
 |loop live b st=>
  simp only [step] at ho ⊢;split at ho
  · cases ho
  rename_i st1 hn
  split at ho
  · rename_i st2 hc;rw [pL g h _ _ _ hc];exact h _ _ ho
  · rename_i e st2 dE hc
    rw [pL g h _ _ _ hc];cases e with
    |normal=>exact absurd rfl (dE ·)
    |exit i=>exact ho
    |ret=>exact ho
  cases ho
theorem kf (F:kH) (n:Nat):run F (n+1)=step F (run F n):=rfl
theorem abl (F:kH) (n:Nat):Le (run F n) (run F (n+1)):=by
 induction n with
 |zero=>intro t o h;cases h
 |succ n ih=>exact Gz (.refl _ _) ih
theorem pM (F:kH) {n m:Nat} (h:n<=m):Le (run F n) (run F m):=by
 induction h with
 |refl=>intro t o h;exact h
 |step _ ih=>intro t o h;exact abl F _ _ _ (ih _ _ h)
theorem M4 {F G:kH} (h: ∀f e,F f=ahq e->G f=ahq e) (n:Nat):T1 F G (run F n):=⟨h,fun f hf=> .inr fun a=>by
 cases n with
 |zero=>rfl
 |succ n=>rw [kf];simp only [step,hf]⟩
theorem T3 {F G:kH} (h: ∀f e,F f=ahq e->G f=ahq e) (n:Nat):Le (run F n) (run G n):=by
 induction n with
 |zero=>intro t o h;cases h
 |succ n ih=>exact Gz (M4 h n) ih
def Fin (F:kH) (t:Task) (Q:Out->Prop):Prop:= ∃n o,run F n t=ahq o/\Q o
def WP (F:kH) (c:ji) (st:St) (Q:gS->St->Prop):Prop:= ∃n e s,sE F (run F n) c st=ahq (e,s)/\Q e s
def WO (F:kH) (ops:List bE) (st:St) (tr:List Tr) (Q:St->List Tr->Prop):Prop:=
 ∃n s t,mf F (run F n) ops st tr=ahq (s,t)/\Q s t
variable {F : kH}
theorem Fin.mono {t:Task} {Q R:Out->Prop} (h:Fin F t Q) (hr: ∀o,Q o->R o):Fin F t R:=
 let ⟨n,o,e,q⟩:=h;⟨n,o,e,hr _ q⟩
theorem WP.mono {c:ji} {st:St} {Q R:gS->St->Prop} (h:WP F c st Q) (hr: ∀e s,Q e s->R e s):WP F c st R:=
 let ⟨n,e,s,x,q⟩:=h;⟨n,e,s,x,hr _ _ q⟩
theorem WP.skip {st:St} {Q:gS->St->Prop} (h:Q .normal st):WP F .skip st Q:=⟨0,_,_,rfl,h⟩
theorem WP.ret {st:St} {Q:gS->St->Prop} (h:Q .ret st):WP F .ret st Q:=⟨0,_,_,rfl,h⟩
theorem WP.exit {id:Nat} {st:St} {Q:gS->St->Prop} (h:Q (.exit id) st):WP F (.exit id) st Q:=⟨0,_,_,rfl,h⟩
def andThen (k:St->Prop) (Q:gS->St->Prop):gS->St->Prop
 | .normal,s=>k s
 |e,s=>Q e s
theorem WP.seq {a b:ji} {st:St} {Q:gS->St->Prop} (h:WP F a st (andThen (fun s=>WP F b s Q) Q)):WP F (.seq a b) st Q:=by
 obtain ⟨n,e,s,he,hq⟩:=h;cases e with
 |normal=>obtain ⟨m,e',s',BI,Qm⟩:=hq;refine ⟨max n m,e',s',?_,Qm⟩;simp only [sE];rw [pL (.refl _ _) (pM F (age n m)) _ _ _ he];exact pL (.refl _ _) (pM F (abW n m)) _ _ _ BI
 |exit i=>exact ⟨n,_,s,by simp only [sE,he],hq⟩
 |ret=>exact ⟨n,_,s,by simp only [sE,he],hq⟩
theorem WP.aan {c:fj} {a b:ji} {st:St} {Q:gS->St->Prop} (hc:c.ev st.env= .bool ahs) (h:WP F a st Q):WP F (.cond c a b) st Q:=by obtain ⟨n,e,s,he,hq⟩:=h;exact ⟨n,e,s,by simp only [sE,hc,he],hq⟩
theorem WP.aao {c:fj} {a b:ji} {st:St} {Q:gS->St->Prop} (hc:c.ev st.env= .bool aht) (h:WP F b st Q):WP F (.cond c a b) st Q:=by obtain ⟨n,e,s,he,hq⟩:=h;exact ⟨n,e,s,by simp only [sE,hc,he],hq⟩
theorem WP.cond {c:fj} {a b:ji} {st:St} {Q:gS->St->Prop} (t:Bool) (hc:c.ev st.env= .bool t)
 (ha:t=ahs->WP F a st Q) (hb:t=aht->WP F b st Q):WP F (.cond c a b) st Q:=by
 cases t
 · exact WP.aao hc (hb rfl)
 exact WP.aan hc (ha rfl)
def inBlock (id:Nat) (Q:gS->St->Prop):gS->St->Prop
 | .exit j,s=>if j=id then Q .normal s else Q (.exit j) s
 |e,s=>Q e s
theorem WP.block {id:Nat} {b:ji} {st:St} {Q:gS->St->Prop} (h:WP F b st (inBlock id Q)):WP F (.block id b) st Q:=by
 obtain ⟨n,e,s,he,hq⟩:=h;cases e with
 |normal=>exact ⟨n,_,s,by simp only [sE,he],hq⟩
 |ret=>exact ⟨n,_,s,by simp only [sE,he],hq⟩
 |exit j=>
  by_cases hj:j=id
  · subst hj
    have Qm:Q .normal s:=by simpa [inBlock] using hq
    exact ⟨n,.normal,s,by simp [sE,he],Qm⟩
  have Qm:Q (.exit j) s:=by simpa [inBlock,hj] using hq
  exact ⟨n,.exit j,s,by simp [sE,he,hj],Qm⟩
def pN (fH:List Nat) (s:St):St:={s with env:=fH.map fun t=>(t,lk t s.env)}
theorem WP.region {ops:List bE} {fH:List Nat} {st:St} {Q:gS->St->Prop}
 (h:WO F ops st [] (fun s _=>Q .normal (pN fH s))):WP F (.region ahr ops fH) st Q:=by
 obtain ⟨n,s,t,he,hq⟩:=h;exact ⟨n,.normal,_,by simp only [sE,kZ,he];rfl,hq⟩
theorem WP.T4 {bf:List Nat} {ops:List bE} {fH:List Nat} {st:St} {Q:gS->St->Prop}
 (h:WO F ops st [] (fun s t=>qL 0 (t.reverse.zip bf)=ahs/\Q .normal (pN fH s))):WP F (.region (ahq bf) ops fH) st Q:=by
 obtain ⟨n,s,t,he,ho,hq⟩:=h;exact ⟨n,.normal,pN fH s,by simp [sE,kZ,he,ho,pN],hq⟩
theorem WO.nil {st:St} {tr:List Tr} {Q:St->List Tr->Prop} (h:Q st tr):WO F [] st tr Q:=⟨0,_,_,rfl,h⟩
theorem WO.op {o:bE} {r:List bE} {st:St} {tr:List Tr} {Q:St->List Tr->Prop} (x:nB)
 (hw:wanted o.guard st.env=ahq ahs) (hx: ∀rec,wH F rec st.env st.aA st.fz o.op=ahq (.loc x)) (zC:(XR.loc x).ok st.fz=ahs)
 (h:WO F r ((XR.loc x).next o.dst st) ((XR.loc x).tr (ahp st.aA)::tr) Q):WO F (o::r) st tr Q:=by
 obtain ⟨n,s,t,he,hq⟩:=h;exact ⟨n,s,t,by simp only [mf,hw,hx,zC,if_true,he],hq⟩
theorem WO.skip {o:bE} {r:List bE} {st:St} {tr:List Tr} {Q:St->List Tr->Prop}
 (hw:wanted o.guard st.env=ahq aht)
 (h:WO F r {st with env:=iK o.dst .jl st.env} (Tr.idle::tr) Q):WO F (o::r) st tr Q:=by
 obtain ⟨n,s,t,he,hq⟩:=h;exact ⟨n,s,t,by simp only [mf,hw,he],hq⟩
theorem WO.call {o:bE} {r:List bE} {st:St} {tr:List Tr} {Q:St->List Tr->Prop} (x:XR)
 (hw:wanted o.guard st.env=ahq ahs) (hx: ∃n,wH F (run F n) st.env st.aA st.fz o.op=ahq x) (zC:x.ok st.fz=ahs)
 (h:WO F r (x.next o.dst st) (x.tr (ahp st.aA)::tr) Q):WO F (o::r) st tr Q:=by
 obtain ⟨n,s,t,he,hq⟩:=h;obtain ⟨m,hx⟩:=hx;refine ⟨max n m,s,t,?_,hq⟩;simp only [mf,hw];rw [Jb (.refl _ _) (pM F (abW n m)) hx];dsimp only;rw [rc zC];exact D9 (.refl _ _) (pM F (age n m)) _ _ _ _ he
theorem WP.loop {α:Type} {live:List (Nat×Option Nat)} {b:ji} {st:St} {Q:gS->St->Prop} (S:α->St) (I:α->Prop) (μ:α->Nat)
 (x:α) (h0:norm live st=ahq (S x)) (hI:I x)
 (round: ∀x,I x->WP F b (S x) (andThen (fun s=> ∃y,norm live s=ahq (S y)/\I y/\μ y<μ x) Q)):WP F (.loop live b) st Q:=by
 have key: ∀k x st,μ x=k->I x->norm live st=ahq (S x)-> ∃n e s,run F n (.loop live b st)=ahq (.code e s)/\Q e s:=by
  intro k
  induction k using Nat.strongRecOn with
  |_ k ih=>
   intro x st hk hI h0;obtain ⟨n,e,s,he,hq⟩:=round x hI;cases e with
   |normal=>obtain ⟨y,hy,hIy,df⟩:=hq;obtain ⟨m,e',s',hr,Qm⟩:=ih (μ y) (hk▸df) y s rfl hIy hy;refine ⟨max n m+1,e',s',?_,Qm⟩;rw [kf];simp only [step,h0];rw [pL (.refl _ _) (pM F (age n m)) _ _ _ he];exact pM F (abW n m) _ _ hr
   |exit i=>exact ⟨n+1,_,s,by rw [kf];simp only [step,h0,he],hq⟩
   |ret=>exact ⟨n+1,_,s,by rw [kf];simp only [step,h0,he],hq⟩
 obtain ⟨n,e,s,hr,hq⟩:=key _ x st rfl hI h0;exact ⟨n,e,s,by simp only [sE,hr],hq⟩
def HD (x:aK) (R:PV->bW->List Nat->Prop):gS->St->Prop
 | .normal,s=> ∃vs,nD s x.res=ahq vs/\R (results1 vs) s.aA s.fz
 | .ret,s=> ∃vs,nD s x.res=ahq vs/\R (results1 vs) s.aA s.fz
 | .exit _,_=>False
def zD (F:kH) (f:FuncId) (args:List PV) (aA:bW) (fz:List Nat) (R:PV->bW->List Nat->Prop):Prop:=
 ∃n v s z,run F n (.func f args aA fz)=ahq (.func v s z)/\R v s z
theorem zD.of {f:FuncId} {x:aK} {args:List PV} {aA:bW} {fz:List Nat} {R:PV->bW->List Nat->Prop}
 (hf:F f=ahq (.code x)) (hn:M2 (ahp args) x.CO=ahs)
 (h:WP F x.code {env:=uu 0 args,aA,fz,kn:=ahp aA} (HD x R)):zD F f args aA fz R:=by
 obtain ⟨n,e,s,he,hq⟩:=h;cases e with
 |normal=>obtain ⟨vs,hv,hr⟩:=hq;exact ⟨n+1,_,_,_,by rw [kf];simp only [step,hf,hn,he,hv,if_true];rfl,hr⟩
 |ret=>obtain ⟨vs,hv,hr⟩:=hq;exact ⟨n+1,_,_,_,by rw [kf];simp only [step,hf,hn,he,hv,if_true];rfl,hr⟩
 |exit i=>exact hq.elim
def Pure (F:kH) (f:FuncId) (args:List PV) (v:PV):Prop:=
 (∀k p,F f≠ahq (.iZ k p))/\zD F f args [] [] fun u _ _=>u.jt=ahs/\u=v
def M5 (F:kH) (f:FuncId) (args:List PV) (v:PV):Prop:=
 (∀k p,F f≠ahq (.iZ k p))/\zD F f args [] [] fun u s _=>u.jt=aht/\w5 s u=ahq v
theorem Pure.of {f:FuncId} {x:aK} {args:List PV} {v:PV}
 (hf:F f=ahq (.code x)) (hn:M2 (ahp args) x.CO=ahs)
 (h:WP F x.code {env:=uu 0 args,aA:=[],fz:=[],kn:=0} (HD x fun u _ _=>u.jt=ahs/\u=v)):
 Pure F f args v:=⟨fun k p e=>by (rw [hf] at e;cases e),zD.of hf hn h⟩
theorem M5.of {f:FuncId} {x:aK} {args:List PV} {v:PV}
 (hf:F f=ahq (.code x)) (hn:M2 (ahp args) x.CO=ahs)
 (h:WP F x.code {env:=uu 0 args,aA:=[],fz:=[],kn:=0} (HD x fun u s _=>u.jt=aht/\w5 s u=ahq v)):
 M5 F f args v:=⟨fun k p e=>by (rw [hf] at e;cases e),zD.of hf hn h⟩
theorem Pure.cC {f:FuncId} {as args:List PV} {aA:bW} {fz:List Nat} {v:PV} (h:Pure F f args v)
 (ha:BH aA (wU aA deep) as=ahq args):
 ∃n,Vm.cC F (run F n) aht f as aA fz=ahq {v,rd:=cW (cK aA deep) as}:=by
 obtain ⟨hp,n,u,s,z,hr,h1,h2⟩:=h;subst h2;refine ⟨n,?_⟩;simp only [Vm.cC,ha];cases hf:F f with
 |none=>simp [hr,h1]
 |some en=>
  cases en with
  |iZ k p=>exact absurd hf (hp k p)
  |code x=>simp [hr,h1]
  |OH x=>simp [hr,h1]
theorem M5.cC {f:FuncId} {as args:List PV} {aA:bW} {fz:List Nat} {v:PV} (h:M5 F f args v)
 (ha:BH aA (wU aA deep) as=ahq args):
 ∃n,Vm.cC F (run F n) aht f as aA fz=ahq {v,rd:=cW (cK aA deep) as,fr:=cW (cK aA deep) as}:=by
 obtain ⟨hp,n,u,s,z,hr,h1,h2⟩:=h;refine ⟨n,?_⟩;simp only [Vm.cC,ha];cases hf:F f with
 |none=>simp [hr,h1,h2]
 |some en=>
  cases en with
  |iZ k p=>exact absurd hf (hp k p)
  |code x=>simp [hr,h1,h2]
  |OH x=>simp [hr,h1,h2]
theorem WO.pure {d:Option Nat} {g:Option (Nat×Bool)} {f:FuncId} {as:List fj} {r:List bE} {st:St} {tr:List Tr} {Q:St->List Tr->Prop}
 {args:List PV} {v:PV} (h:Pure F f args v)
 (hw:wanted g st.env=ahq ahs) (ha:BH st.aA (wU st.aA deep) (D2 st.env as)=ahq args)
 (k:WO F r ((XR.loc {v,rd:=cW (cK st.aA deep) (D2 st.env as)}).next d st) ((XR.loc {v,rd:=cW (cK st.aA deep) (D2 st.env as)}).tr (ahp st.aA)::tr) Q):
 WO F (⟨d,.call .TN f as,g⟩::r) st tr Q:=by
 obtain ⟨n,hn⟩:=h.cC (fz:=st.fz) ha;exact WO.call _ hw ⟨n,by simp only [wH,hn];rfl⟩ rfl k
end Go.Vm
/- The look at an operation of the model: is the logical machine's operation its own? -/
namespace Go.Vm
mutual
def tz:PV->Value->Bool
 | .int k n,.int l m=>eZ k l&&n==m
 | .bool a,.bool b=>a==b
 | .sl _ _ [],.slice ahr 0 0=>ahs
 | .agg cs,.agg vs=>D' cs vs.toList
 | .dz,.nilFunc=>ahs
 | .str s,.string t=>s.data.toList==t.data.toList
 | .undef,_=>ahs
 |_,_=>aht
def D':List PV->List Value->Bool
 | [],[]=>ahs
 |x::xs,v::vs=>tz x v&&D' xs vs
 |_,_=>aht
end
def bn:fj->Operand->Bool
 | .t n,.tmp m=>n==m
 | .c v,.const u=>tz v u
 | .c (.eh f [] []),.func g=>f==g
 | .c .undef,_=>ahs
 |_,_=>aht
def eE:List fj->List Operand->Bool
 | [],[]=>ahs
 |x::xs,o::os=>bn x o&&eE xs os
 |_,_=>aht
def HE:Option fj->Option Operand->Bool
 |none,ahr=>ahs
 |some x,ahq o=>bn x o
 |_,_=>aht
section
variable (P : Program)
def gN (t:TypeId):Bool:=
 match P.underlying t with
 |some (.struct _)|some (.array _ _)=>ahs
 |_=>aht
def oq (t:TypeId) (n:Nat):Bool:=(P.info? t).any fun i=>i.size==n
def DG (t:TypeId):Bool:=(P.info? t).any fun i=>aal i.bytes 1048576
def AB (t:TypeId) (agg:Option Nat):Bool:=
 (P.underlying t).isSome&&match agg with
 |some n=>gN P t&&oq P t n
 |none=>!gN P t&&oq P t 1
def yr (t:TypeId) (esz:Nat):Bool:=
 match P.underlying t with
 |some (.slice e)=>oq P e esz
 |_=>aht
def rI (t:TypeId):Bool:=
 match P.underlying t with
 |some (.slice _)=>ahs
 |_=>aht
def M6 (t:TypeId) (n esz:Nat):Bool:=
 match P.underlying t with
 |some (.array m e)=>m==n&&oq P e esz
 |_=>aht
def tB (t:TypeId) (cells:List PV):Bool:=
 match (P.info? t).bind (·.zero) with
 |some v=>D' cells v.cells.toList
 |none=>aht
def flat:Nat->TypeId->Option Nat
 |0,_=>ahr
 |d+1,t=>
  match P.underlying t with
  |some (.int _)=>if oq P t 1 then ahq 1 else ahr
  |some (.struct fs)=>
   if P.stoodInHeld t then ahr else
   match fs.toList.foldl (fun r f=>match r with
    |some n=>if f.offset==n&&f.name != "_" then (match flat d f.type with
     |some m=>if oq P f.type m then ahq (n+m) else ahr
     |none=>ahr) else ahr
    |none=>ahr) (ahq 0) with
   |some n=>if oq P t n then ahq n else ahr
   |none=>ahr
  |_=>ahr
def uv (place:Nat->Option (Nat×Nat)):List (Nat×Nat×fj)->List (Nat×Operand)->Bool
 | [],[]=>ahs
 |(off,sz,x)::r,(i,o)::s=>(match place i with|some (a,b)=>a==off&&b==sz|none=>aht)&&bn x o&&uv place r s
 |_,_=>aht
def mV:List (Nat×fj)->List (Nat×Operand)->Bool
 | [],[]=>ahs
 |(i,x)::r,(j,o)::s=>i==j&&bn x o&&mV r s
 |_,_=>aht
def placeOf (t:TypeId):Nat->Option (Nat×Nat):=
 match P.underlying t with
 |some (.struct fs)=>fun i=>(fs[i]?).bind fun f=>(P.info? f.type).map fun j=>(f.offset,j.size)
 |some (.array _ e)=>fun i=>(P.info? e).map fun j=>(i*j.size,j.size)
 |_=>fun _=>ahr
def xh (t:TypeId) (n:Option Nat):Bool:=
 match n with
 |none=>(match P.underlying t with|some (.int _)=>ahs|_=>aht)
 |some n=>gN P t&&flat P 100 t==ahq n
def T5 (f:FuncId):Bool:=(P.funcs[f]?).any fun fn=>fn.body.isSome&&!(fn.name== "runtime.NumGoroutine")
def wJ (prims:FuncId->Bool) (ty:TypeId):kG->Op->Bool
 | .Ql x,.move o=>bn x o
 | .Ql x,.assign o=>bn x o
 | .pick c a b,.pick d e f=>bn c d&&bn a e&&bn b f
 | .bin op x y,.binOp op' _ a b _=>op==op'&&bn x a&&bn y b
 | .I3 neg x y,.binOp op t a b _=>(if neg then op== .neq else op== .eql)&&P.underlying t matches ahq .bool&&bn x a&&bn y b
 | .eqc n neg x y,.binOp op t a b _=>(if neg then op== .neq else op== .eql)&&gN P t&&flat P 100 t==ahq n&&!P.eqGuardType P.depth t&&bn x a&&bn y b
 | .un op x,.unOp op' _ a=>op==op'&&bn x a
 | .conv k x,.convert s d a=>(P.underlying s).isSome&&(match P.underlying d with|some (.int l)=>eZ k l|_=>aht)&&bn x a
 | .len x,.call {callee:= .builtin .len,args,argTypes}=>(match argTypes[0]? with|some t=>rI P t|none=>aht)&&eE [x] args.toList
 | .Ll n,.call {callee:= .builtin .len,args,argTypes}=>!args.isEmpty&&(match argTypes[0]? with
  |some t=>(match P.underlying t with
   |some (.array m _)=>m==n
   |some (.pointer e)=>(match P.underlying e with|some (.array m _)=>m==n|_=>aht)
   |_=>aht)
  |none=>aht)
 | .box x,.box _ a=>bn x a
 | .alloc cells,.alloc t=>tB P t cells
 | .build zero parts,.build t ps=>tB P t zero&&gN P t&&uv (placeOf P t) parts ps.toList
  &&(match P.underlying t with|some (.struct fs)=>fs.all fun f=>(P.info? f.type).isSome|some (.array _ e)=>(P.info? e).isSome|_=>aht)
 | .Az esz n zero parts,.buildSlice t m ps=>n==m&&(match P.underlying t with|some (.slice e)=>oq P e esz&&tB P e zero&&(ahp zero)==esz&&!(esz==0)|_=>aht)&&aal (n*esz) 1048576&&zero.all PV.plain&&mV parts ps.toList
 | .load agg p,.load t a=>AB P t agg&&bn p a
 | .store sz p v,.store t a b=>oq P t sz&&bn p a&&bn v b
 | .I4 x,.nilCheck a=>bn x a
 | .I5 off p,.fieldAddr t a f=>(match P.underlying t with
  |some (.struct fs)=>(match fs[f]? with|some g=>g.offset==off&&(P.info? g.type).any fun i=>!(i.size==0)|none=>aht)
  |_=>aht)&&bn p a
 | .iD agg off x,.field t a f=>(match P.underlying t with
  |some (.struct fs)=>(match fs[f]? with|some g=>g.offset==off&&AB P g.type agg|none=>aht)
  |_=>aht)&&bn x a
 | .I6 esz x i,.indexAddr t a j=>yr P t esz&&bn x a&&bn i j
 | .CN n esz p i,.indexAddr t a j=>M6 P t n esz&&bn p a&&bn i j
 | .idx n esz agg x i,.index t a j=>(match P.underlying t with|some (.array m e)=>m==n&&oq P e esz&&AB P e agg|_=>aht)&&bn x a&&bn i j
 | .I7 x i,.index t a j=>P.underlying t matches ahq .string&&bn x a&&bn i j
 | .OG esz x l h m,.slice t a b c d=>(m.isNone||h.isSome)&&yr P t esz&&bn x a&&HE l b&&HE h c&&HE m d
 | .mks esz zero l c,.makeSlice t a b=>(match P.underlying t with|some (.slice e)=>oq P e esz&&tB P e zero&&(ahp zero)==esz&&DG P e&&!(esz==0)|_=>aht)&&zero.all PV.plain&&bn l a&&bn c b
 | .mkf fn a b,.makeFunc (.func g) c d=>fn==g&&eE a c.toList&&eE b d.toList
 | .mkm _,.makeMap _ ahr=>ahs
 | .ext i x,.extract a j=>i==j&&bn x a
 | .append esz x y,.call {callee:= .builtin .append,args,argTypes}=>(match argTypes.toList with
  | [t,u]=>(match P.underlying t with|some (.slice e)=>oq P e esz&&DG P e&&!(esz==0)&&(P.info? e).any (fun i=>i.zero.any fun z=>z.cells.size==esz)|_=>aht)&&rI P u
  |_=>aht)&&eE [x,y] args.toList
 | .lookup n zero ok m k,.lookup t a b ok'=>ok==ok'&&(match P.underlying t with|some (.map kt et)=>xh P kt n&&(match (P.info? et).bind (·.zero) with|some v=>tz zero v|none=>aht)|_=>aht)&&bn m a&&bn k b
 | .HA n m k v,.mapUpdate t a b c=>(match P.underlying t with|some (.map kt _)=>xh P kt n|_=>aht)&&bn m a&&bn k b&&bn v c
 | .copy esz x y,.call {callee:= .builtin .copy,args,argTypes}=>(match argTypes.toList with| [t,u]=>yr P t esz&&rI P u|_=>aht)&&eE [x,y] args.toList
 | .clear esz zero x,.call {callee:= .builtin .clear,args,argTypes}=>(match argTypes.toList with
  | [t]=>(match P.underlying t with|some (.slice e)=>oq P e esz&&tB P e zero&&(ahp zero)==esz&&zero.all PV.plain|_=>aht)
  |_=>aht)&&eE [x] args.toList
 | .mm isMax x xs,.call {callee:= .builtin b,args,argTypes:=_}=>(if isMax then b== .max else b== .min)&&eE (x::xs) args.toList
 | .call _ f args,.call {callee:= .value (.func g),args:=as,argTypes:=_}=>f==g&&(prims f||T5 P f)&&eE args as.toList
 | .wF x args,.call {callee:= .value (.tmp t),args:=as,argTypes:=_}=>bn x (.tmp t)&&eE args as.toList
 | .CL x y,.buildSlice t m ps=>m==2&&(match P.underlying t with|some (.slice e)=>oq P e 1&&(P.info? e).any (fun i=>i.zero.any fun z=>z.cells.size==1)|_=>aht)&&(match ps.toList with| [(i,a),(j,b)]=>i==0&&j==1&&bn x a&&bn y b|_=>aht)
 | .HA n m k v,.insert t a b c=>(match P.underlying t with|some (.map kt _)=>xh P kt n|_=>aht)&&bn m a&&bn k b&&bn v c
 | .bad,_=>ahs
 |_,_=>ty==0&&aht
end
end Go.Vm
/- What a pure value says of a value of the model, a block of the call's own of the memory. -/
namespace Go.Vm
structure Tape (w w':World):Prop where
 eq:w'.tape=w.tape
 dr:w.drawn<=w'.drawn
theorem Tape.refl (w:World):Tape w w:=⟨rfl,IR _⟩
theorem Tape.trans {a b c:World} (h2:Tape b c) (h1:Tape a b):Tape a c:=⟨h2.eq.trans h1.eq,Nat.le_trans h1.dr h2.dr⟩
theorem Tape.same {w w':World} (h:w'.tape=w.tape) (k:w'.drawn=w.drawn):Tape w w':=⟨h,by rw [k];exact IR _⟩
structure LI where
 de:Nat
 sh:Nat
 esz:Nat
 n:Nat
 sz:Nat
abbrev Im:=Nat->Option Obj
abbrev Loc:=Nat->Option LI
def lZ (im:Im) (b o:Nat):Option Value:=
 match im b with
 |some (.cells c _ _)=>c[o]?
 |_=>ahr
def hG:PV->Option Value
 | .int k n=>ahq (.int k n)
 | .bool b=>ahq (.bool b)
 | .str s=>ahq (.string s)
 |_=>ahr
def bw (get:Nat->Option Value) (sh esz:Nat) (rows:List Row):Prop:=
 ∀(i:Nat) (r:Row),rows[i]? =ahq r->ahp r=esz/\ ∀(j:Nat) (c:PV),r[j]? =ahq c-> ∃v,hG c=ahq v/\get (sh+i*esz+j)=ahq v
mutual
inductive VR (im:Im) (loc:Loc):PV->Value->Prop
 |undef (v:Value):VR im loc .undef v
 |jl:VR im loc .jl Go.undef
 |int (k:IntKind) (n:Int):VR im loc (.int k n) (.int k n)
 |bool (b:Bool):VR im loc (.bool b) (.bool b)
 |str (s:ByteArray):VR im loc (.str s) (.string s)
 |agg (cs:List PV) (vs:List Value) (h:eG im loc cs vs):VR im loc (.agg cs) (.agg ⟨vs⟩)
 |bS (cs:List PV) (vs:List Value) (h:eG im loc cs vs):VR im loc (.bS cs) (.tuple ⟨vs⟩)
 |sl (esz:Nat) (qn:Bool) (rows:List Row) (a:Option Addr) (cap:Nat) (hc:(ahp rows)<=cap) (hk:qn=ahs->cap=ahp rows)
  (h:rows≠[]-> ∃b o,a=ahq ⟨b,o,ahr⟩/\bw (lZ im b) o esz rows):VR im loc (.sl esz qn rows) (.slice a (ahp rows) cap)
 |own (t esz off len cap:Nat) (ex:Bool) (li:LI) (a:Option Addr) (cD:Nat) (hl:loc t=ahq li) (he:li.esz=esz) (hn:off+cap<=li.n) (hc:len<=cap)
  (hx:cap<=cD) (hk:ex=ahs->cD=cap)
  (h:cD=0\/(li.n≠0/\a=ahq ⟨li.de,li.sh+off*esz,ahr⟩/\li.sh+(off+cD)*esz<=li.sz)):VR im loc (.own t esz off len cap ex) (.slice a len cD)
 |ptr (t esz row off:Nat) (li:LI) (hl:loc t=ahq li) (he:li.esz=esz) (hn:row<li.n):
  VR im loc (.ptr t esz row off) (.pointer (ahq ⟨li.de,li.sh+row*esz+off,ahr⟩))
 |bu (cs:List PV) (off b o:Nat) (vs:List Value) (h:eG im loc cs vs) (hv: ∀(j:Nat) (v:Value),vs[j]? =ahq v->lZ im b (o+j)=ahq v):
  VR im loc (.bu cs off) (.pointer (ahq ⟨b,o+off,ahr⟩))
 |mp (t:Nat) (li:LI) (hl:loc t=ahq li):VR im loc (.mp t) (.map (ahq li.de))
 |eh (fn:FuncId) (a b:List PV) (as bs:List Value) (ha:eG im loc a as) (hb:eG im loc b bs):VR im loc (.eh fn a b) (.func (.func fn) ⟨as⟩ ⟨bs⟩)
 |dz:VR im loc .dz .nilFunc
inductive eG (im:Im) (loc:Loc):List PV->List Value->Prop
 |nil:eG im loc [] []
 |cons (x:PV) (v:Value) (xs:List PV) (vs:List Value) (h:VR im loc x v) (hs:eG im loc xs vs):eG im loc (x::xs) (v::vs)
end
def nE (im dP:Im):Prop:= ∀b o,im b=ahq o->dP b=ahq o
def lX (loc bg:Loc):Prop:= ∀t li,loc t=ahq li->bg t=ahq li
theorem nE.refl (im:Im):nE im im:=fun _ _ h=>h
theorem nE.trans {a b c:Im} (h:nE a b) (k:nE b c):nE a c:=fun x o e=>k x o (h x o e)
theorem lX.refl (loc:Loc):lX loc loc:=fun _ _ h=>h
theorem lX.trans {a b c:Loc} (h:lX a b) (k:lX b c):lX a c:=fun x o e=>k x o (h x o e)
theorem nE.cell {im dP:Im} (h:nE im dP) {b o:Nat} {v:Value} (hc:lZ im b o=ahq v):lZ dP b o=ahq v:=by
 unfold lZ at hc ⊢;cases hb:im b with
 |none=>rw [hb] at hc;cases hc
 |some x=>rw [hb] at hc;rw [h b x hb];exact hc
theorem bw.mono {g g':Nat->Option Value} {sh esz:Nat} {rows:List Row} (h:bw g sh esz rows) (hg: ∀k v,g k=ahq v->g' k=ahq v):
 bw g' sh esz rows:=by
 intro i r hr;obtain ⟨h1,h2⟩:=h i r hr;exact ⟨h1,fun j c hc=>let ⟨v,hv,hw⟩:=h2 j c hc;⟨v,hv,hg _ _ hw⟩⟩
mutual
theorem VR.mono {im dP:Im} {loc bg:Loc} (hi:nE im dP) (hl:lX loc bg): ∀{x:PV} {v:Value},VR im loc x v->VR dP bg x v
 |_,_,.undef v=> .undef v
 |_,_,.jl=> .jl
 |_,_,.int k n=> .int k n
 |_,_,.bool b=> .bool b
 |_,_,.str s=> .str s
 |_,_,.agg cs vs h=> .agg cs vs (eG.mono hi hl h)
 |_,_,.bS cs vs h=> .bS cs vs (eG.mono hi hl h)
 |_,_,.sl esz qn rows a cap hc hk h=> .sl esz qn rows a cap hc hk fun dE=>let ⟨b,o,ha,hr⟩:=h dE;⟨b,o,ha,hr.mono fun _ _ e=>hi.cell e⟩
 |_,_,.own t esz off len cap ex li a cD h1 h2 h3 h4 h5 h6 h7=> .own t esz off len cap ex li a cD (hl _ _ h1) h2 h3 h4 h5 h6 h7
 |_,_,.ptr t esz row off li h1 h2 h3=> .ptr t esz row off li (hl _ _ h1) h2 h3
 |_,_,.bu cs off b o vs h hv=> .bu cs off b o vs (eG.mono hi hl h) fun j v e=>hi.cell (hv j v e)
 |_,_,.mp t li h=> .mp t li (hl _ _ h)
 |_,_,.eh fn a b as bs ha hb=> .eh fn a b as bs (eG.mono hi hl ha) (eG.mono hi hl hb)
 |_,_,.dz=> .dz
theorem eG.mono {im dP:Im} {loc bg:Loc} (hi:nE im dP) (hl:lX loc bg): ∀{x:List PV} {v:List Value},eG im loc x v->eG dP bg x v
 |_,_,.nil=> .nil
 |_,_,.cons x v xs vs h hs=> .cons x v xs vs (VR.mono hi hl h) (eG.mono hi hl hs)
end
theorem eG.mI {im:Im} {loc:Loc}: ∀{x:List PV} {v:List Value},eG im loc x v->ahp x=ahp v
 |_,_,.nil=>rfl
 |_,_,.cons _ _ _ _ _ hs=>by simp [hs.mI]
theorem eG.get {im:Im} {loc:Loc}: ∀{xs:List PV} {vs:List Value},eG im loc xs vs-> ∀(i:Nat) (x:PV),xs[i]? =ahq x-> ∃v,vs[i]? =ahq v/\VR im loc x v
 |_,_,.nil,i,x,h=>by simp at h
 |_,_,.cons y v xs vs h hs,0,x,e=>by simp at e;subst e;exact ⟨v,rfl,h⟩
 |_,_,.cons y v xs vs h hs,i+1,x,e=>by obtain ⟨u,hu,hr⟩:=hs.get i x (by simpa using e);exact ⟨u,by simpa using hu,hr⟩
theorem eG.append {im:Im} {loc:Loc}: ∀{xs:List PV} {vs:List Value},eG im loc xs vs-> ∀{ys:List PV} {us:List Value},eG im loc ys us->eG im loc (xs++ys) (vs++us)
 |_,_,.nil,_,_,k=>k
 |_,_,.cons y v xs vs h hs,_,_,k=> .cons _ _ _ _ h (hs.append k)
theorem eG.take {im:Im} {loc:Loc}: ∀{xs:List PV} {vs:List Value},eG im loc xs vs-> ∀n,eG im loc (xs.take n) (vs.take n)
 |_,_,.nil,n=>by simp;exact .nil
 |_,_,.cons y v xs vs h hs,0=> .nil
 |_,_,.cons y v xs vs h hs,n+1=> .cons _ _ _ _ h (hs.take n)
theorem eG.drop {im:Im} {loc:Loc}: ∀{xs:List PV} {vs:List Value},eG im loc xs vs-> ∀n,eG im loc (xs.drop n) (vs.drop n)
 |_,_,.nil,n=>by simp;exact .nil
 |_,_,.cons y v xs vs h hs,0=> .cons _ _ _ _ h hs
 |_,_,.cons y v xs vs h hs,n+1=>hs.drop n
theorem eG.of {im:Im} {loc:Loc}: ∀(xs:List PV) (vs:List Value),ahp xs=ahp vs->(∀(i:Nat) (x:PV) (v:Value),xs[i]? =ahq x->vs[i]? =ahq v->VR im loc x v)->eG im loc xs vs
 | [],[],_,_=> .nil
 |x::xs,v::vs,hl,h=> .cons x v xs vs (h 0 x v rfl rfl) (eG.of xs vs (by simpa using hl) fun i a b ha hb=>h (i+1) a b (by simpa using ha) (by simpa using hb))
theorem VR.plain {im:Im} {loc:Loc} {x:PV} {v:Value} (h:VR im loc x v) (hp:x.plain=ahs):hG x=ahq v:=by cases h<;>first|rfl|cases hp
theorem VR.AD {im:Im} {loc:Loc} {x:PV} {v:Value} (h:hG x=ahq v):VR im loc x v:=by cases x<;>simp only [hG,ww] at h<;>first|(subst h;constructor)|cases h
theorem VR.cells {im:Im} {loc:Loc} {x:PV} {v:Value} (h:VR im loc x v) (hs: ∀c∈x.cells,c.pJ=ahs):eG im loc x.cells v.cells.toList:=by
 have one: ∀{y:PV} {u:Value},VR im loc y u->y.pJ=ahs->(∀us,u≠ .agg us):=by intro y u hy ho us e;subst e;cases hy<;>cases ho
 cases h with
 |agg cs vs h=>exact h
 |undef v=>have:=hs .undef (by simp [PV.cells]);cases this
 |jl=>have:=hs .jl (by simp [PV.cells]);cases this
 |bS cs vs h=>have:=hs (.bS cs) (by simp [PV.cells]);cases this
 |int k n=>exact .cons _ _ _ _ (.int k n) .nil
 |bool b=>exact .cons _ _ _ _ (.bool b) .nil
 |str s=>exact .cons _ _ _ _ (.str s) .nil
 |sl esz qn rows a cap hc hk h=>exact .cons _ _ _ _ (.sl esz qn rows a cap hc hk h) .nil
 |own t esz off len cap ex li a cD h1 h2 h3 h4 h5 h6 h7=>exact .cons _ _ _ _ (.own t esz off len cap ex li a cD h1 h2 h3 h4 h5 h6 h7) .nil
 |ptr t esz row off li h1 h2 h3=>exact .cons _ _ _ _ (.ptr t esz row off li h1 h2 h3) .nil
 |bu cs off b o vs h hv=>exact .cons _ _ _ _ (.bu cs off b o vs h hv) .nil
 |mp t li h=>exact .cons _ _ _ _ (.mp t li h) .nil
 |eh fn a b as bs ha hb=>exact .cons _ _ _ _ (.eh fn a b as bs ha hb) .nil
 |dz=>exact .cons _ _ _ _ .dz .nil
theorem VR.HF {im:Im} {loc:Loc} {x:PV} {v:Value} (h:VR im loc x v) (hs:x.pJ=ahs):(∀us,v≠ .agg us)/\ ∀us,v≠ .tuple us:=by cases h<;>first|(simp [PV.pJ] at hs;done)|simp
def valOf:PV->Option Value
 | .agg cs=>(cs.mapM hG).map fun vs=> .agg ⟨vs⟩
 |x=>hG x
def fo:List (PV×PV)->List MapEntry->Prop
 | [],[]=>True
 |(k,v)::r,e::r'=>valOf k=ahq e.key/\valOf v=ahq e.val/\fo r r'
 |_,_=>False
def BR (im:Im) (loc:Loc) (w:World) (li:LI):jL->Prop
 | .arr e rows=>li.esz=e/\li.n=ahp rows/\(rows≠[]-> ∃cs el,w.heap[li.de]? =ahq (.cells cs el (0,0))/\cs.size=li.sz/\li.sh+ahp rows*e<=li.sz/\bw (fun k=>cs[k]?) li.sh e rows)
 | .box cells=>(li.esz=ahp cells/\li.n=1\/li.esz=1/\li.n=ahp cells)/\True/\li.sh=0/\ ∃vs el,w.heap[li.de]? =ahq (.cells ⟨vs⟩ el (0,0))/\ahp vs=li.sz/\eG im loc cells vs
 | .map es=> ∃kI clock,w.heap[li.de]? =ahq (.map kI clock)/\fo es kI.toList
 | .dead=>True
theorem BR.mono {im dP:Im} {loc bg:Loc} {w w':World} {li:LI} {k:jL} (h:BR im loc w li k) (hi:nE im dP) (hl:lX loc bg)
 (hw:w'.heap[li.de]? =w.heap[li.de]?):BR dP bg w' li k:=by
 cases k with
 |arr e rows=>exact ⟨h.1,h.2.1,fun dE=>let ⟨cs,el,h1,h2,h3⟩:=h.2.2 dE;⟨cs,el,by rw [hw];exact h1,h2,h3⟩⟩
 |box cells=>obtain ⟨h1,h2,h3,vs,el,h4,h5,h6⟩:=h;exact ⟨h1,h2,h3,vs,el,by rw [hw];exact h4,h5,h6.mono hi hl⟩
 |map es=>obtain ⟨en,cl,h1,h2⟩:=h;exact ⟨en,cl,by rw [hw];exact h1,h2⟩
 |dead=>trivial
theorem BR.lt {im:Im} {loc:Loc} {w:World} {li:LI} {k:jL} (h:BR im loc w li k) (hs:k.bA=ahs):li.de<w.heap.size:=by
 have get: ∀{o:Obj},w.heap[li.de]? =ahq o->li.de<w.heap.size:=fun e=>by
  rcases aai li.de w.heap.size with h|h
  · exact h
  simp [adc h] at e
 cases k with
 |arr e rows=>
  cases rows with
  |nil=>cases hs
  |cons r rs=>obtain ⟨cs,el,h1,_⟩:=h.2.2 (by simp);exact get h1
 |box cells=>obtain ⟨_,_,_,vs,el,h4,_⟩:=h;exact get h4
 |map es=>obtain ⟨en,cl,h1,h2⟩:=h;exact get h1
 |dead=>cases hs
structure SR (im:Im) (loc:Loc) (aA:bW) (fz:List Nat) (w:World):Prop where
 bq: ∀b o,im b=ahq o->w.heap[b]? =ahq o
 de: ∀t li,loc t=ahq li-> ∃k,aA[t]? =ahq k/\BR im loc w li k
 iE: ∀t u li lj k k',loc t=ahq li->loc u=ahq lj->aA[t]? =ahq k->aA[u]? =ahq k'->k.bA=ahs->k'.bA=ahs->li.de=lj.de->t=u
 free: ∀t li k,loc t=ahq li->aA[t]? =ahq k->k.bA=ahs->has fz t=aht->im li.de=ahr
def ER (im:Im) (loc:Loc) (e:Env) (tmps:Array Value):Prop:= ∀t,VR im loc (lk t e) (tmps.getD t Go.undef)
theorem ER.mono {im dP:Im} {loc bg:Loc} (hi:nE im dP) (hl:lX loc bg) {e:Env} {tmps:Array Value} (h:ER im loc e tmps):ER dP bg e tmps:=
 fun t=>(h t).mono hi hl
theorem qM (t s:Nat) (v:PV) (e:Env):lk t ((s,v)::e)=if s=t then v else lk t e:=by
 simp only [lk]
 by_cases h:s=t<;>simp [h]
theorem ER.put {im:Im} {loc:Loc} {e:Env} {tmps:Array Value} (h:ER im loc e tmps) {d:Nat} {x:PV} {v:Value} (hd:d<tmps.size) (hv:VR im loc x v):
 ER im loc ((d,x)::e) (tmps.setIfInBounds d v):=by
 intro t;rw [qM]
 by_cases hdt:d=t
 · subst hdt
   simpa [hd] using hv
 rw [ut hdt]
 have:=h t;simpa [aam,hdt] using this
end Go.Vm
/- Renaming the blocks. -/
namespace Go.Vm
theorem yt {t:Nat}: ∀{m:List Nat} {u:Nat},idxOf t m=ahq u->m[u]? =ahq t
 | [],u,h=>by simp [idxOf] at h
 |s::r,u,h=>by
  simp only [idxOf] at h;split at h
  · rename_i e
    injection h with h;subst h;have:s=t:=by simpa using e
    simp [this]
  rw [Do] at h
  obtain ⟨v,hv,rfl⟩:=h;simpa using yt hv
section
variable {im : Im} {loc cR : Loc} {m : List Nat}
def Ren (m:List Nat) (loc cR:Loc):Prop:= ∀(u t:Nat),m[u]? =ahq t->cR u=loc t
mutual
theorem Qx (hm:Ren m loc cR): ∀{x y:PV} {v:Value},VR im loc x v->ui m x=ahq y->VR im cR y v
 | .undef,y,v,h,hr=>by simp only [ui,ww] at hr;subst hr;exact .undef _
 | .jl,y,v,h,hr=>by simp only [ui,ww] at hr;subst hr;cases h;exact .jl
 | .int k n,y,v,h,hr=>by simp only [ui,ww] at hr;subst hr;cases h;exact .int _ _
 | .bool b,y,v,h,hr=>by simp only [ui,ww] at hr;subst hr;cases h;exact .bool _
 | .str b,y,v,h,hr=>by simp only [ui,ww] at hr;subst hr;cases h;exact .str _
 | .dz,y,v,h,hr=>by simp only [ui,ww] at hr;subst hr;cases h;exact .dz
 | .agg cs,y,v,h,hr=>by simp only [ui,Do] at hr;obtain ⟨GA,h1,rfl⟩:=hr;cases h with|agg _ vs h=>exact .agg _ _ (sL hm h h1)
 | .bS cs,y,v,h,hr=>by simp only [ui,Do] at hr;obtain ⟨GA,h1,rfl⟩:=hr;cases h with|bS _ vs h=>exact .bS _ _ (sL hm h h1)
 | .sl e c rows,y,v,h,hr=>by simp only [ui,ww] at hr;subst hr;cases h with|sl _ _ _ a cap h1 h2 h3=>exact .sl _ _ _ a cap h1 h2 h3
 | .own t e off len cap ex,y,v,h,hr=>by simp only [ui,Do] at hr;obtain ⟨u,h1,rfl⟩:=hr;cases h with|own _ _ _ _ _ _ li a cD g1 g2 g3 g4 g5 g6 g7=>exact .own _ _ _ _ _ _ li a cD (by rw [hm u t (yt h1)];exact g1) g2 g3 g4 g5 g6 g7
 | .ptr t e row off,y,v,h,hr=>by simp only [ui,Do] at hr;obtain ⟨u,h1,rfl⟩:=hr;cases h with|ptr _ _ _ _ li g1 g2 g3=>exact .ptr _ _ _ _ li (by rw [hm u t (yt h1)];exact g1) g2 g3
 | .bu cs off,y,v,h,hr=>by simp only [ui,Do] at hr;obtain ⟨GA,h1,rfl⟩:=hr;cases h with|bu _ _ b o vs h hv=>exact .bu _ _ b o vs (sL hm h h1) hv
 | .mp t,y,v,h,hr=>by simp only [ui,Do] at hr;obtain ⟨u,h1,rfl⟩:=hr;cases h with|mp _ li g1=>exact .mp _ li (by rw [hm u t (yt h1)];exact g1)
 | .eh f a b,y,v,h,hr=>by
  simp only [ui] at hr;split at hr
  · rename_i a' b' ha hb
    injection hr with hr;subst hr;cases h with|eh _ _ _ as bs h1 h2=>exact .eh _ _ _ _ _ (sL hm h1 ha) (sL hm h2 hb)
  cases hr
theorem sL (hm:Ren m loc cR): ∀{x y:List PV} {v:List Value},eG im loc x v->yZ m x=ahq y->eG im cR y v
 | [],y,v,h,hr=>by simp only [yZ,ww] at hr;subst hr;cases h;exact .nil
 |x::xs,y,v,h,hr=>by
  simp only [yZ] at hr;split at hr
  · rename_i x' xs' h1 h2
    injection hr with hr;subst hr;cases h with|cons _ u _ us g1 g2=>exact .cons _ _ _ _ (Qx hm g1 h1) (sL hm g2 h2)
  cases hr
end
theorem CQ: ∀{x y:List PV},yZ m x=ahq y->ahp y=ahp x
 | [],y,h=>by simp only [yZ,ww] at h;subst h;rfl
 |x::xs,y,h=>by
  simp only [yZ] at h;split at h
  · rename_i x' xs' h1 h2
    injection h with h;subst h;simp [CQ h2]
  cases h
theorem GB {w:World} {li:LI} {k k':jL} (hm:Ren m loc cR) (hr:nC m k=ahq k') (h:BR im loc w li k):BR im cR w li k':=by
 cases k with
 |arr e rows=>simp only [nC,ww] at hr;subst hr;exact h
 |map es=>simp only [nC,ww] at hr;subst hr;exact h
 |dead=>simp only [nC,ww] at hr;subst hr;trivial
 |box cs=>simp only [nC,Do] at hr;obtain ⟨GA,h1,rfl⟩:=hr;obtain ⟨g1,g2,g3,vs,el,g4,g5,g6⟩:=h;exact ⟨by rw [CQ h1];exact g1,g2,g3,vs,el,g4,g5,sL hm g6 h1⟩
theorem AE {k k':jL} (hr:nC m k=ahq k'):k'.bA=k.bA:=by
 cases k with
 |arr e rows=>simp only [nC,ww] at hr;subst hr;rfl
 |map es=>simp only [nC,ww] at hr;subst hr;rfl
 |dead=>simp only [nC,ww] at hr;subst hr;rfl
 |box cs=>simp only [nC,Do] at hr;obtain ⟨GA,h1,rfl⟩:=hr;rfl
theorem BQ {aA:bW}: ∀{l:List Nat} {s1:bW},xf aA m l=ahq s1->ahp s1=ahp l/\ ∀(u t:Nat),l[u]? =ahq t-> ∃k k',aA[t]? =ahq k/\nC m k=ahq k'/\s1[u]? =ahq k'
 | [],s1,h=>by simp only [xf,ww] at h;subst h;exact ⟨rfl,fun u t h=>by simp at h⟩
 |t::ts,s1,h=>by
  simp only [xf] at h;split at h
  · rename_i b hb
    split at h
    · rename_i b' r h1 h2
      injection h with h;subst h;obtain ⟨g1,g2⟩:=BQ h2;refine ⟨by simp [g1],fun u t' ht=>?_⟩;cases u with
      |zero=>simp at ht;subst ht;exact ⟨b,b',hb,h1,rfl⟩
      |succ u=>simpa using g2 u t' (by simpa using ht)
    cases h
  cases h
end
end Go.Vm
/- Operation by operation: the model's run gives what the logical machine says. First part: what reads no memory. -/
namespace Go.Vm
theorem eH {k l:IntKind}:eZ k l=ahs↔k=l:=by cases k<;>cases l<;>simp [eZ]
theorem DH {n:Int} (h1: -9223372036854775808<=n) (h2:n<9223372036854775808):IntKind.wrap .i64 n=n:=by
 simp only [IntKind.wrap,IntKind.bits,IntKind.signed,ahi];have e1:(2:Int)^64=18446744073709551616:=by decide
 have e2:(2:Int)^(64-1)=9223372036854775808:=by decide
 simp only [e1,e2,decide_eq_true_eq];split<;>omega
theorem rJ (k:IntKind) (n:Int):ai k n=k.wrap n:=by
 unfold ai;split
 · rename_i m
   split
   · rename_i h
     have h:m<9223372036854775808:=by simpa using h
     have e:Int.ofNat m=(m:Int):=rfl;exact (DH (by rw [e];omega) (by rw [e];omega)).symm
   rfl
 · rename_i m
   split
   · rename_i h
     have h:m<9223372036854775808:=by simpa using h
     exact (DH (by omega) (by omega)).symm
   rfl
 · rename_i m
   simp only [IntKind.wrap,IntKind.bits,IntKind.signed,Bool.false_and];have e1:(2:Int)^64=18446744073709551616:=by decide
   simp only [e1];rfl
 rfl
section
variable {P : Program} {im : Im} {loc : Loc} {w : World}
theorem VR.eY {k:IntKind} {n:Int} {v:Value} (h:VR im loc (.int k n) v):v= .int k n:=by cases h;rfl
theorem VR.ju {b:Bool} {v:Value} (h:VR im loc (.bool b) v):v= .bool b:=by cases h;rfl
theorem VR.DI {b:ByteArray} {v:Value} (h:VR im loc (.str b) v):v= .string b:=by cases h;rfl
theorem VR.o7 {cs:List PV} {v:Value} (h:VR im loc (.agg cs) v): ∃vs,v= .agg ⟨vs⟩/\eG im loc cs vs:=by cases h with|agg _ vs h=>exact ⟨vs,rfl,h⟩
theorem VR.AF {cs:List PV} {v:Value} (h:VR im loc (.bS cs) v): ∃vs,v= .tuple ⟨vs⟩/\eG im loc cs vs:=by cases h with|bS _ vs h=>exact ⟨vs,rfl,h⟩
mutual
theorem HG: ∀{x:PV} {v:Value},tz x v=ahs->VR im loc x v
 | .int k n,v,h=>by
  cases v<;>simp only [tz] at h<;>first|cases h|skip
  simp only [v6,beq_iff_eq,eH] at h;obtain ⟨rfl,rfl⟩:=h;exact .int _ _
 | .bool a,v,h=>by
  cases v<;>simp only [tz] at h<;>first|cases h|skip
  rename_i b;have:a=b:=by simpa using h
  subst this;exact .bool _
 | .str a,v,h=>by
  cases v<;>simp only [tz] at h<;>first|cases h|skip
  rename_i b;have h1:a.data.toList=b.data.toList:=by simpa using h
  obtain ⟨⟨x⟩⟩:=a;obtain ⟨⟨y⟩⟩:=b;have h2:x=y:=h1;subst h2;exact .str _
 | .sl e c [],v,h=>by
  cases v with
  |slice a n cap=>
   cases a with
   |none=>
    cases n with
    |zero=>
     cases cap with
     |zero=>exact .sl e c [] ahr 0 (Nat.zero_le _) (fun _=>rfl) (fun dE=>absurd rfl dE)
     |succ c=>simp [tz] at h
    |succ n=>simp [tz] at h
   |some a=>simp [tz] at h
  |_=>simp [tz] at h
 | .sl e c (_::_),v,h=>by simp [tz] at h
 | .agg cs,v,h=>by
  cases v<;>simp only [tz] at h<;>first|cases h|skip
  rename_i vs;exact .agg cs vs.toList (xi h)
 | .dz,v,h=>by
  cases v<;>simp only [tz] at h<;>first|cases h|skip
  exact .dz
 | .undef,v,_=> .undef v
 | .jl,v,h=>by simp [tz] at h
 | .bS _,v,h=>by simp [tz] at h
 | .own ..,v,h=>by simp [tz] at h
 | .ptr ..,v,h=>by simp [tz] at h
 | .bu ..,v,h=>by simp [tz] at h
 | .mp _,v,h=>by simp [tz] at h
 | .eh ..,v,h=>by simp [tz] at h
theorem xi: ∀{x:List PV} {v:List Value},D' x v=ahs->eG im loc x v
 | [],[],_=> .nil
 |x::xs,v::vs,h=>by simp only [D',v6] at h;exact .cons _ _ _ _ (HG h.1) (xi h.2)
 | [],_::_,h=>by simp [D'] at h
 |_::_,[],h=>by simp [D'] at h
end
theorem T6 {op : BinOp} {t : TypeId} {a b : Operand} {x y : PV} {u v : Value} {z : PV} (hx : VR im loc x u) (hy : VR im loc y v) (h : OI op x y = ahq z) :
    ∃ r, (do eqGuard op t a b u v; binOp op t u v : Sem Value).run P w = .ok r w /\ VR im loc z r := by
  unfold OI at h
  split at h
  · rename_i k a l b
    obtain rfl := hx.eY
    obtain rfl := hy.eY
    have hg : ∀ (k l : IntKind) (a b : Int) (o p : Operand), (eqGuard op t o p (.int k a) (.int l b)).run P w = .ok () w := by
      intros; unfold eqGuard; cases op <;> simp
    split at h
    · simp only [BM] at h
      split at h
      · cases h
      rename_i hb
      injection h with h; subst h
      refine ⟨_, ?_, .int _ _⟩
      simp only [EQ, hg, AC, binOp, Op.shift, hb, if_false]
      rfl
    · simp only [BM] at h
      split at h
      · cases h
      rename_i hb
      injection h with h; subst h
      refine ⟨_, ?_, .int _ _⟩
      simp only [EQ, hg, AC, binOp, Op.shift, hb, if_false]
      rfl
    split at h
    · rename_i aq0 aq1 hk
      have := eH.1 hk; subst this
      unfold arith at h
      split at h
      all_goals first
        | (injection h with h; subst h
           first
             | (refine ⟨_, ?_, .int _ _⟩
                simp only [EQ, hg, AC, binOp, Op.intArith, Op.intBits, rJ, ne_eq, not_true_eq_false, if_false]
                rfl)
             | (refine ⟨_, ?_, .bool _⟩
                simp only [EQ, hg, AC, binOp, Op.intCmp, ne_eq, not_true_eq_false, if_false]
                rfl))
        | (split at h
           · cases h
           rename_i hb
           injection h with h; subst h
           refine ⟨_, ?_, .int _ _⟩
           simp only [EQ, hg, AC, binOp, Op.intDiv, rJ, ne_eq, not_true_eq_false, if_false, hb]
           rfl)
        | cases h
    cases h
  cases h
theorem Qy {neg:Bool} {op:BinOp} {t:TypeId} {p q:Operand} {a b:Bool} (ho:op=if neg then .neq else .eql) (ht:P.underlying t=ahq .bool):
 (do eqGuard op t p q (.bool a) (.bool b);binOp op t (.bool a) (.bool b):Sem Value).run P w= .ok (.bool (if neg then !(a==b) else a==b)) w:=by
 have h1:(Op.equal t (.bool a) (.bool b)).run P w= .ok (a==b) w:=run_equalIn_bool' w 9999 t a b ht;cases neg<;>simp only [aak,if_false,if_true] at ho<;>subst ho<;>simp [eqGuard,binOp,h1]
theorem abm {op:UnOp} {x z:PV} {u:Value} (hx:VR im loc x u) (h:unE op x=ahq z): ∃r,(Op.unary op u).run P w= .ok r w/\VR im loc z r:=by
 unfold unE at h;split at h
 · injection h with h;subst h
   obtain rfl:=hx.eY;exact ⟨_,rfl,by rw [rJ];exact .int _ _⟩
 · injection h with h;subst h
   obtain rfl:=hx.ju;exact ⟨_,rfl,.bool _⟩
 cases h
theorem Qz {s d:TypeId} {k k':IntKind} {n:Int} {ds:TypeDesc} (hs:P.underlying s=ahq ds) (hd:P.underlying d=ahq (.int k)):
 (convert s d (.int k' n)).run P w= .ok (.int k (ai k n)) w:=by
 simp only [convert,EQ,run_underlying hs,run_underlying hd,AC,rJ];cases ds<;>rfl
theorem BS {t:TypeId} (h:gN P t=ahs):(isAgg t).run P w= .ok ahs w:=by
 unfold gN at h;split at h
 · rename_i f hu;simp [isAgg,run_underlying hu]
 · rename_i n f hu;simp [isAgg,run_underlying hu]
 cases h
theorem BT {t:TypeId} (hs:(P.underlying t).isSome=ahs) (h:gN P t=aht):(isAgg t).run P w= .ok aht w:=by
 cases hu:P.underlying t with
 |none=>rw [hu] at hs;cases hs
 |some d=>unfold gN at h;rw [hu] at h;cases d<;>first|(simp [isAgg,run_underlying hu];done)|cases h
theorem kg {t:TypeId} {n:Nat} (h:oq P t n=ahs):(sizeOf t).run P w= .ok n w:=by
 unfold oq at h;cases hi:P.info? t with
 |none=>rw [hi] at h;cases h
 |some i=>
  rw [hi] at h;have:i.size=n:=by simpa using h
  simp [sizeOf,typeInfo,hi,this]
theorem Jc {agg:Option Nat} {t:TypeId} {off:Nat} {cs:List PV} {vs:List Value} {x:PV} (ha:AB P t agg=ahs) (h:eG im loc cs vs)
 (hp:part agg off cs=ahq x): ∃v,(Go.part t ⟨vs⟩ off).run P w= .ok v w/\VR im loc x v:=by
 unfold AB at ha;simp only [v6] at ha;obtain ⟨hs,ha⟩:=ha;cases agg with
 |some n=>
  simp only [v6] at ha;simp only [part] at hp;split at hp
  · rename_i kY
    injection hp with hp;subst hp;refine ⟨.agg ⟨(vs.drop off).take n⟩,?_,.agg _ _ ((h.drop off).take n)⟩;simp only [Go.part,EQ,BS ha.1,AC,if_true,kg ha.2,If]
    congr 2
    apply aat;simp [abE]
  cases hp
 |none=>
  simp only [v6,aar] at ha;simp only [part] at hp;obtain ⟨v,hv,hr⟩:=h.get off x hp;refine ⟨v,?_,hr⟩;simp only [Go.part,EQ,BT hs ha.1,AC,aak,if_false];have:(⟨vs⟩:Array Value)[off]? =ahq v:=by simpa using hv
  simp [this]
theorem u4 {agg:Option Nat} {t:TypeId} {b o off:Nat} {cs:List PV} {vs:List Value} {x:PV} (ha:AB P t agg=ahs) (h:eG im loc cs vs)
 (hm: ∀(j:Nat) (v:Value),vs[j]? =ahq v->w.cell? ⟨b,o+j,ahr⟩=ahq v)
 (hp:part agg off cs=ahq x): ∃v,(loadVar t ⟨b,o+off,ahr⟩).run P w= .ok v w/\VR im loc x v:=by
 unfold AB at ha;simp only [v6] at ha;obtain ⟨hs,ha⟩:=ha;have abn: ∀k j:Nat,(⟨b,k,ahr⟩:Addr).add j=⟨b,k+j,ahr⟩:=by
  intro k j;unfold Addr.add;split
  · rename_i h;subst h;rfl
  rfl
 cases agg with
 |some n=>
  simp only [v6] at ha;simp only [part] at hp;split at hp
  · rename_i kY
    injection hp with hp;subst hp;refine ⟨.agg ⟨(vs.drop off).take n⟩,?_,.agg _ _ ((h.drop off).take n)⟩;have hl:((vs.drop off).take n).length=n:=by have:=h.mI;simp;omega
    have:=run_loadCells_list (P:=P) w ⟨b,o+off,ahr⟩ ((vs.drop off).take n) (by
     intro j v hj;rw [abn];have T7:j<n:=by
      rcases aai j n with h|h
      · exact h
      rw [PP (by omega)] at hj;cases hj
     rw [ab5 T7,abz] at hj;have:=hm _ _ hj
     rwa [show o+(off+j)=o+off+j by omega] at this)
    rw [hl] at this;simp only [loadVar,EQ,BS ha.1,AC,if_true,kg ha.2,this,If]
  cases hp
 |none=>simp only [v6,aar] at ha;simp only [part] at hp;obtain ⟨v,hv,hr⟩:=h.get off x hp;refine ⟨v,?_,hr⟩;simp only [loadVar,EQ,BT hs ha.1,AC,aak,if_false];rw [run_load,hm off v hv]
end
end Go.Vm
/- What an operation does to the memory, and the shapes in which it does it. -/
namespace Go.Vm
structure sM (im:Im) (loc:Loc) (aA:bW) (w:World) (r:nB) (dP:Im) (bg:Loc) (w':World):Prop where
 fY:nE im dP
 dw:lX loc bg
 bq: ∀b o,dP b=ahq o->w'.heap[b]? =ahq o
 dB: ∀b o,dP b=ahq o->im b=ahq o\/w.heap.size<=b\/ ∃t li k,has r.fr t=ahs/\loc t=ahq li/\aA[t]? =ahq k/\k.bA=ahs/\li.de=b
 os:w'.os=w.os
 tape:Tape w w'
 output:w'.output=w.output
 size:w.heap.size<=w'.heap.size
 frame: ∀b,b<w.heap.size->(∀t k li k0,(t,k)∈r.wr->loc t=ahq li->aA[t]? =ahq k0->k0.bA=ahs->li.de≠b)->w'.heap[b]? =w.heap[b]?
 OJ: ∀t k,(t,k)∈r.wr->k.bA=ahs-> ∃k0,aA[t]? =ahq k0/\k0.bA=ahs
 wr: ∀t k li,(t,k)∈r.wr->loc t=ahq li->BR dP bg w' li k
 kJ: ∀t li,bg t=ahq li->loc t=ahq li\/(ahp aA<=t/\t<ahp aA+ahp r.news)
 news: ∀(j:Nat) (k:jL) (li:LI),r.news[j]? =ahq k->bg (ahp aA+j)=ahq li->BR dP bg w' li k/\
  (k.bA=ahs->dP li.de=ahr/\(w.heap.size<=li.de\/ ∃t lt k0,(t,jL.dead)∈r.wr/\loc t=ahq lt/\aA[t]? =ahq k0/\k0.bA=ahs/\lt.de=li.de))
 distinct: ∀(i j:Nat) (ki kj:jL) (li lj:LI),r.news[i]? =ahq ki->r.news[j]? =ahq kj->ki.bA=ahs->kj.bA=ahs->
  bg (ahp aA+i)=ahq li->bg (ahp aA+j)=ahq lj->li.de=lj.de->i=j
theorem BU {α:Type} {n:Nat} {l:List α} {loc:Loc} {A:LI->α->Prop} (h: ∀(j:Nat) (k:α),l[j]? =ahq k-> ∃li,loc (n+j)=ahq li/\A li k):
 ∀(j:Nat) (k:α) (li:LI),l[j]? =ahq k->loc (n+j)=ahq li->A li k:=fun j k li hj hl=>by
 obtain ⟨li',h1,h2⟩:=h j k hj;rw [hl] at h1;injection h1 with h1;subst h1;exact h2
structure jj (im:Im) (loc:Loc) (aA:bW) (w:World) (r:nB):Prop where
 bq: ∀b o,im b=ahq o->w.heap[b]? =ahq o
 tok: ∀t,t∈r.rd\/(∃k,(t,k)∈r.wr)-> ∀li,loc t=ahq li-> ∃k,aA[t]? =ahq k/\BR im loc w li k
 free: ∀t k,(t,k)∈r.wr-> ∀li k',loc t=ahq li->aA[t]? =ahq k'->k'.bA=ahs->im li.de=ahr
 fresh: ∀j,j<ahp r.news->loc (ahp aA+j)=ahr
 iE: ∀t u li lj k k',(t∈r.rd\/ ∃b,(t,b)∈r.wr)->(u∈r.rd\/ ∃b,(u,b)∈r.wr)->loc t=ahq li->loc u=ahq lj->aA[t]? =ahq k->aA[u]? =ahq k'->k.bA=ahs->k'.bA=ahs->li.de=lj.de->t=u
section
variable {im : Im} {loc : Loc} {aA : bW} {w : World} {r : nB}
theorem sM.none (hk:jj im loc aA w r) (hn:r.news=[]) (hw:r.wr=[]):sM im loc aA w r im loc w where
 fY:= .refl _
 dw:= .refl _
 bq:=hk.bq
 dB:=fun _ _ h=> .inl h
 os:=rfl
 tape:= .refl _
 output:=rfl
 size:=IR _
 frame:=fun _ _ _=>rfl
 OJ:=fun t k h=>by rw [hw] at h;cases h
 wr:=fun t k li h=>by rw [hw] at h;cases h
 kJ:=fun _ _ h=> .inl h
 news:=fun j k li h=>by rw [hn] at h;simp at h
 distinct:=fun i j ki kj li lj h=>by rw [hn] at h;simp at h
def Loc.set (loc:Loc) (t:Nat) (li:LI):Loc:=fun u=>if u=t then ahq li else loc u
theorem Loc.eN (loc:Loc) (t:Nat) (li:LI):loc.set t li t=ahq li:=by simp [Loc.set]
theorem Loc.xj {loc:Loc} {t:Nat} (li:LI) (h:loc t=Option.none):lX loc (loc.set t li):=by
 intro u l hu;unfold Loc.set;split
 · rename_i e;subst e;rw [h] at hu;cases hu
 exact hu
theorem sM.new (hk:jj im loc aA w r) {k:jL} {o:Obj} {w':World} (li:LI) (hn:r.news=[k]) (hw:r.wr=[])
 (hh:w'.heap=w.heap.push o) (ho:w'.os=w.os) (ht:w'.tape=w.tape) (hp:w'.output=w.output) (hl:li.de=w.heap.size)
 (hb:BR im (loc.set (ahp aA) li) w' li k) (hd:w.drawn<=w'.drawn:=by first|exact IR _|exact Nat.le_succ _):sM im loc aA w r im (loc.set (ahp aA) li) w' where
 fY:= .refl _
 dw:=Loc.xj li (by have:=hk.fresh 0 (by simp [hn]);simpa using this)
 bq:=fun b o h=>by
  have h1:=hk.bq b o h;have df:b<w.heap.size:=by
   rcases aai b w.heap.size with h|h
   · exact h
   simp [adc h] at h1
  rw [hh,agF,ut (by omega)];exact h1
 dB:=fun _ _ h=> .inl h
 os:=ho
 tape:=⟨ht,hd⟩
 output:=hp
 size:=by rw [hh];simp
 frame:=fun b Av _=>by rw [hh,agF,ut (by omega)]
 OJ:=fun t k h=>by rw [hw] at h;cases h
 wr:=fun t k li h=>by rw [hw] at h;cases h
 kJ:=fun t l h=>by
  unfold Loc.set at h;split at h
  · rename_i e;subst e;exact .inr ⟨IR _,by simp [hn]⟩
  exact .inl h
 news:=BU fun j k' h=>by
  rw [hn] at h;cases j with
  |zero=>
   simp at h;subst h;refine ⟨li,Loc.eN _ _ _,hb,fun _=>⟨?_,.inl (by omega)⟩⟩;cases hi:im li.de with
   |none=>rfl
   |some o=>have:=hk.bq _ _ hi;rw [hl] at this;simp at this
  |succ j=>simp at h
 distinct:=fun i j ki kj li lj h1 h2 _ _ _ _ _=>by rw [hn] at h1 h2;cases i<;>cases j<;>simp at h1 h2<;>rfl
theorem sM.QA (hk:jj im loc aA w r) {esz:Nat} (hn:r.news=[.arr esz []]) (hw:r.wr=[]):sM im loc aA w r im (loc.set (ahp aA) ⟨0,0,esz,0,0⟩) w where
 fY:= .refl _
 dw:=Loc.xj _ (by have:=hk.fresh 0 (by simp [hn]);simpa using this)
 bq:=hk.bq
 dB:=fun _ _ h=> .inl h
 os:=rfl
 tape:= .refl _
 output:=rfl
 size:=IR _
 frame:=fun _ _ _=>rfl
 OJ:=fun t k h=>by rw [hw] at h;cases h
 wr:=fun t k li h=>by rw [hw] at h;cases h
 kJ:=fun t l h=>by
  unfold Loc.set at h;split at h
  · rename_i e;subst e;exact .inr ⟨IR _,by simp [hn]⟩
  exact .inl h
 news:=BU fun j k' h=>by
  rw [hn] at h;cases j with
  |zero=>simp at h;subst h;exact ⟨_,Loc.eN _ _ _,⟨rfl,rfl,fun dE=>absurd rfl dE⟩,fun hs=>by cases hs⟩
  |succ j=>simp at h
 distinct:=fun i j ki kj li lj h1 h2 _ _ _ _ _=>by rw [hn] at h1 h2;cases i<;>cases j<;>simp at h1 h2<;>rfl
theorem sM.write (hk:jj im loc aA w r) {t:Nat} {k k0:jL} {o:Obj} {w':World} {li:LI} (hn:r.news=[]) (hw:r.wr=[(t,k)])
 (hl:loc t=ahq li) (h0:aA[t]? =ahq k0) (hs:k0.bA=ahs)
 (hh:w'.heap=w.heap.setIfInBounds li.de o) (ho:w'.os=w.os) (ht:w'.tape=w.tape) (hp:w'.output=w.output)
 (hb:BR im loc w' li k) (hd:w.drawn<=w'.drawn:=by first|exact IR _|exact Nat.le_succ _):sM im loc aA w r im loc w' where
 fY:= .refl _
 dw:= .refl _
 bq:=fun b o' h=>by
  have h1:=hk.bq b o' h;have qt:=hk.free t k (by simp [hw]) li k0 hl h0 hs;have dE:li.de≠b:=fun e=>by rw [e,h] at qt;cases qt
  rw [hh,aam,ut dE];exact h1
 dB:=fun _ _ h=> .inl h
 os:=ho
 tape:=⟨ht,hd⟩
 output:=hp
 size:=by rw [hh];simp
 frame:=fun b _ h=>by have dE:=h t k li k0 (by simp [hw]) hl h0 hs;rw [hh,aam,ut dE]
 OJ:=fun t' k' hm _=>by rw [hw] at hm;simp at hm;exact ⟨k0,by rw [hm.1];exact h0,hs⟩
 wr:=fun t' k' li' h h'=>by rw [hw] at h;simp at h;obtain ⟨rfl,rfl⟩:=h;rw [hl] at h';injection h' with h';subst h';exact hb
 kJ:=fun _ _ h=> .inl h
 news:=fun j k li h=>by rw [hn] at h;simp at h
 distinct:=fun i j ki kj li lj h=>by rw [hn] at h;simp at h
end
end Go.Vm
/- Operation by operation, second part: addresses, reads, new blocks. -/
namespace Go.Vm
section
variable {P : Program} {im : Im} {loc : Loc} {aA : bW} {w : World}
theorem qu (b o n:Nat):(⟨b,o,ahr⟩:Addr).add n=⟨b,o+n,ahr⟩:=by
 unfold Addr.add;split
 · rename_i h;subst h;rfl
 rfl
theorem VR.yu {t e r o:Nat} {v:Value} (h:VR im loc (.ptr t e r o) v):
 ∃li,loc t=ahq li/\li.esz=e/\r<li.n/\v= .pointer (ahq ⟨li.de,li.sh+r*e+o,ahr⟩):=by
 cases h with|ptr _ _ _ _ li h1 h2 h3=>exact ⟨li,h1,h2,h3,rfl⟩
theorem VR.xk {cs:List PV} {off:Nat} {v:Value} (h:VR im loc (.bu cs off) v):
 ∃b o vs,eG im loc cs vs/\(∀(j:Nat) (v:Value),vs[j]? =ahq v->lZ im b (o+j)=ahq v)/\v= .pointer (ahq ⟨b,o+off,ahr⟩):=by
 cases h with|bu _ _ b o vs h1 h2=>exact ⟨b,o,vs,h1,h2,rfl⟩
theorem kB {b o:Nat} {cs:Array Value} {el:TypeId} {fr:Nat×Nat} {v:Value} (h:w.heap[b]? =ahq (.cells cs el fr)) (hc:cs[o]? =ahq v):
 w.cell? ⟨b,o,ahr⟩=ahq v:=by simp [World.cell?,h,hc]
theorem sN (hk: ∀b o,im b=ahq o->w.heap[b]? =ahq o) {b o:Nat} {v:Value} (h:lZ im b o=ahq v):w.cell? ⟨b,o,ahr⟩=ahq v:=by
 unfold lZ at h;cases hb:im b with
 |none=>rw [hb] at h;cases h
 |some x=>rw [hb] at h;cases x<;>first|exact kB (hk b _ hb) h|cases h
def aZ (r:Row):List Value:=r.map fun c=>(hG c).getD Go.undef
theorem sO {get:Nat->Option Value} {sh esz:Nat} {rows:List Row} (h:bw get sh esz rows) {i:Nat} {r:Row} (hr:rows[i]? =ahq r):
 eG im loc r (aZ r)/\ ∀(j:Nat) (v:Value),(aZ r)[j]? =ahq v->get (sh+i*esz+j)=ahq v:=by
 obtain ⟨_,hc⟩:=h i r hr;constructor
 · refine eG.of _ _ (by simp [aZ]) fun j x v hx hv=>?_
   obtain ⟨u,hu,_⟩:=hc j x hx;simp [aZ,hx,hu] at hv;subst hv;exact VR.AD hu
 intro j v hv
 cases hx:r[j]? with
 |none=>simp [aZ,hx] at hv
 |some x=>obtain ⟨u,hu,hg⟩:=hc j x hx;simp [aZ,hx,hu] at hv;subst hv;exact hg
theorem Jd {agg:Option Nat} {t:TypeId} {p:PV} {u:Value} {r:nB} (hp:VR im loc p u) (ha:AB P t agg=ahs) (h:ox aA agg p=ahq r)
 (hk:jj im loc aA w r): ∃v,(Instr.loadAt t u).run P w= .ok v w/\VR im loc r.v v/\r.news=[]/\r.wr=[]:=by
 unfold ox at h;split at h
 · rename_i tk e row off
   obtain ⟨li,hl,he,hn,rfl⟩:=hp.yu;split at h
   · rename_i e' rows hs
     split at h
     · rename_i cs qC
       rw [Do] at h;obtain ⟨x,hx,rfl⟩:=h;obtain ⟨k,iF,hb⟩:=hk.tok tk (.inl (by simp)) li hl;rw [hs] at iF;injection iF with iF;subst iF;have dE:rows≠[]:=by intro e;subst e;simp at qC
       obtain ⟨h1,h2,h3⟩:=hb;obtain ⟨arr,el,sP,_,_,kL⟩:=h3 dE;obtain ⟨hv,hg⟩:=sO (im:=im) (loc:=loc) kL qC;have Lm:e'=e:=by rw [<- h1,he]
       subst Lm;obtain ⟨v,bI,ot⟩:=u4 (P:=P) (w:=w) (b:=li.de) (o:=li.sh+row*e') ha hv
        (fun j v hj=>kB sP (hg j v hj)) hx
       exact ⟨v,by simp only [Instr.loadAt,Instr.sureAddr,EQ,If,AC,bI],ot,rfl,rfl⟩
     cases h
   · rename_i cs hs
     split at h
     · rename_i mg
       have mg:row=0:=by simpa using mg
       subst mg;rw [Do] at h;obtain ⟨x,hx,rfl⟩:=h;obtain ⟨k,iF,hb⟩:=hk.tok tk (.inl (by simp)) li hl;rw [hs] at iF;injection iF with iF;subst iF;obtain ⟨h1,h2,h3,vs,el,h4,h5,h6⟩:=hb;obtain ⟨v,bI,ot⟩:=u4 (P:=P) (w:=w) (b:=li.de) (o:=li.sh+0*e) ha h6
        (fun j v hj=>kB h4 (by simpa [h3] using hj)) hx
       exact ⟨v,by simp only [Instr.loadAt,Instr.sureAddr,EQ,If,AC,bI],ot,rfl,rfl⟩
     cases h
   cases h
 · rename_i cs off
   obtain ⟨b,o,vs,h1,h2,rfl⟩:=hp.xk;rw [Do] at h;obtain ⟨x,hx,rfl⟩:=h;obtain ⟨v,bI,ot⟩:=u4 (P:=P) (w:=w) (b:=b) (o:=o) ha h1 (fun j v hj=>sN hk.bq (h2 j v hj)) hx;exact ⟨v,by simp only [Instr.loadAt,Instr.sureAddr,EQ,If,AC,bI],ot,rfl,rfl⟩
 cases h
theorem Ea {cs:List PV} {vs:List Value} {el:TypeId} {r:nB} (h:eG im loc cs vs) (hr:r={v:= .ptr (ahp aA) (ahp cs) 0 0,news:=[.box cs]}) (hk:jj im loc aA w r):
 ∃bg,VR im bg r.v (.pointer (ahq ⟨w.heap.size,0,ahr⟩))/\sM im loc aA w r im bg {w with heap:=w.heap.push (.cells ⟨vs⟩ el)}:=by
 subst hr
 let li:LI:=⟨w.heap.size,0,ahp cs,1,ahp vs⟩
 refine ⟨loc.set (ahp aA) li,?_,?_⟩
 · have:=VR.ptr (im:=im) (loc:=loc.set (ahp aA) li) (ahp aA) (ahp cs) 0 0 li (Loc.eN _ _ _) rfl (Nat.zero_lt_one)
   simpa [li] using this
 refine sM.new hk li rfl rfl rfl rfl rfl rfl rfl ⟨.inl ⟨rfl,rfl⟩,trivial,rfl,vs,el,?_,rfl,h.mono (.refl _) (Loc.xj li (by have:=hk.fresh 0 (by simp);simpa using this))⟩
 simp [li]
theorem Je {x y:PV} {u v:Value} {el:TypeId} {r:nB} (hx:VR im loc x u) (hy:VR im loc y v) (hr:r={v:= .own (ahp aA) 1 0 2 2 ahs,news:=[.box [x,y]]}) (hk:jj im loc aA w r):
 ∃bg,VR im bg r.v (.slice (ahq ⟨w.heap.size,0,ahr⟩) 2 2)/\sM im loc aA w r im bg {w with heap:=w.heap.push (.cells #[u,v] el)}:=by
 subst hr
 let li:LI:=⟨w.heap.size,0,1,2,2⟩
 refine ⟨loc.set (ahp aA) li,?_,?_⟩
 · exact .own (ahp aA) 1 0 2 2 ahs li _ 2 (Loc.eN _ _ _) rfl (IR _) (IR _) (IR _) (fun _=>rfl) (.inr ⟨by simp [li],by simp [li],by simp [li]⟩)
 refine sM.new hk li rfl rfl rfl rfl rfl rfl rfl ⟨.inr ⟨rfl,rfl⟩,trivial,rfl,[u,v],el,?_,rfl,(eG.cons _ _ _ _ hx (.cons _ _ _ _ hy .nil)).mono (.refl _) (Loc.xj li (by have:=hk.fresh 0 (by simp);simpa using this))⟩
 simp [li]
theorem QB {off:Nat} {t:TypeId} {f:Nat} {fs:Array Field} {g:Field} {i:TypeInfo} {p z:PV} {u:Value} (hp:VR im loc p u)
 (hu:P.underlying t=ahq (.struct fs)) (hf:fs[f]? =ahq g) (ho:g.offset=off) (hi:P.info? g.type=ahq i) (hz:i.size≠0)
 (h:(match (generalizing:=false) p with| .ptr t s r o=>some (PV.ptr t s r (o+off))| .bu c o=>some (PV.bu c (o+off))|_=>none)=some z):
 ∃v,(Instr.fieldAt t u f).run P w= .ok v w/\VR im loc z v:=by
 have oz:(sizeOf g.type).run P w= .ok i.size w:=by simp [sizeOf,typeInfo,hi]
 cases p with
 |ptr tk s r o=>injection h with h;subst h;obtain ⟨li,hl,he,hn,rfl⟩:=hp.yu;refine ⟨_,?_,.ptr tk s r (o+off) li hl he hn⟩;simp [Instr.fieldAt,run_underlying hu,hf,Instr.sureAddr,fieldPlace,oz,hz,qu,ho,aba]
 |bu cs o=>injection h with h;subst h;obtain ⟨b,o',vs,h1,h2,rfl⟩:=hp.xk;refine ⟨_,?_,.bu cs (o+off) b o' vs h1 h2⟩;simp [Instr.fieldAt,run_underlying hu,hf,Instr.sureAddr,fieldPlace,oz,hz,qu,ho,aba]
 |_=>cases h
theorem oC {x:PV} {n:Nat} {u:Value} (hx:VR im loc x u) (h:jM x=ahq n): ∃k,u= .int k (n:Int):=by
 unfold jM at h;split at h
 · rename_i k m
   obtain rfl:=hx.eY;split at h
   · rename_i m';injection h with h;subst h;exact ⟨k,rfl⟩
   cases h
 cases h
theorem OK {n esz j:Nat} {t e:TypeId} {p z:PV} {u:Value} {k:IntKind} (hp:VR im loc p u)
 (hu:P.underlying t=ahq (.array n e)) (hs:oq P e esz=ahs) (hj:j<n)
 (h:(match (generalizing:=false) p with| .ptr t s r o=>some (PV.ptr t s r (o+j*esz))| .bu c o=>some (PV.bu c (o+j*esz))|_=>none)=some z):
 ∃v,(Instr.indexAt t u (.int k j)).run P w= .ok v w/\VR im loc z v:=by
 have oz:=kg (P:=P) (w:=w) hs;cases p with
 |ptr tk s r o=>injection h with h;subst h;obtain ⟨li,hl,he,hn,rfl⟩:=hp.yu;refine ⟨_,?_,.ptr tk s r (o+j*esz) li hl he hn⟩;simp [Instr.indexAt,asIntOf,run_underlying hu,Instr.sureAddr,oz,qu,aba];intro h;omega
 |bu cs o=>injection h with h;subst h;obtain ⟨b,o',vs,h1,h2,rfl⟩:=hp.xk;refine ⟨_,?_,.bu cs (o+j*esz) b o' vs h1 h2⟩;simp [Instr.indexAt,asIntOf,run_underlying hu,Instr.sureAddr,oz,qu,aba];intro h;omega
 |_=>cases h
theorem VR.oD {esz:Nat} {qn:Bool} {rows:List Row} {v:Value} (h:VR im loc (.sl esz qn rows) v):
 ∃a cap,v= .slice a (ahp rows) cap/\ahp rows<=cap/\(qn=ahs->cap=ahp rows)/\(rows≠[]-> ∃b o,a=ahq ⟨b,o,ahr⟩/\bw (lZ im b) o esz rows):=by
 cases h with|sl _ _ _ a cap hc hk h=>exact ⟨a,cap,rfl,hc,hk,h⟩
theorem VR.iA {t esz off len cap:Nat} {ex:Bool} {v:Value} (h:VR im loc (.own t esz off len cap ex) v):
 ∃li a cD,v= .slice a len cD/\loc t=ahq li/\li.esz=esz/\off+cap<=li.n/\len<=cap/\cap<=cD/\(ex=ahs->cD=cap)/\
  (cD=0\/(li.n≠0/\a=ahq ⟨li.de,li.sh+off*esz,ahr⟩/\li.sh+(off+cD)*esz<=li.sz)):=by
 cases h with|own _ _ _ _ _ _ li a cD h1 h2 h3 h4 h5 h6 h7=>exact ⟨li,a,cD,rfl,h1,h2,h3,h4,h5,h6,h7⟩
theorem run_indexAt_slice {t e:TypeId} {esz j len cap b o:Nat} {k:IntKind} (hu:P.underlying t=ahq (.slice e)) (hs:oq P e esz=ahs) (hj:j<len):
 (Instr.indexAt t (.slice (ahq ⟨b,o,ahr⟩) len cap) (.int k j)).run P w= .ok (.pointer (ahq ⟨b,o+j*esz,ahr⟩)) w:=by
 have oz:=kg (P:=P) (w:=w) hs;have df: ¬(len<=j):=by omega
 simp [Instr.indexAt,asIntOf,run_underlying hu,oz,qu];intro h;exact absurd h df
theorem QC {esz n:Nat} {t e:TypeId} {x z:PV} {u:Value} {k:IntKind} (hx:VR im loc x u)
 (hu:P.underlying t=ahq (.slice e)) (hs:oq P e esz=ahs)
 (h:(match (generalizing:=false) x with
  | .sl s _ rows=>match rows[n]? with
   |some cs=>if M2 s esz then ahq (PV.bu cs 0) else ahr
   |none=>ahr
  | .own t s off len _ _=>if abo n len&&M2 s esz then ahq (PV.ptr t s (off+n) 0) else ahr
  |_=>ahr)=ahq z):
 ∃v,(Instr.indexAt t u (.int k n)).run P w= .ok v w/\VR im loc z v:=by
 cases x with
 |sl s qn rows=>
  dsimp only at h;cases qC:rows[n]? with
  |none=>rw [qC] at h;cases h
  |some cs=>
   rw [qC] at h;dsimp only at h;split at h
   · rename_i T8
     have T8:s=esz:=by simpa using T8
     subst T8;injection h with h;subst h;obtain ⟨a,cap,rfl,_,_,hr⟩:=hx.oD;have dE:rows≠[]:=by intro e;subst e;simp at qC
     obtain ⟨b,o,rfl,kL⟩:=hr dE;have hn:n<(ahp rows):=by
      rcases aai n (ahp rows) with h|h
      · exact h
      rw [PP h] at qC;cases qC
     refine ⟨_,run_indexAt_slice hu hs hn,?_⟩;obtain ⟨hv,hg⟩:=sO (im:=im) (loc:=loc) kL qC;have:=VR.bu (im:=im) (loc:=loc) cs 0 b (o+n*s) (aZ cs) hv hg;simpa using this
   cases h
 |own tk s off len cap ex=>
  dsimp only at h;split at h
  · rename_i hc
    simp only [v6] at hc;have hn:n<len:=by simpa using hc.1
    have T8:s=esz:=by simpa using hc.2
    subst T8;injection h with h;subst h;obtain ⟨li,a,cD,rfl,hl,he,Dk,bY,y4,_,hd⟩:=hx.iA;rcases hd with hd|⟨dE,rfl,_⟩
    · omega
    refine ⟨_,run_indexAt_slice hu hs hn,?_⟩
    have:=VR.ptr (im:=im) (loc:=loc) tk s (off+n) 0 li hl he (by omega);rw [show li.sh+(off+n)*s+0=li.sh+off*s+n*s by rw [aa2];omega] at this;exact this
  cases h
 |_=>cases h
theorem run_sliceBound {x k:Nat} {kd:IntKind} {code:BoundsCode} (h:x<=k):(Instr.sliceBound (.int kd x) k code).run P w= .ok x w:=by
 have:(0:Int)<=(x:Int)/\(x:Int)<=(k:Int):=by omega
 simp [Instr.sliceBound,asIntOf,this]
def zF (v:Option Value) (n:Option Nat):Prop:=
 match v,n with
 |none,ahr=>True
 |some v,ahq n=> ∃k,v= .int k (n:Int)
 |_,_=>False
theorem mA {len cap:Nat} {lo hi mx:Option Nat} {vl vh vm:Option Value} (h1:zF vl lo) (h2:zF vh hi) (h3:zF vm mx)
 (hm:mx.isSome=ahs->hi.isSome=ahs) (kY:lo.getD 0<=hi.getD len) (hhm:hi.isSome=ahs->hi.getD len<=mx.getD cap) (hmc:mx.getD cap<=cap):
 (Instr.sliceBounds ahs len cap vl vh vm).run P w= .ok (lo.getD 0,hi.getD len,mx.getD cap) w:=by
 cases mx with
 |none=>
  cases vm with
  |some v=>exact h3.elim
  |none=>
   cases hi with
   |none=>
    cases vh with
    |some v=>exact h2.elim
    |none=>
     cases lo with
     |none=>
      cases vl with
      |some v=>exact h1.elim
      |none=>simp [Instr.sliceBounds]
     |some l=>
      cases vl with
      |none=>exact h1.elim
      |some v=>obtain ⟨k,rfl⟩:=h1;simp only [aaq,abq] at kY;simp [Instr.sliceBounds,run_sliceBound kY]
   |some hh=>
    cases vh with
    |none=>exact h2.elim
    |some v=>
     obtain ⟨k,rfl⟩:=h2;simp only [aaq,abq,agP,true_implies] at kY hhm;cases lo with
     |none=>
      cases vl with
      |some v=>exact h1.elim
      |none=>simp [Instr.sliceBounds,run_sliceBound hhm]
     |some l=>
      cases vl with
      |none=>exact h1.elim
      |some v=>obtain ⟨k,rfl⟩:=h1;simp only [aaq] at kY;simp [Instr.sliceBounds,run_sliceBound hhm,run_sliceBound kY]
 |some m=>
  cases vm with
  |none=>exact h3.elim
  |some v=>
   obtain ⟨k,rfl⟩:=h3;cases hi with
   |none=>simp at hm
   |some hh=>
    cases vh with
    |none=>exact h2.elim
    |some v=>
     obtain ⟨k,rfl⟩:=h2;simp only [aaq,agP,true_implies] at kY hhm hmc;cases lo with
     |none=>
      cases vl with
      |some v=>exact h1.elim
      |none=>simp [Instr.sliceBounds,run_sliceBound hhm,run_sliceBound hmc]
     |some l=>
      cases vl with
      |none=>exact h1.elim
      |some v=>obtain ⟨k,rfl⟩:=h1;simp only [aaq] at kY;simp [Instr.sliceBounds,run_sliceBound hhm,run_sliceBound kY,run_sliceBound hmc]
end
end Go.Vm
/- Operation by operation, third part: stores, aggregates. -/
namespace Go.Vm
def u5 {α:Type} (off:Nat) (new old:List α):List α:=old.take off++new++old.drop (off+ahp new)
theorem nF {α:Type} (off:Nat) (new old:List α) (h:off+ahp new<=ahp old) (j:Nat):
 (u5 off new old)[j]? =if off<=j/\j<off+(ahp new) then new[j-off]? else old[j]?:=by
 unfold u5;have hl:(old.take off).length=off:=by simp;omega
 by_cases h1:j<off
 · rw [ut (by omega),ah6,aaj (by omega),ab5 h1]
 by_cases h2:j<off+ahp new
 · rw [rc ⟨by omega,h2⟩,ah6,aa9 (by omega),hl,aaj (by omega)]
 rw [ut (by omega),aa9 (by simp;omega),abz]
 congr 1
 simp;omega
theorem gy {α:Type} (off:Nat) (new old:List α) (h:off+ahp new<=ahp old):(u5 off new old).length=(ahp old):=by unfold u5;simp;omega
theorem eG.u5 {im:Im} {loc:Loc} {off:Nat} {xs ys:List PV} {vs us:List Value} (h:eG im loc xs vs) (k:eG im loc ys us):
 eG im loc (Vm.u5 off xs ys) (Vm.u5 off vs us):=by
 unfold Vm.u5;rw [<- h.mI];exact ((k.take off).append h).append (k.drop _)
theorem eG.GC {im:Im} {loc:Loc}: ∀{xs:List PV} {vs:List Value},eG im loc xs vs->(∀c∈xs,c.plain=ahs)->
 ∀(j:Nat) (c:PV),xs[j]? =ahq c-> ∃v,hG c=ahq v/\vs[j]? =ahq v:=by
 intro xs vs h hp j c hc;obtain ⟨v,hv,hr⟩:=h.get j c hc;exact ⟨v,hr.plain (hp c (abr hc)),hv⟩
theorem OL {i row esz j off n sh:Nat} (dE:i≠row) (hj:j<esz) (hn:off+n<=esz):
 ¬(sh+row*esz+off<=sh+i*esz+j/\sh+i*esz+j<sh+row*esz+off+n):=by
 rcases Nat.lt_or_gt_of_ne dE with h|h
 · have:=aa6 esz (show i+1<=row from h)
   rw [aa2] at this;omega
 have:=aa6 esz (show row+1<=i from h)
 rw [aa2] at this;omega
theorem bw.store {get get':Nat->Option Value} {sh esz row off:Nat} {rows:List Row} {cs ws:List PV} {vs:List Value}
 (h:bw get sh esz rows) (hr:rows[row]? =ahq cs) (kY:off+ahp ws<=ahp cs)
 (hw: ∀(j:Nat) (c:PV),ws[j]? =ahq c-> ∃v,hG c=ahq v/\vs[j]? =ahq v) (hl:(ahp vs)=ahp ws)
 (hg: ∀k,get' k=if sh+row*esz+off<=k/\k<sh+row*esz+off+(ahp vs) then vs[k- (sh+row*esz+off)]? else get k):
 bw get' sh esz (rows.set row (u5 off ws cs)):=by
 intro i r hi;rw [List.getElem?_set] at hi;have mg:row<(ahp rows):=by
  rcases aai row (ahp rows) with h|h
  · exact h
  rw [PP h] at hr;cases hr
 obtain ⟨GD,M7⟩:=h row cs hr;split at hi
 · rename_i e
   subst e;injection hi with hi;subst hi;refine ⟨by rw [gy _ _ _ kY];exact GD,fun j c hc=>?_⟩;rw [nF _ _ _ kY] at hc;rw [hg];split at hc
   · rename_i hj
     obtain ⟨v,hv,Ln⟩:=hw _ _ hc;refine ⟨v,hv,?_⟩;rw [rc ⟨by omega,by omega⟩,<- Ln]
     congr 1
     omega
   rename_i hj
   obtain ⟨v,hv,Ln⟩:=M7 j c hc;refine ⟨v,hv,?_⟩;rw [ut (by omega)];exact Ln
 rename_i dE
 obtain ⟨Jf,hrc⟩:=h i r hi;refine ⟨Jf,fun j c hc=>?_⟩;obtain ⟨v,hv,Ln⟩:=hrc j c hc;refine ⟨v,hv,?_⟩;have hj:j<esz:=by
  rcases aai j (ahp r) with h|h
  · omega
  rw [PP h] at hc;cases hc
 rw [hg,ut (OL (fun e=>dE e.symm) hj (by omega))];exact Ln
section
variable {P : Program} {im : Im} {loc : Loc} {aA : bW} {fz : List Nat} {w : World}
theorem fq {g:Nat} {cur cs:Array Value} {t:TypeId} (hg:w.heap[g]? =ahq (.cells cur t (0,0))):
 (w.setRow g cs).heap=w.heap.setIfInBounds g (.cells cs t (0,0)):=by
 have df:g<w.heap.size:=(NE.1 hg).1;have hv:w.heap[g]= .cells cur t (0,0):=(NE.1 hg).2;unfold World.setRow;apply Array.ext
 · simp
 intro k h1 h2
 rw [Array.getElem_setIfInBounds];simp only [Array.getElem_modify];split
 · rename_i hk;subst hk;simp [hv]
 rfl
theorem Jg {v:Value} (h:(∀us,v≠ .agg us)/\ ∀us,v≠ .tuple us):v.oneCell'=ahs:=by cases v<;>first|rfl|exact absurd rfl (h.1 _)|exact absurd rfl (h.2 _)
theorem eG.one: ∀{xs:List PV} {vs:List Value},eG im loc xs vs->(∀c∈xs,c.pJ=ahs)-> ∀v∈vs,v.oneCell'=ahs
 |_,_,.nil,_,_,hv=>by cases hv
 |_,_,.cons x u xs vs h hs,ho,v,hv=>by
  cases hv with
  |head=>exact Jg (h.HF (ho x (by simp)))
  |tail _ hm=>exact eG.one hs (fun c hc=>ho c (by simp [hc])) v hm
theorem xl {c:PV} (h:c.plain=ahs):c.pJ=ahs:=by cases c<;>first|rfl|cases h
theorem zG {v:PV} {ws:List PV} (h:v.stored=ahq ws):ws=v.cells/\ ∀c∈v.cells,c.pJ=ahs:=by
 unfold PV.stored at h;split at h
 · rename_i ha;injection h with h;exact ⟨h.symm,by simpa using ha⟩
 cases h
theorem mB {v:PV} {ws:List PV} (h:v.cb=ahq ws):ws=v.cells/\ ∀c∈v.cells,c.plain=ahs:=by
 unfold PV.cb at h;split at h
 · rename_i ha;injection h with h;exact ⟨h.symm,by simpa using ha⟩
 cases h
theorem CR {t el:TypeId} {sz b o:Nat} {x:Value} {cur:Array Value} (hs:oq P t sz=ahs) (hb:w.heap[b]? =ahq (.cells cur el (0,0)))
 (hx:x.cells.size=sz) (kY:o+sz<=cur.size) (h1: ∀v∈x.cells.toList,v.oneCell'=ahs):
 (Instr.storeAt t (.pointer (ahq ⟨b,o,ahr⟩)) x).run P w= .ok () (w.setRow b (u5 o x.cells.toList cur.toList).toArray):=by
 have:=run_storeCells_at P b o el x.cells.toList 0 cur w hb (by simp;omega) h1;simp only [Instr.storeAt,Instr.sureAddr,EQ,If,AC,storeVar,kg hs,hx,ne_eq,not_true_eq_false,if_false];simpa [u5] using this
theorem OM {t:TypeId} {sz:Nat} {p v:PV} {u x:Value} {r:nB} (hp:VR im loc p u) (hv:VR im loc v x) (hs:oq P t sz=ahs)
 (h:rG aA fz sz v p=ahq r) (hk:jj im loc aA w r):
 ∃w',(Instr.storeAt t u x).run P w= .ok () w'/\sM im loc aA w r im loc w'/\r.v= .undef:=by
 unfold rG at h;cases p with
 |ptr tk e row off=>
  dsimp only at h;obtain ⟨li,hl,he,hn,rfl⟩:=hp.yu;cases pO:aA[tk]? with
  |none=>rw [pO] at h;cases h
  |some de=>
   rw [pO] at h;cases de with
   |arr e' rows=>
    dsimp only at h;cases qC:rows[row]? with
    |none=>rw [qC] at h;cases h
    |some cs=>
     cases hw:v.cb with
     |none=>rw [qC,hw] at h;cases h
     |some ws=>
      rw [qC,hw] at h;dsimp only at h;split at h
      · rename_i hc
        simp only [v6,aav,ab1] at hc;obtain ⟨⟨bY,kY⟩,QD⟩:=hc;obtain ⟨rfl,Ld⟩:=mB hw;injection h with h;subst h;obtain ⟨k,iF,hb⟩:=hk.tok tk (.inr ⟨_,aap.2 rfl⟩) li hl;rw [pO] at iF;injection iF with iF;subst iF;have dE:rows≠[]:=by intro e;subst e;simp at qC
        obtain ⟨h1,h2,h3⟩:=hb;obtain ⟨arr,el,sP,HH,IY,kL⟩:=h3 dE;have Lm:e'=e:=by rw [<- h1,he]
        subst Lm;have GD:(ahp cs)=e':=(kL row cs qC).1;have M8:=hv.cells (fun c hc=>xl (Ld c hc));have ON:x.cells.size=sz:=by have:=M8.mI;simp only [aaS] at this;omega
        have Jf:row<(ahp rows):=by
         rcases aai row (ahp rows) with h|h
         · exact h
         rw [PP h] at qC;cases qC
        have Gi:=aa6 e' (show row+1<=(ahp rows) from Jf);rw [aa2] at Gi;have u6:li.sh+row*e'+off+sz<=arr.size:=by omega
        have bI:=CR (P:=P) (w:=w) (t:=t) (b:=li.de) (o:=li.sh+row*e'+off) hs sP ON u6 (M8.one (fun c hc=>xl (Ld c hc)));refine ⟨_,bI,?_,rfl⟩;refine sM.write hk (t:=tk) (k0:= .arr e' rows) (li:=li) rfl rfl hl pO (by cases rows with|nil=>exact absurd rfl dE|cons _ _=>rfl) (fq sP) rfl rfl rfl ?_;refine ⟨h1,by simpa using h2,fun _=>⟨(u5 (li.sh+row*e'+off) x.cells.toList arr.toList).toArray,el,?_,?_,by simpa using IY,?_⟩⟩
        · rw [fq sP]
          have df:=(NE.1 sP).1;simp [df]
        · rw [<- HH]
          simp only [ab0];rw [gy _ _ _ (by simp;omega)];simp
        refine kL.store qC (by omega) (M8.GC Ld) M8.mI.symm (fun k=>?_)
        simp only [aaw];rw [nF _ _ _ (by simp;omega)];simp
      cases h
   |box cs=>
    dsimp only at h;cases hw:v.stored with
    |none=>rw [hw] at h;cases h
    |some ws=>
     rw [hw] at h;dsimp only at h;split at h
     · rename_i hc
       simp only [v6,aav,ab1] at hc;obtain ⟨⟨⟨mg,bY⟩,kY⟩,QD⟩:=hc;subst mg;obtain ⟨rfl,AG⟩:=zG hw;injection h with h;subst h;obtain ⟨k,iF,hb⟩:=hk.tok tk (.inr ⟨_,aap.2 rfl⟩) li hl;rw [pO] at iF;injection iF with iF;subst iF;obtain ⟨h1,h2,h3,vs,el,h4,h5,h6⟩:=hb;have M8:=hv.cells AG;have ON:x.cells.size=sz:=by have:=M8.mI;simp only [aaS] at this;omega
       have hcv:=h6.mI;have bI:=CR (P:=P) (w:=w) (t:=t) (b:=li.de) (o:=li.sh+0*e+off) hs h4 ON (by simp [h3];omega) (M8.one AG);refine ⟨_,bI,?_,rfl⟩;refine sM.write hk (t:=tk) (k0:= .box cs) (li:=li) rfl rfl hl pO rfl (fq h4) rfl rfl rfl ?_;refine ⟨by rw [show (nA off v.cells cs).length=(ahp cs) by have:=gy off v.cells cs (by omega);unfold u5 at this;simpa [nA] using this];exact h1,h2,h3,u5 off x.cells.toList vs,el,?_,?_,?_⟩
       · rw [fq h4]
         have df:=(NE.1 h4).1;simp [df,h3]
       · rw [gy _ _ _ (by simp;omega)];exact h5
       exact eG.u5 M8 h6
     cases h
   |_=>cases h
 |_=>cases h
end
end Go.Vm
/- Operation by operation, fourth part: aggregates, rows, slices. -/
namespace Go.Vm
theorem bw.tail {get:Nat->Option Value} {sh esz:Nat} {r:Row} {rs:List Row} (h:bw get sh esz (r::rs)):bw get (sh+esz) esz rs:=by intro i x hx;obtain ⟨h1,h2⟩:=h (i+1) x (by simpa using hx);refine ⟨h1,fun j c hc=>?_⟩;obtain ⟨v,hv,hg⟩:=h2 j c hc;refine ⟨v,hv,?_⟩;rw [<- hg];congr 1;rw [aa2];omega
theorem bw.drop {get:Nat->Option Value} {sh esz:Nat} {rows:List Row} (h:bw get sh esz rows) (n:Nat):bw get (sh+n*esz) esz (rows.drop n):=by intro i x hx;rw [abz] at hx;obtain ⟨h1,h2⟩:=h (n+i) x hx;refine ⟨h1,fun j c hc=>?_⟩;obtain ⟨v,hv,hg⟩:=h2 j c hc;refine ⟨v,hv,?_⟩;rw [<- hg];congr 1;rw [aa2];omega
theorem bw.take {get:Nat->Option Value} {sh esz:Nat} {rows:List Row} (h:bw get sh esz rows) (n:Nat):bw get sh esz (rows.take n):=by
 intro i x hx;have hi:i<n:=by
  rcases aai i n with h|h
  · exact h
  rw [PP (by simp;omega)] at hx;cases hx
 rw [ab5 hi] at hx;exact h i x hx
theorem bw.append {get:Nat->Option Value} {sh esz:Nat} {xs ys:List Row} (h:bw get sh esz xs) (k:bw get (sh+ahp xs*esz) esz ys):bw get sh esz (xs++ys):=by
 intro i r hr;rcases aai i (ahp xs) with hi|hi
 · rw [aaj hi] at hr;exact h i r hr
 rw [aa9 hi] at hr
 obtain ⟨h1,h2⟩:=k _ r hr;refine ⟨h1,fun j c hc=>?_⟩;obtain ⟨v,hv,hg⟩:=h2 j c hc;refine ⟨v,hv,?_⟩;rw [<- hg];congr 1;have:i*esz=ahp xs*esz+(i-(ahp xs))*esz:=by rw [<- aa2];congr 1;omega
 omega
theorem bw.nG {get:Nat->Option Value} {sh esz:Nat} {rows:List Row} (h:bw get sh esz rows): ∀r∈rows,ahp r=esz:=by intro r hr;obtain ⟨i,hi,rfl⟩:=abt.1 hr;exact (h i _ (UV hi)).1
theorem k7 (r:Row):(aZ r).length=(ahp r):=by simp [aZ]
theorem dy {esz:Nat}: ∀{rows:List Row},(∀r∈rows,ahp r=esz)->(rows.flatMap aZ).length=ahp rows*esz
 | [],_=>by simp
 |r::rs,h=>by have ih:=dy (esz:=esz) (rows:=rs) (fun x hx=>h x (by simp [hx]));simp only [aaA,aaX,ih,k7,h r (by simp),aaV,aa2];omega
theorem bw.flat {get:Nat->Option Value} {esz:Nat}: ∀{rows:List Row} {sh:Nat},bw get sh esz rows-> ∀(j:Nat) (v:Value),(rows.flatMap aZ)[j]? =ahq v->get (sh+j)=ahq v
 | [],_,_,j,v,h=>by simp at h
 |r::rs,sh,hr,j,v,h=>by
  rw [aaA] at h;have hl:(aZ r).length=esz:=by rw [k7];exact hr.nG r (by simp)
  rcases aai j esz with hj|hj
  · rw [aaj (by omega)] at h
    have:=(sO (im:=fun _=>ahr) (loc:=fun _=>ahr) hr (i:=0) rfl).2 j v h;simpa using this
  rw [aa9 (by omega),hl] at h
  have:=bw.flat hr.tail (j-esz) v h;rw [show sh+esz+(j-esz)=sh+j by omega] at this;exact this
theorem bw.BV {esz:Nat}: ∀{rows:List Row} {get:Nat->Option Value} {sh:Nat},(∀r∈rows,ahp r=esz)->(∀r∈rows,∀c∈r,c.plain=ahs)->
 (∀(j:Nat) (v:Value),(rows.flatMap aZ)[j]? =ahq v->get (sh+j)=ahq v)->bw get sh esz rows
 | [],_,_,_,_,_=>by intro i r h;simp at h
 |r::rs,get,sh,hl,hp,hg=>by
  have Jf:(aZ r).length=esz:=by rw [k7];exact hl r (by simp)
  have h1:bw get sh esz [r]:=by
   intro i x hx;cases i with
   |succ i=>simp at hx
   |zero=>
    simp at hx;subst hx;refine ⟨hl r (by simp),fun j c hc=>?_⟩;have hcp:=hp r (by simp) c (abr hc);obtain ⟨v,hv⟩: ∃v,hG c=ahq v:=by cases c<;>first|exact ⟨_,rfl⟩|cases hcp
    refine ⟨v,hv,?_⟩;have hj:j<esz:=by
     rcases aai j (ahp r) with h|h
     · have:=hl r (by simp);omega
     rw [PP h] at hc;cases hc
    have:=hg j v (by rw [aaA,aaj (by omega)];simp [aZ,hc,hv]);simpa using this
  have h2:bw get (sh+esz) esz rs:=bw.BV (fun x hx=>hl x (by simp [hx])) (fun x hx=>hp x (by simp [hx])) (fun j v hj=>by
   have:=hg (esz+j) v (by rw [aaA,aa9 (by omega),Jf,show esz+j-esz=j by omega];exact hj)
   rwa [<- aba] at this)
  have:=h1.append (ys:=rs) (by simpa using h2);simpa using this
theorem bw.plain {get:Nat->Option Value} {sh esz:Nat} {rows:List Row} (h:bw get sh esz rows): ∀r∈rows,∀c∈r,c.plain=ahs:=by intro r hr c hc;obtain ⟨i,hi,rfl⟩:=abt.1 hr;obtain ⟨j,hj,rfl⟩:=abt.1 hc;obtain ⟨v,hv,_⟩:=(h i _ (UV hi)).2 j _ (UV hj);cases hh:rows[i][j]<;>rw [hh] at hv<;>first|rfl|cases hv
theorem rL {rows:List Row} (hp: ∀r∈rows,∀c∈r,c.plain=ahs): ∀u∈rows.flatMap aZ,u.oneCell'=ahs:=by intro u hu;obtain ⟨r,hr,hu⟩:=List.mem_flatMap.1 hu;obtain ⟨c,hc,rfl⟩:=List.mem_map.1 hu;have:=hp r hr c hc;cases c<;>first|rfl|cases this
section
variable {P : Program} {im : Im} {loc : Loc} {aA : bW} {fz : List Nat} {w : World}
theorem BW {esz:Nat} {y:PV} {u:Value} {new:List Row} {tx e':TypeId} (hy:VR im loc y u) (hr:rowsOf aA esz y=ahq new) (hx:P.underlying tx=ahq (.slice e'))
 (bq: ∀b o,im b=ahq o->w.heap[b]? =ahq o) (tok: ∀t,t∈iP y-> ∀li,loc t=ahq li-> ∃k,aA[t]? =ahq k/\BR im loc w li k):
 Src P esz tx u (ahp new) (new.flatMap aZ) w/\(∀r∈new,ahp r=esz)/\(∀r∈new,∀c∈r,c.plain=ahs):=by
 unfold rowsOf at hr;cases y with
 |sl e qn rows=>
  obtain ⟨a,cap,rfl,_,_,kL⟩:=hy.oD;cases rows with
  |nil=>
   simp at hr;subst hr;refine ⟨?_,by simp,by simp⟩;cases a with
   |none=>exact Src.ofNil w hx cap
   |some a=>exact Src.ofSlice w hx a 0 cap [] (by simp) (by simp) (by simp)
  |cons r rs=>
   dsimp only at hr;split at hr
   · rename_i he
     have he:e=esz:=by simpa using he
     subst he;injection hr with hr;subst hr;obtain ⟨b,o,rfl,cJ⟩:=kL (by simp);refine ⟨Src.ofSlice w hx ⟨b,o,ahr⟩ _ cap _ (dy cJ.nG) (fun j v hj=>?_) (rL cJ.plain),cJ.nG,cJ.plain⟩;rw [qu];exact sN bq (cJ.flat j v hj)
   cases hr
 |own t e off len cap ex=>
  dsimp only at hr;split at hr
  · rename_i he
    have he:e=esz:=by simpa using he
    subst he;obtain ⟨li,a,cD,rfl,hl,h2,h3,h4,h5,h6,h7⟩:=hy.iA;obtain ⟨k,iF,hb⟩:=tok t (by simp [iP]) li hl;rw [iF] at hr;cases k with
    |arr e' rows=>
     simp only [ww] at hr;subst hr;obtain ⟨b1,b2,b3⟩:=hb;have bY:((rows.drop off).take len).length=len:=by simp;omega
     have Lm:e'=e:=by rw [<- b1,h2]
     subst Lm;cases rows with
     |nil=>
      have:len=0:=by simp at b2;omega
      subst this;refine ⟨?_,by simp,by simp⟩;simp;cases a with
      |none=>exact Src.ofNil w hx cD
      |some a=>exact Src.ofSlice w hx a 0 cD [] (by simp) (by simp) (by simp)
     |cons r rs=>
      obtain ⟨arr,el,sP,HH,IY,cJ⟩:=b3 (by simp);have u7:=(cJ.drop off).take len;rcases h7 with h7|⟨h7,rfl,h9⟩
      · have:len=0:=by omega
        subst this;refine ⟨?_,by simp,by simp⟩;simp;cases a with
        |none=>exact Src.ofNil w hx cD
        |some a=>exact Src.ofSlice w hx a 0 cD [] (by simp) (by simp) (by simp)
      rw [bY]
      refine ⟨Src.ofSlice w hx ⟨li.de,li.sh+off*e',ahr⟩ len cD _ (by rw [dy u7.nG,bY]) (fun j v hj=>?_) (rL u7.plain),u7.nG,u7.plain⟩;rw [qu];exact kB sP (u7.flat j v hj)
    |_=>cases hr
  cases hr
 |_=>cases hr
end
end Go.Vm
/- Operation by operation, fifth part: append. -/
namespace Go.Vm
theorem xn: ∀(new:List Row) (i:Nat) (rows:List Row),i+ahp new<=ahp rows->kK i new rows=u5 i new rows
 | [],i,rows,h=>by simp [kK,u5]
 |r::rs,i,rows,h=>by
  simp only [aaV] at h;rw [kK,xn rs (i+1) (rows.set i r) (by simp;omega)];apply abI;intro j;rw [nF _ _ _ (by simp;omega),nF _ _ _ (by simp;omega)];simp only [aaV]
  by_cases h1:i+1<=j/\j<i+1+ahp rs
  · rw [rc h1,rc ⟨by omega,by omega⟩]
    obtain ⟨k,hk⟩: ∃k,j-i=k+1:=⟨j-i-1,by omega⟩;rw [hk,show j- (i+1)=k by omega];simp
  rw [ut h1]
  by_cases h2:j=i
  · subst h2
    rw [rc ⟨IR _,by omega⟩,agb (by omega)];simp
  rw [ut (by omega),agD (by omega)]
theorem bw.u5 {get get':Nat->Option Value} {sh esz i:Nat} {new rows:List Row} (h:bw get sh esz rows) (kY:i+ahp new<=ahp rows)
 (hl: ∀r∈new,ahp r=esz) (hp: ∀r∈new,∀c∈r,c.plain=ahs)
 (hg: ∀k,get' k=if sh+i*esz<=k/\k<sh+i*esz+ahp new*esz then (new.flatMap aZ)[k- (sh+i*esz)]? else get k):
 bw get' sh esz (u5 i new rows):=by
 have OO:=dy hl;have old: ∀k r,rows[k]? =ahq r->(k<i\/i+ahp new<=k)->ahp r=esz/\ ∀(j:Nat) (c:PV),r[j]? =ahq c-> ∃v,hG c=ahq v/\get' (sh+k*esz+j)=ahq v:=by
  intro k r hk hor;obtain ⟨h1,h2⟩:=h k r hk;refine ⟨h1,fun j c hc=>?_⟩;obtain ⟨v,hv,Ln⟩:=h2 j c hc;refine ⟨v,hv,?_⟩;have hj:j<esz:=by
   rcases aai j (ahp r) with h|h
   · omega
   rw [PP h] at hc;cases hc
  rw [hg,ut]
  · exact Ln
  rcases hor with hor|hor
  · have:=aa6 esz (show k+1<=i from hor)
    rw [aa2] at this;omega
  have:=aa6 esz hor
  rw [aa2] at this;omega
 have AH:bw get' (sh+i*esz) esz new:=bw.BV hl hp fun j v hj=>by
  have Lo:j<ahp new*esz:=by
   rcases aai j (ahp new*esz) with h|h
   · exact h
   rw [PP (by omega)] at hj;cases hj
  rw [hg,rc ⟨by omega,by omega⟩,<- hj];congr 1;omega
 intro k r hk;rw [nF _ _ _ kY] at hk;split at hk
 · rename_i hc
   obtain ⟨h1,h2⟩:=AH _ r hk;refine ⟨h1,fun j c AI=>?_⟩;obtain ⟨v,hv,Ln⟩:=h2 j c AI;refine ⟨v,hv,?_⟩;rw [<- Ln];congr 1;have:k*esz=i*esz+(k-i)*esz:=by rw [<- aa2];congr 1;omega
   omega
 rename_i hc
 exact old k r hk (by omega)
theorem grownCap_ge (w:World) (Lp old:Nat) (e:TypeId):Lp<=grownCap w Lp old e:=by unfold grownCap;simp [Question.cut]
theorem QE {Lp old bytes:Nat} (h:old<Lp) (hn:Lp<=1048576) (hb:bytes<=1048576):Builtin.nextslicecap Lp old*bytes<=281474976710656:=by
 have h1:=nextslicecap_le h;have h2:Builtin.nextslicecap Lp old<=2097152:=by omega
 have:=ahf h2 hb;omega
theorem xo (z:Array Value) (n:Nat):(Builtin.zeroCells z n).size=n*z.size:=by simp [Builtin.zeroCells]
section
variable {P : Program} {im : Im} {loc : Loc} {aA : bW} {fz : List Nat} {w : World}
theorem qD (t tx ty e:TypeId) (i:TypeInfo) (ht:P.underlying t=ahq (.slice e)) (hi:P.info? e=ahq i) (b off xp sCap:Nat) (x:Value) (n:Nat) (news:List Value) (hs:Src P i.size tx x n news w)
 (xq:xp+n<=sCap) {cur:Array Value} {el:TypeId} (hb:w.heap[b]? =ahq (.cells cur el (0,0))) (kY:off+xp*i.size+ahp news<=cur.size):
 (Builtin.append_ #[t,tx] ty #[.slice (ahq ⟨b,off,ahr⟩) xp sCap,x]).run P w=
  .ok (.slice (ahq ⟨b,off,ahr⟩) (xp+n) sCap) (w.setRow b (u5 (off+xp*i.size) news cur.toList).toArray):=by
 have bM:=run_storeCells_at P b (off+xp*i.size) el news 0 cur w hb (by simpa using kY) hs.one;simp only [ahm] at bM;rcases hs.kind with ⟨e',hk⟩|hk<;>simp [Builtin.append_,run_underlying ht,run_underlying hk,sizeOf,typeInfo,hi,hs.len,xq,hs.cells,Addr.add_lit,bM,u5]
theorem BX {esz:Nat} {olds new:List Row} {rest:Array Value} {el:TypeId} {r:nB} {w':World} {nc:Nat} (hr:r.v= .own (ahp aA) esz 0 (ahp olds+ahp new) (ahp olds+ahp new) aht)
 (hn:r.news=[.arr esz (olds++new)]) (hk:jj im loc aA w r) (dE:new≠[])
 (hh:w'.heap=w.heap.push (.cells (((olds.flatMap aZ)++(new.flatMap aZ)).toArray++rest) el))
 (M9: ∀r∈olds,ahp r=esz) (hp1: ∀r∈olds,∀c∈r,c.plain=ahs) (GF: ∀r∈new,ahp r=esz) (hp2: ∀r∈new,∀c∈r,c.plain=ahs)
 (hnc:(ahp olds)+ahp new<=nc) (T9:rest.size=(nc- (ahp olds+ahp new))*esz):
 ∃li:LI,li.de=w.heap.size/\VR im (loc.set (ahp aA) li) r.v (.slice (ahq ⟨w.heap.size,0,ahr⟩) (ahp olds+ahp new) nc)/\
  BR im (loc.set (ahp aA) li) w' li (.arr esz (olds++new))/\lX loc (loc.set (ahp aA) li):=by
 have ak5:=dy M9;have ak6:=dy GF;have oz:(((olds.flatMap aZ)++(new.flatMap aZ)).toArray++rest).size=nc*esz:=by simp only [Array.size_append,ab0,aaX,ak5,ak6,T9];rw [<- aa2,<- aa2];congr 1;omega
 let li:LI:=⟨w.heap.size,0,esz,(olds++new).length,nc*esz⟩
 refine ⟨li,rfl,?_,⟨rfl,rfl,fun _=>⟨_,el,by rw [hh];simp [li],oz,?_,?_⟩⟩,Loc.xj li (by have:=hk.fresh 0 (by simp [hn]);simpa using this)⟩
 · rw [hr]
   have:=VR.own (im:=im) (loc:=loc.set (ahp aA) li) (ahp aA) esz 0 (ahp olds+ahp new) (ahp olds+ahp new) aht li (ahq ⟨w.heap.size,0,ahr⟩) nc
    (Loc.eN _ _ _) rfl (by simp [li]) (IR _) hnc (by simp)
    (.inr ⟨by simp [li];intro _;exact dE,by simp [li],by simp [li]⟩)
   exact this
 · simp only [li]
   have:=aa6 esz hnc;simp only [aaX];omega
 refine bw.BV (fun r hr=>?_) (fun r hr=>?_) (fun j v hj=>?_)
 · rcases aay.1 hr with h|h
   · exact M9 r h
   exact GF r h
 · rcases aay.1 hr with h|h
   · exact hp1 r h
   exact hp2 r h
 rw [agO] at hj
 simp only [li,agc];rw [Array.getElem?_append_left (by have:=(aas.1 hj).1;simpa using this)];simpa using hj
end
end Go.Vm
/- Operation by operation, sixth part: append, whole. -/
namespace Go.Vm
section
variable {P : Program} {im : Im} {loc : Loc} {aA : bW} {fz : List Nat} {w : World}
theorem Eb {t tx ty e:TypeId} {i:TypeInfo} {z:Value} {esz:Nat} (ht:P.underlying t=ahq (.slice e)) (hi:P.info? e=ahq i) (hz:i.zero=ahq z) (T':z.cells.size=esz)
 (Lq:i.bytes<=1048576) {ou:Option Addr} {xp sCap:Nat} {olds:List Row} {new:List Row} {x:Value}
 (zH:(Builtin.firstCells i.size xp (.slice ou xp sCap)).run P w.drew= .ok (olds.flatMap aZ).toArray w.drew)
 (hs:Src P i.size tx x (ahp new) (new.flatMap aZ) w) (hg:sCap<xp+ahp new) (hm:xp+ahp new<=1048576):
 ∃(nc:Nat) (rest:Array Value),xp+ahp new<=nc/\rest.size=(nc- (xp+ahp new))*esz/\
  (Builtin.append_ #[t,tx] ty #[.slice ou xp sCap,x]).run P w= .ok (.slice (ahq ⟨w.heap.size,0,ahr⟩) (xp+ahp new) nc)
   (w.drew.alloc (.cells (((olds.flatMap aZ)++(new.flatMap aZ)).toArray++rest) e)):=by
 refine ⟨_,_,grownCap_ge w (xp+ahp new) sCap e,by rw [xo,T'],
  run_append_grow_src w t tx ty e i z ht hi hz ou xp sCap _ zH x _ _ hs hg (by omega) (QE hg hm Lq)⟩
theorem Ec {t tx ty e e' : TypeId} {i : TypeInfo} {z : Value} {esz : Nat} (ht : P.underlying t = ahq (.slice e)) (htx : P.underlying tx = ahq (.slice e')) (hi : P.info? e = ahq i) (oz : i.size = esz)
    (hz : i.zero = ahq z) (T' : z.cells.size = esz) (Lq : i.bytes <= 1048576)
    {x y : PV} {u v : Value} {r : nB} (hx : VR im loc x u) (hy : VR im loc y v) (h : iQ aA fz esz x y = ahq r) (hk : jj im loc aA w r) :
    ∃ v' w' bg, (Builtin.append_ #[t, tx] ty #[u, v]).run P w = .ok v' w' /\ VR im bg r.v v' /\ sM im loc aA w r im bg w' := by
  unfold iQ at h
  cases zb : rowsOf aA esz y with
  | none => rw [zb] at h; cases h
  | some new =>
    rw [zb] at h
    dsimp only at h
    cases new with
    | nil =>
      dsimp only at h
      have key : ∀ (a : Option Addr) (n cap : Nat), u = .slice a n cap -> n <= cap -> ahq ({ v := x, rd := iP y } : nB) = ahq r ->
          ∃ v' w' bg, (Builtin.append_ #[t, tx] ty #[u, v]).run P w = .ok v' w' /\ VR im bg r.v v' /\ sM im loc aA w r im bg w' := by
        intro a n cap hu kY hr
        injection hr with hr; subst hr
        obtain ⟨hs, _, _⟩ := BW (P := P) (w := w) hy zb htx hk.bq (fun t ht => hk.tok t (.inl ht))
        simp only [abY, agm] at hs
        subst hu
        rw [<- oz] at hs
        exact ⟨_, _, loc, run_append_nothing w t tx ty e i ht hi a n cap kY _ hs, hx, sM.none hk rfl rfl⟩
      have fresh : ∀ (a : Option Addr) (rd : List Nat), u = .slice a 0 0 -> (∀ t ∈ iP y, t ∈ rd) -> ahq ({ v := .own (ahp aA) esz 0 0 0 aht, news := [.arr esz []], rd := rd } : nB) = ahq r ->
          ∃ v' w' bg, (Builtin.append_ #[t, tx] ty #[u, v]).run P w = .ok v' w' /\ VR im bg r.v v' /\ sM im loc aA w r im bg w' := by
        intro a rd hu Gj hr
        injection hr with hr; subst hr
        obtain ⟨hs, _, _⟩ := BW (P := P) (w := w) hy zb htx hk.bq (fun t ht => hk.tok t (.inl (Gj t ht)))
        simp only [abY, agm] at hs
        subst hu
        rw [<- oz] at hs
        exact ⟨_, _, _, run_append_nothing w t tx ty e i ht hi a 0 0 (IR _) _ hs, .own _ esz 0 0 0 aht ⟨0, 0, esz, 0, 0⟩ a 0 (Loc.eN _ _ _) rfl (IR _) (IR _) (IR _) (by simp) (.inl rfl), sM.QA hk rfl rfl⟩
      cases x with
      | sl e qn rows =>
        obtain ⟨a, cap, hu, kY, GD, _⟩ := hx.oD
        dsimp only at h
        split at h
        · rename_i hc
          simp only [v6, ah7] at hc
          obtain ⟨hc, rfl⟩ := hc
          have := GD hc
          simp at this
          subst this
          exact fresh a _ (by simpa using hu) (fun _ h => h) h
        exact key a _ cap hu kY h
      | own tk e off len cap ex =>
        obtain ⟨li, a, cD, hu, h1, h2, h3, h4, h5, h6, _⟩ := hx.iA
        dsimp only at h
        split at h
        · rename_i hc
          simp only [v6, aav] at hc
          obtain ⟨⟨rfl, rfl⟩, hc⟩ := hc
          have := h6 hc
          subst this
          exact fresh a _ hu (fun _ h => abx _ h) h
        exact key a _ cD hu (by omega) h
      | _ => cases h
    | cons n0 ns =>
      dsimp only at h
      generalize AH : n0 :: ns = new at h zb
      have dE : new ≠ [] := by rw [<- AH]; simp
      have zI : 0 < (ahp new) := by rw [<- AH]; simp
      cases x with
      | sl e1 qn rows =>
        dsimp only at h
        split at h
        · rename_i hc
          simp only [v6, agq, aav, ab1] at hc
          obtain ⟨⟨ahE, Dl⟩, k8⟩ := hc
          injection h with h
          obtain ⟨a, cap, rfl, y4, Qn, kL⟩ := hx.oD
          have ak7 := Qn ahE
          have wK : jj im loc aA w { v := .own (ahp aA) esz 0 ((ahp rows) + (ahp new)) ((ahp rows) + (ahp new)) aht, news := [.arr esz (rows ++ new)], rd := iP y } := by rw [h]; exact hk
          obtain ⟨hs, Gk, Qo⟩ := BW (P := P) (w := w) hy zb htx wK.bq (fun t ht => wK.tok t (.inl ht))
          rw [<- oz] at hs
          have zH : (Builtin.firstCells i.size (ahp rows) (.slice a (ahp rows) cap)).run P w.drew = .ok (rows.flatMap aZ).toArray w.drew /\ (∀ r ∈ rows, (ahp r) = esz) /\ (∀ r ∈ rows, ∀ c ∈ r, c.plain = ahs) := by
            cases hrw : rows with
            | nil =>
              refine ⟨?_, by simp, by simp⟩
              cases a with
              | none => simpa using run_firstCells_none w.drew i.size 0 0 cap
              | some a => exact run_firstCells_some w.drew i.size 0 a 0 cap [] (by simp) (by simp)
            | cons r0 rs =>
              rw [<- hrw]
              have OP : rows ≠ [] := by rw [hrw]; simp
              obtain ⟨b, o, rfl, cJ⟩ := kL OP
              have TP : e1 = esz := by
                rcases Dl with h | h
                · exact h
                rw [hrw] at h; simp at h
              subst TP
              refine ⟨run_firstCells_some w.drew i.size (ahp rows) ⟨b, o, ahr⟩ (ahp rows) cap _ (by rw [oz]; exact dy cJ.nG) (fun j v hj => ?_), cJ.nG, cJ.plain⟩
              rw [qu]
              exact sN wK.bq (cJ.flat j v hj)
          obtain ⟨zH, hol, eO⟩ := zH
          obtain ⟨nc, rest, hnc, T9, bI⟩ := Eb (P := P) (w := w) (tx := tx) (ty := ty) ht hi hz T' Lq (sCap := cap) zH hs (by omega) (by simpa [lI] using k8)
          obtain ⟨li, hlb, ot, sF, kY⟩ := BX (im := im) (loc := loc) (r := { v := .own (ahp aA) esz 0 ((ahp rows) + (ahp new)) ((ahp rows) + (ahp new)) aht, news := [.arr esz (rows ++ new)], rd := iP y })
            (w' := w.drew.alloc (.cells (((rows.flatMap aZ) ++ (new.flatMap aZ)).toArray ++ rest) e)) rfl rfl wK dE rfl hol eO Gk Qo hnc T9
          subst h
          exact ⟨_, _, _, bI, ot, sM.new wK li rfl rfl rfl rfl rfl rfl hlb sF⟩
        cases h
      | own tk e1 off len cap ex =>
        dsimp only at h
        obtain ⟨li, a, cD, rfl, hl, he, Dk, bY, y4, hex, Dm⟩ := hx.iA
        cases bM : aA[tk]? with
        | none => rw [bM] at h; cases h
        | some de =>
          rw [bM] at h
          cases de with
          | arr e2 rows =>
            dsimp only at h
            split at h
            · cases h
            rename_i Lm
            have Lm : e1 = esz := by simpa using Lm
            subst Lm
            split at h
            ·
              rename_i xq
              have xq : len + (ahp new) <= cap := by simpa using xq
              split at h
              · cases h
              rename_i QD
              injection h with h
              subst h
              obtain ⟨hs, Gk, Qo⟩ := BW (P := P) (w := w) hy zb htx hk.bq (fun t ht => hk.tok t (.inl ht))
              rw [<- oz] at hs
              obtain ⟨k, iF, hb⟩ := hk.tok tk (.inr ⟨_, aap.2 rfl⟩) li hl
              rw [bM] at iF; injection iF with iF; subst iF
              obtain ⟨b1, b2, b3⟩ := hb
              have nH : rows ≠ [] := by intro e; subst e; simp at b2; omega
              have w8 : e2 = e1 := by rw [<- b1, he]
              subst w8
              obtain ⟨arr, el, sP, HH, IY, cJ⟩ := b3 nH
              rcases Dm with h0 | ⟨_, rfl, u6⟩
              · omega
              have Gl := dy Gk
              have Gi := aa6 e2 (show off + (len + (ahp new)) <= (ahp rows) by omega)
              have Lr : (off + (len + (ahp new))) * e2 = off * e2 + len * e2 + (ahp new) * e2 := by rw [aa2, aa2]; omega
              have Ed : li.sh + off * e2 + len * i.size + (new.flatMap aZ).length <= arr.size := by rw [oz, Gl]; omega
              have bI := qD (P := P) (w := w) t tx ty e i ht hi li.de (li.sh + off * e2) len cD v (ahp new) (new.flatMap aZ) hs (by omega) sP Ed
              refine ⟨_, _, loc, bI, ?_, ?_⟩
              · exact .own tk e2 off (len + (ahp new)) cap ex li _ cD hl he Dk xq y4 hex (.inr ⟨by omega, rfl, u6⟩)
              refine sM.write hk (t := tk) (k0 := .arr e2 rows) (li := li) rfl rfl hl bM (by cases rows with | nil => exact absurd rfl nH | cons _ _ => rfl) (fq sP) rfl rfl rfl ?_
              rw [xn _ _ _ (by omega)]
              refine ⟨b1, by rw [gy _ _ _ (by omega)]; exact b2, fun _ => ⟨(u5 (li.sh + off * e2 + len * i.size) (new.flatMap aZ) arr.toList).toArray, el, ?_, ?_, ?_, ?_⟩⟩
              · rw [fq sP]
                have df := (NE.1 sP).1
                simp [df]
              · rw [<- HH]
                simp only [ab0]
                rw [gy _ _ _ (by simpa using Ed)]; simp
              · rw [gy _ _ _ (by omega)]; exact IY
              refine cJ.u5 (by omega) Gk Qo (fun k => ?_)
              simp only [aaw]
              rw [nF _ _ _ (by simpa using Ed), Gl]
              have : li.sh + off * e2 + len * i.size = li.sh + (off + len) * e2 := by rw [oz, aa2]; omega
              rw [this]
              simp
            rename_i xq
            have xq : ¬ (len + (ahp new) <= cap) := by simpa using xq
            split at h
            · cases h
            rename_i k8
            have k8 : len + (ahp new) <= 1048576 := by simpa [lI] using k8
            have old : ∀ (rd : List Nat) (wr : List (Nat × jL)), (tk ∈ rd \/ ∃ k, (tk, k) ∈ wr) ->
                jj im loc aA w { v := .own (ahp aA) e1 0 (len + (ahp new)) (len + (ahp new)) aht, news := [.arr e1 ((rows.drop off).take len ++ new)], wr := wr, rd := rd } ->
                (Builtin.firstCells i.size len (.slice a len cD)).run P w.drew = .ok (((rows.drop off).take len).flatMap aZ).toArray w.drew /\ ((rows.drop off).take len).length = len /\
                  (∀ r ∈ (rows.drop off).take len, (ahp r) = e1) /\ (∀ r ∈ (rows.drop off).take len, ∀ c ∈ r, c.plain = ahs) := by
              intro rd wr y5 wK
              obtain ⟨k, iF, hb⟩ := wK.tok tk y5 li hl
              rw [bM] at iF; injection iF with iF; subst iF
              obtain ⟨b1, b2, b3⟩ := hb
              have w8 : e2 = e1 := by rw [<- b1, he]
              subst w8
              have zJ : ((rows.drop off).take len).length = len := by simp; omega
              by_cases IZ : len = 0
              · subst IZ
                refine ⟨?_, zJ, by simp, by simp⟩
                simp only [List.take_zero, abY]
                cases a with
                | none => exact run_firstCells_none w.drew i.size 0 0 cD
                | some a => exact run_firstCells_some w.drew i.size 0 a 0 cD [] (by simp) (by simp)
              have nH : rows ≠ [] := by intro e; subst e; simp at zJ; omega
              obtain ⟨arr, el, sP, HH, IY, cJ⟩ := b3 nH
              have u7 := (cJ.drop off).take len
              rcases Dm with h0 | ⟨_, rfl, _⟩
              · omega
              refine ⟨run_firstCells_some w.drew i.size len _ len cD _ (by rw [oz, dy u7.nG, zJ]) (fun j v hj => ?_), zJ, u7.nG, u7.plain⟩
              rw [qu]
              exact kB (w := w) sP (u7.flat j v hj)
            split at h
            ·
              rename_i ahF
              injection h with h
              have wK : jj im loc aA w { v := .own (ahp aA) e1 0 (len + (ahp new)) (len + (ahp new)) aht, news := [.arr e1 ((rows.drop off).take len ++ new)], wr := [], rd := tk :: iP y } := by rw [h]; exact hk
              obtain ⟨zH, zJ, hol, eO⟩ := old (tk :: iP y) [] (.inl (by simp)) wK
              obtain ⟨hs, Gk, Qo⟩ := BW (P := P) (w := w) hy zb htx wK.bq (fun t ht => wK.tok t (.inl (abx _ ht)))
              rw [<- oz] at hs
              have hce := hex ahF
              obtain ⟨nc, rest, hnc, T9, bI⟩ := Eb (P := P) (w := w) (tx := tx) (ty := ty) ht hi hz T' Lq (sCap := cD) zH hs (by omega) k8
              obtain ⟨lj, hlb, ot, sF, kY⟩ := BX (im := im) (loc := loc) (olds := (rows.drop off).take len) (new := new) (r := { v := .own (ahp aA) e1 0 (len + (ahp new)) (len + (ahp new)) aht, news := [.arr e1 ((rows.drop off).take len ++ new)], wr := [], rd := tk :: iP y })
                (w' := w.drew.alloc (.cells (((((rows.drop off).take len).flatMap aZ) ++ (new.flatMap aZ)).toArray ++ rest) e)) (by rw [zJ]) rfl wK dE rfl hol eO Gk Qo (by rw [zJ]; exact hnc) (by rw [zJ]; exact T9)
              subst h
              rw [zJ] at ot
              exact ⟨_, _, _, bI, ot, sM.new wK lj rfl rfl rfl rfl rfl rfl hlb sF⟩
            rename_i ahF
            split at h
            · cases h
            rename_i QD
            injection h with h
            have wK : jj im loc aA w { v := .own (ahp aA) e1 0 (len + (ahp new)) (len + (ahp new)) aht, news := [.arr e1 ((rows.drop off).take len ++ new)], wr := [(tk, .dead)], rd := iP y } := by rw [h]; exact hk
            obtain ⟨zH, zJ, hol, eO⟩ := old (iP y) [(tk, .dead)] (.inr ⟨_, aap.2 rfl⟩) wK
            obtain ⟨hs, Gk, Qo⟩ := BW (P := P) (w := w) hy zb htx wK.bq (fun t ht => wK.tok t (.inl ht))
            have uw := hs
            rw [<- oz] at hs
            subst h
            rcases aai cD (len + (ahp new)) with hg | hg
            ·
              obtain ⟨nc, rest, hnc, T9, bI⟩ := Eb (P := P) (w := w) (tx := tx) (ty := ty) ht hi hz T' Lq (sCap := cD) zH hs hg k8
              obtain ⟨lj, hlb, ot, sF, kY⟩ := BX (im := im) (loc := loc) (olds := (rows.drop off).take len) (new := new) (r := { v := .own (ahp aA) e1 0 (len + (ahp new)) (len + (ahp new)) aht, news := [.arr e1 ((rows.drop off).take len ++ new)], wr := [(tk, .dead)], rd := iP y })
                (w' := w.drew.alloc (.cells (((((rows.drop off).take len).flatMap aZ) ++ (new.flatMap aZ)).toArray ++ rest) e)) (by rw [zJ]) rfl wK dE rfl hol eO Gk Qo (by rw [zJ]; exact hnc) (by rw [zJ]; exact T9)
              rw [zJ] at ot
              refine ⟨_, _, _, bI, ot, ?_⟩
              have ou := sM.new (r := { v := .own (ahp aA) e1 0 (len + (ahp new)) (len + (ahp new)) aht, news := [.arr e1 ((rows.drop off).take len ++ new)], wr := [], rd := iP y })
                (w' := w.drew.alloc (.cells (((((rows.drop off).take len).flatMap aZ) ++ (new.flatMap aZ)).toArray ++ rest) e))
                ⟨wK.bq, fun t ht => wK.tok t (by rcases ht with ht | ⟨k, ht⟩; exact .inl ht; cases ht), fun t k h => absurd h (by simp), wK.fresh, fun t u li lj k k' h1 h2 => wK.iE t u li lj k k' (by rcases h1 with h | ⟨k, h⟩; exact .inl h; cases h) (by rcases h2 with h | ⟨k, h⟩; exact .inl h; cases h)⟩ lj rfl rfl rfl rfl rfl rfl hlb sF
              exact { fY := ou.fY, dw := ou.dw, bq := ou.bq, dB := ou.dB, os := ou.os, tape := ou.tape, output := ou.output, size := ou.size,
                      frame := fun b hb _ => ou.frame b hb (fun t k li k0 h => absurd h (by simp)),
                      OJ := (fun t k hm hs => by
                        obtain ⟨rfl, rfl⟩ : t = tk /\ k = .dead := by simpa using hm
                        cases hs),
                      wr := fun t k li hm kM => by
                        obtain ⟨rfl, rfl⟩ : t = tk /\ k = .dead := by simpa using hm
                        trivial,
                      kJ := ou.kJ,
                      news := fun j k li hj hl => by
                        obtain ⟨h2, h3⟩ := ou.news j k li hj hl
                        refine ⟨h2, fun hs => ⟨(h3 hs).1, ?_⟩⟩
                        rcases (h3 hs).2 with h | ⟨t, lt, k0, hm, _⟩
                        · exact .inl h
                        exact absurd hm (by simp),
                      distinct := ou.distinct }
            ·
              obtain ⟨k, iF, hb⟩ := wK.tok tk (.inr ⟨_, aap.2 rfl⟩) li hl
              rw [bM] at iF; injection iF with iF; subst iF
              obtain ⟨b1, b2, b3⟩ := hb
              have w8 : e2 = e1 := by rw [<- b1, he]
              subst w8
              rcases Dm with h0 | ⟨Qp, rfl, u6⟩
              · omega
              have nH : rows ≠ [] := by intro e; subst e; simp at b2; omega
              obtain ⟨arr, el, sP, HH, IY, cJ⟩ := b3 nH
              have u7 := (cJ.drop off).take len
              have Gl := dy Gk
              have ahG := dy hol
              rw [zJ] at ahG
              have Gi := aa6 e2 (show off + (len + (ahp new)) <= off + cD by omega)
              have Lr : (off + (len + (ahp new))) * e2 = off * e2 + len * e2 + (ahp new) * e2 := by rw [aa2, aa2]; omega
              have Ed : li.sh + off * e2 + len * i.size + (new.flatMap aZ).length <= arr.size := by rw [oz, Gl]; omega
              have bI := qD (P := P) (w := w) t tx ty e i ht hi li.de (li.sh + off * e2) len cD v (ahp new) (new.flatMap aZ) hs hg sP Ed
              have M' := fq (cs := (u5 (li.sh + off * e2 + len * i.size) (new.flatMap aZ) arr.toList).toArray) sP
              have df := (NE.1 sP).1
              have zK : (jL.arr e2 rows).bA = ahs := by cases rows with | nil => exact absurd rfl nH | cons _ _ => rfl
              have AJ := wK.free tk .dead (aap.2 rfl) li (.arr e2 rows) hl bM zK
              let lj : LI := ⟨li.de, li.sh + off * e2, e2, ((rows.drop off).take len ++ new).length, li.sz⟩
              have QF : loc (ahp aA) = ahr := by have := wK.fresh 0 (by simp); simpa using this
              have hlj : lj.n = len + (ahp new) := by simp only [lj, aaX, zJ]
              refine ⟨_, _, loc.set (ahp aA) lj, bI, ?_, ?_⟩
              · exact .own (ahp aA) e2 0 (len + (ahp new)) (len + (ahp new)) aht lj _ cD (Loc.eN _ _ _) rfl (by omega) (IR _) hg (by simp)
                  (.inr ⟨by omega, by simp [lj], by simp only [lj, agc]; rw [aa2] at u6; omega⟩)
              have sF : BR im (loc.set (ahp aA) lj) (w.setRow li.de (u5 (li.sh + off * e2 + len * i.size) (new.flatMap aZ) arr.toList).toArray) lj (.arr e2 ((rows.drop off).take len ++ new)) := by
                refine ⟨rfl, rfl, fun _ => ⟨(u5 (li.sh + off * e2 + len * i.size) (new.flatMap aZ) arr.toList).toArray, el, by rw [M']; simp [lj, df], ?_, ?_, ?_⟩⟩
                · simp only [lj, ab0]
                  rw [gy _ _ _ (by simpa using Ed)]; simpa using HH
                · simp only [lj, aaX, zJ]
                  rw [aa2]; rw [Lr] at Gi; omega
                refine bw.BV (fun r hr => ?_) (fun r hr => ?_) (fun j u hj => ?_)
                · rcases aay.1 hr with h | h
                  · exact hol r h
                  exact Gk r h
                · rcases aay.1 hr with h | h
                  · exact eO r h
                  exact Qo r h
                rw [agO] at hj
                simp only [lj, aaw]
                rw [nF _ _ _ (by simpa using Ed), Gl, oz]
                rcases aai j (len * e2) with Lo | Lo
                · rw [aaj (by omega)] at hj
                  rw [ut (by omega)]
                  have := u7.flat j u hj
                  simpa using this
                rw [aa9 (by omega), ahG] at hj
                have hjb := (aas.1 hj).1
                rw [rc ⟨by omega, by omega⟩, <- hj]
                congr 1
                omega
              exact { fY := .refl _, dw := Loc.xj lj QF,
                      bq := fun b o hb => by
                        have h1 := wK.bq b o hb
                        have HI : li.de ≠ b := fun e => by rw [e, hb] at AJ; cases AJ
                        rw [M', aam, ut HI]; exact h1,
                      dB := fun _ _ h => .inl h, os := rfl, tape := ⟨rfl, IR _⟩, output := rfl,
                      size := by rw [M']; simp,
                      OJ := (fun t k hm hs => by
                        obtain ⟨rfl, rfl⟩ : t = tk /\ k = .dead := by simpa using hm
                        cases hs),
                      frame := fun b _ hb => by
                        have HI := hb tk .dead li _ (aap.2 rfl) hl bM zK
                        rw [M', aam, ut HI],
                      wr := fun t k li hm kM => by
                        obtain ⟨rfl, rfl⟩ : t = tk /\ k = .dead := by simpa using hm
                        trivial,
                      kJ := fun t l h => by
                        unfold Loc.set at h
                        split at h
                        · rename_i e; subst e; exact .inr ⟨IR _, by simp⟩
                        exact .inl h,
                      news := BU (fun j k hj => by
                        cases j with
                        | zero =>
                          simp at hj; subst hj
                          exact ⟨lj, Loc.eN _ _ _, sF, fun _ => ⟨AJ, .inr ⟨tk, li, _, aap.2 rfl, hl, bM, zK, rfl⟩⟩⟩
                        | succ j => simp at hj),
                      distinct := fun i j ki kj li lj h1 h2 _ _ _ _ _ => by
                        cases i <;> cases j <;> simp at h1 h2 <;> rfl }
          | _ => cases h
      | _ => cases h
end
end Go.Vm
/- Operation by operation, seventh part: aggregates and rows that are built, slices that are cut. -/
namespace Go.Vm
section
variable {P : Program} {im : Im} {loc : Loc} {aA : bW} {fz : List Nat} {w : World}
theorem uy {α β:Type} (f:α->Sem β) (g:α->β):
 ∀(xs:List α),(∀a∈xs,(f a).run P w= .ok (g a) w)-> ∀(acc:Array β),(xs.foldlM (fun bs a=>bs.push<$>f a) acc).run P w= .ok (acc++(xs.map g).toArray) w
 | [],_,acc=>by simp
 |x::xs,h,acc=>by
  simp only [ah8,EQ,Sem.run_map,h x (by simp),AC,uy f g xs (fun a ha=>h a (by simp [ha]))]
  congr 1
  apply aat;simp
theorem OQ {α β:Type} (f:α->Sem β) (g:α->β) (xs:Array α) (h: ∀a∈xs,(f a).run P w= .ok (g a) w):(xs.mapM f).run P w= .ok (xs.map g) w:=by
 rw [Array.mapM_eq_foldlM,<- Array.foldlM_toList,uy f g xs.toList (fun a ha=>h a (by simpa using ha))]
 congr 1
 apply aat;simp
theorem GG (off:Nat): ∀(xs:List Value) (k:Nat) (cells:Array Value),off+k+ahp xs<=cells.size->
 ((xs.zipIdx k).foldl (fun (cs:Array Value) (p:Value×Nat)=>cs.setIfInBounds (off+p.2) p.1) cells).toList=u5 (off+k) xs cells.toList
 | [],k,cells,_=>by simp [u5]
 |x::xs,k,cells,h=>by
  simp only [aaV] at h;rw [List.zipIdx_cons,abg,GG off xs (k+1) _ (by simp;omega)];apply abI;intro j;rw [nF _ _ _ (by simp;omega),nF _ _ _ (by simp;omega)];simp only [aaV,Array.toList_setIfInBounds]
  by_cases h1:off+(k+1)<=j/\j<off+(k+1)+ahp xs
  · rw [rc h1,rc ⟨by omega,by omega⟩]
    obtain ⟨m,hm⟩: ∃m,j- (off+k)=m+1:=⟨j- (off+k) -1,by omega⟩;rw [hm,show j- (off+(k+1))=m by omega];simp
  rw [ut h1]
  by_cases h2:j=off+k
  · subst h2
    rw [rc ⟨IR _,by omega⟩,agb (by simp;omega)];simp
  rw [ut (by omega),agD (by omega)]
theorem yv {place:Nat->Option (Nat×Nat)} {i off size:Nat} {v:Value} {rest:List (Nat×Value)} {cells:Array Value} (hp:place i=ahq (off,size)) (hs:v.cells.size=size)
 (hf:off+size<=cells.size):Instr.fill place cells ((i,v)::rest)=Instr.fill place ⟨u5 off v.cells.toList cells.toList⟩ rest:=by
 have he:(v.cells.zipIdx.foldl (fun cs (c,j)=>cs.setIfInBounds (off+j) c) cells)=⟨u5 off v.cells.toList cells.toList⟩:=by apply aat;rw [<- Array.foldl_toList,Array.toList_zipIdx];have:=GG off v.cells.toList 0 cells (by simp;omega);simpa using this
 simp only [Instr.fill,hp];rw [ut (by simp [hs];omega),he]
inductive uz (im:Im) (loc:Loc) (place:Nat->Option (Nat×Nat)):List (Nat×Nat×PV)->List (Nat×Value)->Prop
 |nil:uz im loc place [] []
 |cons (off sz i:Nat) (x:PV) (v:Value) (r:List (Nat×Nat×PV)) (s:List (Nat×Value)) (hp:place i=ahq (off,sz)) (hv:VR im loc x v) (h:uz im loc place r s):
  uz im loc place ((off,sz,x)::r) ((i,v)::s)
theorem Jh {place:Nat->Option (Nat×Nat)}: ∀{ps:List (Nat×Nat×PV)} {qs:List (Nat×Value)},uz im loc place ps qs-> ∀{cs GA:List PV} {vs:Array Value},
 eG im loc cs vs.toList->mT ps cs=ahq GA-> ∃Lf,Instr.fill place vs qs=ahq Lf/\eG im loc GA Lf.toList
 |_,_,.nil,cs,GA,vs,h,hf=>by simp only [mT,ww] at hf;subst hf;exact ⟨vs,rfl,h⟩
 |_,_,.cons off sz i x v r s hp hv hr,cs,GA,vs,h,hf=>by
  simp only [mT] at hf;cases bM:x.stored with
  |none=>rw [bM] at hf;cases hf
  |some ws=>
   rw [bM] at hf;dsimp only at hf;split at hf
   · rename_i hc
     simp only [v6,aav,ab1] at hc;obtain ⟨rfl,AG⟩:=zG bM;have M8:=hv.cells AG;have hl:=M8.mI;have GD:=h.mI;simp only [aaS] at hl GD;rw [yv hp (by omega) (by omega)];exact Jh hr (eG.u5 M8 h) hf
   cases hf
theorem Ee {t:TypeId} {fs:Array Field} (hu:P.underlying t=ahq (.struct fs)) (hf: ∀f∈fs,(P.info? f.type).isSome=ahs):
 (fs.mapM fun f=>do pure (f.offset,<- sizeOf f.type):Sem (Array (Nat×Nat))).run P w= .ok (fs.map fun f=>(f.offset,P.cellsOf f.type)) w/\
 (fun i=>(fs.map fun f=>(f.offset,P.cellsOf f.type))[i]?)=placeOf P t:=by
 constructor
 · refine OQ _ _ _ fun f hm=>?_
   obtain ⟨i,hi⟩:=aaE.1 (hf f hm);simp [sizeOf,typeInfo,hi,Program.cellsOf]
 funext i
 unfold placeOf;rw [hu];cases hfi:fs[i]? with
 |none=>simp [hfi]
 |some f=>obtain ⟨j,hj⟩:=aaE.1 (hf f (Array.mem_of_getElem? hfi));simp [hfi,hj,Program.cellsOf]
theorem OR {t:TypeId} {zero cs:List PV} {ps:List (Nat×Nat×PV)} {qs:Array (Nat×Value)} (hz:tB P t zero=ahs)
 (ny:(match P.underlying t with|some (.struct fs)=>fs.all fun f=>(P.info? f.type).isSome|some (.array _ e)=>(P.info? e).isSome|_=>aht)=ahs)
 (hr:uz im loc (placeOf P t) ps qs.toList) (hf:mT ps zero=ahq cs): ∃v,(Instr.build t qs).run P w= .ok v w/\VR im loc (.agg cs) v:=by
 unfold tB at hz;cases hi:P.info? t with
 |none=>rw [hi] at hz;cases hz
 |some i=>
  rw [hi] at hz;cases HJ:i.zero with
  |none=>simp [HJ] at hz
  |some z=>
   simp [HJ] at hz;have Lg:(zeroValue t).run P w= .ok z w:=by simp [zeroValue,typeInfo,hi,HJ]
   obtain ⟨Lf,h1,h2⟩:=Jh hr (xi hz) hf;refine ⟨.agg Lf,?_,.agg cs Lf.toList h2⟩;cases hu:P.underlying t with
   |none=>rw [hu] at ny;cases ny
   |some d=>
    rw [hu] at ny;cases d<;>first|cases ny|skip
    case array n e=>
     obtain ⟨j,hj⟩:=aaE.1 ny;have hp:(fun i=>ahq (i*j.size,j.size))=placeOf P t:=by funext i;unfold placeOf;rw [hu];simp [hj]
     have oz:(sizeOf e).run P w= .ok j.size w:=by simp [sizeOf,typeInfo,hj]
     simp only [Instr.build,EQ,Lg,run_underlying hu,AC,oz,hp,h1,If]
    case struct fs=>
     have nI: ∀f∈fs,(P.info? f.type).isSome=ahs:=by intro f hf;have:=Array.all_eq_true.1 ny;obtain ⟨k,hk,rfl⟩:=Array.mem_iff_getElem.1 hf;exact this k hk
     obtain ⟨hm,hp⟩:=Ee (P:=P) (w:=w) hu nI;simp only [Instr.build,EQ,Lg,run_underlying hu,AC,hm,hp,h1,If]
theorem BY {zero:Row} {zs:Array Value} (h: ∀(j:Nat) (c:PV),zero[j]? =ahq c-> ∃v,hG c=ahq v/\zs[j]? =ahq v) (hl:(ahp zero)=zs.size) (n:Nat):
 bw (fun k=>((abK (n*zs.size)).map (zs[· %zs.size]!))[k]?) 0 zs.size (aau n zero):=by
 intro i r hr;have hi:i<n:=by
  rcases aai i n with h|h
  · exact h
  rw [PP (by simpa using h)] at hr;cases hr
 rw [List.getElem?_replicate,rc hi] at hr;injection hr with hr;subst hr;refine ⟨hl,fun j c hc=>?_⟩;obtain ⟨v,hv,hz⟩:=h j c hc;refine ⟨v,hv,?_⟩;have hj:j<zs.size:=(NE.1 hz).1;have df:i*zs.size+j<n*zs.size:=by have:=aa6 zs.size (show i+1<=n from hi);rw [aa2] at this;omega
 have ak':(i*zs.size+j)%zs.size=j:=by rw [Nat.mul_comm,Nat.mul_add_mod];exact Nat.mod_eq_of_lt hj
 simp only [agc];rw [Array.getElem?_map,Array.getElem?_range,rc df];simp only [ahb,ak'];rw [getElem!_pos zs j hj];have:=(NE.1 hz).2;rw [this]
inductive xt (im:Im) (loc:Loc):List (Nat×PV)->List (Nat×Value)->Prop
 |nil:xt im loc [] []
 |cons (i:Nat) (x:PV) (v:Value) (r:List (Nat×PV)) (s:List (Nat×Value)) (hv:VR im loc x v) (h:xt im loc r s):xt im loc ((i,x)::r) ((i,v)::s)
theorem AL {esz n : Nat} : ∀ {ps : List (Nat × PV)} {qs : List (Nat × Value)}, xt im loc ps qs -> ∀ {rows qE : List Row} {vs : Array Value},
    bw (fun k => vs[k]?) 0 esz rows -> vs.size = n * esz -> (ahp rows) = n -> pK ps rows esz = ahq qE ->
    ∃ Lf, Instr.fill (fun i => ahq (i * esz, esz)) vs qs = ahq Lf /\ bw (fun k => Lf[k]?) 0 esz qE /\ Lf.size = n * esz /\ (ahp qE) = n
  | _, _, .nil, rows, qE, vs, h, hs, hn, hf => by
    simp only [pK, ww] at hf
    subst hf
    exact ⟨vs, rfl, h, hs, hn⟩
  | _, _, .cons i x v r s hv hr, rows, qE, vs, h, hs, hn, hf => by
    simp only [pK] at hf
    cases bM : x.cb with
    | none => rw [bM] at hf; cases hf
    | some ws =>
      rw [bM] at hf
      dsimp only at hf
      split at hf
      · rename_i hc
        have Aw : (ahp ws) = esz := by simp only [v6, aav] at hc; exact hc.1
        have Gd : i < (ahp rows) := by simp only [v6] at hc; simpa using hc.2
        obtain ⟨rfl, Ld⟩ := mB bM
        have M8 := hv.cells (fun c hc => xl (Ld c hc))
        have hl := M8.mI
        simp only [aaS] at hl
        have Gi := aa6 esz (show i + 1 <= n by omega)
        rw [aa2] at Gi
        rw [yv (place := fun i => ahq (i * esz, esz)) rfl (by omega) (by omega)]
        have hgi : rows[i]? = ahq rows[i] := UV Gd
        have hil := (h i _ hgi).1
        have ahI := h.store (get' := fun k => (⟨u5 (i * esz) v.cells.toList vs.toList⟩ : Array Value)[k]?) (off := 0) (ws := x.cells) (vs := v.cells.toList) hgi (by omega) (M8.GC Ld) (by simp; omega) (fun k => by
          simp only [aaw]
          rw [nF _ _ _ (by simp; omega)]
          simp)
        have ala : u5 0 x.cells rows[i] = x.cells := by
          unfold u5; rw [abp (by omega)]; simp
        rw [ala] at ahI
        exact AL hr ahI (by simp only [ab0]; rw [gy _ _ _ (by simp; omega)]; simpa using hs) (by simpa using hn) hf
      cases hf
end
end Go.Vm
/- Operation by operation, last part: all of them. -/
namespace Go.Vm
def kG.eQ:kG->List fj
 | .Ql x| .un _ x| .conv _ x| .len x| .box x| .load _ x| .I4 x| .I5 _ x| .iD _ _ x| .ext _ x=>[x]
 | .pick a b c=>[a,b,c]
 | .bin _ x y| .I3 _ x y| .eqc _ _ x y| .store _ x y| .I6 _ x y| .CN _ _ x y| .idx _ _ _ x y| .I7 x y| .mks _ _ x y| .append _ x y| .copy _ x y=>[x,y]
 | .build _ ps=>ps.map (·.2.2)
 | .Az _ _ _ ps=>ps.map (·.2)
 | .CL x y=>[x,y]
 | .OG _ x a b c=>x::(a.toList++b.toList++c.toList)
 | .mkf _ a b=>a++b
 | .lookup _ _ _ m k=>[m,k]
 | .HA _ m k v=>[m,k,v]
 | .clear _ _ x=>[x]
 | .mm _ x xs=>x::xs
 | .call _ _ as=>as
 | .wF x as=>x::as
 | .Ll _| .alloc _| .mkm _| .bad=>[]
section
variable {P : Program} {im : Im} {loc : Loc} {aA : bW} {fz : List Nat} {w : World} {e : Env} {ρ : Operand -> Value}
theorem mW: ∀{xs:List fj} {os:List Operand},(∀x∈xs,∀o,bn x o=ahs->VR im loc (x.ev e) (ρ o))->eE xs os=ahs->eG im loc (D2 e xs) (os.map ρ)
 | [],[],_,_=> .nil
 |x::xs,o::os,h,hc=>by simp only [eE,v6] at hc;exact .cons _ _ _ _ (h x (by simp) o hc.1) (mW (fun y hy=>h y (by simp [hy])) hc.2)
 | [],_::_,_,hc=>by simp [eE] at hc
 |_::_,[],_,hc=>by simp [eE] at hc
theorem AM {place:Nat->Option (Nat×Nat)}: ∀{ps:List (Nat×Nat×fj)} {qs:List (Nat×Operand)},(∀x∈ps.map (·.2.2),∀o,bn x o=ahs->VR im loc (x.ev e) (ρ o))->uv place ps qs=ahs->
 uz im loc place (ps.map fun p=>(p.1,p.2.1,p.2.2.ev e)) (qs.map fun (i,x)=>(i,ρ x))
 | [],[],_,_=> .nil
 |(off,sz,x)::r,(i,o)::s,h,hc=>by
  simp only [uv,v6] at hc;obtain ⟨⟨h1,h2⟩,h3⟩:=hc;refine .cons off sz i _ _ _ _ ?_ (h x (by simp) o h2) (AM (fun y hy=>h y (by simp only [ahj,abe];exact .inr hy)) h3);cases hp:place i with
  |none=>rw [hp] at h1;cases h1
  |some q=>rw [hp] at h1;simp only [v6,beq_iff_eq] at h1;obtain ⟨rfl,rfl⟩:=h1;rfl
 | [],_::_,_,hc=>by simp [uv] at hc
 |_::_,[],_,hc=>by simp [uv] at hc
theorem wL: ∀{ps:List (Nat×fj)} {qs:List (Nat×Operand)},(∀x∈ps.map (·.2),∀o,bn x o=ahs->VR im loc (x.ev e) (ρ o))->mV ps qs=ahs->
 xt im loc (ps.map fun p=>(p.1,p.2.ev e)) (qs.map fun (i,x)=>(i,ρ x))
 | [],[],_,_=> .nil
 |(i,x)::r,(j,o)::s,h,hc=>by simp only [mV,v6,beq_iff_eq] at hc;obtain ⟨⟨rfl,h2⟩,h3⟩:=hc;exact .cons i _ _ _ _ (h x (by simp) o h2) (wL (fun y hy=>h y (by simp only [ahj,abe];exact .inr hy)) h3)
 | [],_::_,_,hc=>by simp [mV] at hc
 |_::_,[],_,hc=>by simp [mV] at hc
theorem Ef {t:TypeId} {zero:Row} (h:tB P t zero=ahs) (hp:zero.all PV.plain=ahs):
 ∃i z,P.info? t=ahq i/\i.zero=ahq z/\ahp zero=z.cells.size/\ ∀(j:Nat) (c:PV),zero[j]? =ahq c-> ∃v,hG c=ahq v/\z.cells[j]? =ahq v:=by
 unfold tB at h;cases hi:P.info? t with
 |none=>rw [hi] at h;cases h
 |some i=>
  rw [hi] at h;cases hz:i.zero with
  |none=>simp [hz] at h
  |some z=>simp [hz] at h;have hr:eG (fun _=>ahr) (fun _=>ahr) zero z.cells.toList:=xi h;refine ⟨i,z,rfl,hz,by simpa using hr.mI,fun j c hc=>?_⟩;obtain ⟨v,hv,Ln⟩:=hr.get j c hc;refine ⟨v,Ln.plain ?_,by simpa using hv⟩;have:=ah9.1 hp c (abr hc);exact this
theorem CS {esz n len cap:Nat} {rows:List Row} {vs:Array Value} {el:TypeId} {r:nB} (hr:r={v:= .own (ahp aA) esz 0 len cap ahs,news:=[.arr esz rows]}) (hk:jj im loc aA w r)
 (cJ:bw (fun k=>vs[k]?) 0 esz rows) (hs:vs.size=n*esz) (hn:(ahp rows)=n) (hc:cap=n) (hl:len<=cap):
 ∃bg,VR im bg r.v (.slice (ahq ⟨w.heap.size,0,ahr⟩) len cap)/\sM im loc aA w r im bg {w with heap:=w.heap.push (.cells vs el)}:=by
 subst hr hc
 let li:LI:=⟨w.heap.size,0,esz,cap,vs.size⟩
 refine ⟨loc.set (ahp aA) li,?_,?_⟩
 · refine .own (ahp aA) esz 0 len cap ahs li _ cap (Loc.eN _ _ _) rfl (by simp [li]) hl (IR _) (fun _=>rfl) ?_
   rcases agS cap with h|h
   · exact .inl h
   exact .inr ⟨by simp [li];omega,by simp [li],by simp [li,hs]⟩
 exact sM.new hk li rfl rfl rfl rfl rfl rfl rfl ⟨rfl,hn.symm,fun _=>⟨vs,el,by simp [li],rfl,by simp [li,hs,hn],cJ⟩⟩
theorem Na {isMax:Bool} {k:IntKind}: ∀{ys:List PV} {us:List Value},eG im loc ys us-> ∀{a:Int} {z:PV},mmE isMax k a ys=ahq z->
 ∃b,z= .int k b/\(us.foldlM (if isMax then Builtin.max2 else Builtin.min2) (.int k a)).run P w= .ok (.int k b) w
 |_,_,.nil,a,z,h=>by simp only [mmE,ww] at h;exact ⟨a,h.symm,rfl⟩
 |_,_,.cons y u ys us hy hs,a,z,h=>by
  unfold mmE at h;cases y with
  |int l c=>
   obtain rfl:=hy.eY;dsimp only at h;cases Qq:eZ k l with
   |false=>rw [Qq] at h;cases h
   |true=>
    have:=eH.1 Qq;subst this;rw [Qq,rc rfl] at h;obtain ⟨b,hz,ih⟩:=Na (isMax:=isMax) hs h;refine ⟨b,hz,?_⟩;rw [ah8,EQ];cases isMax with
    |true=>simp only [if_true] at ih ⊢;simp only [Builtin.max2,If,AC];exact ih
    |false=>simp only [aak,if_false] at ih ⊢;simp only [Builtin.min2,If,AC];exact ih
  |_=>cases h
end
end Go.Vm
/- Operation by operation: all that call nothing. -/
namespace Go.Vm
def QG (P:Program) (ρ:Operand->Value) (o:Oper) (im:Im) (loc:Loc) (aA:bW) (w:World) (r:nB):Prop:=
 ∃nx w' bg,(execOp ρ o).run P w= .ok nx w'/\((nx= .skip/\r.v= .undef)\/ ∃v,nx= .value v/\VR im bg r.v v)/\sM im loc aA w r im bg w'
section
variable {P : Program} {im : Im} {loc : Loc} {aA : bW} {fz : List Nat} {w : World} {e : Env} {ρ : Operand -> Value}
theorem QG.pure {o:Oper} {r:nB} {v:Value} (hk:jj im loc aA w r) (hn:r.news=[]) (hw:r.wr=[]) (h:(execOp ρ o).run P w= .ok (.value v) w) (hv:VR im loc r.v v):
 QG P ρ o im loc aA w r:=⟨_,w,loc,h,.inr ⟨v,rfl,hv⟩,sM.none hk hn hw⟩
theorem HK {t:TypeId} (h:(P.underlying t matches ahq .bool)=ahs):P.underlying t=ahq .bool:=by
 split at h
 · assumption
 cases h
theorem u9 {x:Option fj} {o:Option Operand} {n:Option Nat} (om: ∀y∈x.toList,∀o,bn y o=ahs->VR im loc (y.ev e) (ρ o)) (hc:HE x o=ahs)
 (h:(match (generalizing:=false) x with|none=>some none|some a=>(jM (a.ev e)).map some)=some n):zF (o.map ρ) n:=by
 cases x with
 |none=>
  cases o with
  |none=>injection h with h;subst h;trivial
  |some o=>cases hc
 |some a=>
  cases o with
  |none=>cases hc
  |some o=>simp only [Do] at h;obtain ⟨m,hm,rfl⟩:=h;exact oC (om a (by simp) o hc) hm
theorem sQ {t el:TypeId} {esz:Nat} {a:Option Addr} {len cap l h m:Nat} {vl vh vm:Option Value} (hu:P.underlying t=ahq (.slice el)) (hs:oq P el esz=ahs)
 (hb:(Instr.sliceBounds ahs len cap vl vh vm).run P w= .ok (l,h,m) w):
 (Instr.sliceAt t (.slice a len cap) vl vh vm).run P w= .ok (.slice (if m=l then a else a.map (·.add (l*esz))) (h-l) (m-l)) w:=by
 simp only [Instr.sliceAt,EQ,run_underlying hu,AC,Instr.slice,hb,kg hs,If]
theorem OS {t el:TypeId} {esz:Nat} {x z:PV} {u:Value} {lo hi mx:Option Nat} {vl vh vm:Option Value} (hx:VR im loc x u) (hu:P.underlying t=ahq (.slice el)) (hs:oq P el esz=ahs)
 (h1:zF vl lo) (h2:zF vh hi) (h3:zF vm mx) (hm:mx.isSome=ahs->hi.isSome=ahs) (Dl: ∀e c r,x= .sl e c r->r=[]\/e=esz) (ahJ: ∀tk e o l c ex,x= .own tk e o l c ex->e=esz)
 (h:qp x lo hi mx=ahq z): ∃v,(Instr.sliceAt t u vl vh vm).run P w= .ok v w/\VR im loc z v:=by
 unfold qp at h;cases x with
 |sl e qn rows=>
  obtain ⟨a,cap,rfl,y4,Qn,kL⟩:=hx.oD;dsimp only at h;have sub: ∀(l h m:Nat) (Nb:Bool),l<=h->h<=ahp rows->h<=m->m<=cap->(Nb=ahs->m=h)->
   VR im loc (.sl e Nb ((rows.drop l).take (h-l))) (.slice (if m=l then a else a.map (·.add (l*esz))) (h-l) (m-l)):=by
   intro l h m Nb hlh hhr hhm hmc GD;have bY:((rows.drop l).take (h-l)).length=h-l:=by simp;omega
   have:=VR.sl (im:=im) (loc:=loc) e Nb ((rows.drop l).take (h-l)) (if m=l then a else a.map (·.add (l*esz))) (m-l) (by omega) (fun hc=>by have:=GD hc;omega) (fun dE=>by
    have df:l<h:=by
     rcases aai l h with h'|h'
     · exact h'
     exfalso;apply dE;rw [show h-l=0 by omega];simp
    have nH:rows≠[]:=by intro e;subst e;simp at hhr;omega
    obtain ⟨b,o,rfl,cJ⟩:=kL nH;have he:e=esz:=(Dl e qn rows rfl).resolve_left nH;subst he;refine ⟨b,o+l*e,?_,(cJ.drop l).take _⟩;rw [ut (by omega)];simp [qu])
   rwa [bY] at this
  cases mx with
  |none=>
   dsimp only at h;split at h
   · rename_i hc
     simp only [v6,ab1] at hc;injection h with h;subst h;have hb:=mA (P:=P) (w:=w) (len:=ahp rows) (cap:=cap) h1 h2 h3 hm hc.1 (fun _=>by simp;omega) (by simp);simp only [abq] at hb;refine ⟨_,sQ hu hs hb,sub _ _ cap _ hc.1 hc.2 (by omega) (IR _) (fun GD=>?_)⟩;simp only [v6,aav] at GD;have:=Qn GD.1;omega
   cases h
  |some m=>
   dsimp only at h;split at h
   · rename_i hc
     simp only [v6,ab1] at hc;injection h with h;subst h;have hb:=mA (P:=P) (w:=w) (len:=ahp rows) (cap:=cap) h1 h2 h3 hm hc.1.1 (fun _=>hc.1.2) (by simp;omega);simp only [aaq] at hb;refine ⟨_,sQ hu hs hb,sub _ _ m _ hc.1.1 (by omega) hc.1.2 (by omega) (fun GD=>?_)⟩;simp only [aav] at GD;exact GD.symm
   cases h
 |own tk e off len cap ex=>
  obtain ⟨li,a,cD,rfl,hl,he,Dk,bY,y4,hex,Dm⟩:=hx.iA;have Lm:=ahJ tk e off len cap ex rfl;subst Lm;dsimp only at h;have sub: ∀(l h c m m':Nat) (ex':Bool),l<=h->h<=m->m<=cap->m<=m'->m'<=cD->(ex'=ahs->m'=m)->
   VR im loc (.own tk e (off+l) (h-l) (m-l) ex') (.slice (if m'=l then a else a.map (·.add (l*e))) (h-l) (m'-l)):=by
   intro l h c m m' ex' hlh hhm hmc hmm aq5 alb;refine .own tk e (off+l) (h-l) (m-l) ex' li _ (m'-l) hl he (by omega) (by omega) (by omega) (fun hx=>by have:=alb hx;omega) ?_
   by_cases y6:m'=l
   · exact .inl (by omega)
   rw [ut y6]
   rcases Dm with h0|⟨Qp,rfl,u6⟩
   · exact .inl (by omega)
   refine .inr ⟨Qp,?_,?_⟩
   · simp only [ahb,qu];congr 2;rw [aa2];omega
   have:=aa6 e (show off+l+(m'-l)<=off+cD by omega)
   omega
  cases mx with
  |none=>
   dsimp only at h;split at h
   · rename_i hc
     simp only [v6,ab1] at hc;injection h with h;subst h;have hb:=mA (P:=P) (w:=w) (len:=len) (cap:=cD) h1 h2 h3 hm hc.1 (fun _=>by simp;omega) (by simp);simp only [abq] at hb;exact ⟨_,sQ hu hs hb,sub _ _ 0 cap cD ex hc.1 hc.2 (IR _) y4 (IR _) hex⟩
   cases h
  |some m=>
   dsimp only at h;split at h
   · rename_i hc
     simp only [v6,ab1] at hc;injection h with h;subst h;have hb:=mA (P:=P) (w:=w) (len:=len) (cap:=cD) h1 h2 h3 hm hc.1.1 (fun _=>hc.1.2) (by simp;omega);simp only [aaq] at hb;exact ⟨_,sQ hu hs hb,sub _ _ 0 m m ahs hc.1.1 hc.1.2 hc.2 (IR _) (by omega) (fun _=>rfl)⟩
   cases h
 |_=>cases h
end
end Go.Vm
/- Two aggregates of plain cells are compared cell by cell. -/
namespace Go.Vm
theorem xu: ∀(a b c d:List PV),ahp a=ahp b->c8 (a++c) (b++d)=match c8 a b with|some ahs=>c8 c d|x=>x
 | [],[],c,d,_=>by simp [c8]
 |x::xs,y::ys,c,d,h=>by
  simp only [List.cons_append,c8];cases qo x y with
  |none=>rfl
  |some r=>
   cases r with
   |false=>rfl
   |true=>exact xu xs ys c d (by simpa using h)
 | [],_::_,_,_,h=>by simp at h
 |_::_,[],_,_,h=>by simp at h
section
variable {P : Program} {im : Im} {loc : Loc} {w : World}
def whole (P:Program) (t:TypeId) (us:List Value):Value:=if gN P t then .agg ⟨us⟩ else us.getD 0 Go.undef
def iR (P:Program) (d:Nat) (r:Option Nat) (f:Field):Option Nat:=
 match r with
 |some n=>if f.offset==n&&f.name != "_" then (match flat P d f.type with
  |some m=>if oq P f.type m then ahq (n+m) else ahr
  |none=>ahr) else ahr
 |none=>ahr
theorem o8 {d:Nat}: ∀(fs:List Field),fs.foldl (iR P d) ahr=ahr
 | []=>rfl
 |f::fs=>by rw [abg];exact o8 fs
theorem HL {d:Nat} {t:TypeId} {n:Nat} (h:flat P d t=ahq n) (hr:gN P t=aht):n=1:=by
 cases d with
 |zero=>cases h
 |succ d=>
  simp only [flat] at h;split at h
  · split at h
    · injection h with h;exact h.symm
    cases h
  · rename_i fs hu
    unfold gN at hr;rw [hu] at hr;cases hr
  cases h
theorem zL {d:Nat} {t:TypeId} {m k:Nat} {us:List Value} (h:flat P d t=ahq m) (hs:oq P t m=ahs) (hk:k+m<=ahp us) (Nc:(P.underlying t).isSome=ahs):
 (Go.part t ⟨us⟩ k).run P w= .ok (whole P t ((us.drop k).take m)) w:=by
 unfold whole;cases hr:gN P t with
 |true=>
  simp only [Go.part,EQ,BS hr,AC,if_true,kg hs,If]
  congr 2
  apply aat;simp [abE]
 |false=>
  have h1:=HL h hr;subst h1;simp only [Go.part,EQ,BT Nc hr,AC,aak,if_false];have df:k<(ahp us):=by omega
  have:(⟨us⟩:Array Value)[k]? =ahq us[k]:=by simp [df]
  rw [this];simp [ahl,df]
theorem GH {d:Nat} {t:TypeId} {n:Nat} (h:flat P d t=ahq n):(P.underlying t).isSome=ahs:=by
 cases d with
 |zero=>cases h
 |succ d=>
  simp only [flat] at h;cases hu:P.underlying t with
  |none=>rw [hu] at h;cases h
  |some _=>rfl
theorem Eg {d:Nat}: ∀{fs:List Field} {k n:Nat},fs.foldl (iR P d) (ahq k)=ahq n->k<=n
 | [],k,n,h=>by simp at h;omega
 |f::fs,k,n,h=>by
  rw [abg] at h;cases hs:iR P d (ahq k) f with
  |none=>rw [hs,o8] at h;cases h
  |some k'=>
   rw [hs] at h;have:=Eg h;unfold iR at hs;dsimp only at hs;split at hs
   · split at hs
     · split at hs
       · injection hs with hs;omega
       cases hs
     cases hs
   cases hs
theorem HM: ∀(d:Nat) (t:TypeId) (n:Nat),flat P d t=ahq n-> ∀(D:Nat),d<=D-> ∀(xs ys:List PV) (us vs:List Value) (b:Bool),eG im loc xs us->eG im loc ys vs->ahp xs=n->ahp ys=n->
 c8 xs ys=ahq b->(Op.equalIn D t (whole P t us) (whole P t vs)).run P w= .ok b w
 |0,t,n,h,_,_,_,_,_,_,_,_,_,_,_,_=>by cases h
 |d+1,t,n,h,0,hD,_,_,_,_,_,_,_,_,_,_=>by omega
 |d+1,t,n,h,D+1,hD,xs,ys,us,vs,b,hx,hy,hxn,hyn,he=>by
  have Ua:gN P t=aht->n=1-> ∃x y u v,xs=[x]/\ys=[y]/\us=[u]/\vs=[v]/\VR im loc x u/\VR im loc y v/\qo x y=ahq b:=by
   intro hr h1;subst h1
   match xs,us,ys,vs,hx,hy,hxn,hyn,he with
   | [x],[u],[y],[v],.cons _ _ _ _ h1 _,.cons _ _ _ _ h2 _,_,_,he=>
    refine ⟨x,y,u,v,rfl,rfl,rfl,rfl,h1,h2,?_⟩;simp only [c8] at he;cases hc:qo x y with
    |none=>rw [hc] at he;cases he
    |some r=>rw [hc] at he;cases r<;>simpa using he
  simp only [flat] at h;split at h
  · rename_i k hu
    have hr:gN P t=aht:=by unfold gN;rw [hu]
    split at h
    · injection h with h
      obtain ⟨x,y,u,v,rfl,rfl,rfl,rfl,h1,h2,h3⟩:=Ua hr h.symm;simp only [whole,hr,aak,if_false,ahl,acj,aaq];unfold qo at h3;split at h3
      · split at h3
        · rename_i hk
          have:=eH.1 hk;subst this;injection h3 with h3;subst h3;rw [h1.eY,h2.eY];exact run_equalIn_int w D t _ _ _ _ hu
        cases h3
      cases h3
    cases h
  · rename_i fs hu
    have hr:gN P t=ahs:=by unfold gN;rw [hu]
    split at h
    · cases h
    rename_i bM
    have hf:P.fieldsOf t=fs:=by simp [Program.fieldsOf,hu]
    have bM:P.stoodInHeld t=aht:=by simpa using bM
    have hxl:=hx.mI;have hyl:=hy.mI;simp only [whole,hr,if_true];rw [run_equalIn_agg w D t _ _ (by rw [hf];exact hu) bM,hf];change (match fs.toList.foldl (iR P d) (ahq 0) with|some n=>if oq P t n then ahq n else ahr|none=>ahr)=ahq n at h;cases hfo:fs.toList.foldl (iR P d) (ahq 0) with
    |none=>rw [hfo] at h;cases h
    |some n'=>
     rw [hfo] at h;dsimp only at h;split at h
     · injection h with h
       subst h;have key: ∀(l:List Field) (k:Nat),l.foldl (iR P d) (ahq k)=ahq n'-> ∀(b':Bool),c8 (xs.drop k) (ys.drop k)=ahq b'->
        (Op.eqFields D ⟨us⟩ ⟨vs⟩ l).run P w= .ok b' w:=by
        intro l
        induction l with
        |nil=>intro k hk b' Av;simp only [List.foldl_nil,ww] at hk;subst hk;rw [abp (by omega),abp (by omega)] at Av;simp only [c8,ww] at Av;subst Av;simp [Op.eqFields]
        |cons f l ih=>
         intro k hk b' Av;rw [abg] at hk;cases hs:iR P d (ahq k) f with
         |none=>rw [hs,o8] at hk;cases hk
         |some k'=>
          rw [hs] at hk;have hge:=Eg hk;unfold iR at hs;dsimp only at hs;split at hs
          · rename_i hc
            simp only [v6,beq_iff_eq,bne_iff_ne,ne_eq] at hc;split at hs
            · rename_i m hm
              split at hs
              · rename_i oz
                injection hs with hs;subst hs;have Nc:=GH hm;have e1:xs.drop k=(xs.drop k).take m++xs.drop (k+m):=by rw [<- ahg,agB]
                have e2:ys.drop k=(ys.drop k).take m++ys.drop (k+m):=by rw [<- ahg,agB]
                rw [e1,e2,xu _ _ _ _ (by simp;omega)] at Av;have dE:f.name≠ "_" :=hc.2;simp only [Op.eqFields,EQ,dE,ne_eq,not_false_eq_true,if_true,hc.1];rw [zL (w:=w) hm oz (by omega) Nc];simp only [AC];rw [zL (w:=w) hm oz (by omega) Nc];simp only [AC];cases hq:c8 ((xs.drop k).take m) ((ys.drop k).take m) with
                |none=>rw [hq] at Av;cases Av
                |some r=>
                 have vd:=HM d f.type m hm D (by omega) _ _ _ _ r ((hx.drop k).take m) ((hy.drop k).take m) (by simp;omega) (by simp;omega) hq;rw [vd];simp only [AC];rw [hq] at Av;cases r with
                 |false=>simp only [ww] at Av;subst Av;simp
                 |true=>dsimp only at Av;have:=ih (k+m) hk b' Av;simpa using this
              cases hs
            cases hs
          cases hs
       exact key fs.toList 0 hfo b (by simpa using he)
     cases h
  cases h
end
end Go.Vm
/- Maps; copy and clear. -/
namespace Go.Vm
theorem VR.xw {im:Im} {loc:Loc} {x:PV} {v:Value} (h:valOf x=ahq v):VR im loc x v:=by
 cases x with
 |agg cs=>
  simp only [valOf,Do] at h;obtain ⟨vs,TQ,rfl⟩:=h;refine .agg cs vs ?_
  induction cs generalizing vs with
  |nil=>simp at TQ;subst TQ;exact .nil
  |cons c cs ih=>rw [ahh] at TQ;simp only [Option.bind_eq_bind,Option.bind_eq_some_iff,Option.pure_def,ww] at TQ;obtain ⟨v,hv,us,yw,rfl⟩:=TQ;exact .cons _ _ _ _ (.AD hv) (ih us yw)
 |_=>exact .AD h
theorem Ji {im:Im} {loc:Loc} {x:PV} {v:Value} (h:VR im loc x v) (hp: ∀c∈x.cells,c.plain=ahs):valOf x=ahq v:=by
 cases x with
 |agg cs=>
  obtain ⟨vs,rfl,hr⟩:=h.o7;simp only [valOf,Do];refine ⟨vs,?_,rfl⟩;simp only [PV.cells] at hp;clear h
  induction cs generalizing vs with
  |nil=>cases hr;rfl
  |cons c cs ih=>
   cases hr with
   |cons _ v _ us h1 h2=>rw [ahh];simp [h1.plain (hp c (by simp)),ih (fun d hd=>hp d (by simp [hd])) us h2]
 |_=>exact h.plain (hp _ (by simp [PV.cells]))
section
variable {P : Program} {im : Im} {loc : Loc} {aA : bW} {fz : List Nat} {w : World}
theorem ve: ∀{xs ys:List PV} {us vs:List Value},c8 xs ys=ahq ahs->eG im loc xs us->eG im loc ys vs->us=vs/\ ∀u∈us,∃k n,u= .int k n
 | [],[],_,_,_,.nil,.nil=>⟨rfl,by simp⟩
 |x::xs,y::ys,_,_,h,.cons _ u _ us h1 h2,.cons _ v _ vs h3 h4=>by
  simp only [c8] at h;split at h
  · rename_i Ub
    obtain ⟨rfl,nI⟩:=ve h h2 h4;unfold qo at Ub;split at Ub
    · rename_i k a l b
      split at Ub
      · rename_i Qq
        have:=eH.1 Qq;subst this;have GI:a=b:=by simpa using Ub
        subst GI;rw [h1.eY,h3.eY];exact ⟨rfl,by
         intro u hu;rcases abe.1 hu with rfl|hu
         · exact ⟨_,_,rfl⟩
         exact nI u hu⟩
      cases Ub
    cases Ub
  · cases h
  cases h
 | [],_::_,_,_,h,_,_=>by simp [c8] at h
 |_::_,[],_,_,h,_,_=>by simp [c8] at h
theorem zc: ∀(us:List Value) (n:Nat),(∀u∈us,∃k m,u= .int k m)->(us.zip us).all (fun (x,y)=>Instr.sameBits n x y)=ahs
 | [],_,_=>rfl
 |u::us,n,h=>by obtain ⟨k,m,rfl⟩:=h u (by simp);simp only [List.zip_cons_cons,List.all_cons,v6];exact ⟨by cases n<;>simp [Instr.sameBits],zc us n fun u hu=>h u (by simp [hu])⟩
theorem jN {n:Option Nat} {x:PV} {u:Value} (h:js n x=ahs) (hv:VR im loc x u):(n=ahr/\ ∃k m,x= .int k m/\u= .int k m)\/(∃m cs us,n=ahq m/\x= .agg cs/\ahp cs=m/\u= .agg ⟨us⟩/\eG im loc cs us):=by
 unfold js at h;split at h
 · exact .inl ⟨rfl,_,_,rfl,hv.eY⟩
 · rename_i m cs
   obtain ⟨us,rfl,hr⟩:=hv.o7;exact .inr ⟨m,cs,us,rfl,rfl,by simpa using h,rfl,hr⟩
 cases h
theorem QH {n:Option Nat} {x y:PV} {u v:Value} (hx:js n x=ahs) (hy:js n y=ahs) (h:c8 x.cells y.cells=ahq ahs) (hu:VR im loc x u) (hv:VR im loc y v):
 u=v/\Instr.sameBits 10000 u u=ahs:=by
 rcases jN hx hu with ⟨rfl,k,m,rfl,rfl⟩|⟨m,cs,us,rfl,rfl,_,rfl,hr⟩
 · rcases jN hy hv with ⟨_,l,m',rfl,rfl⟩|⟨_,_,_,h',_⟩
   · obtain ⟨h1,_⟩:=ve (im:=im) (loc:=loc) h (.cons _ _ _ _ (.int k m) .nil) (.cons _ _ _ _ (.int l m') .nil)
     injection h1 with h1;exact ⟨h1,by simp [Instr.sameBits]⟩
   cases h'
 rcases jN hy hv with ⟨h',_⟩|⟨_,ds,vs,_,rfl,_,rfl,hs⟩
 · cases h'
 obtain ⟨rfl,h2⟩:=ve h hr hs
 refine ⟨rfl,?_⟩;simp only [Instr.sameBits,beq_self_eq_true,ahi];exact zc us 9999 h2
theorem fo.get: ∀{es:List (PV×PV)} {kI:List MapEntry},fo es kI-> ∀{i:Nat} {p:PV×PV},es[i]? =ahq p-> ∃e,kI[i]? =ahq e/\valOf p.1=ahq e.key/\valOf p.2=ahq e.val
 |(k,v)::r,e::r',h,0,p,hp=>by simp at hp;subst hp;exact ⟨e,rfl,h.1,h.2.1⟩
 |(k,v)::r,e::r',h,i+1,p,hp=>by obtain ⟨e',h1,h2⟩:=fo.get h.2.2 (i:=i) (p:=p) (by simpa using hp);exact ⟨e',by simpa using h1,h2⟩
 | [],[],h,i,p,hp=>by simp at hp
 | [],_::_,h,_,_,_=>by simp [fo] at h
 |_::_,[],h,_,_,_=>by simp [fo] at h
theorem Jj {q:IntKind} {k:PV} {u:Value} (hu:VR im loc k u) (hk:js ahr k=ahs): ∀{es:List (PV×PV)} {kI:List MapEntry} {i:Nat} {r:Option Nat},fo es kI->eX ahr k es i=ahq r->
 ∃r',Instr.findNow (.int q) u kI i=ahq r'/\match r with|none=>r'=ahr|some j=>i<=j/\ ∃p e,es[j-i]? =ahq p/\kI[j-i]? =ahq e/\r'=ahq (j,e.val)/\js ahr p.1=ahs/\c8 k.cells p.1.cells=ahq ahs
 | [],[],i,r,_,h=>by simp only [eX,ww] at h;subst h;exact ⟨ahr,rfl,rfl⟩
 |(a,v)::es,e::kI,i,r,hm,h=>by
  simp only [eX] at h;split at h
  case isFalse=>cases h
  rename_i hka;obtain ⟨h1,h2,h3⟩:=hm;obtain ⟨_,kk,kn,rfl,rfl⟩:_/\ ∃kk kn,k= .int kk kn/\u= .int kk kn:=by
   rcases jN hk hu with ⟨_,kk,kn,e1,e2⟩|⟨_,_,_,e1,_⟩
   · exact ⟨trivial,kk,kn,e1,e2⟩
   cases e1
  obtain ⟨ak,an,rfl,hae⟩: ∃ak an,a= .int ak an/\e.key= .int ak an:=by
   rcases jN (im:=im) (loc:=loc) hka (VR.xw h1) with ⟨_,kk,kn,e1,e2⟩|⟨_,_,_,e1,_⟩
   · exact ⟨kk,kn,e1,e2⟩
   cases e1
  simp only [PV.cells,c8,qo] at h;cases wK:eZ kk ak with
  |false=>rw [wK] at h;simp at h
  |true=>
   have:=eH.1 wK;subst this;rw [wK] at h;simp only [if_true] at h;simp only [Instr.findNow,hae,Instr.sameNow,if_true];cases hb:(kn==an) with
   |true=>rw [hb] at h;simp only [ww] at h;subst h;refine ⟨_,rfl,IR _,(.int kk an,v),e,by simp,by simp,rfl,hka,?_⟩;simp [PV.cells,c8,qo,wK,hb]
   |false=>
    rw [hb] at h;simp only at h;obtain ⟨r',g1,g2⟩:=Jj (q:=q) (k:= .int kk kn) (.int kk kn) hk h3 h;refine ⟨r',g1,?_⟩;cases r with
    |none=>exact g2
    |some j=>
     obtain ⟨q1,p,e',q2,q3,q4,q5,q6⟩:=g2;refine ⟨by omega,p,e',?_,?_,q4,q5,q6⟩
     · rw [show j-i=(j- (i+1))+1 by omega];simpa using q2
     rw [show j-i=(j- (i+1))+1 by omega];simpa using q3
 | [],_::_,i,r,hm,h=>by simp [fo] at hm
 |_::_,[],i,r,hm,h=>by simp [fo] at hm
theorem Jk {n:Nat} {kt:TypeId} (mg:gN P kt=ahs) (OO:flat P 100 kt=ahq n) {k:PV} {u:Value} (hu:VR im loc k u) (hk:js (ahq n) k=ahs): ∀{es:List (PV×PV)} {kI:List MapEntry} {i:Nat} {r:Option Nat},fo es kI->eX (ahq n) k es i=ahq r->
 ∃r',(Instr.findAsking kt u kI i).run P w= .ok r' w/\match r with|none=>r'=ahr|some j=>i<=j/\ ∃p e,es[j-i]? =ahq p/\kI[j-i]? =ahq e/\r'=ahq (j,e.val)/\js (ahq n) p.1=ahs/\c8 k.cells p.1.cells=ahq ahs
 | [],[],i,r,_,h=>by simp only [eX,ww] at h;subst h;exact ⟨ahr,rfl,rfl⟩
 |(a,v)::es,e::kI,i,r,hm,h=>by
  simp only [eX] at h;split at h
  case isFalse=>cases h
  rename_i hka;obtain ⟨h1,h2,h3⟩:=hm;have hva:VR im loc a e.key:=VR.xw h1;have heq: ∀b,c8 k.cells a.cells=ahq b->(Op.equal kt u e.key).run P w= .ok b w:=by
   intro b hb;rcases jN hk hu with ⟨h',_⟩|⟨m,cs,us,h',rfl,hl,rfl,hr⟩
   · cases h'
   injection h' with h';subst h'
   rcases jN hka hva with ⟨h',_⟩|⟨m,ds,vs,h',rfl,kM,he,hs⟩
   · cases h'
   injection h' with h';subst h'
   rw [he];have:=HM (P:=P) (w:=w) 100 kt n OO Op.maxDepth (by decide) cs ds us vs b hr hs hl kM hb;simp only [whole,mg,if_true] at this;exact this
  cases hb:c8 k.cells a.cells with
  |none=>rw [hb] at h;cases h
  |some b=>
   rw [hb] at h;have bI:=heq b hb;cases b with
   |true=>simp only [ww] at h;subst h;refine ⟨ahq (i,e.val),by simp [Instr.findAsking,bI],IR _,(a,v),e,by simp,by simp,rfl,hka,hb⟩
   |false=>
    simp only at h;obtain ⟨r',g1,g2⟩:=Jk mg OO hu hk h3 h;refine ⟨r',by simp [Instr.findAsking,bI,g1],?_⟩;cases r with
    |none=>exact g2
    |some j=>
     obtain ⟨q1,p,e',q2,q3,q4,q5,q6⟩:=g2;refine ⟨by omega,p,e',?_,?_,q4,q5,q6⟩
     · rw [show j-i=(j- (i+1))+1 by omega];simpa using q2
     rw [show j-i=(j- (i+1))+1 by omega];simpa using q3
 | [],_::_,i,r,hm,h=>by simp [fo] at hm
 |_::_,[],i,r,hm,h=>by simp [fo] at hm
theorem Eh: ∀(d:Nat) (t:TypeId) (n:Nat),flat P d t=ahq n-> ∀(D:Nat),d<=D-> ∀(em:Bool) (xs:List PV) (us:List Value),eG im loc xs us->ahp us=n->
 (Instr.checkKey em D t (whole P t us)).run P w= .ok () w
 |0,t,n,h,_,_,_,_,_,_,_=>by cases h
 |d+1,t,n,h,0,hD,_,_,_,_,_=>by omega
 |d+1,t,n,h,D+1,hD,em,xs,us,hx,hun=>by
  simp only [flat] at h;split at h
  · rename_i k hu
    have hr:gN P t=aht:=by unfold gN;rw [hu]
    split at h
    · injection h with h;subst h
      match us,xs,hx,hun with
      | [u],[x],.cons _ _ _ _ h1 _,_=>simp only [whole,hr,aak,if_false,ahl,acj,aaq,Instr.checkKey,EQ,run_underlying hu,AC];cases u<;>simp
    cases h
  · rename_i fs hu
    have hr:gN P t=ahs:=by unfold gN;rw [hu]
    split at h
    · cases h
    change (match fs.toList.foldl (iR P d) (ahq 0) with|some n=>if oq P t n then ahq n else ahr|none=>ahr)=ahq n at h
    cases hfo:fs.toList.foldl (iR P d) (ahq 0) with
    |none=>rw [hfo] at h;cases h
    |some n'=>
     rw [hfo] at h;dsimp only at h;split at h
     · injection h with h;subst h
       simp only [whole,hr,if_true,Instr.checkKey,EQ,run_underlying hu,AC];rw [<- Array.forIn_toList];have hk: ∃k,fs.toList.foldl (iR P d) (ahq k)=ahq n':=⟨0,hfo⟩;clear hfo;obtain ⟨k,hk⟩:=hk;generalize fs.toList=L at hk
       induction L generalizing k with
       |nil=>simp
       |cons f l ih=>
        rw [abg] at hk;cases hs:iR P d (ahq k) f with
        |none=>rw [hs,o8] at hk;cases hk
        |some k'=>
         rw [hs] at hk;have hge:=Eg hk;unfold iR at hs;dsimp only at hs;split at hs
         · rename_i hc
           simp only [v6,beq_iff_eq,bne_iff_ne,ne_eq] at hc;split at hs
           · rename_i m hm
             split at hs
             · rename_i oz
               injection hs with hs;subst hs;have p1:=zL (w:=w) (us:=us) hm oz (k:=k) (by omega) (GH hm);have p2:=Eh d f.type m hm D (by omega) em ((xs.drop k).take m) ((us.drop k).take m) ((hx.drop k).take m) (by simp;omega);simp only [List.forIn_cons,EQ,hc.2,ne_eq,not_false_eq_true,if_true,hc.1,p1,p2,AC,If];exact ih _ hk
             cases hs
           cases hs
         cases hs
     cases h
  cases h
theorem OT {kt:TypeId} {q:IntKind} (hq:P.underlying kt=ahq (.int q)) (em:Bool) (n:Nat) (k:IntKind) (m:Int):(Instr.checkKey em (n+1) kt (.int k m)).run P w= .ok () w:=by simp [Instr.checkKey,run_underlying hq]
theorem vf {r:Nat} {es:Array MapEntry} {clock:Nat} (hb:w.heap[r]? =ahq (.map es clock)):(getObj r).run P w= .ok (.map es clock) w:=by simp [getObj,Sem.run,hb]
theorem Ei {r:Nat} {es:Array MapEntry} {clock:Nat} (o:Obj) (hb:w.heap[r]? =ahq (.map es clock)):(setObj r o).run P w= .ok () {w with heap:=w.heap.setIfInBounds r o}:=by simp [setObj,Sem.run,hb]
theorem Jl {kt:TypeId} {d:TypeDesc} {k:Value} {l:List MapEntry} {a:Option (Nat×Value)} (hd:P.underlying kt=ahq d) (h:Instr.findNow d k l 0=ahq a):(Instr.findKey kt k l).run P w= .ok a w:=by simp [Instr.findKey,run_underlying hd,h]
theorem CT {kt:TypeId} {n:Option Nat} (h:xh P kt n=ahs) {k:PV} {u:Value} (hu:VR im loc k u) (hk:js n k=ahs) (em:Bool):(Instr.checkKey em 10000 kt u).run P w= .ok () w:=by
 rcases jN hk hu with ⟨rfl,kk,m,rfl,rfl⟩|⟨m,cs,us,rfl,rfl,hl,rfl,hr⟩
 · simp only [xh] at h
   split at h
   · rename_i q hq
     exact OT hq em 9999 kk m
   cases h
 simp only [xh,v6,beq_iff_eq] at h
 have:=Eh (P:=P) (w:=w) 100 kt m h.2 10000 (by decide) em cs us hr (by rw [<- hr.mI];exact hl);simp only [whole,h.1,if_true] at this;exact this
theorem Ej {kt:TypeId} {n:Option Nat} (h:xh P kt n=ahs) {k:PV} {u:Value} (hu:VR im loc k u) (hk:js n k=ahs) {es:List (PV×PV)} {kI:List MapEntry} {r:Option Nat} (hm:fo es kI) (hf:eX n k es 0=ahq r):
 ∃r',(Instr.findKey kt u kI).run P w= .ok r' w/\match r with|none=>r'=ahr|some j=> ∃p e,es[j]? =ahq p/\kI[j]? =ahq e/\r'=ahq (j,e.val)/\js n p.1=ahs/\c8 k.cells p.1.cells=ahq ahs:=by
 cases n with
 |none=>
  simp only [xh] at h;split at h
  · rename_i q hq
    obtain ⟨r',h1,h2⟩:=Jj (q:=q) hu hk hm hf;refine ⟨r',Jl hq h1,?_⟩;cases r with
    |none=>exact h2
    |some j=>exact h2.2
  cases h
 |some m=>
  simp only [xh,v6,beq_iff_eq] at h;obtain ⟨r',h1,h2⟩:=Jk (P:=P) (w:=w) h.1 h.2 hu hk hm hf;refine ⟨r',?_,?_⟩
  · rw [run_findKey_eq w ?_ u kI]
    · exact h1
    have:=h.1
    unfold gN at this
    revert this
    cases P.underlying kt with
    |none=>exact id
    |some d=>cases d<;>exact id
  cases r with
  |none=>exact h2
  |some j=>exact h2.2
theorem VR.QI {t:Nat} {v:Value} (h:VR im loc (.mp t) v): ∃li,loc t=ahq li/\v= .map (ahq li.de):=by cases h with|mp _ li h=>exact ⟨li,h,rfl⟩
theorem Ls {t kt et:TypeId} {n:Option Nat} {zero m k:PV} {ok:Bool} {um uk:Value} {r:nB} (ht:P.underlying t=ahq (.map kt et)) (hkt:xh P kt n=ahs)
 (hz: ∃i z,P.info? et=ahq i/\i.zero=ahq z/\VR im loc zero z) (hm:VR im loc m um) (hk:VR im loc k uk)
 (h:sK aA n zero ok m k=ahq r) (hkn:jj im loc aA w r):
 ∃v,(Instr.lookup t um uk ok).run P w= .ok v w/\VR im loc r.v v/\r.news=[]/\r.wr=[]:=by
 unfold sK at h;cases m with
 |mp tk=>
  dsimp only at h;obtain ⟨li,hl,rfl⟩:=hm.QI;cases hs:aA[tk]? with
  |none=>rw [hs] at h;cases h
  |some b=>
   rw [hs] at h;cases b with
   |map es=>
    dsimp only at h;split at h
    case isFalse=>cases h
    rename_i OU;cases hf:eX n k es 0 with
    |none=>rw [hf] at h;cases h
    |some q=>
     rw [hf] at h;have Gj:tk∈r.rd:=by
      revert h
      cases q with
      |none=>intro h;simp only [ww] at h;subst h;simp
      |some j=>
       dsimp only;cases es[j]? with
       |none=>intro h;cases h
       |some p=>intro h;simp only [ww] at h;subst h;simp
     obtain ⟨b',zM,sF⟩:=hkn.tok tk (.inl Gj) li hl;rw [hs] at zM;injection zM with zM;subst zM;obtain ⟨kI,clock,hw,hrel⟩:=sF;obtain ⟨r',qt,Gm⟩:=Ej (P:=P) (w:=w) hkt hk OU hrel hf;have Qn:=CT (P:=P) (w:=w) hkt hk OU (kI.isEmpty);obtain ⟨i,z,hi,hiz,hvz⟩:=hz;have Lg:(zeroValue et).run P w= .ok z w:=by simp [zeroValue,typeInfo,hi,hiz]
     cases q with
     |none=>
      dsimp only at h Gm;subst Gm;injection h with h;subst h;refine ⟨if ok then .tuple #[z,.bool aht] else z,?_,?_,rfl,rfl⟩
      · simp only [Instr.lookup,EQ,run_underlying ht,AC,vf hw,If,Qn,qt,Lg]
      cases ok with
      |true=>exact .bS _ _ (.cons _ _ _ _ hvz (.cons _ _ _ _ (.bool aht) .nil))
      |false=>exact hvz
     |some j=>
      dsimp only at h Gm;obtain ⟨p,e,h1,h2,rfl,h4,h5⟩:=Gm;rw [h1] at h;simp only [ww] at h;subst h;obtain ⟨e',BI,OV,QJ⟩:=fo.get hrel h1;rw [h2] at BI;injection BI with BI;subst BI;refine ⟨if ok then .tuple #[e.val,.bool ahs] else e.val,?_,?_,rfl,rfl⟩
      · simp only [Instr.lookup,EQ,run_underlying ht,AC,vf hw,If,Qn,qt]
      cases ok with
      |true=>exact .bS _ _ (.cons _ _ _ _ (.xw QJ) (.cons _ _ _ _ (.bool ahs) .nil))
      |false=>exact .xw QJ
   |_=>cases h
 |_=>cases h
theorem fo.snoc: ∀{es:List (PV×PV)} {kI:List MapEntry} {p:PV×PV} {e:MapEntry},fo es kI->valOf p.1=ahq e.key->valOf p.2=ahq e.val->fo (es++[p]) (kI++[e])
 | [],[],p,e,_,h1,h2=>⟨h1,h2,trivial⟩
 |(k,v)::r,e::r',p,e',h,h1,h2=>⟨h.1,h.2.1,fo.snoc h.2.2 h1 h2⟩
 | [],_::_,_,_,h,_,_=>by simp [fo] at h
 |_::_,[],_,_,h,_,_=>by simp [fo] at h
theorem fo.set: ∀{es:List (PV×PV)} {kI:List MapEntry} {i:Nat} {p:PV×PV} {f:MapEntry->MapEntry},fo es kI->(∀e,valOf p.1=ahq (f e).key/\valOf p.2=ahq (f e).val)->fo (es.set i p) (kI.modify i f)
 | [],[],i,p,f,h,_=>by simp [fo]
 |(k,v)::r,e::r',0,p,f,h,h1=>⟨(h1 e).1,(h1 e).2,h.2.2⟩
 |(k,v)::r,e::r',i+1,p,f,h,h1=>by simp only [List.set_cons_succ,List.modify_succ_cons];exact ⟨h.1,h.2.1,fo.set h.2.2 h1⟩
 | [],_::_,_,_,_,h,_=>by simp [fo] at h
 |_::_,[],_,_,_,h,_=>by simp [fo] at h
theorem Jm {t kt et:TypeId} {n:Option Nat} {m k x:PV} {um uk ux:Value} {r:nB} (ht:P.underlying t=ahq (.map kt et)) (hkt:xh P kt n=ahs)
 (hm:VR im loc m um) (hk:VR im loc k uk) (hx:VR im loc x ux)
 (h:CP aA fz n m k x=ahq r) (hkn:jj im loc aA w r):
 ∃w',(Instr.mapUpdate t um uk ux).run P w= .ok () w'/\sM im loc aA w r im loc w'/\r.v= .undef:=by
 unfold CP at h;cases m with
 |mp tk=>
  dsimp only at h;obtain ⟨li,hl,rfl⟩:=hm.QI;cases hs:aA[tk]? with
  |none=>rw [hs] at h;cases h
  |some b=>
   rw [hs] at h;cases b with
   |map es=>
    dsimp only at h;split at h
    case isFalse=>cases h
    rename_i OU;simp only [v6,aar] at OU;obtain ⟨OU,hnf⟩:=OU;cases hkp:k.cb with
    |none=>rw [hkp] at h;cases h
    |some kc=>
     cases hxp:x.cb with
     |none=>rw [hkp,hxp] at h;cases h
     |some xc=>
      rw [hkp,hxp] at h;dsimp only at h;obtain ⟨_,ale⟩:=mB hkp;obtain ⟨_,alf⟩:=mB hxp;have vk:=Ji hk ale;have vx:=Ji hx alf;cases hf:eX n k es 0 with
      |none=>rw [hf] at h;cases h
      |some q=>
       rw [hf] at h;have hwr: ∃bb,r={v:= .undef,wr:=[(tk,bb)]}:=by
        revert h
        cases q with
        |none=>intro h;simp only [ww] at h;exact ⟨_,h.symm⟩
        |some j=>intro h;simp only [ww] at h;exact ⟨_,h.symm⟩
       obtain ⟨bb,hr⟩:=hwr;obtain ⟨b',zM,sF⟩:=hkn.tok tk (.inr ⟨bb,by rw [hr];simp⟩) li hl;rw [hs] at zM;injection zM with zM;subst zM;obtain ⟨kI,clock,hw,hrel⟩:=sF;obtain ⟨r',qt,Gm⟩:=Ej (P:=P) (w:=w) hkt hk OU hrel hf;have Qn:=CT (P:=P) (w:=w) hkt hk OU aht;have df:=(NE.1 hw).1;cases q with
       |none=>
        dsimp only at h Gm;subst Gm;injection h with h;refine ⟨{w with heap:=w.heap.setIfInBounds li.de (.map (kI.push {key:=uk,val:=ux,born:=clock}) (clock+1))},?_,sM.write hkn (t:=tk) (k0:= .map es) (o:= .map (kI.push {key:=uk,val:=ux,born:=clock}) (clock+1)) (li:=li) (by rw [<- h]) (by rw [<- h]) hl hs rfl rfl rfl rfl rfl ?_,by rw [<- h]⟩
        · simp only [Instr.mapUpdate,EQ,run_underlying ht,AC,vf hw,Qn,qt]
          exact Ei _ hw
        refine ⟨kI.push {key:=uk,val:=ux,born:=clock},clock+1,by simp [df],?_⟩
        rw [Array.toList_push];exact hrel.snoc vk vx
       |some j=>
        dsimp only at h Gm;obtain ⟨p,e,h1,h2,rfl,h4,h5⟩:=Gm;injection h with h;obtain ⟨e',BI,OV,QJ⟩:=fo.get hrel h1;rw [h2] at BI;injection BI with BI;subst BI;obtain ⟨QK,ahM⟩:=QH (im:=im) (loc:=loc) OU h4 h5 hk (.xw OV);have ahN:((kI[j]?).map (·.key)).getD uk=uk:=by
         have:kI[j]? =ahq e:=by simpa using h2
         rw [this];exact QK.symm
        refine ⟨{w with heap:=w.heap.setIfInBounds li.de (.map (kI.modify j fun e=>{e with key:=uk,val:=ux}) clock)},?_,sM.write hkn (t:=tk) (k0:= .map es) (o:= .map (kI.modify j fun e=>{e with key:=uk,val:=ux}) clock) (li:=li) (by rw [<- h]) (by rw [<- h]) hl hs rfl rfl rfl rfl rfl ?_,by rw [<- h]⟩
        · simp only [Instr.mapUpdate,EQ,run_underlying ht,AC,vf hw,Qn,qt,ahN,Instr.keyThatStays,ahM,if_true,If]
          exact Ei _ hw
        refine ⟨kI.modify j fun e=>{e with key:=uk,val:=ux},clock,by simp [df],?_⟩
        rw [Array.toList_modify];exact hrel.set fun e=>⟨vk,vx⟩
   |_=>cases h
 |_=>cases h
theorem Lt {esz:Nat} {y:PV} {u:Value} {new:List Row} (hy:VR im loc y u) (hr:rowsOf aA esz y=ahq new) (n:Nat) (hn:n<=ahp new)
 (bq: ∀b o,im b=ahq o->w.heap[b]? =ahq o) (tok: ∀t,t∈iP y-> ∀li,loc t=ahq li-> ∃k,aA[t]? =ahq k/\BR im loc w li k):
 (Builtin.lenOf u).run P w= .ok (ahp new) w/\(Builtin.firstCells esz n u).run P w= .ok ((new.take n).flatMap aZ).toArray w/\(∀r∈new,ahp r=esz)/\(∀r∈new,∀c∈r,c.plain=ahs):=by
 have QL: ∀(a:Option Addr) (l c:Nat),(Builtin.firstCells esz 0 (.slice a l c)).run P w= .ok #[] w:=by
  intro a l c;cases a with
  |none=>simp [Builtin.firstCells]
  |some a=>have:=run_loadCells_list (P:=P) w a [] (by simp);simpa [Builtin.firstCells] using this
 have get: ∀(rows:List Row) (b o l c:Nat) (g:Nat->Option Value),bw g o esz rows->(∀k v,g k=ahq v->w.cell? ⟨b,k,ahr⟩=ahq v)->n<=ahp rows->
  (Builtin.firstCells esz n (.slice (ahq ⟨b,o,ahr⟩) l c)).run P w= .ok ((rows.take n).flatMap aZ).toArray w:=by
  intro rows b o l c g cJ hg Gk;have h1:=cJ.take n;have OO:=dy h1.nG;have:=run_loadCells_list (P:=P) w ⟨b,o,ahr⟩ ((rows.take n).flatMap aZ) (fun j v hj=>by rw [qu];exact hg _ _ (h1.flat j v hj));simp only [Builtin.firstCells];rw [show n*esz=((rows.take n).flatMap aZ).length by rw [OO,acl,ahc Gk]];exact this
 unfold rowsOf at hr;cases y with
 |sl e qn rows=>
  obtain ⟨a,cap,rfl,_,_,kL⟩:=hy.oD;cases rows with
  |nil=>
   simp at hr;subst hr;have:n=0:=by simpa using hn
   subst this;exact ⟨rfl,by simpa using QL a 0 cap,by simp,by simp⟩
  |cons r rs=>
   dsimp only at hr;split at hr
   · rename_i he
     have he:e=esz:=by simpa using he
     subst he;injection hr with hr;subst hr;obtain ⟨b,o,rfl,cJ⟩:=kL (by simp);exact ⟨rfl,get (r::rs) b o _ cap _ cJ (fun k v hk=>sN bq hk) hn,cJ.nG,cJ.plain⟩
   cases hr
 |own t e off len cap ex=>
  dsimp only at hr;split at hr
  · rename_i he
    have he:e=esz:=by simpa using he
    subst he;obtain ⟨li,a,cD,rfl,hl,h2,h3,h4,h5,h6,h7⟩:=hy.iA;obtain ⟨k,iF,hb⟩:=tok t (by simp [iP]) li hl;rw [iF] at hr;cases k with
    |arr e' rows=>
     simp only [ww] at hr;subst hr;obtain ⟨b1,b2,b3⟩:=hb;have bY:((rows.drop off).take len).length=len:=by simp;omega
     have Lm:e'=e:=by rw [<- b1,h2]
     subst Lm;rw [bY] at hn ⊢;cases rows with
     |nil=>
      have:len=0:=by simp at b2;omega
      subst this;have:n=0:=by omega
      subst this;exact ⟨rfl,by simpa using QL a 0 cD,by simp,by simp⟩
     |cons r rs=>
      obtain ⟨arr,el,sP,HH,IY,cJ⟩:=b3 (by simp);have u7:=(cJ.drop off).take len;refine ⟨rfl,?_,u7.nG,u7.plain⟩;rcases agS n with h0|h0
      · subst h0;simpa using QL a len cD
      rcases h7 with h7|⟨h7,rfl,h9⟩
      · omega
      exact get _ li.de (li.sh+off*e') len cD _ u7 (fun k v hk=>kB sP hk) (by rw [bY];exact hn)
    |_=>cases hr
  cases hr
 |_=>cases hr
theorem Jn {esz:Nat} {t off len cap:Nat} {ex:Bool} {u:Value} {rows new:List Row} {r:nB} {d:List Nat} {v:PV} (hx:VR im loc (.own t esz off len cap ex) u) (hs:aA[t]? =ahq (.arr esz rows)) (hn:new≠[]) (hl:(ahp new)<=len)
 (Jf: ∀r∈new,ahp r=esz) (Uc: ∀r∈new,∀c∈r,c.plain=ahs) (hr:r={v:=v,wr:=[(t,.arr esz (kK off new rows))],rd:=d}) (hk:jj im loc aA w r):
 ∃b o c w',u= .slice (ahq ⟨b,o,ahr⟩) len c/\(storeCells ⟨b,o,ahr⟩ (new.flatMap aZ)).run P w= .ok () w'/\sM im loc aA w r im loc w':=by
 obtain ⟨li,a,cD,rfl,kM,he,Dk,y4,hex,hxk,Dm⟩:=hx.iA;obtain ⟨k,iF,hb⟩:=hk.tok t (.inr ⟨_,by rw [hr];simp;rfl⟩) li kM;rw [hs] at iF;injection iF with iF;subst iF;obtain ⟨b1,b2,b3⟩:=hb;have Gk:0<(ahp new):=List.length_pos_iff.2 hn;have nH:rows≠[]:=by intro e;subst e;simp at b2;omega
 obtain ⟨arr,el,sP,HH,IY,cJ⟩:=b3 nH;rcases Dm with h0|⟨_,rfl,u6⟩
 · omega
 have Gl:=dy Jf
 have Gi:=aa6 esz (show off+ahp new<=(ahp rows) by omega);rw [aa2] at Gi;have Ed:li.sh+off*esz+(new.flatMap aZ).length<=arr.size:=by rw [Gl];omega
 have bI:=run_storeCells_at P li.de (li.sh+off*esz) el (new.flatMap aZ) 0 arr w sP (by simpa using Ed) (rL Uc);refine ⟨li.de,li.sh+off*esz,cD,_,rfl,bI,?_⟩;refine sM.write hk (t:=t) (k0:= .arr esz rows) (li:=li) (by rw [hr]) (by rw [hr]) kM hs (by cases rows with|nil=>exact absurd rfl nH|cons _ _=>rfl) (fq sP) rfl rfl rfl ?_;rw [xn _ _ _ (by omega)];refine ⟨b1,by rw [gy _ _ _ (by omega)];exact b2,fun _=>⟨(arr.toList.take (li.sh+off*esz+0)++new.flatMap aZ++arr.toList.drop (li.sh+off*esz+0+(new.flatMap aZ).length)).toArray,el,?_,?_,?_,?_⟩⟩
 · rw [fq sP]
   have df:=(NE.1 sP).1;simp [df]
 · rw [<- HH]
   have:=gy (li.sh+off*esz) (new.flatMap aZ) arr.toList (by simpa using Ed);simp only [u5] at this;simpa using this
 · rw [gy _ _ _ (by omega)];exact IY
 refine cJ.u5 (by omega) Jf Uc (fun k=>?_)
 have:=nF (li.sh+off*esz) (new.flatMap aZ) arr.toList (by simpa using Ed) k;simp only [u5] at this;simp only [aaw,ahm];rw [this,Gl];simp
end
end Go.Vm
/- Operation by operation: the theorem. -/
namespace Go.Vm
section
variable {P : Program} {im : Im} {loc : Loc} {aA : bW} {fz : List Nat} {w : World} {e : Env} {ρ : Operand -> Value}
theorem QM {esz:Nat} {x:PV} (h:uo esz x=ahs):(∀e c r,x= .sl e c r->r=[]\/e=esz)/\(∀tk e o l c ex,x= .own tk e o l c ex->e=esz):=by
 constructor
 · rintro e c r rfl
   simp only [uo,agq,aav,ah7] at h;exact h.symm
 rintro tk e o l c ex rfl
 simpa [uo] using h
theorem eu {x:Sem Value} {v:Value} (h:x.run P w= .ok v w):(do pure (Next.value (<- x)):Sem Next).run P w= .ok (.value v) w:=by simp only [EQ,h,AC,If]
theorem Jo {x y:fj} {l:List Operand} (h:eE [x,y] l=ahs): ∃a b,l=[a,b]/\bn x a=ahs/\bn y b=ahs:=by
 match l,h with
 | [],h=>simp [eE] at h
 | [_],h=>simp [eE] at h
 | [a,b],h=>simp only [eE,v6,ahk] at h;exact ⟨a,b,rfl,h.1,h.2⟩
 |_::_::_::_,h=>simp [eE] at h
theorem Jp {x:fj} {l:List Operand} (h:eE [x] l=ahs): ∃a,l=[a]/\bn x a=ahs:=by
 match l,h with
 | [],h=>simp [eE] at h
 | [a],h=>simp only [eE,ahk] at h;exact ⟨a,rfl,h⟩
 |_::_::_,h=>simp [eE] at h
theorem QN {prims:FuncId->Bool} {x:kG} {o:Oper} {r:nB} (hc:wJ P prims o.type x o.op=ahs) (om: ∀y∈x.eQ,∀o',bn y o'=ahs->VR im loc (y.ev e) (ρ o'))
 (h:bo e aA fz x=ahq r) (hk:jj im loc aA w r):QG P ρ o im loc aA w r:=by
 unfold wJ at hc;split at hc
 case h_1 x o' eO=>injection h with h;subst h;exact .pure hk rfl rfl (by simp [execOp,eO]) (om x (by simp [kG.eQ]) o' hc)
 case h_2 x o' eO=>injection h with h;subst h;exact .pure hk rfl rfl (by simp [execOp,eO]) (om x (by simp [kG.eQ]) o' hc)
 case h_3 c a b d e' f eO=>
  simp only [v6] at hc;have h1:=om c (by simp [kG.eQ]) d hc.1.1;simp only [bo] at h;split at h
  · rename_i hb;rw [hb] at h1;have h1:=h1.ju
    injection h with h;subst h;exact .pure hk rfl rfl (by simp [execOp,eO,h1,asBool]) (om a (by simp [kG.eQ]) _ hc.1.2)
  · rename_i hb;rw [hb] at h1;have h1:=h1.ju
    injection h with h;subst h;exact .pure hk rfl rfl (by simp [execOp,eO,h1,asBool]) (om b (by simp [kG.eQ]) _ hc.2)
  cases h
 case h_4 op x y op' t a b u eO=>simp only [v6,beq_iff_eq] at hc;obtain ⟨⟨rfl,h1⟩,h2⟩:=hc;simp only [bo,Do] at h;obtain ⟨z,hz,rfl⟩:=h;obtain ⟨v,bI,hv⟩:=T6 (P:=P) (w:=w) (t:=t) (a:=a) (b:=b) (om x (by simp [kG.eQ]) a h1) (om y (by simp [kG.eQ]) b h2) hz;exact .pure hk rfl rfl (by simp only [execOp,eO];exact eu bI) hv
 case h_5 neg x y op t a b u eO=>
  simp only [v6] at hc;obtain ⟨⟨⟨h0,ht⟩,h1⟩,h2⟩:=hc;have hx:=om x (by simp [kG.eQ]) a h1;have hy:=om y (by simp [kG.eQ]) b h2;simp only [bo] at h;split at h
  · rename_i p q hp hq
    rw [hp] at hx;rw [hq] at hy;injection h with h;subst h;have ho:op=if neg then .neq else .eql:=by cases neg<;>simpa using h0
    refine .pure (v:= .bool (if neg then !(p==q) else p==q)) hk rfl rfl ?_ (.bool _);simp only [execOp,eO,hx.ju,hy.ju];exact eu (Qy ho (HK ht))
  cases h
 case h_6 n neg x y op t a b u eO=>
  simp only [v6,aar,beq_iff_eq] at hc;obtain ⟨⟨⟨⟨⟨h0,hr⟩,hn⟩,hg⟩,h1⟩,h2⟩:=hc;have hx:=om x (by simp [kG.eQ]) a h1;have hy:=om y (by simp [kG.eQ]) b h2;simp only [bo] at h;split at h
  · rename_i p q hp hq
    rw [hp] at hx;rw [hq] at hy;obtain ⟨us,hu1,hu2⟩:=hx.o7;obtain ⟨vs,OV,QJ⟩:=hy.o7;split at h
    case isFalse=>cases h
    rename_i bY;simp only [v6,aav] at bY;rw [Do] at h;obtain ⟨c,M7,rfl⟩:=h;have ho:op=if neg then .neq else .eql:=by cases neg<;>simpa using h0
    have hq2:=HM (P:=P) (w:=w) 100 t n hn 10000 (by omega) p q us vs c hu2 QJ bY.1 bY.2 M7;simp only [whole,hr,if_true] at hq2;refine .pure (v:= .bool (if neg then !c else c)) hk rfl rfl ?_ (.bool _);simp only [execOp,eO,hu1,OV];refine eu ?_;simp only [EQ,run_eqGuard_agg w op t a b ⟨us⟩ ⟨vs⟩ hg,AC];cases neg with
    |true=>simp only [if_true] at ho ⊢;subst ho;rw [run_neq_struct,hq2];rfl
    |false=>simp only [aak,if_false] at ho ⊢;subst ho;rw [run_eql_struct,hq2];rfl
  cases h
 case h_7 op x op' t a eO=>simp only [v6,beq_iff_eq] at hc;obtain ⟨rfl,h1⟩:=hc;simp only [bo,Do] at h;obtain ⟨z,hz,rfl⟩:=h;obtain ⟨v,bI,hv⟩:=abm (P:=P) (w:=w) (om x (by simp [kG.eQ]) a h1) hz;exact .pure hk rfl rfl (by simp only [execOp,eO];exact eu bI) hv
 case h_8 k x s d a eO=>
  simp only [v6] at hc;obtain ⟨⟨hs,hd⟩,h1⟩:=hc;have hx:=om x (by simp [kG.eQ]) a h1;obtain ⟨ds,Ud⟩:=aaE.1 hs;simp only [bo] at h;split at h
  · rename_i k' n hp
    rw [hp] at hx;injection h with h;subst h;split at hd
    · rename_i l hl
      have:=eH.1 hd;subst this;refine .pure hk rfl rfl ?_ (.int _ _);simp only [execOp,eO,hx.eY];exact eu (Qz Ud hl)
    cases hd
  cases h
 case h_9 x args argTypes eO=>
  simp only [v6] at hc;obtain ⟨ht,h1⟩:=hc;obtain ⟨a,ha,h1a⟩:=Jp h1;have kN:args= #[a]:=aat (by simpa using ha);subst kN;have hx:=om x (by simp [kG.eQ]) a h1a;split at ht
  · rename_i t ht0
    unfold rI at ht;split at ht
    · rename_i el hu
      have bI: ∀{v:Value},(Builtin.len_ argTypes o.type #[ρ a]).run P w= .ok v w->(execOp ρ o).run P w= .ok (.value v) w:=by intro v hv;simp only [execOp,eO,resolve,EQ,If,AC,invoke,builtin];rw [show abj ρ #[a]= #[ρ a] by simp,hv];rfl
      simp only [bo] at h;split at h
      · rename_i e' c rows hp
        rw [hp] at hx;obtain ⟨ad,cap,hv,_⟩:=hx.oD;injection h with h;subst h;exact .pure hk rfl rfl (bI (by simp [Builtin.len_,ht0,run_underlying hu,hv,goInt])) (.int _ _)
      · rename_i tk e' off len cap ex hp
        rw [hp] at hx;obtain ⟨li,ad,cD,hv,_⟩:=hx.iA;injection h with h;subst h;exact .pure hk rfl rfl (bI (by simp [Builtin.len_,ht0,run_underlying hu,hv,goInt])) (.int _ _)
      cases h
    cases ht
  cases ht
 case h_10 n args argTypes eO=>
  simp only [v6] at hc;obtain ⟨h0,ht⟩:=hc;have dE:args.size≠0:=by intro hz;have:args= #[]:=Array.eq_empty_of_size_eq_zero hz;subst this;simp at h0
  have ha0:(abj ρ args)[0]? =ahq (ρ args[0]):=by simp [show 0<args.size by omega]
  simp only [bo,ww] at h;subst h;have bI: ∀{v:Value},(Builtin.len_ argTypes o.type (abj ρ args)).run P w= .ok v w->(execOp ρ o).run P w= .ok (.value v) w:=by intro v hv;simp only [execOp,eO,resolve,EQ,If,AC,invoke,builtin,hv]
  refine .pure hk rfl rfl (bI ?_) (.int _ _);split at ht
  · rename_i t ht0
    split at ht
    · rename_i m el hu
      have hm:m=n:=by simpa using ht
      subst hm;simp only [Builtin.len_,ht0,ha0,EQ,run_underlying hu,AC,goInt];cases ρ args[0]<;>rfl
    · rename_i el hu
      split at ht
      · rename_i m el2 hu2
        have hm:m=n:=by simpa using ht
        subst hm;simp only [Builtin.len_,ht0,ha0,EQ,run_underlying hu,AC,goInt];cases ρ args[0]<;>simp [run_underlying hu2]
      cases ht
    cases ht
  cases ht
 case h_11 x el a eO=>
  have hx:=om x (by simp [kG.eQ]) a hc;simp only [bo] at h;cases bM:(x.ev e).stored with
  |none=>rw [bM] at h;cases h
  |some cs=>rw [bM] at h;injection h with h;obtain ⟨rfl,AG⟩:=zG bM;obtain ⟨bg,hv,he⟩:=Ea (el:=el) (hx.cells AG) h.symm hk;refine ⟨_,_,bg,?_,.inr ⟨_,rfl,hv⟩,he⟩;simp [execOp,eO,Instr.box,newVar,newRow]
 case h_12 cells t eO=>
  simp only [bo,ww] at h;unfold tB at hc;cases hi:P.info? t with
  |none=>rw [hi] at hc;cases hc
  |some i=>
   rw [hi] at hc;cases hz:i.zero with
   |none=>simp [hz] at hc
   |some z=>simp [hz] at hc;obtain ⟨bg,hv,he⟩:=Ea (el:=t) (xi (im:=im) (loc:=loc) hc) h.symm hk;refine ⟨_,_,bg,?_,.inr ⟨_,rfl,hv⟩,he⟩;simp [execOp,eO,Instr.alloc,newVar,newRow,zeroValue,typeInfo,hi,hz]
 case h_13 zero parts t ps eO=>simp only [v6] at hc;obtain ⟨⟨⟨hz,_⟩,hp⟩,ny⟩:=hc;simp only [bo,Do] at h;obtain ⟨cs,qC,rfl⟩:=h;have hrel:=AM (im:=im) (loc:=loc) (e:=e) (ρ:=ρ) (fun y hy=>om y (by simpa [kG.eQ] using hy)) hp;obtain ⟨v,bI,hv⟩:=OR (P:=P) (w:=w) (qs:=ps.map fun (i,x)=>(i,ρ x)) hz ny (by simpa using hrel) qC;exact .pure hk rfl rfl (by simp only [execOp,eO];exact eu bI) hv
 case h_14 esz n zero parts t m ps eO=>
  simp only [v6,beq_iff_eq] at hc;obtain ⟨⟨⟨⟨rfl,ny⟩,kY⟩,Ld⟩,hp⟩:=hc;split at ny
  · rename_i el hu
    simp only [v6,beq_iff_eq,aar] at ny;obtain ⟨⟨⟨hs,hz⟩,hzl⟩,hnz⟩:=ny;simp only [bo,Do] at h;obtain ⟨rows,kL,h⟩:=h;obtain ⟨i,z,hi,HJ,bY,Jq⟩:=Ef hz Ld;have Dl:z.cells.size=esz:=by omega
    have cJ:=BY Jq bY n;rw [Dl] at cJ
    obtain ⟨Lf,h1,h2,h3,h4⟩:=AL (n:=n) (esz:=esz) (wL (im:=im) (loc:=loc) (e:=e) (ρ:=ρ) (fun y hy=>om y (by simpa [kG.eQ] using hy)) hp) cJ (by simp) (by simp) kL;obtain ⟨bg,hv,he⟩:=CS (el:=el) h.symm hk h2 h3 h4 rfl (IR _);refine ⟨_,_,bg,?_,.inr ⟨_,rfl,hv⟩,he⟩;have Lg:(zeroValue el).run P w= .ok z w:=by simp [zeroValue,typeInfo,hi,HJ]
    have kY:n*esz<=1048576:=by simpa using kY
    have alh: ¬(n*esz>2^24):=by omega
    simp only [execOp,eO,Instr.buildSlice,EQ,run_underlying hu,AC,kg hs,alh,if_false]
    by_cases h0:n*esz=0
    · have Qp:n=0:=by
       rcases ahd.1 h0 with h|h
       · exact h
       rw [h] at hnz;simp at hnz
      subst Qp;simp only [ahn] at h1;simp only [ahn,if_true,EQ,If,AC,acm];have e0:(abj (fun x=>(#[]:Array Value)[x%(#[]:Array Value).size]!) (abK 0))=(abj (fun x=>z.cells[x%esz]!) (abK 0)):=by simp
      rw [e0,h1];simp [newRow]
    simp only [h0,if_false,EQ,Lg,AC,If]
    simp only [Dl,acm,h1];simp [newRow]
  cases ny
 case h_15 agg p t a eO=>simp only [v6] at hc;have hx:=om p (by simp [kG.eQ]) a hc.2;simp only [bo] at h;obtain ⟨v,bI,hv,hn,hw⟩:=Jd (P:=P) hx hc.1 h hk;exact .pure hk hn hw (by simp only [execOp,eO];exact eu bI) hv
 case h_16 sz p v t a b eO=>simp only [v6] at hc;simp only [bo] at h;obtain ⟨w',bI,wV,hu⟩:=OM (P:=P) (om p (by simp [kG.eQ]) a hc.1.2) (om v (by simp [kG.eQ]) b hc.2) hc.1.1 h hk;exact ⟨.skip,w',loc,by simp only [execOp,eO,EQ,bI,AC,If],.inl ⟨rfl,hu⟩,wV⟩
 case h_17 x a eO=>
  have hx:=om x (by simp [kG.eQ]) a hc;simp only [bo] at h;split at h
  · rename_i t s r' o' hp
    rw [hp] at hx;injection h with h;subst h;obtain ⟨li,h1,h2,h3,hv⟩:=hx.yu;exact .pure hk rfl rfl (by simp only [execOp,eO,hv];rfl) (by rw [<- hv];exact hx)
  · rename_i c o' hp
    rw [hp] at hx;injection h with h;subst h;obtain ⟨b,o2,vs,h1,h2,hv⟩:=hx.xk;exact .pure hk rfl rfl (by simp only [execOp,eO,hv];rfl) (by rw [<- hv];exact hx)
  · rename_i f a' b' hp
    rw [hp] at hx;injection h with h;subst h;generalize hg:ρ a=g at hx;cases hx with
    |eh fn a b as bs ha hb=>exact .pure hk rfl rfl (by simp only [execOp,eO,hg];rfl) (.eh _ _ _ _ _ ha hb)
  cases h
 case h_18 off p t a f eO=>
  simp only [v6] at hc;obtain ⟨hc,h1⟩:=hc;have hx:=om p (by simp [kG.eQ]) a h1;split at hc
  · rename_i fs hu
    split at hc
    · rename_i g hg
      simp only [v6,beq_iff_eq] at hc;obtain ⟨Dk,hi⟩:=hc;cases QO:P.info? g.type with
      |none=>rw [QO] at hi;cases hi
      |some i=>
       rw [QO] at hi;have hz:i.size≠0:=by simpa using hi
       simp only [bo] at h;have: ∃z,(match p.ev e with| .ptr t s r o=>ahq (PV.ptr t s r (o+off))| .bu c o=>ahq (PV.bu c (o+off))|_=>ahr)=ahq z/\r={v:=z}:=by
        revert h
        cases p.ev e<;>intro h<;>first|(injection h with h;exact ⟨_,rfl,h.symm⟩)|cases h
       obtain ⟨z,hz',rfl⟩:=this;obtain ⟨v,bI,hv⟩:=QB (P:=P) (w:=w) hx hu hg Dk QO hz hz';exact .pure hk rfl rfl (by simp only [execOp,eO];exact eu bI) hv
    cases hc
  cases hc
 case h_19 agg off x t a f eO=>
  simp only [v6] at hc;obtain ⟨hc,h1⟩:=hc;have hx:=om x (by simp [kG.eQ]) a h1;split at hc
  · rename_i fs hu
    split at hc
    · rename_i g hg
      simp only [v6,beq_iff_eq] at hc;obtain ⟨Dk,hag⟩:=hc;simp only [bo] at h;split at h
      · rename_i cs hp
        rw [hp] at hx;obtain ⟨vs,hv,ot⟩:=hx.o7;rw [Do] at h;obtain ⟨z,hz,rfl⟩:=h;rw [<- Dk] at hz;obtain ⟨v,bI,Ln⟩:=Jc (P:=P) (w:=w) hag ot hz;refine .pure hk rfl rfl ?_ Ln;simp only [execOp,eO];exact eu (by simp only [Instr.field,EQ,run_underlying hu,AC,hg,hv,asAgg,If,bI])
      cases h
    cases hc
  cases hc
 case h_20 esz x i t a j eO=>
  simp only [v6] at hc;obtain ⟨⟨hs,h1⟩,h2⟩:=hc;have hx:=om x (by simp [kG.eQ]) a h1;have hi:=om i (by simp [kG.eQ]) j h2;simp only [bo] at h;cases hn:jM (i.ev e) with
  |none=>rw [hn] at h;cases h
  |some n=>
   rw [hn] at h;dsimp only at h;obtain ⟨k,BZ⟩:=oC hi hn;unfold yr at hs;split at hs
   · rename_i el hu
     have: ∃z,(match x.ev e with
      | .sl s _ rows=>match rows[n]? with
       |some cs=>if M2 s esz then ahq (PV.bu cs 0) else ahr
       |none=>ahr
      | .own t s off len _ _=>if abo n len&&M2 s esz then ahq (PV.ptr t s (off+n) 0) else ahr
      |_=>ahr)=ahq z/\r={v:=z}:=by
      revert h
      cases x.ev e with
      |sl s c rows=>
       dsimp only;cases rows[n]? with
       |none=>intro h;cases h
       |some cs=>
        dsimp only;split
        · intro h;injection h with h;exact ⟨_,rfl,h.symm⟩
        intro h;cases h
      |own t s off len cap ex=>
       dsimp only;split
       · intro h;injection h with h;exact ⟨_,rfl,h.symm⟩
       intro h;cases h
      |_=>intro h;cases h
     obtain ⟨z,hz,rfl⟩:=this;obtain ⟨v,bI,hv⟩:=QC (P:=P) (w:=w) (k:=k) hx hu hs hz;exact .pure hk rfl rfl (by simp only [execOp,eO,BZ];exact eu bI) hv
   cases hs
 case h_21 n esz p i t a j eO=>
  simp only [v6] at hc;obtain ⟨⟨hs,h1⟩,h2⟩:=hc;have hx:=om p (by simp [kG.eQ]) a h1;have hi:=om i (by simp [kG.eQ]) j h2;simp only [bo] at h;cases hn:jM (i.ev e) with
  |none=>rw [hn] at h;cases h
  |some m=>
   rw [hn] at h;dsimp only at h;split at h
   · rename_i df
     have df:m<n:=by simpa using df
     obtain ⟨k,BZ⟩:=oC hi hn;unfold M6 at hs;split at hs
     · rename_i m' el hu
       simp only [v6,beq_iff_eq] at hs;obtain ⟨rfl,hs⟩:=hs;have: ∃z,(match p.ev e with| .ptr t s r o=>ahq (PV.ptr t s r (o+m*esz))| .bu c o=>ahq (PV.bu c (o+m*esz))|_=>ahr)=ahq z/\r={v:=z}:=by
        revert h
        cases p.ev e<;>intro h<;>first|(injection h with h;exact ⟨_,rfl,h.symm⟩)|cases h
       obtain ⟨z,hz,rfl⟩:=this;obtain ⟨v,bI,hv⟩:=OK (P:=P) (w:=w) (k:=k) hx hu hs df hz;exact .pure hk rfl rfl (by simp only [execOp,eO,BZ];exact eu bI) hv
     cases hs
   cases h
 case h_22 n esz agg x i t a j eO=>
  simp only [v6] at hc;obtain ⟨⟨hs,h1⟩,h2⟩:=hc;have hx:=om x (by simp [kG.eQ]) a h1;have hi:=om i (by simp [kG.eQ]) j h2;simp only [bo] at h;cases hn:jM (i.ev e) with
  |none=>rw [hn] at h;cases h
  |some m=>
   rw [hn] at h;dsimp only at h;split at h
   · rename_i df
     have df:m<n:=by simpa using df
     obtain ⟨k,BZ⟩:=oC hi hn;split at hs
     · rename_i m' el hu
       simp only [v6,beq_iff_eq] at hs;obtain ⟨⟨rfl,hs⟩,hag⟩:=hs;split at h
       · rename_i cs hp
         rw [hp] at hx;obtain ⟨vs,hv,ot⟩:=hx.o7;rw [Do] at h;obtain ⟨z,hz,rfl⟩:=h;obtain ⟨v,bI,Ln⟩:=Jc (P:=P) (w:=w) hag ot hz;refine .pure hk rfl rfl ?_ Ln;have alj:(0:Int)<=(m:Int)/\(m:Int)<(m':Int):=by omega
         simp only [execOp,eO];exact eu (by simp only [Instr.index,BZ,asIntOf,EQ,If,run_underlying hu,AC,hv,alj,and_self,if_true,kg hs,abQ,bI])
       cases h
     cases hs
   cases h
 case h_23 x i t a j eO=>
  simp only [v6] at hc;obtain ⟨⟨hs,h1⟩,h2⟩:=hc;have hx:=om x (by simp [kG.eQ]) a h1;have hi:=om i (by simp [kG.eQ]) j h2;have hu:P.underlying t=ahq .string:=by
   split at hs
   · assumption
   cases hs
  simp only [bo] at h;split at h
  · rename_i n s hn hp
    rw [hp] at hx;obtain ⟨k,BZ⟩:=oC hi hn;split at h
    · rename_i b hb
      injection h with h;subst h;refine .pure hk rfl rfl ?_ (.int _ _);have h0:(0:Int)<=(n:Int):=by omega
      simp only [execOp,eO];exact eu (by simp only [Instr.index,BZ,asIntOf,EQ,If,run_underlying hu,AC,hx.DI,h0,if_true,abQ,hb])
    cases h
  cases h
 case h_24 esz x l hh m t a b c d eO=>
  simp only [v6] at hc;obtain ⟨⟨⟨⟨⟨h0,hs⟩,h1⟩,h2⟩,h3⟩,h4⟩:=hc;have hx:=om x (by simp [kG.eQ]) a h1;simp only [bo] at h;split at h
  · cases h
  rename_i he
  have he:uo esz (x.ev e)=ahs:=by simpa using he
  obtain ⟨TP,w8⟩:=QM he;split at h
  · rename_i lo hi mx OW hhi hmx
    rw [Do] at h;obtain ⟨z,hz,rfl⟩:=h;unfold yr at hs;split at hs
    · rename_i el hu
      have b1:=u9 (im:=im) (loc:=loc) (e:=e) (ρ:=ρ) (fun y hy=>om y (by simp only [kG.eQ,abe,aay];exact .inr (.inl (.inl hy)))) h2 OW;have b2:=u9 (im:=im) (loc:=loc) (e:=e) (ρ:=ρ) (fun y hy=>om y (by simp only [kG.eQ,abe,aay];exact .inr (.inl (.inr hy)))) h3 hhi;have b3:=u9 (im:=im) (loc:=loc) (e:=e) (ρ:=ρ) (fun y hy=>om y (by simp only [kG.eQ,abe,aay];exact .inr (.inr hy))) h4 hmx;have QP:mx.isSome=ahs->hi.isSome=ahs:=by
       intro hmm;cases m with
       |none=>simp at hmx;subst hmx;cases hmm
       |some mo=>
        cases hh with
        |none=>simp at h0
        |some ho=>simp only [Do] at hhi;obtain ⟨q,_,rfl⟩:=hhi;rfl
      obtain ⟨v,bI,hv⟩:=OS (P:=P) (w:=w) hx hu hs b1 b2 b3 QP TP w8 hz;exact .pure hk rfl rfl (by simp only [execOp,eO];exact eu bI) hv
    cases hs
  cases h
 case h_25 esz zero l c t a b eO=>
  simp only [v6] at hc;obtain ⟨⟨⟨ny,Ld⟩,h1⟩,h2⟩:=hc;have hx:=om l (by simp [kG.eQ]) a h1;have hy:=om c (by simp [kG.eQ]) b h2;split at ny
  · rename_i el hu
    simp only [v6,beq_iff_eq,aar] at ny;obtain ⟨⟨⟨⟨hs,hz⟩,hzl⟩,Lq⟩,hnz⟩:=ny;simp only [bo] at h;split at h
    · rename_i n m hn hm
      obtain ⟨k1,iF⟩:=oC hx hn;obtain ⟨k2,BZ⟩:=oC hy hm;split at h
      · rename_i kY
        simp only [v6,ab1] at kY;injection h with h;obtain ⟨i,z,hi,HJ,bY,Jq⟩:=Ef hz Ld;have Dl:z.cells.size=esz:=by omega
        have cJ:=BY Jq bY m;rw [Dl] at cJ
        have k8:m<=1048576:=by simpa [lI] using kY.2
        obtain ⟨bg,hv,he⟩:=CS (el:=el) h.symm hk cJ (by simp) (by simp) rfl kY.1;refine ⟨_,_,bg,?_,.inr ⟨_,rfl,hv⟩,he⟩;have Lg:(zeroValue el).run P w= .ok z w:=by simp [zeroValue,typeInfo,hi,HJ]
        have hti:(typeInfo el).run P w= .ok i w:=by simp [typeInfo,hi]
        have Jr:i.bytes<=1048576:=by unfold DG at Lq;rw [hi] at Lq;simpa using Lq
        have hw1:IntKind.i64.wrap (n:Int)=n:=DH (by omega) (by omega);have Ue:IntKind.i64.wrap (m:Int)=m:=DH (by omega) (by omega);have apD:i.bytes*m<=1099511627776:=by have:=ahf Jr k8;omega
        have Aw: ¬((i.bytes:Int)*(m:Int)>2^48):=by
         have:((i.bytes*m:Nat):Int)=(i.bytes:Int)*(m:Int):=by simp
         omega
        have Lu:(sizeOf el).run P w= .ok esz w:=kg hs;simp only [execOp,eO,iF,BZ,Instr.makeSlice,asInt,asIntOf,EQ,run_underlying hu,AC,If,hti,hw1,Ue];have Nf:((ahu ((m:Int)<0)||ahu ((i.bytes:Int)*(m:Int)>2^48))||ahu ((n:Int)<0)||ahu ((n:Int)>(m:Int)))=aht:=by simp only [Bool.or_eq_false_iff,decide_eq_false_iff_not];refine ⟨⟨⟨by omega,Aw⟩,by omega⟩,by omega⟩
        rw [Nf];simp only [aak,if_false,EQ,run_askRoom,AC,Lu,abQ]
        by_cases h0:m*esz=0
        · have hm0:m=0:=by
           rcases ahd.1 h0 with h|h
           · exact h
           rw [h] at hnz;simp at hnz
          subst hm0;simp [newRow]
          congr 2
          apply Array.ext<;>simp
        simp only [h0,if_false,EQ,Lg,AC,If,Dl]
        simp [newRow]
      cases h
    cases h
  cases ny
 case h_26 fn a b g c d eO=>
  simp only [v6,beq_iff_eq] at hc;obtain ⟨⟨rfl,h1⟩,h2⟩:=hc;simp only [bo,ww] at h;subst h;have r1:=mW (im:=im) (loc:=loc) (e:=e) (ρ:=ρ) (fun y hy=>om y (by simp [kG.eQ,hy])) h1;have r2:=mW (im:=im) (loc:=loc) (e:=e) (ρ:=ρ) (fun y hy=>om y (by simp [kG.eQ,hy])) h2;refine .pure (v:= .func (.func fn) (c.map ρ) (d.map ρ)) hk rfl rfl (by simp only [execOp,eO];exact eu rfl) ?_;have:=VR.eh (im:=im) (loc:=loc) fn _ _ _ _ r1 r2;have e1:(⟨c.toList.map ρ⟩:Array Value)=c.map ρ:=aat (by simp);have e2:(⟨d.toList.map ρ⟩:Array Value)=d.map ρ:=aat (by simp);rw [e1,e2] at this;exact this
 case h_27 t eO=>
  simp only [bo,ww] at h
  let li:LI:=⟨w.heap.size,0,0,0,0⟩
  refine ⟨.value (.map (ahq w.heap.size)),{w with heap:=w.heap.push (.map #[] 0)},loc.set (ahp aA) li,?_,.inr ⟨_,rfl,?_⟩,?_⟩
  · simp [execOp,eO,Instr.makeMap]
  · subst h;exact .mp (ahp aA) li (Loc.eN _ _ _)
  refine sM.new hk (k:= .map []) (o:= .map #[] 0) li (by rw [<- h]) (by rw [<- h]) rfl rfl rfl rfl rfl ⟨#[],0,by simp [li],trivial⟩
 case h_28 i x a j eO=>
  simp only [v6,beq_iff_eq] at hc;obtain ⟨rfl,h1⟩:=hc;have hx:=om x (by simp [kG.eQ]) a h1;simp only [bo] at h;split at h
  · rename_i vs hp
    rw [hp] at hx;obtain ⟨us,hv,ot⟩:=hx.AF;rw [Do] at h;obtain ⟨z,hz,rfl⟩:=h;obtain ⟨u,hu,hur⟩:=ot.get i z hz;have BJ:(⟨us⟩:Array Value)[i]? =ahq u:=by simpa using hu
    exact .pure hk rfl rfl (by simp only [execOp,eO];exact eu (by simp [Instr.extract,hv,BJ])) hur
  cases h
 case h_29 esz x y args argTypes eO=>
  simp only [v6] at hc;obtain ⟨ny,h1⟩:=hc;obtain ⟨a,b,GI,h1a,h1b⟩:=Jo h1;have kN:args= #[a,b]:=aat (by simpa using GI);subst kN;have hx:=om x (by simp [kG.eQ]) a h1a;have hy:=om y (by simp [kG.eQ]) b h1b;split at ny
  · rename_i t tx cJ
    have Ek:argTypes= #[t,tx]:=aat (by simpa using cJ);subst Ek;simp only [v6] at ny;obtain ⟨ny,TR⟩:=ny;unfold rI at TR;split at TR
    · rename_i e' htx
      split at ny
      · rename_i el hu
        simp only [v6] at ny;obtain ⟨⟨⟨hs,Lq⟩,hnz⟩,hz⟩:=ny;cases hi:P.info? el with
        |none=>rw [hi] at hz;cases hz
        |some i=>
         rw [hi] at hz;cases HJ:i.zero with
         |none=>simp [HJ] at hz
         |some z=>
          have T':z.cells.size=esz:=by rw [ahe,HJ,ahe] at hz;simpa using hz
          have oz:i.size=esz:=by unfold oq at hs;rw [hi] at hs;simpa using hs
          have Jr:i.bytes<=1048576:=by unfold DG at Lq;rw [hi] at Lq;simpa using Lq
          simp only [bo] at h;obtain ⟨v',w',bg,bI,hv,wV⟩:=Ec (P:=P) (ty:=o.type) hu htx hi oz HJ T' Jr hx hy h hk;refine ⟨.value v',w',bg,?_,.inr ⟨v',rfl,hv⟩,wV⟩;simp only [execOp,eO,resolve,EQ,If,AC,invoke,builtin];rw [show abj ρ #[a,b]= #[ρ a,ρ b] by simp,bI];rfl
      cases ny
    cases TR
  cases ny
 case h_30 n zero ok m k t a b ok' eO=>
  simp only [v6,beq_iff_eq] at hc;obtain ⟨⟨⟨rfl,ny⟩,h1⟩,h2⟩:=hc;have hm:=om m (by simp [kG.eQ]) a h1;have wK:=om k (by simp [kG.eQ]) b h2;split at ny
  · rename_i kt et ht
    simp only [v6] at ny;obtain ⟨hkt,hz⟩:=ny;have hz': ∃i z,P.info? et=ahq i/\i.zero=ahq z/\VR im loc zero z:=by
     cases hi:P.info? et with
     |none=>rw [hi] at hz;cases hz
     |some i=>
      cases HJ:i.zero with
      |none=>rw [hi] at hz;simp [HJ] at hz
      |some z=>rw [hi] at hz;simp [HJ] at hz;exact ⟨i,z,rfl,HJ,HG hz⟩
    simp only [bo] at h;obtain ⟨v,bI,hv,hn,hw⟩:=Ls (P:=P) ht hkt hz' hm wK h hk;exact .pure hk hn hw (by simp only [execOp,eO];exact eu bI) hv
  cases ny
 case h_31 n m k v t a b c eO=>
  simp only [v6] at hc;obtain ⟨⟨⟨ny,h1⟩,h2⟩,h3⟩:=hc;split at ny
  · rename_i kt et ht
    simp only [bo] at h;obtain ⟨w',bI,wV,hu⟩:=Jm (P:=P) ht ny (om m (by simp [kG.eQ]) a h1) (om k (by simp [kG.eQ]) b h2) (om v (by simp [kG.eQ]) c h3) h hk;exact ⟨.skip,w',loc,by simp only [execOp,eO,EQ,bI,AC,If],.inl ⟨rfl,hu⟩,wV⟩
  cases ny
 case h_32 esz x y args argTypes eO=>
  simp only [v6] at hc;obtain ⟨ny,h1⟩:=hc;obtain ⟨a,b,GI,h1a,h1b⟩:=Jo h1;have kN:args= #[a,b]:=aat (by simpa using GI);subst kN;have hx:=om x (by simp [kG.eQ]) a h1a;have hy:=om y (by simp [kG.eQ]) b h1b;split at ny
  · rename_i t tx cJ
    have Ek:argTypes= #[t,tx]:=aat (by simpa using cJ);subst Ek;simp only [v6] at ny;obtain ⟨TR,_⟩:=ny;unfold yr at TR;split at TR
    · rename_i el hu
      have OX: ∀{v:Value} {w':World},(Builtin.copy_ #[t,tx] o.type #[ρ a,ρ b]).run P w= .ok v w'->(execOp ρ o).run P w= .ok (.value v) w':=by intro v w' hv;simp only [execOp,eO,resolve,EQ,If,AC,invoke,builtin];rw [show abj ρ #[a,b]= #[ρ a,ρ b] by simp,hv];rfl
      simp only [bo] at h;split at h
      · rename_i src tk s off len cap ex zb TS
        rw [TS] at hx;have abu:Nat.min (ahp src) len=min (ahp src) len:=rfl;have Gj:r.rd=iP (y.ev e):=by
         split at h
         · injection h with h;rw [<- h]
         split at h
         · split at h
           · injection h with h;rw [<- h]
           cases h
         cases h
        obtain ⟨g1,g2,g3,g4⟩:=Lt (P:=P) (w:=w) hy zb (min (ahp src) len) (Nat.min_le_left _ _) hk.bq (fun t ht=>hk.tok t (.inl (by rw [Gj];exact ht)));have Ay:(src.take (min (ahp src) len))=src.take len:=by
         rcases Nat.le_total (ahp src) len with h'|h'
         · rw [ahc h',agd (IR _),agd h']
         rw [Nat.min_eq_right h']
        rw [Ay] at g2;have Lu:(sizeOf el).run P w= .ok esz w:=kg TR;split at h
        · rename_i xx
          injection h with h;subst h;rw [xx] at g2;have h0:min (ahp src) len=0:=by have:=congrArg aho xx;simp only [acl,agm] at this;omega
          obtain ⟨li,ad,cD,hv,_⟩:=hx.iA;refine .pure (v:= .int .i64 0) hk rfl rfl (OX ?_) (.int _ _);have g2':(Builtin.firstCells esz 0 (ρ b)).run P w= .ok #[] w:=by rw [h0] at g2;simpa using g2
          simp only [Builtin.copy_,hv];cases ad with
          |none=>simp [run_underlying hu,g1,abu,h0,Lu,g2',goInt]
          |some ad=>simp [run_underlying hu,g1,abu,h0,Lu,g2',goInt,storeCells]
        rename_i r1 rs QQ
        split at h
        · rename_i s' rows bM
          split at h
          · rename_i M7
            simp only [v6,aav,aar] at M7;obtain ⟨rfl,hnf⟩:=M7;injection h with h;have T8:s'=s:=by obtain ⟨li,ad,cD,hv,hl,he,_⟩:=hx.iA;obtain ⟨k,iF,hb⟩:=hk.tok tk (.inr ⟨_,by rw [<- h];simp;rfl⟩) li hl;rw [bM] at iF;injection iF with iF;subst iF;rw [<- hb.1,he]
            subst T8;have u7: ∀q,q∈r1::rs->q∈src:=fun q hq=>by rw [<- QQ] at hq;exact List.mem_of_mem_take hq
            have aax:min (ahp src) len=ahp rs+1:=by have:=congrArg aho QQ;simp only [acl,aaV] at this;omega
            rw [QQ] at g2;obtain ⟨b',o',c',w',hv,bI,wV⟩:=Jn (P:=P) (new:=r1::rs) hx bM (by simp) (by simp;omega) (fun q hq=>g3 q (u7 q hq)) (fun q hq=>g4 q (u7 q hq)) h.symm hk;refine ⟨.value (.int .i64 (Int.ofNat (ahp rs+1))),w',loc,OX ?_,.inr ⟨_,rfl,by rw [<- h];exact .int _ _⟩,wV⟩;rw [aax] at g2;simp only [Builtin.copy_,hv];simp [run_underlying hu,g1,abu,aax,Lu,g2,goInt,-aaA];rw [bI];rfl
          cases h
        cases h
      cases h
    cases TR
  cases ny
 case h_33 esz zero x args argTypes eO=>
  simp only [v6] at hc;obtain ⟨ny,h1⟩:=hc;obtain ⟨a,ha,h1a⟩:=Jp h1;have kN:args= #[a]:=aat (by simpa using ha);subst kN;have hx:=om x (by simp [kG.eQ]) a h1a;split at ny
  · rename_i t cJ
    have Ek:argTypes= #[t]:=aat (by simpa using cJ);subst Ek;split at ny
    · rename_i el hu
      simp only [v6,beq_iff_eq] at ny;obtain ⟨⟨⟨hs,hz⟩,hzl⟩,Ld⟩:=ny;have OX: ∀{v:Value} {w':World},(Builtin.clear_ #[t] o.type #[ρ a]).run P w= .ok v w'->(execOp ρ o).run P w= .ok (.value v) w':=by intro v w' hv;simp only [execOp,eO,resolve,EQ,If,AC,invoke,builtin];rw [show abj ρ #[a]= #[ρ a] by simp,hv];rfl
      simp only [bo] at h;split at h
      · rename_i tk s off len cap ex TS
        rw [TS] at hx;split at h
        · injection h with h;subst h
          obtain ⟨li,ad,cD,hv,_⟩:=hx.iA;refine .pure (v:= .tuple #[]) hk rfl rfl (OX ?_) (.undef _);simp only [Builtin.clear_,hv];cases ad<;>simp [run_underlying hu]
        rename_i len
        split at h
        · rename_i s' rows bM
          split at h
          · rename_i M7
            simp only [v6,aav,aar] at M7;obtain ⟨rfl,hnf⟩:=M7;injection h with h;have T8:s'=s:=by obtain ⟨li,ad,cD,hv,hl,he,_⟩:=hx.iA;obtain ⟨k,iF,hb⟩:=hk.tok tk (.inr ⟨_,by rw [<- h];simp;rfl⟩) li hl;rw [bM] at iF;injection iF with iF;subst iF;rw [<- hb.1,he]
            subst T8;obtain ⟨i,z,hi,HJ,bY,Jq⟩:=Ef hz Ld;have Jf: ∀q∈aau (len+1) zero,ahp q=s':=fun q hq=>by rw [(ah5.1 hq).2];exact hzl
            have Uc: ∀q∈aau (len+1) zero,∀c∈q,c.plain=ahs:=fun q hq c hc=>by rw [(ah5.1 hq).2] at hc;exact ah9.1 Ld c hc
            obtain ⟨b',o',c',w',hv,bI,wV⟩:=Jn (P:=P) (new:=aau (len+1) zero) hx bM (by simp) (by simp) Jf Uc h.symm hk;refine ⟨.value (.tuple #[]),w',loc,OX ?_,.inr ⟨_,rfl,by rw [<- h];exact .undef _⟩,wV⟩;have Lg:(zeroValue el).run P w= .ok z w:=by simp [zeroValue,typeInfo,hi,HJ]
            have hzc:(Builtin.zeroCells z.cells (len+1)).toList=(aau (len+1) zero).flatMap aZ:=by
             have cJ:=BY Jq bY (len+1);have OO:=dy Jf;have oz:=xo z.cells (len+1);apply abI;intro j;rcases aai j ((aau (len+1) zero).flatMap aZ).length with hj|hj
             · have hfj:=cJ.flat j _ (UV hj)
               rw [UV hj,<- hfj];simp only [Builtin.zeroCells,agc,Array.getElem?_toList]
             rw [PP hj,PP]
             simp only [aaS,oz];rw [OO] at hj;simp only [List.length_replicate] at hj;rw [<- bY,hzl];exact hj
            simp only [Builtin.clear_,hv];simp [run_underlying hu,Lg,hzc,-aaA];rw [bI];rfl
          cases h
        cases h
      · rename_i e1 c1 TS
        rw [TS] at hx;injection h with h;subst h;obtain ⟨ad,cD,hv,_⟩:=hx.oD;refine .pure (v:= .tuple #[]) hk rfl rfl (OX ?_) (.undef _);simp only [Builtin.clear_,hv];cases ad<;>simp [run_underlying hu]
      cases h
    cases ny
  cases ny
 case h_34 isMax x xs b args TU eO=>
  simp only [v6] at hc;obtain ⟨hb,h1⟩:=hc;simp only [bo] at h;have hrel:=mW (im:=im) (loc:=loc) (e:=e) (ρ:=ρ) (fun y hy=>om y (by simpa [kG.eQ] using hy)) h1;split at h
  · rename_i k a hp
    rw [Do] at h;obtain ⟨z,hz,rfl⟩:=h;have gI:D2 e (x::xs)= .int k a::D2 e xs:=by simp [D2,hp]
    rw [gI] at hrel;generalize hl:args.toList.map ρ=l at hrel;cases hrel with
    |cons _ u _ us h1 h2=>
     obtain rfl:=h1.eY;obtain ⟨c,rfl,bI⟩:=Na (P:=P) (w:=w) (isMax:=isMax) h2 hz;refine .pure hk rfl rfl ?_ (.int k c);have kM:(args.map ρ).toList= .int k a::us:=by simpa using hl
     have Jr:b=if isMax then .max else .min:=by cases isMax<;>simpa using hb
     subst Jr;cases isMax with
     |true=>simp only [if_true] at eO bI;simp only [execOp,eO,resolve,EQ,If,AC,invoke,builtin,Builtin.max_,kM,bI]
     |false=>simp only [aak,if_false] at eO bI;simp only [execOp,eO,resolve,EQ,If,AC,invoke,builtin,Builtin.min_,kM,bI]
  cases h
 case h_37 x y t m ps eO=>
  simp only [v6,beq_iff_eq] at hc;obtain ⟨⟨rfl,ny⟩,hp⟩:=hc;split at ny
  · rename_i el hu
    simp only [v6] at ny;obtain ⟨hs,hz⟩:=ny;split at hp
    · rename_i i a j b hps
      simp only [v6,beq_iff_eq] at hp;obtain ⟨⟨⟨rfl,rfl⟩,h1⟩,h2⟩:=hp;simp only [bo] at h;split at h
      · rename_i AG
        simp only [v6] at AG;injection h with h;have hx:=om x (by simp [kG.eQ]) a h1;have hy:=om y (by simp [kG.eQ]) b h2;obtain ⟨bg,hv,he⟩:=Je (el:=el) hx hy h.symm hk;refine ⟨_,_,bg,?_,.inr ⟨_,rfl,hv⟩,he⟩;have HJ: ∃i z,P.info? el=ahq i/\i.zero=ahq z/\z.cells.size=1:=by
         cases hi:P.info? el with
         |none=>rw [hi] at hz;cases hz
         |some i=>
          cases hq:i.zero with
          |none=>rw [hi] at hz;simp [hq] at hz
          |some z=>rw [hi] at hz;simp [hq] at hz;exact ⟨i,z,rfl,hq,hz⟩
        obtain ⟨i,z,hi,hq,oz⟩:=HJ;have Lg:(zeroValue el).run P w= .ok z w:=by simp [zeroValue,typeInfo,hi,hq]
        have c1:(ρ a).cells= #[ρ a]:=by obtain ⟨q1,q2⟩:=hx.HF AG.1;cases OV:ρ a<;>first|rfl|exact absurd OV (q1 _)|exact absurd OV (q2 _)
        have c2:(ρ b).cells= #[ρ b]:=by obtain ⟨q1,q2⟩:=hy.HF AG.2;cases OV:ρ b<;>first|rfl|exact absurd OV (q1 _)|exact absurd OV (q2 _)
        have fl: ∀q:Value,Instr.fill (fun i=>ahq (i*1,1)) #[q,q] [(0,ρ a),(1,ρ b)]=ahq #[ρ a,ρ b]:=fun q=>by
         have s1:(⟨u5 (0*1) (ρ a).cells.toList (#[q,q]:Array Value).toList⟩:Array Value)= #[ρ a,q]:=by rw [c1];rfl
         have s2:(⟨u5 (1*1) (ρ b).cells.toList (#[ρ a,q]:Array Value).toList⟩:Array Value)= #[ρ a,ρ b]:=by rw [c2];rfl
         rw [yv (place:=fun i=>ahq (i*1,1)) rfl (by rw [c1];rfl) (by simp),s1,yv (place:=fun i=>ahq (i*1,1)) rfl (by rw [c2];rfl) (by simp),s2];rfl
        simp only [execOp,eO,Instr.buildSlice,EQ,run_underlying hu,AC,kg hs];have e0:(abj (fun x=>z.cells[x%z.cells.size]!) (abK (2*1)))= #[z.cells[0]!,z.cells[0]!]:=by rw [oz,show abK (2*1)= #[0,1] from by decide];simp [Nat.mod_one]
        have big: ¬(2*1>2^24):=by decide
        have nz: ¬(2*1=0):=by decide
        have ml:(ps.map fun (i,x)=>(i,ρ x)).toList=[(0,ρ a),(1,ρ b)]:=by rw [acm,hps];rfl
        simp only [big,nz,if_false,EQ,Lg,AC,If];rw [e0,ml,fl];simp [newRow]
      cases h
    cases hp
  cases ny
 case h_38 n m k v t a b c eO=>
  simp only [v6] at hc;obtain ⟨⟨⟨ny,h1⟩,h2⟩,h3⟩:=hc;split at ny
  · rename_i kt et ht
    simp only [bo] at h;obtain ⟨w',bI,wV,hu⟩:=Jm (P:=P) ht ny (om m (by simp [kG.eQ]) a h1) (om k (by simp [kG.eQ]) b h2) (om v (by simp [kG.eQ]) c h3) h hk;exact ⟨.skip,w',loc,by simp only [execOp,eO,EQ,bI,AC,If],.inl ⟨rfl,hu⟩,wV⟩
  cases ny
 all_goals first|(simp only [bo] at h;cases h;done)|(simp at hc;done)
end
end Go.Vm
/- What goes over the border of a pure call, and what comes back. -/
namespace Go.Vm
def fE:Loc:=fun _=>ahr
def grow (im:Im) (w:World) (bs:List Nat):Im:=fun b=>match im b with
 |some o=>ahq o
 |none=>if bs.contains b then w.heap[b]? else ahr
theorem HN (im:Im) (w:World) (bs:List Nat):nE im (grow im w bs):=fun b o h=>by unfold grow;rw [h]
theorem Ng {im:Im} {w:World} {bs:List Nat} (h: ∀b o,im b=ahq o->w.heap[b]? =ahq o): ∀b o,grow im w bs b=ahq o->w.heap[b]? =ahq o:=by
 intro b o hb;unfold grow at hb;split at hb
 · rename_i o' ho;injection hb with hb;subst hb;exact h b _ ho
 split at hb
 · exact hb
 cases hb
theorem Uf {im:Im} {w:World} {bs:List Nat} (h: ∀b o,im b=ahq o->w.heap[b]? =ahq o) {b:Nat} (hb:b∈bs):grow im w bs b=w.heap[b]?:=by
 unfold grow;split
 · rename_i o ho;exact (h b o ho).symm
 rw [rc (by simpa using hb)]
theorem QR {im:Im} {w:World} {bs:List Nat} {b:Nat} {o:Obj} (h:grow im w bs b=ahq o):im b=ahq o\/b∈bs:=by
 unfold grow at h;split at h
 · rename_i o' ho;injection h with h;subst h;exact .inl ho
 split at h
 · rename_i hc;exact .inr (by simpa using hc)
 cases h
def zN (loc:Loc) (aA:bW) (tk:List Nat):List Nat:=tk.filterMap fun t=>if (aA[t]?).any jL.bA then (loc t).map (·.de) else ahr
theorem zO {loc:Loc} {aA:bW} {tk:List Nat} {b:Nat}:b∈zN loc aA tk↔ ∃t li k,t∈tk/\loc t=ahq li/\aA[t]? =ahq k/\k.bA=ahs/\li.de=b:=by
 unfold zN;rw [List.mem_filterMap];constructor
 · rintro ⟨t,ht,h⟩
   split at h
   · rename_i hs
     rw [Do] at h;obtain ⟨li,hl,rfl⟩:=h;cases hk:aA[t]? with
     |none=>rw [hk] at hs;cases hs
     |some k=>rw [hk] at hs;exact ⟨t,li,k,ht,hl,hk,hs,rfl⟩
   cases h
 rintro ⟨t,li,k,ht,hl,hk,hs,rfl⟩
 exact ⟨t,ht,by rw [hk,hl];simp [hs]⟩
theorem mX {e:Nat} {rows:List Row} (h:rows≠[]):(jL.arr e rows).bA=ahs:=by
 cases rows with
 |nil=>exact absurd rfl h
 |cons _ _=>rfl
section
variable {im dP : Im} {loc : Loc} {aA : bW} {w : World}
def Over (im dP:Im) (loc:Loc) (aA:bW) (w:World) (t:Nat):Prop:=
 ∀li,loc t=ahq li-> ∃k,aA[t]? =ahq k/\BR im loc w li k/\(k.bA=ahs->dP li.de=w.heap[li.de]?)
def abv (dP:Im) (loc:Loc) (bx:Nat->Option (List PV)) (t:Nat):Prop:=
 ∀li cs,loc t=ahq li->bx t=ahq cs-> ∃vs,eG dP fE cs vs/\ ∀(j:Nat) (v:Value),vs[j]? =ahq v->lZ dP li.de (li.sh+j)=ahq v
theorem yx {b o:Nat} {cs:Array Value} {el:TypeId} {fr:Nat×Nat} (h:im b=ahq (.cells cs el fr)):lZ im b o=cs[o]?:=by unfold lZ;rw [h]
theorem bw.Js {get:Nat->Option Value} {sh esz off len:Nat} {rows:List Row} (h:bw get sh esz rows):bw get (sh+off*esz) esz ((rows.drop off).take len):=(h.drop off).take len
mutual
theorem abw (hi:nE im dP) {bx:Nat->Option (List PV)} {tb:Nat->List Nat} (hb: ∀t,(∀u,u∈tb t->Over im dP loc aA w u)->Over im dP loc aA w t->abv dP loc bx t):
 ∀{x y:PV} {v:Value},(∀t,t∈ja tb x->Over im dP loc aA w t)->VR im loc x v->BN aA bx x=ahq y->VR dP fE y v
 | .undef,y,v,_,_,h=>by simp [BN] at h
 | .jl,y,v,_,_,h=>by simp [BN] at h
 | .int k n,y,v,_,hv,h=>by simp only [BN,ww] at h;subst h;rw [hv.eY];exact .int _ _
 | .bool b,y,v,_,hv,h=>by simp only [BN,ww] at h;subst h;rw [hv.ju];exact .bool _
 | .str b,y,v,_,hv,h=>by simp only [BN,ww] at h;subst h;rw [hv.DI];exact .str _
 | .agg cs,y,v,ht,hv,h=>by simp only [BN,Do] at h;obtain ⟨ys,OY,rfl⟩:=h;obtain ⟨vs,rfl,ot⟩:=hv.o7;exact .agg _ _ (xy hi hb (fun t h=>ht t (by simpa [ja] using h)) ot OY)
 | .bS cs,y,v,ht,hv,h=>by simp only [BN,Do] at h;obtain ⟨ys,OY,rfl⟩:=h;obtain ⟨vs,rfl,ot⟩:=hv.AF;exact .bS _ _ (xy hi hb (fun t h=>ht t (by simpa [ja] using h)) ot OY)
 | .sl e c rows,y,v,_,hv,h=>by simp only [BN,ww] at h;subst h;obtain ⟨a,cap,rfl,h1,h2,h3⟩:=hv.oD;exact .sl e aht rows a cap h1 (by simp) fun dE=>let ⟨b,o,ha,hr⟩:=h3 dE;⟨b,o,ha,hr.mono fun _ _ e=>hi.cell e⟩
 | .own t e off len cap ex,y,v,ht,hv,h=>by
  obtain ⟨li,a,cD,rfl,hl,h2,h3,h4,h5,h6,h7⟩:=hv.iA;obtain ⟨k,hk,sF,Ug⟩:=ht t (by simp [ja]) li hl;simp only [BN,hk] at h;cases k with
  |arr e' rows=>
   simp only [ww] at h;subst h;obtain ⟨b1,b2,b3⟩:=sF;have bY:((rows.drop off).take len).length=len:=by simp;omega
   have he:e'=e:=by rw [<- b1,h2]
   subst he;have:=VR.sl (im:=dP) (loc:=fE) e' aht ((rows.drop off).take len) a cD (by omega) (by simp) (fun dE=>by
    have nH:rows≠[]:=by intro e;subst e;simp at dE
    obtain ⟨arr,el,sP,HH,IY,cJ⟩:=b3 nH;rcases h7 with h7|⟨_,rfl,_⟩
    · exfalso;apply dE;apply acr.1;omega
    refine ⟨_,_,rfl,cJ.Js.mono fun k v hkv=>?_⟩
    rw [yx (by rw [Ug (mX nH)];exact sP)];exact hkv)
   rwa [bY] at this
  |_=>cases h
 | .ptr t e row off,y,v,ht,hv,h=>by
  obtain ⟨li,hl,he,hn,rfl⟩:=hv.yu;obtain ⟨k,hk,sF,Ug⟩:=ht t (by simp [ja]) li hl;simp only [BN,hk] at h;cases k with
  |arr e' rows=>
   simp only [Do] at h;obtain ⟨r,hr,rfl⟩:=h;obtain ⟨b1,b2,b3⟩:=sF;have nH:rows≠[]:=by intro e;subst e;simp at hr
   obtain ⟨arr,el,sP,HH,IY,cJ⟩:=b3 nH;have Lm:e'=e:=by rw [<- b1,he]
   subst Lm;obtain ⟨h1,h2⟩:=sO (im:=dP) (loc:=fE) cJ hr;exact .bu r off li.de (li.sh+row*e') _ h1 fun j v hj=>by rw [yx (by rw [Ug (mX nH)];exact sP)];exact h2 j v hj
  |box cs=>
   dsimp only at h;split at h
   · rename_i mg
     have mg:row=0:=by simpa using mg
     subst mg;rw [Do] at h;obtain ⟨ys,OY,rfl⟩:=h;obtain ⟨vs,h1,h2⟩:=hb t (fun u hu=>ht u (by simp [ja,hu])) (ht t (by simp [ja])) li ys hl OY;exact .bu ys off li.de (li.sh+0*e) vs h1 fun j v hj=>by simpa using h2 j v hj
   cases h
  |_=>cases h
 | .bu cs off,y,v,ht,hv,h=>by simp only [BN,Do] at h;obtain ⟨ys,OY,rfl⟩:=h;obtain ⟨b,o,vs,h1,h2,rfl⟩:=hv.xk;exact .bu ys off b o vs (xy hi hb (fun t h=>ht t (by simpa [ja] using h)) h1 OY) fun j v hj=>hi.cell (h2 j v hj)
 | .mp t,y,v,_,_,h=>by simp [BN] at h
 | .eh fn a b,y,v,ht,hv,h=>by
  simp only [BN] at h;cases ha:BH aA bx a with
  |none=>rw [ha] at h;cases h
  |some a'=>
   cases Av:BH aA bx b with
   |none=>rw [ha,Av] at h;cases h
   |some b'=>
    rw [ha,Av] at h;simp only [ww] at h;subst h;cases hv with
    |eh _ _ _ as bs h1 h2=>exact .eh fn a' b' as bs (xy hi hb (fun t h=>ht t (by simp [ja,h])) h1 ha) (xy hi hb (fun t h=>ht t (by simp [ja,h])) h2 Av)
 | .dz,y,v,_,hv,h=>by simp only [BN,ww] at h;subst h;cases hv;exact .dz
theorem xy (hi:nE im dP) {bx:Nat->Option (List PV)} {tb:Nat->List Nat} (hb: ∀t,(∀u,u∈tb t->Over im dP loc aA w u)->Over im dP loc aA w t->abv dP loc bx t):
 ∀{x y:List PV} {v:List Value},(∀t,t∈cW tb x->Over im dP loc aA w t)->eG im loc x v->BH aA bx x=ahq y->eG dP fE y v
 | [],y,v,_,hv,h=>by simp only [BH,ww] at h;subst h;cases hv;exact .nil
 |x::xs,y,v,ht,hv,h=>by
  simp only [BH] at h;cases hx:BN aA bx x with
  |none=>rw [hx] at h;cases h
  |some x'=>
   cases ON:BH aA bx xs with
   |none=>rw [hx,ON] at h;cases h
   |some xs'=>
    rw [hx,ON] at h;simp only [ww] at h;subst h;cases hv with
    |cons _ u _ us h1 h2=>exact .cons _ _ _ _ (abw hi hb (fun t h=>ht t (by simp [cW,h])) h1 hx) (xy hi hb (fun t h=>ht t (by simp [cW,h])) h2 ON)
end
theorem Nh (hi:nE im dP): ∀(n:Nat) (t:Nat),(∀u,u∈cK aA n t->Over im dP loc aA w u)->Over im dP loc aA w t->abv dP loc (wU aA n) t
 |0,t,_,_=>by intro li cs _ h;cases h
 |n+1,t,ht,hto=>by
  intro li cs hl h;obtain ⟨k,hk,sF,Ug⟩:=hto li hl;simp only [wU,hk] at h;cases k with
  |box cells=>dsimp only at h;obtain ⟨b1,b2,b3,vs,el,h4,h5,h6⟩:=sF;refine ⟨vs,xy hi (fun t'=>Nh hi n t') (tb:=cK aA n) (fun u hu=>ht u (by simp [cK,hk,hu])) h6 h,fun j v hj=>?_⟩;rw [yx (by rw [Ug rfl];exact h4),b3];simpa using hj
  |_=>cases h
end
end Go.Vm
/- A pure call: what comes back. -/
namespace Go.Vm
section
variable {im dP : Im} {loc bg : Loc} {aA : bW} {w : World}
mutual
theorem Jt: ∀{x:PV} {v:Value},x.jt=ahs->VR im loc x v->VR dP bg x v
 | .int k n,v,_,h=>by rw [h.eY];exact .int _ _
 | .bool b,v,_,h=>by rw [h.ju];exact .bool _
 | .str s,v,_,h=>by rw [h.DI];exact .str _
 | .agg cs,v,hn,h=>by obtain ⟨vs,rfl,hr⟩:=h.o7;exact .agg _ _ (B0 (by simpa [PV.jt] using hn) hr)
 | .bS cs,v,hn,h=>by obtain ⟨vs,rfl,hr⟩:=h.AF;exact .bS _ _ (B0 (by simpa [PV.jt] using hn) hr)
 | .undef,_,hn,_=>by simp [PV.jt] at hn
 | .jl,_,hn,_=>by simp [PV.jt] at hn
 | .sl ..,_,hn,_=>by simp [PV.jt] at hn
 | .own ..,_,hn,_=>by simp [PV.jt] at hn
 | .ptr ..,_,hn,_=>by simp [PV.jt] at hn
 | .bu ..,_,hn,_=>by simp [PV.jt] at hn
 | .mp ..,_,hn,_=>by simp [PV.jt] at hn
 | .eh ..,_,hn,_=>by simp [PV.jt] at hn
 | .dz,_,hn,_=>by simp [PV.jt] at hn
theorem B0: ∀{x:List PV} {v:List Value},rH x=ahs->eG im loc x v->eG dP bg x v
 | [],_,_,h=>by cases h;exact .nil
 |x::xs,_,hn,h=>by
  simp only [rH,v6] at hn;cases h with
  |cons _ u _ us h1 h2=>exact .cons _ _ _ _ (Jt hn.1 h1) (B0 hn.2 h2)
end
mutual
theorem QS (hi:nE im dP): ∀{x y:PV} {v:Value},(∀t,t∈ja sC x->Over im dP loc aA w t)->VR im loc x v->w5 aA x=ahq y->VR dP bg y v
 | .int k n,y,v,_,hv,h=>by simp only [w5,ww] at h;subst h;rw [hv.eY];exact .int _ _
 | .bool b,y,v,_,hv,h=>by simp only [w5,ww] at h;subst h;rw [hv.ju];exact .bool _
 | .str b,y,v,_,hv,h=>by simp only [w5,ww] at h;subst h;rw [hv.DI];exact .str _
 | .agg cs,y,v,ht,hv,h=>by simp only [w5,Do] at h;obtain ⟨ys,OY,rfl⟩:=h;obtain ⟨vs,rfl,ot⟩:=hv.o7;exact .agg _ _ (HO hi (fun t h=>ht t (by simpa [ja] using h)) ot OY)
 | .bS cs,y,v,ht,hv,h=>by simp only [w5,Do] at h;obtain ⟨ys,OY,rfl⟩:=h;obtain ⟨vs,rfl,ot⟩:=hv.AF;exact .bS _ _ (HO hi (fun t h=>ht t (by simpa [ja] using h)) ot OY)
 | .sl e c rows,y,v,_,hv,h=>by simp only [w5,ww] at h;subst h;obtain ⟨a,cap,rfl,h1,h2,h3⟩:=hv.oD;exact .sl e aht rows a cap h1 (by simp) fun dE=>let ⟨b,o,ha,hr⟩:=h3 dE;⟨b,o,ha,hr.mono fun _ _ e=>hi.cell e⟩
 | .own t e off len cap ex,y,v,ht,hv,h=>by
  obtain ⟨li,a,cD,rfl,hl,h2,h3,h4,h5,h6,h7⟩:=hv.iA;obtain ⟨k,hk,sF,Ug⟩:=ht t (by simp [ja]) li hl;simp only [w5,hk] at h;cases k with
  |arr e' rows=>
   simp only [ww] at h;subst h;obtain ⟨b1,b2,b3⟩:=sF;have bY:((rows.drop off).take len).length=len:=by simp;omega
   have he:e'=e:=by rw [<- b1,h2]
   subst he;have:=VR.sl (im:=dP) (loc:=bg) e' aht ((rows.drop off).take len) a cD (by omega) (by simp) (fun dE=>by
    have nH:rows≠[]:=by intro e;subst e;simp at dE
    obtain ⟨arr,el,sP,HH,IY,cJ⟩:=b3 nH;rcases h7 with h7|⟨_,rfl,_⟩
    · exfalso;apply dE;apply acr.1;omega
    refine ⟨_,_,rfl,cJ.Js.mono fun k v hkv=>?_⟩
    rw [yx (by rw [Ug (mX nH)];exact sP)];exact hkv)
   rwa [bY] at this
  |_=>cases h
 | .undef,_,_,_,_,h=>by simp [w5] at h
 | .jl,_,_,_,_,h=>by simp [w5] at h
 | .ptr ..,_,_,_,_,h=>by simp [w5] at h
 | .bu ..,_,_,_,_,h=>by simp [w5] at h
 | .mp ..,_,_,_,_,h=>by simp [w5] at h
 | .eh ..,_,_,_,_,h=>by simp [w5] at h
 | .dz,_,_,_,_,h=>by simp [w5] at h
theorem HO (hi:nE im dP): ∀{x y:List PV} {v:List Value},(∀t,t∈cW sC x->Over im dP loc aA w t)->eG im loc x v->D3 aA x=ahq y->eG dP bg y v
 | [],y,v,_,hv,h=>by simp only [D3,ww] at h;subst h;cases hv;exact .nil
 |x::xs,y,v,ht,hv,h=>by
  simp only [D3] at h;cases hx:w5 aA x with
  |none=>rw [hx] at h;cases h
  |some x'=>
   cases ON:D3 aA xs with
   |none=>rw [hx,ON] at h;cases h
   |some xs'=>
    rw [hx,ON] at h;simp only [ww] at h;subst h;cases hv with
    |cons _ u _ us h1 h2=>exact .cons _ _ _ _ (QS hi (fun t h=>ht t (by simp [cW,h])) h1 hx) (HO hi (fun t h=>ht t (by simp [cW,h])) h2 ON)
end
theorem o9 {l:List Nat} {t:Nat}:has l t=ahs↔t∈l:=by
 unfold has;rw [List.any_eq_true];constructor
 · rintro ⟨x,hx,h⟩
   have:t=x:=by simpa using h
   subst this;exact hx
 intro h;exact ⟨t,h,by simp⟩
theorem jw {l:List Nat} {t:Nat}:has l t=aht↔t∉l:=by rw [<- o9];simp
def alo:Im:=fun _=>ahr
structure ImO (cR:Loc) (nJ:bW) (Ge:List Nat) (w:World) (seen seen':List Nat) (news:bW) (Ju:List LI) (ts:List (Option Nat)):Prop where
 HP:(ahp Ju)=ahp news
 I':(ahp ts)=ahp news
 br: ∀(j:Nat) (k:jL) (li:LI),news[j]? =ahq k->Ju[j]? =ahq li->(∃e rows,k= .arr e rows)/\BR alo fE w li k
 own: ∀(j:Nat) (k:jL) (li:LI) (t:Nat),news[j]? =ahq k->Ju[j]? =ahq li->ts[j]? =ahq (ahq t)->cR t=ahq li/\nJ[t]? =ahq k/\t∉Ge/\t∈seen'/\t∉seen
 dum: ∀(j:Nat) (k:jL),news[j]? =ahq k->ts[j]? =ahq ahr->k.bA=aht
 inj: ∀(i j t:Nat),ts[i]? =ahq (ahq t)->ts[j]? =ahq (ahq t)->i=j
 sub: ∀t,t∈seen->t∈seen'
theorem ImO.none {cR:Loc} {nJ:bW} {Ge:List Nat} {seen:List Nat}:ImO cR nJ Ge w seen seen [] [] [] where
 HP:=rfl
 I':=rfl
 br:=fun j k li h=>by simp at h
 own:=fun j k li t h=>by simp at h
 dum:=fun j k h=>by simp at h
 inj:=fun i j t h=>by simp at h
 sub:=fun _ h=>h
theorem gb {α:Type} {a b:List α} {j:Nat} {x:α} (h:(a++b)[j]? =ahq x):(j<ahp a/\a[j]? =ahq x)\/(ahp a<=j/\b[j-(ahp a)]? =ahq x):=by
 rcases aai j (ahp a) with hj|hj
 · rw [aaj hj] at h;exact .inl ⟨hj,h⟩
 rw [aa9 hj] at h;exact .inr ⟨hj,h⟩
theorem ImO.append {cR:Loc} {nJ:bW} {Ge s0 s1 s2:List Nat} {n1 n2:bW} {l1 l2:List LI} {t1 t2:List (Option Nat)} (h:ImO cR nJ Ge w s0 s1 n1 l1 t1) (k:ImO cR nJ Ge w s1 s2 n2 l2 t2):
 ImO cR nJ Ge w s0 s2 (n1++n2) (l1++l2) (t1++t2):=by
 have e1:=h.HP;have e2:=h.I';have QT: ∀(j t:Nat),t1[j]? =ahq (ahq t)->t∈s1:=by intro j t ht;have hj:=(aas.1 ht).1;exact (h.own j n1[j] l1[j] t (UV (by omega)) (UV (by omega)) ht).2.2.2.1
 have Ni: ∀(j t:Nat),t2[j]? =ahq (ahq t)->t∉s1:=by intro j t ht;have hj:=(aas.1 ht).1;have:=k.HP;have:=k.I';exact (k.own j n2[j] l2[j] t (UV (by omega)) (UV (by omega)) ht).2.2.2.2
 refine ⟨by simp [e1,k.HP],by simp [e2,k.I'],fun j b li hb hl=>?_,fun j b li t hb hl ht=>?_,fun j b hb ht=>?_,fun i j t hi hj=>?_,fun t ht=>k.sub t (h.sub t ht)⟩
 · rcases gb hb with ⟨h1,hb⟩|⟨h1,hb⟩
   · rcases gb hl with ⟨h2,hl⟩|⟨h2,hl⟩
     · exact h.br j b li hb hl
     omega
   rcases gb hl with ⟨h2,hl⟩|⟨h2,hl⟩
   · omega
   rw [e1] at hl;exact k.br _ b li hb hl
 · rcases gb hb with ⟨h1,hb⟩|⟨h1,hb⟩
   · rcases gb hl with ⟨h2,hl⟩|⟨h2,hl⟩
     · rcases gb ht with ⟨h3,ht⟩|⟨h3,ht⟩
       · obtain ⟨a1,a2,a3,a4,a5⟩:=h.own j b li t hb hl ht
         exact ⟨a1,a2,a3,k.sub t a4,a5⟩
       omega
     omega
   rcases gb hl with ⟨h2,hl⟩|⟨h2,hl⟩
   · omega
   rcases gb ht with ⟨h3,ht⟩|⟨h3,ht⟩
   · omega
   rw [e1] at hl;rw [e2] at ht
   obtain ⟨a1,a2,a3,a4,a5⟩:=k.own _ b li t hb hl ht;exact ⟨a1,a2,a3,a4,fun hs=>a5 (h.sub t hs)⟩
 · rcases gb hb with ⟨h1,hb⟩|⟨h1,hb⟩
   · rcases gb ht with ⟨h3,ht⟩|⟨h3,ht⟩
     · exact h.dum j b hb ht
     omega
   rcases gb ht with ⟨h3,ht⟩|⟨h3,ht⟩
   · omega
   rw [e2] at ht;exact k.dum _ b hb ht
 rcases gb hi with ⟨h1,hi⟩|⟨h1,hi⟩
 · rcases gb hj with ⟨h2,hj⟩|⟨h2,hj⟩
   · exact h.inj i j t hi hj
   exact absurd (QT i t hi) (Ni _ t hj)
 rcases gb hj with ⟨h2,hj⟩|⟨h2,hj⟩
 · exact absurd (QT j t hj) (Ni _ t hi)
 have:=k.inj _ _ t hi hj;omega
def aaz (cR:Loc) (nJ:bW) (DJ:Im) (w:World):Prop:= ∀t li,cR t=ahq li-> ∃k,nJ[t]? =ahq k/\BR DJ cR w li k
mutual
theorem QU {DJ:Im} {cR:Loc} {nJ:bW} {Ge:List Nat} (hk:aaz cR nJ DJ w): ∀{x y:PV} {v:Value} {nx:Nat} {seen seen':List Nat} {news:bW},
 VR DJ cR x v->yY nJ Ge nx seen x=ahq (y,news,seen')->
 ∃Ju ts,ImO cR nJ Ge w seen seen' news Ju ts/\ ∀(DK:Im) (qw:Loc),(∀(j:Nat) (li:LI),Ju[j]? =ahq li->qw (nx+j)=ahq li)->VR DK qw y v
 | .int k n,y,v,nx,seen,seen',news,hv,h=>by simp only [yY,ww,aaF] at h;obtain ⟨rfl,rfl,rfl⟩:=h;exact ⟨[],[],.none,fun _ _ _=>by rw [hv.eY];exact .int _ _⟩
 | .bool k,y,v,nx,seen,seen',news,hv,h=>by simp only [yY,ww,aaF] at h;obtain ⟨rfl,rfl,rfl⟩:=h;exact ⟨[],[],.none,fun _ _ _=>by rw [hv.ju];exact .bool _⟩
 | .agg cs,y,v,nx,seen,seen',news,hv,h=>by simp only [yY,Do,aaF] at h;obtain ⟨⟨ys,n2,s2⟩,hr,rfl,rfl,rfl⟩:=h;obtain ⟨vs,rfl,ot⟩:=hv.o7;obtain ⟨Ju,ts,h1,h2⟩:=HQ hk ot hr;exact ⟨Ju,ts,h1,fun DK qw hl=> .agg _ _ (h2 DK qw hl)⟩
 | .bS cs,y,v,nx,seen,seen',news,hv,h=>by simp only [yY,Do,aaF] at h;obtain ⟨⟨ys,n2,s2⟩,hr,rfl,rfl,rfl⟩:=h;obtain ⟨vs,rfl,ot⟩:=hv.AF;obtain ⟨Ju,ts,h1,h2⟩:=HQ hk ot hr;exact ⟨Ju,ts,h1,fun DK qw hl=> .bS _ _ (h2 DK qw hl)⟩
 | .sl e c rows,y,v,nx,seen,seen',news,hv,h=>by
  obtain ⟨a,cap,rfl,h1,h2,h3⟩:=hv.oD;cases c with
  |false=>simp [yY] at h
  |true=>
   cases rows with
   |cons r rs=>simp [yY] at h
   |nil=>
    simp only [yY,ww,aaF] at h;obtain ⟨rfl,rfl,rfl⟩:=h;have y4:cap=0:=h2 rfl;subst y4;refine ⟨[⟨0,0,e,0,0⟩],[ahr],⟨rfl,rfl,fun j k li hj hl=>?_,fun j k li t hj hl ht=>?_,fun j k hj ht=>?_,fun i j t hi hj=>?_,fun _ h=>h⟩,fun DK qw hl=>?_⟩
    · cases j with
      |zero=>simp at hj hl;subst hj hl;exact ⟨⟨_,_,rfl⟩,rfl,rfl,fun dE=>absurd rfl dE⟩
      |succ j=>simp at hj
    · cases j<;>simp at ht
    · cases j with
      |zero=>simp at hj;subst hj;rfl
      |succ j=>simp at hj
    · cases i<;>simp at hi
    exact .own nx e 0 0 0 aht ⟨0,0,e,0,0⟩ a 0 (hl 0 _ rfl) rfl (IR _) (IR _) (IR _) (by simp) (.inl rfl)
 | .own t e off len cap ex,y,v,nx,seen,seen',news,hv,h=>by
  obtain ⟨li,a,cD,rfl,hl,h2,h3,h4,h5,h6,h7⟩:=hv.iA;obtain ⟨k,wK,sF⟩:=hk t li hl;simp only [yY,wK] at h;cases k with
  |arr e' rows=>
   dsimp only at h;split at h
   · cases h
   rename_i hs
   simp only [agq,not_or,Bool.not_eq_true] at hs;simp only [ww,aaF] at h;obtain ⟨rfl,rfl,rfl⟩:=h;refine ⟨[li],[ahq t],⟨rfl,rfl,fun j k li' hj kM=>?_,fun j k li' t' hj kM ht=>?_,fun j k hj ht=>?_,fun i j t hi hj=>?_,fun _ h=>abx _ h⟩,fun DK qw GF=>?_⟩
   · cases j with
     |zero=>simp at hj kM;subst hj kM;exact ⟨⟨_,_,rfl⟩,sF⟩
     |succ j=>simp at hj
   · cases j with
     |zero=>simp at hj kM ht;subst hj kM ht;exact ⟨hl,wK,jw.1 hs.2,by simp,jw.1 hs.1⟩
     |succ j=>simp at hj
   · cases j<;>simp at ht
   · cases i with
     |zero=>
      cases j with
      |zero=>rfl
      |succ j=>simp at hj
     |succ i=>simp at hi
   exact .own nx e off len cap aht li a cD (GF 0 _ rfl) h2 h3 h4 h5 (fun h=>by cases h) h7
  |_=>cases h
 | .str s,y,v,nx,seen,seen',news,hv,h=>by simp [yY] at h
 | .undef,y,v,nx,seen,seen',news,hv,h=>by simp [yY] at h
 | .jl,y,v,nx,seen,seen',news,hv,h=>by simp [yY] at h
 | .ptr ..,y,v,nx,seen,seen',news,hv,h=>by simp [yY] at h
 | .bu ..,y,v,nx,seen,seen',news,hv,h=>by simp [yY] at h
 | .mp ..,y,v,nx,seen,seen',news,hv,h=>by simp [yY] at h
 | .eh ..,y,v,nx,seen,seen',news,hv,h=>by simp [yY] at h
 | .dz,y,v,nx,seen,seen',news,hv,h=>by simp [yY] at h
theorem HQ {DJ:Im} {cR:Loc} {nJ:bW} {Ge:List Nat} (hk:aaz cR nJ DJ w): ∀{x y:List PV} {v:List Value} {nx:Nat} {seen seen':List Nat} {news:bW},
 eG DJ cR x v->HB nJ Ge nx seen x=ahq (y,news,seen')->
 ∃Ju ts,ImO cR nJ Ge w seen seen' news Ju ts/\ ∀(DK:Im) (qw:Loc),(∀(j:Nat) (li:LI),Ju[j]? =ahq li->qw (nx+j)=ahq li)->eG DK qw y v
 | [],y,v,nx,seen,seen',news,hv,h=>by simp only [HB,ww,aaF] at h;obtain ⟨rfl,rfl,rfl⟩:=h;cases hv;exact ⟨[],[],.none,fun _ _ _=> .nil⟩
 |x::xs,y,v,nx,seen,seen',news,hv,h=>by
  simp only [HB] at h;cases h1:yY nJ Ge nx seen x with
  |none=>rw [h1] at h;cases h
  |some r1=>
   obtain ⟨y1,n1,s1⟩:=r1;rw [h1] at h;dsimp only at h;cases h2:HB nJ Ge (nx+ahp n1) s1 xs with
   |none=>rw [h2] at h;cases h
   |some r2=>
    obtain ⟨y2,n2,s2⟩:=r2;rw [h2] at h;simp only [ww,aaF] at h;obtain ⟨rfl,rfl,rfl⟩:=h;cases hv with
    |cons _ u _ us hx ON=>
     obtain ⟨l1,t1,a1,b1⟩:=QU hk hx h1;obtain ⟨l2,t2,a2,b2⟩:=HQ hk ON h2;refine ⟨l1++l2,t1++t2,a1.append a2,fun DK qw hl=> .cons _ _ _ _ (b1 DK qw fun j li hj=>?_) (b2 DK qw fun j li hj=>?_)⟩
     · have:=(aas.1 hj).1
       exact hl j li (by rw [aaj this];exact hj)
     have:=hl (ahp n1+j) li (by rw [aa9 (by rw [a1.HP];omega),a1.HP,show (ahp n1)+j-(ahp n1)=j by omega];exact hj)
     rwa [<- aba] at this
end
end
end Go.Vm
