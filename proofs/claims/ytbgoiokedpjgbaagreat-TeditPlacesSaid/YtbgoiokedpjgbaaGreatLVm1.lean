/- The logical machine, part 1: VmDef, VmWp, VmChk, VmRel, VmRen, VmOps1, VmEff, VmOps2, VmOps3, VmOps4, VmOps5, VmOps6, VmOps7, VmOps8, VmOps9, VmEq, VmMap, VmOpsA, VmCall, VmCall2. -/
import GoSem.Dispatch
import Derived.Laws.StructEq
import Derived.Calls
import Derived.Below
import Derived.Laws.CopyRow
import Derived.Deep.AppendSrc
import Derived.Deep.Upon
import Derived.WideKeyRuns
open Bool renaming and_eq_true->ut,false_eq_true->ae0,not_eq_true'->aeu,or_eq_true->al8,true_and->amx,and_true->amz,true->amH,false->amI
open Option.some renaming injEq->v6
open Go.Result renaming andThen_ok->ww
open Option renaming map_eq_some_iff->AC,getD_some->aet,isSome_iff_exists->aeE,getD_none->afn,isSome_some->am1,map_some->amq,any_some->amt,some->amF,none->amG
open Go.Sem renaming run_bind->Do,run_pure->EQ
open Nat renaming beq->F0s,le_refl->If,add_mul->PP,mul_le_mul_right->UV,lt_or_ge->acK,ble->ae3,beq_eq->aeA,ble_eq->af3,add_assoc->af9,blt->afe,le_max_right->afO,zero_add->ajD,le_max_left->al2,eq_zero_or_pos->am6,min_eq_left->amr,mul_eq_zero->ams,mul_le_mul->amu,add_zero->amB,zero_mul->amC
open Array renaming getElem?_eq_some_iff->IR,getElem?_setIfInBounds->ae5,ext'->aew,length_toList->aeH,map->afc,range->afI,toList_map->age,getElem?_eq_none->ajB,getElem?_push->alX
open List renaming getElem?_eq_none->M2,getElem?_eq_getElem->NE,getElem?_append_right->acl,getElem?_append_left->adc,mem_singleton->aem,getElem?_eq_some_iff->aev,replicate->aex,getElem?_toArray->aeB,mem_append->aeC,flatMap_cons->aeD,length_cons->aeJ,length_append->aeZ,size_toArray->af0,getElem?_take_of_lt->af5,mem_cons->afa,foldl_cons->afb,drop_eq_nil_of_le->afm,mem_of_getElem?->afo,mem_iff_getElem->afp,mem_cons_of_mem->aft,getElem?_drop->afu,extract_eq_take_drop->afv,ext_getElem?->afA,flatMap_nil->afX,getElem?_cons_zero->afY,length_take->agd,length_eq_zero_iff->aig,getElem?_set_self->ajC,take_of_length_le->ajE,length_nil->al7,take_append_drop->alt,getElem?_set_ne->alu,flatMap_append->alZ,mem_replicate->am7,append_assoc->am8,isEmpty_iff->amn,foldlM_cons->amo,all_eq_true->amp,drop_drop->amv,mapM_cons->amw,map_cons->amy,getD->amA,length->amD,length->amE
open Prod.mk renaming injEq->aeF
open Int renaming toNat_natCast->afK
open Decidable renaming decide->amJ
/- Definitions of a logical machine over pure values: what it computes is tied to the model's runs in VmSound. -/
namespace Go.Vm
universe u
theorem lw{α:Sort u}{a b:α}:cond amH a b=a:=rfl
theorem ol{α:Sort u}{a b:α}:cond amI a b=b:=rfl
theorem pp{c:Prop}{h:Decidable c}(p:c){α:Sort u}{t e:α}:ite c t e=t:=if_pos p
theorem rc{c:Prop}{h:Decidable c}(p:¬c){α:Sort u}{t e:α}:ite c t e=e:=if_neg p
inductive PV where
 |undef
 |jy
 |int (k:IntKind) (n:Int)
 |bool (b:Bool)
 |str (s:ByteArray)
 |agg (cs:List PV)
 |cu (cs:List PV)
 |sl (esz:Nat) (qA:Bool) (rows:List (List PV))
 |own (t esz off len cap:Nat) (ex:Bool)
 |ptr (t esz row off:Nat)
 |bI (cells:List PV) (off:Nat)
 |mp (t:Nat)
 |eL (fn:FuncId) (fst cap:List PV)
 |dU
instance:Inhabited PV:=⟨.undef⟩
abbrev Row:=List PV
inductive jR where
 |arr (esz:Nat) (rows:List Row)
 |box (cells:List PV)
 |map (es:List (PV×PV))
 |dead
abbrev cK:=List jR
abbrev Env:=List (Nat×PV)
inductive fy where
 |t (n:Nat)
 |c (v:PV)
inductive CM where
 |Wf|own|shr|fp
inductive kS where
 |SG (x:fy)
 |pick (c a b:fy)
 |bin (op:BinOp) (x y:fy)
 |Kf (neg:Bool) (x y:fy)
 |eqc (n:Nat) (neg:Bool) (x y:fy)
 |un (op:UnOp) (x:fy)
 |conv (k:IntKind) (x:fy)
 |len (x:fy)
 |Nh (n:Nat)
 |box (x:fy)
 |alloc (cells:List PV)
 |build (zero:List PV) (parts:List (Nat×Nat×fy))
 |AD (esz n:Nat) (zero:Row) (parts:List (Nat×fy))
 |CT (x y:fy)
 |load (agg:Option Nat) (p:fy)
 |store (sz:Nat) (p v:fy)
 |Kg (x:fy)
 |Kh (off:Nat) (p:fy)
 |jS (agg:Option Nat) (off:Nat) (x:fy)
 |Ki (esz:Nat) (x i:fy)
 |CU (n esz:Nat) (p i:fy)
 |idx (n esz:Nat) (agg:Option Nat) (x i:fy)
 |Kj (x i:fy)
 |Q1 (esz:Nat) (x:fy) (lo hi mx:Option fy)
 |mks (esz:Nat) (zero:Row) (len cap:fy)
 |mkf (fn:FuncId) (fst cap:List fy)
 |mkm (z:Option PV)
 |lookup (n:Option Nat) (zero:PV) (ok:Bool) (m k:fy)
 |Ip (n:Option Nat) (m k v:fy)
 |ext (i:Nat) (x:fy)
 |append (esz:Nat) (x y:fy)
 |copy (esz:Nat) (x y:fy)
 |clear (esz:Nat) (zero:Row) (x:fy)
 |mm (isMax:Bool) (x:fy) (xs:List fy)
 |call (m:CM) (f:FuncId) (args:List fy)
 |wN (x:fy) (args:List fy)
 |bad
structure bS where
 dst:Option Nat
 op:kS
 guard:Option (Nat×Bool)
inductive jT where
 |skip
 |region (draw:Option (List Nat)) (ops:List bS) (fN:List Nat)
 |seq (a b:jT)
 |cond (c:fy) (a b:jT)
 |block (id:Nat) (b:jT)
 |loop (live:List (Nat×Option Nat)) (b:jT)
 |exit (id:Nat)
 |ret
inductive RV where
 |tmp (t:Nat)
 |cell (t:Nat) (agg:Option Nat)
structure aK where
 CV:Nat
 code:jT
 res:List RV
inductive Ent where
 |code (x:aK)
 |j0 (Pc:Bool) (f:List PV->Option (PV×cK))
 |GI (f:List PV->cK->List Nat->Option (PV×cK×List Nat))
abbrev mJ:=FuncId->Option Ent
structure St where
 env:Env
 aE:cK
 fz:List Nat
 kn:Nat
inductive hJ where
 |normal
 |exit (id:Nat)
 |ret
def lk (t:Nat):Env->PV
 | []=> .undef
 |(s,v)::r=>if F0s s t then v else lk t r
def fy.ev (e:Env):fy->PV
 | .t n=>lk n e
 | .c v=>v
def PV.pS:PV->Bool
 | .undef| .jy| .agg _| .cu _=>amI
 |_=>amH
def PV.plain:PV->Bool
 | .int _ _| .bool _| .str _=>amH
 |_=>amI
def PV.cells:PV->List PV
 | .agg cs=>cs
 |v=>[v]
def PV.stored (v:PV):Option (List PV):=if v.cells.all PV.pS then amF v.cells else amG
def PV.cL (v:PV):Option (List PV):=if v.cells.all PV.plain then amF v.cells else amG
def part (agg:Option Nat) (off:Nat) (cs:List PV):Option PV:=
 match agg with
 |some s=>if off+s<=(amE cs) then amF (.agg ((cs.drop off).take s)) else amG
 |none=>cs[off]?
def nH (off:Nat) (new old:List PV):List PV:=old.take off++new++old.drop (off+amE new)
def ae (k:IntKind) (n:Int):Int:=
 match k,n with
 | .i64,.ofNat m=>if afe m 9223372036854775808 then .ofNat m else IntKind.wrap .i64 n
 | .i64,.negSucc m=>if afe m 9223372036854775808 then .negSucc m else IntKind.wrap .i64 n
 | .u64,.ofNat m=> .ofNat (Nat.mod m 18446744073709551616)
 |k,n=>IntKind.wrap k n
def arith (op:BinOp) (k:IntKind) (a b:Int):Option PV:=
 match op with
 | .add=>amF (.int k (ae k (a+b)))
 | .sub=>amF (.int k (ae k (a-b)))
 | .mul=>amF (.int k (ae k (a*b)))
 | .quo=>if b=0 then amG else amF (.int k (ae k (a.tdiv b)))
 | .rem=>if b=0 then amG else amF (.int k (a.tmod b))
 | .and=>amF (.int k (k.wrap (BitVec.ofInt k.bits a&&&BitVec.ofInt k.bits b).toNat))
 | .or=>amF (.int k (k.wrap (BitVec.ofInt k.bits a|||BitVec.ofInt k.bits b).toNat))
 | .xor=>amF (.int k (k.wrap (BitVec.ofInt k.bits a^^^BitVec.ofInt k.bits b).toNat))
 | .andNot=>amF (.int k (k.wrap (BitVec.ofInt k.bits a&&& ~~~ BitVec.ofInt k.bits b).toNat))
 | .eql=>amF (.bool (a==b))
 | .neq=>amF (.bool (a !=b))
 | .lss=>amF (.bool (amJ (a<b)))
 | .leq=>amF (.bool (amJ (a<=b)))
 | .gtr=>amF (.bool (amJ (a>b)))
 | .geq=>amF (.bool (amJ (a>=b)))
 | .shl| .shr=>amG
def BS (op:BinOp) (k:IntKind) (a b:Int):Option PV:=
 if b<0 then amG else
 let n:=min b.toNat k.bits
 match op with
 | .shl=>amF (.int k (k.wrap (a*2^n)))
 | .shr=>amF (.int k (a.fdiv (2^n)))
 |_=>amG
def fu:IntKind->IntKind->Bool
 | .i8,.i8| .i16,.i16| .i32,.i32| .i64,.i64| .u8,.u8| .u16,.u16| .u32,.u32| .u64,.u64=>amH
 |_,_=>amI
def Q2 (op:BinOp) (x y:PV):Option PV:=
 match x,y with
 | .int k a,.int l b=>
  match op with
  | .shl=>BS .shl k a b
  | .shr=>BS .shr k a b
  |op=>if fu k l then arith op k a b else amG
 |_,_=>amG
def qB:PV->PV->Option Bool
 | .int k a,.int l b=>if fu k l then amF (a==b) else amG
 |_,_=>amG
def dB:List PV->List PV->Option Bool
 | [],[]=>amF amH
 |x::xs,y::ys=>
  match qB x y with
  |some amH=>dB xs ys
  |some amI=>amF amI
  |none=>amG
 |_,_=>amG
def unE (op:UnOp) (x:PV):Option PV:=
 match op,x with
 | .neg,.int k n=>amF (.int k (ae k (0-n)))
 | .not,.bool b=>amF (.bool !b)
 |_,_=>amG
def rowsOf (aE:cK) (esz:Nat):PV->Option (List Row)
 | .sl e _ rows=>match rows with
  | []=>amF []
  |_=>if F0s e esz then amF rows else amG
 | .own t e off len _ _=>if F0s e esz then (match aE[t]? with
  |some (.arr _ rows)=>amF ((rows.drop off).take len)
  |_=>amG) else amG
 |_=>amG
def iO:PV->List Nat
 | .own t _ _ _ _ _=>[t]
 |_=>[]
structure nI where
 v:PV
 news:cK:=[]
 wr:List (Nat×jR):=[]
 rd:List Nat:=[]
 fr:List Nat:=[]
def mW:List (Nat×Nat×PV)->List PV->Option (List PV)
 | [],cs=>amF cs
 |(off,sz,v)::r,cs=>
  match v.stored with
  |some w=>if F0s (amE w) sz&&ae3 (off+sz) (amE cs) then mW r (nH off w cs) else amG
  |none=>amG
def pT:List (Nat×PV)->List Row->Nat->Option (List Row)
 | [],rows,_=>amF rows
 |(i,v)::r,rows,esz=>
  match v.cL with
  |some w=>if F0s (amE w) esz&&afe i (amE rows) then pT r (rows.set i w) esz else amG
  |none=>amG
def jU:PV->Option Nat
 | .int _ n=>match n with
  | .ofNat m=>amF m
  | .negSucc _=>amG
 |_=>amG
def jz (n:Option Nat) (k:PV):Bool:=
 match n,k with
 |none,.int _ _=>amH
 |some n,.agg cs=>F0s (amE cs) n
 |_,_=>amI
def ft (n:Option Nat) (k:PV):List (PV×PV)->Nat->Option (Option Nat)
 | [],_=>amF amG
 |(a,_)::r,i=>
  if jz n a then
   match dB k.cells a.cells with
   |some amH=>amF (amF i)
   |some amI=>ft n k r (i+1)
   |none=>amG
  else amG
def dH:Nat:=1048576
def oJ (aE:cK) (agg:Option Nat):PV->Option nI
 | .ptr t _ row off=>match aE[t]? with
  |some (.arr _ rows)=>match rows[row]? with
   |some cs=>(part agg off cs).map fun v=>{v,rd:=[t]}
   |none=>amG
  |some (.box cs)=>if F0s row 0 then (part agg off cs).map fun v=>{v,rd:=[t]} else amG
  |_=>amG
 | .bI cs off=>(part agg off cs).map fun v=>{v}
 |_=>amG
def has (l:List Nat) (t:Nat):Bool:=l.any (F0s t)
def rM (aE:cK) (fz:List Nat) (sz:Nat) (v:PV):PV->Option nI
 | .ptr t _ row off=>match aE[t]? with
  |some (.arr e rows)=>match rows[row]?,v.cL with
   |some cs,amF w=>if F0s (amE w) sz&&ae3 (off+sz) (amE cs)&&!has fz t then
    amF {v:= .undef,wr:=[(t,.arr e (rows.set row (nH off w cs)))]} else amG
   |_,_=>amG
  |some (.box cs)=>match v.stored with
   |some w=>if F0s row 0&&F0s (amE w) sz&&ae3 (off+sz) (amE cs)&&!has fz t then
    amF {v:= .undef,wr:=[(t,.box (nH off w cs))]} else amG
   |none=>amG
  |_=>amG
 |_=>amG
def uv (esz:Nat):PV->Bool
 | .sl e _ rows=>F0s e esz||rows.isEmpty
 | .own _ e _ _ _ _=>F0s e esz
 |_=>amI
def qC (x:PV) (lo hi mx:Option Nat):Option PV:=
 match x with
 | .sl e qA rows=>
  let l:=lo.getD 0
  let h:=hi.getD (amE rows)
  match mx with
  |none=>if ae3 l h&&ae3 h (amE rows) then amF (.sl e (qA&&F0s h (amE rows)) ((rows.drop l).take (h-l))) else amG
  |some m=>if ae3 l h&&ae3 h m&&ae3 m (amE rows) then amF (.sl e (F0s h m) ((rows.drop l).take (h-l))) else amG
 | .own t e off len cap ex=>
  let l:=lo.getD 0
  let h:=hi.getD len
  match mx with
  |none=>if ae3 l h&&ae3 h cap then amF (.own t e (off+l) (h-l) (cap-l) ex) else amG
  |some m=>if ae3 l h&&ae3 h m&&ae3 m cap then amF (.own t e (off+l) (h-l) (m-l) amH) else amG
 |_=>amG
def kV:Nat->List Row->List Row->List Row
 |_,[],rows=>rows
 |i,w::r,rows=>kV (i+1) r (rows.set i w)
def iP (aE:cK) (fz:List Nat) (esz:Nat) (x y:PV):Option nI:=
 match rowsOf aE esz y with
 |none=>amG
 |some new=>
  match new with
  | []=>match x with
   | .sl _ qA rows=>if qA&&rows.isEmpty then amF {v:= .own (amE aE) esz 0 0 0 amI,news:=[.arr esz []],rd:=iO y} else amF {v:=x,rd:=iO y}
   | .own t _ _ len cap ex=>if F0s len 0&&F0s cap 0&&ex then amF {v:= .own (amE aE) esz 0 0 0 amI,news:=[.arr esz []],rd:=t::iO y} else amF {v:=x,rd:=iO y}
   |_=>amG
  |_=>
   let m:=amE new
   match x with
   | .sl e qA rows=>
    if qA&&(F0s e esz||F0s (amE rows) 0)&&ae3 (amE rows+m) dH then
     amF {v:= .own (amE aE) esz 0 (amE rows+m) (amE rows+m) amI,news:=[.arr esz (rows++new)],rd:=iO y}
    else amG
   | .own t e off len cap ex=>
    match aE[t]? with
    |some (.arr _ rows)=>
     if !Nat.beq e esz then amG
     else if ae3 (len+m) cap then
      if has fz t then amG else amF {v:= .own t e off (len+m) cap ex,wr:=[(t,.arr e (kV (off+len) new rows))],rd:=iO y}
     else if !Nat.ble (len+m) dH then amG
     else if ex then
      amF {v:= .own (amE aE) e 0 (len+m) (len+m) amI,news:=[.arr e ((rows.drop off).take len++new)],rd:=t::iO y}
     else if has fz t then amG
     else amF {v:= .own (amE aE) e 0 (len+m) (len+m) amI,news:=[.arr e ((rows.drop off).take len++new)],wr:=[(t,.dead)],rd:=iO y}
    |_=>amG
   |_=>amG
def mmE (isMax:Bool) (k:IntKind):Int->List PV->Option PV
 |a,[]=>amF (.int k a)
 |a,x::r=>match x with
  | .int l b=>if fu k l then mmE isMax k (if isMax then (if b>a then b else a) else (if b<a then b else a)) r else amG
  |_=>amG
def D' (e:Env) (l:List fy):List PV:=l.map (fy.ev e)
def sP (aE:cK) (n:Option Nat) (zero:PV) (ok:Bool) (m k:PV):Option nI:=
 match m with
 | .mp t=>match aE[t]? with
  |some (.map es)=>if jz n k then (match ft n k es 0 with
   |some (amF i)=>match es[i]? with
    |some p=>amF {v:=if ok then .cu [p.2,.bool amH] else p.2,rd:=[t]}
    |none=>amG
   |some amG=>amF {v:=if ok then .cu [zero,.bool amI] else zero,rd:=[t]}
   |none=>amG) else amG
  |_=>amG
 |_=>amG
def CW (aE:cK) (fz:List Nat) (n:Option Nat) (m k v:PV):Option nI:=
 match m with
 | .mp t=>match aE[t]? with
  |some (.map es)=>if jz n k&&!has fz t then (match k.cL,v.cL with
   |some _,amF _=>match ft n k es 0 with
    |some (amF i)=>amF {v:= .undef,wr:=[(t,.map (es.set i (k,v)))]}
    |some amG=>amF {v:= .undef,wr:=[(t,.map (es++[(k,v)]))]}
    |none=>amG
   |_,_=>amG) else amG
  |_=>amG
 |_=>amG
def bF (e:Env) (aE:cK) (fz:List Nat):kS->Option nI
 | .SG x=>amF {v:=x.ev e}
 | .pick c a b=>match c.ev e with
  | .bool amH=>amF {v:=a.ev e}
  | .bool amI=>amF {v:=b.ev e}
  |_=>amG
 | .bin op x y=>(Q2 op (x.ev e) (y.ev e)).map fun v=>{v}
 | .Kf neg x y=>match x.ev e,y.ev e with
  | .bool a,.bool b=>amF {v:= .bool (if neg then !(a==b) else a==b)}
  |_,_=>amG
 | .eqc n neg x y=>match x.ev e,y.ev e with
  | .agg xs,.agg ys=>if F0s (amE xs) n&&F0s (amE ys) n then (dB xs ys).map fun b=>{v:= .bool (if neg then !b else b)} else amG
  |_,_=>amG
 | .un op x=>(unE op (x.ev e)).map fun v=>{v}
 | .conv k x=>match x.ev e with
  | .int _ n=>amF {v:= .int k (ae k n)}
  |_=>amG
 | .len x=>match x.ev e with
  | .sl _ _ rows=>amF {v:= .int .i64 (.ofNat (amE rows))}
  | .own _ _ _ len _ _=>amF {v:= .int .i64 (.ofNat len)}
  |_=>amG
 | .Nh n=>amF {v:= .int .i64 (.ofNat n)}
 | .box x=>match (x.ev e).stored with
  |some cs=>amF {v:= .ptr (amE aE) (amE cs) 0 0,news:=[.box cs]}
  |none=>amG
 | .alloc cells=>amF {v:= .ptr (amE aE) (amE cells) 0 0,news:=[.box cells]}
 | .build zero parts=>(mW (parts.map fun p=>(p.1,p.2.1,p.2.2.ev e)) zero).map fun cs=>{v:= .agg cs}
 | .AD esz n zero parts=>(pT (parts.map fun p=>(p.1,p.2.ev e)) (aex n zero) esz).map fun rows=>
  {v:= .own (amE aE) esz 0 n n amH,news:=[.arr esz rows]}
 | .CT x y=>if (x.ev e).pS&&(y.ev e).pS then amF {v:= .own (amE aE) 1 0 2 2 amH,news:=[.box [x.ev e,y.ev e]]} else amG
 | .load agg p=>oJ aE agg (p.ev e)
 | .store sz p v=>rM aE fz sz (v.ev e) (p.ev e)
 | .Kg x=>match x.ev e with
  | .ptr t s r o=>amF {v:= .ptr t s r o}
  | .bI c o=>amF {v:= .bI c o}
  | .eL f a b=>amF {v:= .eL f a b}
  |_=>amG
 | .Kh off p=>match p.ev e with
  | .ptr t s r o=>amF {v:= .ptr t s r (o+off)}
  | .bI c o=>amF {v:= .bI c (o+off)}
  |_=>amG
 | .jS agg off x=>match x.ev e with
  | .agg cs=>(part agg off cs).map fun v=>{v}
  |_=>amG
 | .Ki esz x i=>match jU (i.ev e) with
  |none=>amG
  |some n=>match x.ev e with
   | .sl s _ rows=>match rows[n]? with
    |some cs=>if F0s s esz then amF {v:= .bI cs 0} else amG
    |none=>amG
   | .own t s off len _ _=>if afe n len&&F0s s esz then amF {v:= .ptr t s (off+n) 0} else amG
   |_=>amG
 | .CU n esz p i=>match jU (i.ev e) with
  |none=>amG
  |some j=>if afe j n then (match p.ev e with
   | .ptr t s r o=>amF {v:= .ptr t s r (o+j*esz)}
   | .bI c o=>amF {v:= .bI c (o+j*esz)}
   |_=>amG) else amG
 | .idx n esz agg x i=>match jU (i.ev e) with
  |none=>amG
  |some j=>if afe j n then (match x.ev e with
   | .agg cs=>(part agg (j*esz) cs).map fun v=>{v}
   |_=>amG) else amG
 | .Kj x i=>match jU (i.ev e),x.ev e with
  |some j,.str s=>match s[j]? with
   |some b=>amF {v:= .int .u8 b.toNat}
   |none=>amG
  |_,_=>amG
 | .Q1 esz x lo hi mx=>
  if !uv esz (x.ev e) then amG else
  match (match lo with|none=>amF amG|some a=>(jU (a.ev e)).map amF),
   (match hi with|none=>amF amG|some a=>(jU (a.ev e)).map amF),
   (match mx with|none=>amF amG|some a=>(jU (a.ev e)).map amF) with
  |some l,amF h,amF m=>(qC (x.ev e) l h m).map fun v=>{v}
  |_,_,_=>amG
 | .mks esz zero l c=>match jU (l.ev e),jU (c.ev e) with
  |some n,amF m=>if ae3 n m&&ae3 m dH then
   amF {v:= .own (amE aE) esz 0 n m amH,news:=[.arr esz (aex m zero)]} else amG
  |_,_=>amG
 | .mkf fn a b=>amF {v:= .eL fn (D' e a) (D' e b)}
 | .mkm _=>amF {v:= .mp (amE aE),news:=[.map []]}
 | .lookup n zero ok m k=>sP aE n zero ok (m.ev e) (k.ev e)
 | .Ip n m k v=>CW aE fz n (m.ev e) (k.ev e) (v.ev e)
 | .ext i x=>match x.ev e with
  | .cu vs=>vs[i]?.map fun v=>{v}
  |_=>amG
 | .append esz x y=>iP aE fz esz (x.ev e) (y.ev e)
 | .copy esz x y=>match rowsOf aE esz (y.ev e),x.ev e with
  |some src,.own t s off len _ _=>match src.take len with
   | []=>amF {v:= .int .i64 0,rd:=iO (y.ev e)}
   |r::rs=>match aE[t]? with
    |some (.arr s' rows)=>
     if F0s s esz&&!has fz t then
      amF {v:= .int .i64 (.ofNat (amE rs+1)),wr:=[(t,.arr s' (kV off (r::rs) rows))],rd:=iO (y.ev e)}
     else amG
    |_=>amG
  |_,_=>amG
 | .clear esz zero x=>match x.ev e with
  | .own t s off len _ _=>match len with
   |0=>amF {v:= .undef}
   |len+1=>match aE[t]? with
    |some (.arr s' rows)=>
     if F0s s esz&&!has fz t then
      amF {v:= .undef,wr:=[(t,.arr s' (kV off (aex (len+1) zero) rows))]}
     else amG
    |_=>amG
  | .sl _ _ []=>amF {v:= .undef}
  |_=>amG
 | .mm isMax x xs=>match x.ev e with
  | .int k a=>(mmE isMax k a (D' e xs)).map fun v=>{v}
  |_=>amG
 | .call .. =>amG
 | .wN .. =>amG
 | .bad=>amG
mutual
def BT (aE:cK) (bx:Nat->Option (List PV)):PV->Option PV
 | .undef=>amG
 | .jy=>amG
 | .int k n=>amF (.int k n)
 | .bool b=>amF (.bool b)
 | .str s=>amF (.str s)
 | .agg cs=>(BU aE bx cs).map .agg
 | .cu cs=>(BU aE bx cs).map .cu
 | .sl e _ rows=>amF (.sl e amI rows)
 | .own t e off len _ _=>match aE[t]? with
  |some (.arr _ rows)=>amF (.sl e amI ((rows.drop off).take len))
  |_=>amG
 | .ptr t _ row off=>match aE[t]? with
  |some (.box _)=>if F0s row 0 then (bx t).map (.bI · off) else amG
  |some (.arr _ rows)=>rows[row]?.map (.bI · off)
  |_=>amG
 | .bI cs off=>(BU aE bx cs).map (.bI · off)
 | .mp _=>amG
 | .eL f a b=>match BU aE bx a,BU aE bx b with
  |some a',amF b'=>amF (.eL f a' b')
  |_,_=>amG
 | .dU=>amF .dU
def BU (aE:cK) (bx:Nat->Option (List PV)):List PV->Option (List PV)
 | []=>amF []
 |x::xs=>match BT aE bx x,BU aE bx xs with
  |some y,amF ys=>amF (y::ys)
  |_,_=>amG
end
def xi (aE:cK):Nat->Nat->Option (List PV)
 |0,_=>amG
 |n+1,t=>match aE[t]? with
  |some (.box cs)=>BU aE (xi aE n) cs
  |_=>amG
mutual
def iZ (bx:Nat->List Nat):PV->List Nat
 | .agg cs=>dC bx cs
 | .cu cs=>dC bx cs
 | .own t _ _ _ _ _=>[t]
 | .ptr t _ _ _=>t::bx t
 | .bI cs _=>dC bx cs
 | .mp t=>[t]
 | .eL _ a b=>dC bx a++dC bx b
 | .undef| .jy| .int _ _| .bool _| .str _| .sl .. | .dU=>[]
def dC (bx:Nat->List Nat):List PV->List Nat
 | []=>[]
 |x::xs=>iZ bx x++dC bx xs
end
def sK (_:Nat):List Nat:=[]
def di (aE:cK):Nat->Nat->List Nat
 |0,_=>[]
 |n+1,t=>match aE[t]? with
  |some (.box cs)=>dC (di aE n) cs
  |_=>[]
mutual
def PV.ky:PV->Bool
 | .int _ _| .bool _| .str _=>amH
 | .agg cs=>vf cs
 | .cu cs=>vf cs
 |_=>amI
def vf:List PV->Bool
 | []=>amH
 |x::xs=>x.ky&&vf xs
end
mutual
def ym (aE:cK):PV->Option PV
 | .int k n=>amF (.int k n)
 | .bool b=>amF (.bool b)
 | .str s=>amF (.str s)
 | .agg cs=>(Iq aE cs).map .agg
 | .cu cs=>(Iq aE cs).map .cu
 | .sl e _ rows=>amF (.sl e amI rows)
 | .own t e off len _ _=>match aE[t]? with
  |some (.arr _ rows)=>amF (.sl e amI ((rows.drop off).take len))
  |_=>amG
 |_=>amG
def Iq (aE:cK):List PV->Option (List PV)
 | []=>amF []
 |x::xs=>match ym aE x,Iq aE xs with
  |some y,amF ys=>amF (y::ys)
  |_,_=>amG
end
mutual
def zb (aE:cK) (fz:List Nat):Nat->List Nat->PV->Option (PV×cK×List Nat)
 |_,seen,.int k n=>amF (.int k n,[],seen)
 |_,seen,.bool b=>amF (.bool b,[],seen)
 |nx,seen,.agg cs=>(Ir aE fz nx seen cs).map fun r=>(.agg r.1,r.2)
 |nx,seen,.cu cs=>(Ir aE fz nx seen cs).map fun r=>(.cu r.1,r.2)
 |nx,seen,.sl e amH []=>amF (.own nx e 0 0 0 amI,[.arr e []],seen)
 |nx,seen,.own t e off len cap _=>match aE[t]? with
  |some (.arr e' rows)=>if has seen t||has fz t then amG else amF (.own nx e off len cap amI,[.arr e' rows],t::seen)
  |_=>amG
 |_,_,_=>amG
def Ir (aE:cK) (fz:List Nat):Nat->List Nat->List PV->Option (List PV×cK×List Nat)
 |_,seen,[]=>amF ([],[],seen)
 |nx,seen,x::xs=>match zb aE fz nx seen x with
  |some (y,n1,amU)=>match Ir aE fz (nx+amE n1) amU xs with
   |some (ys,n2,amV)=>amF (y::ys,n1++n2,amV)
   |none=>amG
  |none=>amG
end
def qS:jR->List Nat
 | .box cs=>dC sK cs
 |_=>[]
def reach (aE:cK):Nat->List Nat->List Nat->Option (List Nat)
 |_,[],seen=>amF seen
 |0,_::_,_=>amG
 |n+1,t::ts,seen=>
  if has seen t then reach aE n ts seen
  else match aE[t]? with
   |some b=>reach aE n (qS b++ts) (seen++[t])
   |none=>amG
def idxOf (t:Nat):List Nat->Option Nat
 | []=>amG
 |s::r=>if F0s s t then amF 0 else (idxOf t r).map (· +1)
mutual
def zc (m:List Nat):PV->Option PV
 | .agg cs=>(y5 m cs).map .agg
 | .cu cs=>(y5 m cs).map .cu
 | .own t e off len cap ex=>(idxOf t m).map fun u=> .own u e off len cap ex
 | .ptr t e row off=>(idxOf t m).map fun u=> .ptr u e row off
 | .bI cs off=>(y5 m cs).map (.bI · off)
 | .mp t=>(idxOf t m).map .mp
 | .eL f a b=>match y5 m a,y5 m b with
  |some a',amF b'=>amF (.eL f a' b')
  |_,_=>amG
 | .undef=>amF .undef
 | .jy=>amF .jy
 | .int k n=>amF (.int k n)
 | .bool b=>amF (.bool b)
 | .str s=>amF (.str s)
 | .sl e c rows=>amF (.sl e c rows)
 | .dU=>amF .dU
def y5 (m:List Nat):List PV->Option (List PV)
 | []=>amF []
 |x::xs=>match zc m x,y5 m xs with
  |some y,amF ys=>amF (y::ys)
  |_,_=>amG
end
def nJ (m:List Nat):jR->Option jR
 | .box cs=>(y5 m cs).map .box
 | .arr e rows=>amF (.arr e rows)
 | .map es=>amF (.map es)
 | .dead=>amF .dead
def xj (aE:cK) (m:List Nat):List Nat->Option cK
 | []=>amF []
 |t::ts=>match aE[t]? with
  |some b=>match nJ m b,xj aE m ts with
   |some b',amF r=>amF (b'::r)
   |_,_=>amG
  |none=>amG
def xk (fz:List Nat):Nat->List Nat->List Nat
 |_,[]=>[]
 |i,t::ts=>if has fz t then i::xk fz (i+1) ts else xk fz (i+1) ts
def Hd:Option Nat->PV->PV
 |some _,.own t e off len cap _=> .own t e off len cap amI
 |_,v=>v
def qT (e:Env) (m:List Nat):Nat->List (Nat×Option Nat)->Option (Env×cK)
 |_,[]=>amF ([],[])
 |nx,(s,k)::r=>
  match k,lk s e with
  |some esz,.sl _ amH []=>(qT e m (nx+1) r).map fun p=>((s,.own nx esz 0 0 0 amI)::p.1,.arr esz []::p.2)
  |_,v=>match zc m v,qT e m nx r with
   |some v',amF p=>amF ((s,Hd k v')::p.1,p.2)
   |_,_=>amG
def uw:Nat->List Nat
 |0=>[]
 |n+1=>uw n++[n]
def qU (st:St) (t c esz:Nat):St:=
 match st.aE[t]? with
 |some (.box cs)=>match cs[c]? with
  |some (.sl _ amH [])=>{st with aE:=st.aE.set t (.box (cs.set c (.own (amE st.aE) esz 0 0 0 amI)))++[.arr esz []]}
  |_=>st
 |_=>st
def Ea:PV->Option Nat
 | .ptr t _ 0 0=>amF t
 |_=>amG
def Kk:PV->Option Nat
 | .eL _ _ (x::_)=>Ea x
 |x=>Ea x
def kz:List (Nat×Option Nat)->St->St
 | [],st=>st
 |(s,k)::r,st=>match k with
  |some n=>if ae3 1000 n then (match Kk (lk s st.env) with
   |some t=>kz r (qU st t (n / 1000-1) (n%1000))
   |none=>kz r st) else kz r st
  |none=>kz r st
def Eb (live:List (Nat×Option Nat)) (st:St):Option St:=
 match reach st.aE 4096 ((st.aE.take st.kn).flatMap qS++live.flatMap fun p=>iZ sK (lk p.1 st.env)) (uw st.kn) with
 |none=>amG
 |some m=>match xj st.aE m m,qT st.env m (amE m) live with
  |some s1,amF (e1,s2)=>amF (kz live {env:=e1,aE:=s1++s2,fz:=xk st.fz 0 m,kn:=st.kn})
  |_,_=>amG
def norm (live:List (Nat×Option Nat)) (st:St):Option St:=
 match Eb live st with
 |some s=>if live.any fun p=>p.2.isSome then Eb live s else amF s
 |none=>amG
inductive Task where
 |func (f:FuncId) (args:List PV) (aE:cK) (fz:List Nat)
 |loop (live:List (Nat×Option Nat)) (b:jT) (st:St)
inductive Out where
 |func (v:PV) (aE:cK) (fz:List Nat)
 |code (e:hJ) (st:St)
structure Tr where
 rd:List Nat
 wr:List Nat
 al:Bool
 Kl:Bool
 cl:Bool
 lo:Nat
 hi:Nat
inductive XR where
 |loc (r:nI)
 |shr (v:PV) (aE:cK) (fz:List Nat)
def fZ:List (Nat×jR)->cK->cK
 | [],s=>s
 |(t,b)::r,s=>fZ r (s.set t b)
def Ec:PV->Bool
 | .ptr .. =>amH
 | .own .. =>amH
 | .mp _=>amH
 |_=>amI
def deep:Nat:=8
def dv (F:mJ) (rec:Task->Option Out) (own:Bool) (f:FuncId) (args:List PV) (aE:cK) (fz:List Nat):Option nI:=
 match BU aE (xi aE deep) args with
 |none=>amG
 |some mX=>
  let tk:=dC (di aE deep) args
  match F f with
  |some (.j0 Pc p)=>match p mX with
   |some (v,news)=>match zb news [] (amE aE) [] v with
    |some (v',n2,_)=>
     if Pc then match args with
      | .own t _ _ _ _ _::r=>
       let tr:=dC (di aE deep) r
       if has fz t||has tr t then amG
       else amF {v:=v',news:=n2,wr:=[(t,.dead)],rd:=tr}
      |_=>amG
     else amF {v:=v',news:=n2,rd:=tk}
    |none=>amG
   |none=>amG
  |_=>match rec (.func f mX [] []) with
   |some (.func v s1 z1)=>
    if own then match zb s1 z1 (amE aE) [] v with
     |some (v',n2,_)=>amF {v:=v',news:=n2,rd:=tk}
     |none=>amG
    else if v.ky then amF {v,rd:=tk}
    else match ym s1 v with
     |some v'=>amF {v:=v',rd:=tk,fr:=tk}
     |none=>amG
   |_=>amG
def jR.bM:jR->Bool
 | .dead=>amI
 | .arr _ []=>amI
 |_=>amH
def oK:List Nat->List Nat
 | []=>[]
 |t::r=>if has r t then oK r else t::oK r
mutual
def BV (g:Nat->Nat):PV->PV
 | .agg cs=> .agg (wO g cs)
 | .cu cs=> .cu (wO g cs)
 | .own t e off len cap ex=> .own (g t) e off len cap ex
 | .ptr t e row off=> .ptr (g t) e row off
 | .bI cs off=> .bI (wO g cs) off
 | .mp t=> .mp (g t)
 | .eL f a b=> .eL f (wO g a) (wO g b)
 | .undef=> .undef
 | .jy=> .jy
 | .int k n=> .int k n
 | .bool b=> .bool b
 | .str s=> .str s
 | .sl e c rows=> .sl e c rows
 | .dU=> .dU
def wO (g:Nat->Nat):List PV->List PV
 | []=>[]
 |x::xs=>BV g x::wO g xs
end
def zd (g:Nat->Nat):jR->jR
 | .box cs=> .box (wO g cs)
 |b=>b
def AE (g:Nat->Nat):cK->cK
 | []=>[]
 |b::r=>zd g b::AE g r
def j7 (tk:List Nat) (n u:Nat):Nat:=
 match tk[u]? with
 |some t=>t
 |none=>n+(u-(amE tk))
def oO (g:Nat->Nat):List Nat->cK->List (Nat×jR)
 |t::r,b::s=>(t,zd g b)::oO g r s
 |_,_=>[]
def vg:cK->cK->Bool
 | [],_=>amH
 |b::r,c::q=>(match b.bM,c.bM with|true,amH=>amH|false,amI=>amH|_,_=>amI)&&vg r q
 |_::_,[]=>amI
def Wq (args:List PV) (aE:cK) (fz:List Nat) (tk:List Nat):Option (List PV×cK):=
 if tk.all fun t=>!has fz t then
  match y5 tk args,xj aE tk tk with
  |some a,amF s=>amF (a,s)
  |_,_=>amG
 else amG
def ij (k:Nat) (v:PV) (s:cK):Bool:=(iZ sK v++(s.take k).flatMap qS).all fun t=>afe t k
def Ed (tk:List Nat) (n:Nat) (s0:cK) (v:PV) (s:cK):Option nI:=
 if vg s0 s then amF {v:=BV (j7 tk n) v,news:=if ij (amE tk) v s then [] else AE (j7 tk n) (s.drop (amE tk)),wr:=oO (j7 tk n) tk s} else amG
def tG (rec:Task->Option Out) (f:FuncId) (args:List PV) (aE:cK) (fz:List Nat):Option nI:=
 match Wq args aE fz (oK (dC (di aE deep) args)) with
 |none=>amG
 |some (a,s0)=>match rec (.func f a s0 []) with
  |some (.func v s [])=>Ed (oK (dC (di aE deep) args)) (amE aE) s0 v s
  |_=>amG
def fO (rec:Task->Option Out) (f:FuncId) (args:List PV) (aE:cK) (fz:List Nat):Option XR:=
 match rec (.func f args aE fz) with
 |some (.func v s z)=>if ae3 (amE aE) (amE s)&&fz.all (has z) then amF (.shr v s z) else amG
 |_=>amG
def wP (F:mJ) (rec:Task->Option Out) (e:Env) (aE:cK) (fz:List Nat):kS->Option XR
 | .call m f args=>match m with
  | .Wf=>(dv F rec amI f (D' e args) aE fz).map .loc
  | .own=>(dv F rec amH f (D' e args) aE fz).map .loc
  | .shr=>fO rec f (D' e args) aE fz
  | .fp=>(tG rec f (D' e args) aE fz).map .loc
 | .wN x args=>match x.ev e with
  | .eL f a b=>
   if (D' e args++b).any Ec then fO rec f (a++D' e args++b) aE fz
   else (dv F rec amI f (a++D' e args++b) aE fz).map .loc
  |_=>amG
 |op=>(bF e aE fz op).map .loc
def iH (d:Option Nat) (v:PV) (e:Env):Env:=
 match d with
 |some t=>(t,v)::e
 |none=>e
def Km (s:cK):List jR->cK
 | []=>s
 |b::r=>s++b::r
theorem qV (s:cK) (l:List jR):Km s l=s++l:=by
 cases l
 · exact (List.append_nil s).symm
 rfl
def XR.next (d:Option Nat) (st:St):XR->St
 | .loc r=>{env:=iH d r.v st.env,aE:=Km (fZ r.wr st.aE) r.news,fz:=r.fr++st.fz,kn:=st.kn}
 | .shr v s z=>{env:=iH d v st.env,aE:=s,fz:=z,kn:=st.kn}
def XR.tr (nx:Nat):XR->Tr
 | .loc r=>⟨r.rd++r.fr,r.wr.map (·.1),!r.news.isEmpty,amI,(r.rd++r.fr).all (afe · nx)&&r.wr.all (fun p=>afe p.1 nx),nx,nx+amE r.news⟩
 | .shr .. =>⟨[],[],amH,amH,amH,0,0⟩
def vj:List (Nat×jR)->Bool
 | []=>amH
 |p::r=>(r.all fun q=>!Nat.beq q.1 p.1)&&vj r
def XR.ok (fz:List Nat):XR->Bool
 | .loc r=>(r.wr.all fun p=>!has fz p.1)&&vj r.wr
 | .shr .. =>amH
def Tr.idle:Tr:=⟨[],[],amI,amI,amH,0,0⟩
def wanted (g:Option (Nat×Bool)) (e:Env):Option Bool:=
 match g with
 |none=>amF amH
 |some (s,want)=>match lk s e with
  | .bool b=>amF (b==want)
  | .jy=>amF amI
  |_=>amG
def mf (F:mJ) (rec:Task->Option Out):List bS->St->List Tr->Option (St×List Tr)
 | [],st,tr=>amF (st,tr)
 |o::r,st,tr=>
  match wanted o.guard st.env with
  |some amH=>match wP F rec st.env st.aE st.fz o.op with
   |some x=>if x.ok st.fz then mf F rec r (x.next o.dst st) (x.tr (amE st.aE)::tr) else amG
   |none=>amG
  |some amI=>mf F rec r {st with env:=iH o.dst .jy st.env} (Tr.idle::tr)
  |none=>amG
def meets (a b:List Nat):Bool:=a.any (has b)
def Tr.gR (a:Tr):Bool:=!a.rd.isEmpty||!a.wr.isEmpty||a.al||a.Kl
def Tr.uy (a b:Tr):Bool:=
 (a.Kl&&b.gR)||(b.Kl&&a.gR)||meets a.wr b.rd||meets a.wr b.wr||meets a.rd b.wr||
  b.wr.any fun t=>ae3 a.lo t&&afe t a.hi
def vn (rows:List Row):Bool:=rows.all fun r=>F0s (amE r) 1&&r.all PV.plain
def Is (args:List PV) (aE:cK) (fz:List Nat):Option (PV×cK×List Nat):=
 match args with
 | [.own t e off len _ _]=>match aE[t]? with
  |some (.box [.sl e1 _ x,.sl e2 _ y])=>if F0s e 1&&F0s off 0&&F0s len 2&&!has fz t&&vn x&&vn y&&ae3 1 (amE x+amE y)&&ae3 (amE x+amE y) dH&&(F0s e1 1||x.isEmpty)&&(F0s e2 1||y.isEmpty) then
   amF (.own (amE aE) 1 0 (x++y).length (x++y).length amI,aE.set t .dead++[.arr 1 (x++y)],fz)
   else amG
  |_=>amG
 |_=>amG
def It (i:Nat) (a:Tr):List (Tr×Nat)->Bool
 | []=>amH
 |(b,bf)::r=>(!a.uy b||bf.testBit i)&&It i a r
def qW:Nat->List (Tr×Nat)->Bool
 |_,[]=>amH
 |i,(a,_)::r=>a.cl&&It i a r&&qW (i+1) r
def k9 (F:mJ) (rec:Task->Option Out) (draw:Option (List Nat)) (ops:List bS) (fN:List Nat) (st:St):Option St:=
 match mf F rec ops st [] with
 |none=>amG
 |some (kH,tr)=>
  let Dw:St:={kH with env:=fN.map fun s=>(s,lk s kH.env)}
  match draw with
  |none=>amF Dw
  |some bf=>if qW 0 (tr.reverse.zip bf) then amF Dw else amG
def sL (F:mJ) (rec:Task->Option Out):jT->St->Option (hJ×St)
 | .skip,st=>amF (.normal,st)
 | .region d ops fN,st=>(k9 F rec d ops fN st).map fun s=>(.normal,s)
 | .seq a b,st=>match sL F rec a st with
  |some (.normal,kH)=>sL F rec b kH
  |r=>r
 | .cond c a b,st=>match c.ev st.env with
  | .bool amH=>sL F rec a st
  | .bool amI=>sL F rec b st
  |_=>amG
 | .block id b,st=>match sL F rec b st with
  |some (.exit j,kH)=>if F0s j id then amF (.normal,kH) else amF (.exit j,kH)
  |r=>r
 | .loop live b,st=>match rec (.loop live b st) with
  |some (.code e kH)=>amF (e,kH)
  |_=>amG
 | .exit id,st=>amF (.exit id,st)
 | .ret,st=>amF (.ret,st)
def Ee (st:St):RV->Option PV
 | .tmp t=>amF (lk t st.env)
 | .cell t agg=>(oJ st.aE agg (lk t st.env)).map (·.v)
def nK (st:St):List RV->Option (List PV)
 | []=>amF []
 |r::rs=>match Ee st r,nK st rs with
  |some v,amF vs=>amF (v::vs)
  |_,_=>amG
def results1:List PV->PV
 | [v]=>v
 |vs=> .cu vs
def uz:Nat->List PV->Env
 |_,[]=>[]
 |i,v::r=>(i,v)::uz (i+1) r
def step (F:mJ) (rec:Task->Option Out):Task->Option Out
 | .func f args aE fz=>match F f with
  |some (.code x)=>
   if F0s (amE args) x.CV then
    match sL F rec x.code {env:=uz 0 args,aE,fz,kn:=amE aE} with
    |some (.normal,st)=>(nK st x.res).map fun vs=> .func (results1 vs) st.aE st.fz
    |some (.ret,st)=>(nK st x.res).map fun vs=> .func (results1 vs) st.aE st.fz
    |_=>amG
   else amG
  |some (.GI p)=>(p args aE fz).map fun r=> .func r.1 r.2.1 r.2.2
  |_=>amG
 | .loop live b st=>match norm live st with
  |none=>amG
  |some nL=>match sL F rec b nL with
   |some (.normal,Dw)=>rec (.loop live b Dw)
   |some (e,Dw)=>amF (.code e Dw)
   |none=>amG
def fB (esz:Nat):List PV->Option (PV×cK)
 | [.sl e _ rows]=>match rows with
  | []=>amF (.own 1 esz 0 0 0 amI,[.arr esz [],.arr esz []])
  |r::rs=>if F0s e esz&&ae3 (amE rs+1) dH then amF (.own 1 esz 0 (0+(amE rs+1)) (0+(amE rs+1)) amI,[.arr esz [],.arr esz (r::rs)]) else amG
 |_=>amG
def Iu (esz:Nat) (args:List PV) (aE:cK) (fz:List Nat):Option (PV×cK×List Nat):=
 match args with
 | [.own t e off len _ _,.int .i64 i,.own u e2 amW Kn _ _]=>
  match aE[t]?,aE[u]? with
  |some (.arr _ rows),amF (.arr _ new)=>
   if F0s e esz&&F0s e2 esz&&F0s off 0&&F0s amW 0&&F0s len (amE rows)&&F0s Kn 1&&F0s (amE new) 1&&!Nat.beq t u&&!has fz t&&amJ (0<=i)&&ae3 i.toNat len&&ae3 (len+1) dH then
    amF (.own (amE aE) esz 0 (len+1) (len+1) amI,aE.set t .dead++[.arr esz (rows.take i.toNat++new++rows.drop i.toNat)],fz)
   else amG
  |_,_=>amG
 |_=>amG
def zJ:List PV->Option (PV×cK)
 | [.int .u64 (.ofNat a),.int .u64 (.ofNat b),.int .u64 (.ofNat c)]=>
  if ae3 c 1 then
   let s:=a+b+c
   amF (.cu [.int .u64 (.ofNat (s%18446744073709551616)),.int .u64 (.ofNat (s / 18446744073709551616))],[])
  else amG
 |_=>amG
noncomputable def run (F:mJ) (n:Nat):Task->Option Out:=Nat.rec (fun _=>amG) (fun _ ih=>step F ih) n
end Go.Vm
/- Rules for the logical machine: what more fuel keeps, and a calculus of its runs. -/
namespace Go.Vm
def Le (r s:Task->Option Out):Prop:= ∀t o,r t=amF o->s t=amF o
theorem tH {F:mJ} {r s:Task->Option Out} (h:Le r s) {own:Bool} {f:FuncId} {args:List PV} {aE:cK} {fz:List Nat} {x:nI}
 (hx:dv F r own f args aE fz=amF x):dv F s own f args aE fz=amF x:=by
 cases ha:BU aE (xi aE deep) args with
 |none=>simp [dv,ha] at hx
 |some a=>
  simp only [dv,ha] at hx ⊢;cases hp:F f with
  |none=>
   rw [hp] at hx;dsimp only at hx ⊢;cases hr:r (.func f a [] []) with
   |none=>rw [hr] at hx;cases hx
   |some o=>rw [hr] at hx;rw [h _ _ hr];exact hx
  |some en=>
   rw [hp] at hx;cases en with
   |j0 k p=>exact hx
   |code x=>
    dsimp only at hx ⊢;cases hr:r (.func f a [] []) with
    |none=>rw [hr] at hx;cases hx
    |some o=>rw [hr] at hx;rw [h _ _ hr];exact hx
   |GI x=>
    dsimp only at hx ⊢;cases hr:r (.func f a [] []) with
    |none=>rw [hr] at hx;cases hx
    |some o=>rw [hr] at hx;rw [h _ _ hr];exact hx
theorem wQ {r s:Task->Option Out} (h:Le r s) {f:FuncId} {args:List PV} {aE:cK} {fz:List Nat} {x:XR}
 (hx:fO r f args aE fz=amF x):fO s f args aE fz=amF x:=by
 unfold fO at hx ⊢;cases hr:r (.func f args aE fz) with
 |none=>rw [hr] at hx;cases hx
 |some o=>rw [hr] at hx;rw [h _ _ hr];exact hx
theorem Ko {r s:Task->Option Out} (h:Le r s) {f:FuncId} {args:List PV} {aE:cK} {fz:List Nat} {x:nI}
 (hx:tG r f args aE fz=amF x):tG s f args aE fz=amF x:=by
 unfold tG at hx ⊢;cases hl:Wq args aE fz (oK (dC (di aE deep) args)) with
 |none=>rw [hl] at hx;cases hx
 |some p=>
  rw [hl] at hx;dsimp only at hx ⊢;cases hr:r (.func f p.1 p.2 []) with
  |none=>rw [hr] at hx;cases hx
  |some o=>rw [hr] at hx;rw [h _ _ hr];exact hx
theorem Kp {F:mJ} {r s:Task->Option Out} (h:Le r s) {e:Env} {aE:cK} {fz:List Nat} {op:kS} {x:XR}
 (hx:wP F r e aE fz op=amF x):wP F s e aE fz op=amF x:=by
 cases op with
 |call m f args=>
  cases m with
  |Wf=>
   simp only [wP,AC] at hx ⊢;obtain ⟨a,ha,rfl⟩:=hx;exact ⟨a,tH h ha,rfl⟩
  |own=>
   simp only [wP,AC] at hx ⊢;obtain ⟨a,ha,rfl⟩:=hx;exact ⟨a,tH h ha,rfl⟩
  |shr=>exact wQ h hx
  |fp=>
   simp only [wP,AC] at hx ⊢;obtain ⟨a,ha,rfl⟩:=hx;exact ⟨a,Ko h ha,rfl⟩
 |wN c args=>
  simp only [wP] at hx ⊢;split at hx
  · split at hx
    · rename_i hc;simp only [hc,if_true];exact wQ h hx
    rename_i hc
    rw [rc hc];rw [AC] at hx ⊢;obtain ⟨a,ha,rfl⟩:=hx;exact ⟨a,tH h ha,rfl⟩
  cases hx
 |_=>exact hx
theorem Ef {F:mJ} {r s:Task->Option Out} (h:Le r s) (ops:List bS):
 ∀(st:St) (tr:List Tr) (x:St×List Tr),mf F r ops st tr=amF x->mf F s ops st tr=amF x:=by
 induction ops with
 |nil=>intro st tr x hx;exact hx
 |cons o l ih=>
  intro st tr x hx;simp only [mf] at hx ⊢;cases hw:wanted o.guard st.env with
  |none=>rw [hw] at hx;cases hx
  |some b=>
   rw [hw] at hx;cases b with
   |false=>exact ih _ _ _ hx
   |true=>
    dsimp only at hx ⊢;cases hy:wP F r st.env st.aE st.fz o.op with
    |none=>rw [hy] at hx;cases hx
    |some y=>
     rw [hy] at hx;rw [Kp h hy];dsimp only at hx ⊢;split at hx
     · rename_i zK;rw [pp zK];exact ih _ _ _ hx
     cases hx
theorem GM {F:mJ} {r s:Task->Option Out} (h:Le r s) {d:Option (List Nat)} {ops:List bS} {fN:List Nat} {st kH:St}
 (hx:k9 F r d ops fN st=amF kH):k9 F s d ops fN st=amF kH:=by
 unfold k9 at hx ⊢;cases hy:mf F r ops st [] with
 |none=>rw [hy] at hx;cases hx
 |some y=>rw [hy] at hx;rw [Ef h _ _ _ _ hy];exact hx
theorem pU {F:mJ} {r s:Task->Option Out} (h:Le r s) (c:jT):
 ∀(st:St) (x:hJ×St),sL F r c st=amF x->sL F s c st=amF x:=by
 induction c with
 |skip=>intro st x hx;exact hx
 |region d ops fN=>
  intro st x hx;simp only [sL,AC] at hx ⊢;obtain ⟨a,ha,rfl⟩:=hx;exact ⟨a,GM h ha,rfl⟩
 |seq a b iha ihb=>
  intro st x hx;simp only [sL] at hx ⊢;cases hy:sL F r a st with
  |none=>rw [hy] at hx;cases hx
  |some y=>
   rw [hy] at hx;rw [iha _ _ hy];obtain ⟨e,nL⟩:=y;cases e with
   |normal=>exact ihb _ _ hx
   |exit i=>exact hx
   |ret=>exact hx
 |cond c a b iha ihb=>
  intro st x hx;simp only [sL] at hx ⊢;split at hx
  · exact iha _ _ hx
  · exact ihb _ _ hx
  cases hx
 |block id b ih=>
  intro st x hx;simp only [sL] at hx ⊢;cases hy:sL F r b st with
  |none=>rw [hy] at hx;cases hx
  |some y=>rw [hy] at hx;rw [ih _ _ hy];exact hx
 |loop live b _=>
  intro st x hx;simp only [sL] at hx ⊢;split at hx
  · rename_i e nL hr;rw [h _ _ hr];exact hx
  cases hx
 |exit id=>intro st x hx;exact hx
 |ret=>intro st x hx;exact hx
theorem Q3 {F:mJ} {r s:Task->Option Out} (h:Le r s):Le (step F r) (step F s):=by
 intro t o ho;cases t with
 |func f args aE fz=>
  simp only [step] at ho ⊢;split at ho
  · rename_i x hx
    split at ho
    · rename_i hl
      simp only [hl,if_true];split at ho
      · rename_i nL hc;rw [pU h _ _ _ hc];exact ho
      · rename_i nL hc;rw [pU h _ _ _ hc];exact ho
      cases ho
    cases ho
  · exact ho
  cases ho
 |loop live b st=>
  simp only [step] at ho ⊢;split at ho
  · cases ho
  rename_i nL hn
  split at ho
  · rename_i Dw hc;rw [pU h _ _ _ hc];exact h _ _ ho
  · rename_i e Dw dS hc
    rw [pU h _ _ _ hc];cases e with
    |normal=>exact absurd rfl (dS ·)
    |exit i=>exact ho
    |ret=>exact ho
  cases ho
theorem la (F:mJ) (n:Nat):run F (n+1)=step F (run F n):=rfl
theorem afq (F:mJ) (n:Nat):Le (run F n) (run F (n+1)):=by
 induction n with
 |zero=>intro t o h;cases h
 |succ n ih=>exact Q3 ih
theorem pV (F:mJ) {n m:Nat} (h:n<=m):Le (run F n) (run F m):=by
 induction h with
 |refl=>intro t o h;exact h
 |step _ ih=>intro t o h;exact afq F _ _ _ (ih _ _ h)
def Fin (F:mJ) (t:Task) (Q:Out->Prop):Prop:= ∃n o,run F n t=amF o/\Q o
def WP (F:mJ) (c:jT) (st:St) (Q:hJ->St->Prop):Prop:= ∃n e s,sL F (run F n) c st=amF (e,s)/\Q e s
def WO (F:mJ) (ops:List bS) (st:St) (tr:List Tr) (Q:St->List Tr->Prop):Prop:=
 ∃n s t,mf F (run F n) ops st tr=amF (s,t)/\Q s t
variable {F : mJ}
theorem Fin.mono {t:Task} {Q R:Out->Prop} (h:Fin F t Q) (hr: ∀o,Q o->R o):Fin F t R:=
 let ⟨n,o,e,q⟩:=h;⟨n,o,e,hr _ q⟩
theorem WP.mono {c:jT} {st:St} {Q R:hJ->St->Prop} (h:WP F c st Q) (hr: ∀e s,Q e s->R e s):WP F c st R:=
 let ⟨n,e,s,x,q⟩:=h;⟨n,e,s,x,hr _ _ q⟩
theorem WP.skip {st:St} {Q:hJ->St->Prop} (h:Q .normal st):WP F .skip st Q:=⟨0,_,_,rfl,h⟩
theorem WP.ret {st:St} {Q:hJ->St->Prop} (h:Q .ret st):WP F .ret st Q:=⟨0,_,_,rfl,h⟩
theorem WP.exit {id:Nat} {st:St} {Q:hJ->St->Prop} (h:Q (.exit id) st):WP F (.exit id) st Q:=⟨0,_,_,rfl,h⟩
def andThen (k:St->Prop) (Q:hJ->St->Prop):hJ->St->Prop
 | .normal,s=>k s
 |e,s=>Q e s
theorem WP.seq {a b:jT} {st:St} {Q:hJ->St->Prop} (h:WP F a st (andThen (fun s=>WP F b s Q) Q)):WP F (.seq a b) st Q:=by
 obtain ⟨n,e,s,he,hq⟩:=h;cases e with
 |normal=>
  obtain ⟨m,e',s',BN,SH⟩:=hq;refine ⟨max n m,e',s',?_,SH⟩;simp only [sL];rw [pU (pV F (al2 n m)) _ _ _ he];exact pU (pV F (afO n m)) _ _ _ BN
 |exit i=>exact ⟨n,_,s,by simp only [sL,he],hq⟩
 |ret=>exact ⟨n,_,s,by simp only [sL,he],hq⟩
theorem WP.aey {c:fy} {a b:jT} {st:St} {Q:hJ->St->Prop} (hc:c.ev st.env= .bool amH) (h:WP F a st Q):WP F (.cond c a b) st Q:=by
 obtain ⟨n,e,s,he,hq⟩:=h;exact ⟨n,e,s,by simp only [sL,hc,he],hq⟩
theorem WP.aez {c:fy} {a b:jT} {st:St} {Q:hJ->St->Prop} (hc:c.ev st.env= .bool amI) (h:WP F b st Q):WP F (.cond c a b) st Q:=by
 obtain ⟨n,e,s,he,hq⟩:=h;exact ⟨n,e,s,by simp only [sL,hc,he],hq⟩
theorem WP.cond {c:fy} {a b:jT} {st:St} {Q:hJ->St->Prop} (t:Bool) (hc:c.ev st.env= .bool t)
 (ha:t=amH->WP F a st Q) (hb:t=amI->WP F b st Q):WP F (.cond c a b) st Q:=by
 cases t
 · exact WP.aez hc (hb rfl)
 exact WP.aey hc (ha rfl)
def inBlock (id:Nat) (Q:hJ->St->Prop):hJ->St->Prop
 | .exit j,s=>if j=id then Q .normal s else Q (.exit j) s
 |e,s=>Q e s
theorem WP.block {id:Nat} {b:jT} {st:St} {Q:hJ->St->Prop} (h:WP F b st (inBlock id Q)):WP F (.block id b) st Q:=by
 obtain ⟨n,e,s,he,hq⟩:=h;cases e with
 |normal=>exact ⟨n,_,s,by simp only [sL,he],hq⟩
 |ret=>exact ⟨n,_,s,by simp only [sL,he],hq⟩
 |exit j=>
  by_cases hj:j=id
  · subst hj
    have SH:Q .normal s:=by simpa [inBlock] using hq
    exact ⟨n,.normal,s,by simp [sL,he],SH⟩
  have SH:Q (.exit j) s:=by simpa [inBlock,hj] using hq
  exact ⟨n,.exit j,s,by simp [sL,he,hj],SH⟩
def pW (fN:List Nat) (s:St):St:={s with env:=fN.map fun t=>(t,lk t s.env)}
theorem WP.region {ops:List bS} {fN:List Nat} {st:St} {Q:hJ->St->Prop}
 (h:WO F ops st [] (fun s _=>Q .normal (pW fN s))):WP F (.region amG ops fN) st Q:=by
 obtain ⟨n,s,t,he,hq⟩:=h;exact ⟨n,.normal,_,by simp only [sL,k9,he];rfl,hq⟩
theorem WP.Wr {bf:List Nat} {ops:List bS} {fN:List Nat} {st:St} {Q:hJ->St->Prop}
 (h:WO F ops st [] (fun s t=>qW 0 (t.reverse.zip bf)=amH/\Q .normal (pW fN s))):WP F (.region (amF bf) ops fN) st Q:=by
 obtain ⟨n,s,t,he,ho,hq⟩:=h;exact ⟨n,.normal,pW fN s,by simp [sL,k9,he,ho,pW],hq⟩
theorem WO.nil {st:St} {tr:List Tr} {Q:St->List Tr->Prop} (h:Q st tr):WO F [] st tr Q:=⟨0,_,_,rfl,h⟩
theorem WO.op {o:bS} {r:List bS} {st:St} {tr:List Tr} {Q:St->List Tr->Prop} (x:nI)
 (hw:wanted o.guard st.env=amF amH) (hx: ∀rec,wP F rec st.env st.aE st.fz o.op=amF (.loc x)) (zK:(XR.loc x).ok st.fz=amH)
 (h:WO F r ((XR.loc x).next o.dst st) ((XR.loc x).tr (amE st.aE)::tr) Q):WO F (o::r) st tr Q:=by
 obtain ⟨n,s,t,he,hq⟩:=h;exact ⟨n,s,t,by simp only [mf,hw,hx,zK,if_true,he],hq⟩
theorem WO.skip {o:bS} {r:List bS} {st:St} {tr:List Tr} {Q:St->List Tr->Prop}
 (hw:wanted o.guard st.env=amF amI)
 (h:WO F r {st with env:=iH o.dst .jy st.env} (Tr.idle::tr) Q):WO F (o::r) st tr Q:=by
 obtain ⟨n,s,t,he,hq⟩:=h;exact ⟨n,s,t,by simp only [mf,hw,he],hq⟩
theorem WO.call {o:bS} {r:List bS} {st:St} {tr:List Tr} {Q:St->List Tr->Prop} (x:XR)
 (hw:wanted o.guard st.env=amF amH) (hx: ∃n,wP F (run F n) st.env st.aE st.fz o.op=amF x) (zK:x.ok st.fz=amH)
 (h:WO F r (x.next o.dst st) (x.tr (amE st.aE)::tr) Q):WO F (o::r) st tr Q:=by
 obtain ⟨n,s,t,he,hq⟩:=h;obtain ⟨m,hx⟩:=hx;refine ⟨max n m,s,t,?_,hq⟩;simp only [mf,hw];rw [Kp (pV F (afO n m)) hx];dsimp only;rw [pp zK];exact Ef (pV F (al2 n m)) _ _ _ _ he
theorem WP.loop {α:Type} {live:List (Nat×Option Nat)} {b:jT} {st:St} {Q:hJ->St->Prop} (S:α->St) (I:α->Prop) (μ:α->Nat)
 (x:α) (h0:norm live st=amF (S x)) (hI:I x)
 (round: ∀x,I x->WP F b (S x) (andThen (fun s=> ∃y,norm live s=amF (S y)/\I y/\μ y<μ x) Q)):WP F (.loop live b) st Q:=by
 have key: ∀k x st,μ x=k->I x->norm live st=amF (S x)-> ∃n e s,run F n (.loop live b st)=amF (.code e s)/\Q e s:=by
  intro k
  induction k using Nat.strongRecOn with
  |_ k ih=>
   intro x st hk hI h0;obtain ⟨n,e,s,he,hq⟩:=round x hI;cases e with
   |normal=>
    obtain ⟨y,hy,hIy,dI⟩:=hq;obtain ⟨m,e',s',hr,SH⟩:=ih (μ y) (hk▸dI) y s rfl hIy hy;refine ⟨max n m+1,e',s',?_,SH⟩;rw [la];simp only [step,h0];rw [pU (pV F (al2 n m)) _ _ _ he];exact pV F (afO n m) _ _ hr
   |exit i=>exact ⟨n+1,_,s,by rw [la];simp only [step,h0,he],hq⟩
   |ret=>exact ⟨n+1,_,s,by rw [la];simp only [step,h0,he],hq⟩
 obtain ⟨n,e,s,hr,hq⟩:=key _ x st rfl hI h0;exact ⟨n,e,s,by simp only [sL,hr],hq⟩
def Iv (x:aK) (R:PV->cK->List Nat->Prop):hJ->St->Prop
 | .normal,s=> ∃vs,nK s x.res=amF vs/\R (results1 vs) s.aE s.fz
 | .ret,s=> ∃vs,nK s x.res=amF vs/\R (results1 vs) s.aE s.fz
 | .exit _,_=>False
def zL (F:mJ) (f:FuncId) (args:List PV) (aE:cK) (fz:List Nat) (R:PV->cK->List Nat->Prop):Prop:=
 ∃n v s z,run F n (.func f args aE fz)=amF (.func v s z)/\R v s z
theorem zL.of {f:FuncId} {x:aK} {args:List PV} {aE:cK} {fz:List Nat} {R:PV->cK->List Nat->Prop}
 (hf:F f=amF (.code x)) (hn:F0s (amE args) x.CV=amH)
 (h:WP F x.code {env:=uz 0 args,aE,fz,kn:=amE aE} (Iv x R)):zL F f args aE fz R:=by
 obtain ⟨n,e,s,he,hq⟩:=h;cases e with
 |normal=>
  obtain ⟨vs,hv,hr⟩:=hq;exact ⟨n+1,_,_,_,by rw [la];simp only [step,hf,hn,he,hv,if_true];rfl,hr⟩
 |ret=>
  obtain ⟨vs,hv,hr⟩:=hq;exact ⟨n+1,_,_,_,by rw [la];simp only [step,hf,hn,he,hv,if_true];rfl,hr⟩
 |exit i=>exact hq.elim
def Pure (F:mJ) (f:FuncId) (args:List PV) (v:PV):Prop:=
 (∀k p,F f≠amF (.j0 k p))/\zL F f args [] [] fun u _ _=>u.ky=amH/\u=v
def Pd (F:mJ) (f:FuncId) (args:List PV) (v:PV):Prop:=
 (∀k p,F f≠amF (.j0 k p))/\zL F f args [] [] fun u s _=>u.ky=amI/\ym s u=amF v
theorem Pure.of {f:FuncId} {x:aK} {args:List PV} {v:PV}
 (hf:F f=amF (.code x)) (hn:F0s (amE args) x.CV=amH)
 (h:WP F x.code {env:=uz 0 args,aE:=[],fz:=[],kn:=0} (Iv x fun u _ _=>u.ky=amH/\u=v)):
 Pure F f args v:=⟨fun k p e=>by (rw [hf] at e;cases e),zL.of hf hn h⟩
theorem Pd.of {f:FuncId} {x:aK} {args:List PV} {v:PV}
 (hf:F f=amF (.code x)) (hn:F0s (amE args) x.CV=amH)
 (h:WP F x.code {env:=uz 0 args,aE:=[],fz:=[],kn:=0} (Iv x fun u s _=>u.ky=amI/\ym s u=amF v)):
 Pd F f args v:=⟨fun k p e=>by (rw [hf] at e;cases e),zL.of hf hn h⟩
theorem Pure.dv {f:FuncId} {as args:List PV} {aE:cK} {fz:List Nat} {v:PV} (h:Pure F f args v)
 (ha:BU aE (xi aE deep) as=amF args):
 ∃n,Vm.dv F (run F n) amI f as aE fz=amF {v,rd:=dC (di aE deep) as}:=by
 obtain ⟨hp,n,u,s,z,hr,h1,h2⟩:=h;subst h2;refine ⟨n,?_⟩;simp only [Vm.dv,ha];cases hf:F f with
 |none=>simp [hr,h1]
 |some en=>
  cases en with
  |j0 k p=>exact absurd hf (hp k p)
  |code x=>simp [hr,h1]
  |GI x=>simp [hr,h1]
theorem Pd.dv {f:FuncId} {as args:List PV} {aE:cK} {fz:List Nat} {v:PV} (h:Pd F f args v)
 (ha:BU aE (xi aE deep) as=amF args):
 ∃n,Vm.dv F (run F n) amI f as aE fz=amF {v,rd:=dC (di aE deep) as,fr:=dC (di aE deep) as}:=by
 obtain ⟨hp,n,u,s,z,hr,h1,h2⟩:=h;refine ⟨n,?_⟩;simp only [Vm.dv,ha];cases hf:F f with
 |none=>simp [hr,h1,h2]
 |some en=>
  cases en with
  |j0 k p=>exact absurd hf (hp k p)
  |code x=>simp [hr,h1,h2]
  |GI x=>simp [hr,h1,h2]
theorem WO.pure {d:Option Nat} {g:Option (Nat×Bool)} {f:FuncId} {as:List fy} {r:List bS} {st:St} {tr:List Tr} {Q:St->List Tr->Prop}
 {args:List PV} {v:PV} (h:Pure F f args v)
 (hw:wanted g st.env=amF amH) (ha:BU st.aE (xi st.aE deep) (D' st.env as)=amF args)
 (k:WO F r ((XR.loc {v,rd:=dC (di st.aE deep) (D' st.env as)}).next d st) ((XR.loc {v,rd:=dC (di st.aE deep) (D' st.env as)}).tr (amE st.aE)::tr) Q):
 WO F (⟨d,.call .Wf f as,g⟩::r) st tr Q:=by
 obtain ⟨n,hn⟩:=h.dv (fz:=st.fz) ha;exact WO.call _ hw ⟨n,by simp only [wP,hn];rfl⟩ rfl k
end Go.Vm
/- The look at an operation of the model: is the logical machine's operation its own? -/
namespace Go.Vm
mutual
def tI:PV->Value->Bool
 | .int k n,.int l m=>fu k l&&n==m
 | .bool a,.bool b=>a==b
 | .sl _ _ [],.slice amG 0 0=>amH
 | .agg cs,.agg vs=>Eg cs vs.toList
 | .dU,.nilFunc=>amH
 | .str s,.string t=>s.data.toList==t.data.toList
 | .undef,_=>amH
 |_,_=>amI
def Eg:List PV->List Value->Bool
 | [],[]=>amH
 |x::xs,v::vs=>tI x v&&Eg xs vs
 |_,_=>amI
end
def bB:fy->Operand->Bool
 | .t n,.tmp m=>n==m
 | .c v,.const u=>tI v u
 | .c (.eL f [] []),.func g=>f==g
 | .c .undef,_=>amH
 |_,_=>amI
def eY:List fy->List Operand->Bool
 | [],[]=>amH
 |x::xs,o::os=>bB x o&&eY xs os
 |_,_=>amI
def Iw:Option fy->Option Operand->Bool
 |none,amG=>amH
 |some x,amF o=>bB x o
 |_,_=>amI
section
variable (P : Program)
def gS (t:TypeId):Bool:=
 match P.underlying t with
 |some (.struct _)|some (.array _ _)=>amH
 |_=>amI
def oF (t:TypeId) (n:Nat):Bool:=(P.info? t).any fun i=>i.size==n
def DM (t:TypeId):Bool:=(P.info? t).any fun i=>ae3 i.bytes 1048576
def AF (t:TypeId) (agg:Option Nat):Bool:=
 (P.underlying t).isSome&&match agg with
 |some n=>gS P t&&oF P t n
 |none=>!gS P t&&oF P t 1
def yn (t:TypeId) (esz:Nat):Bool:=
 match P.underlying t with
 |some (.slice e)=>oF P e esz
 |_=>amI
def rN (t:TypeId):Bool:=
 match P.underlying t with
 |some (.slice _)=>amH
 |_=>amI
def Pe (t:TypeId) (n esz:Nat):Bool:=
 match P.underlying t with
 |some (.array m e)=>m==n&&oF P e esz
 |_=>amI
def tJ (t:TypeId) (cells:List PV):Bool:=
 match (P.info? t).bind (·.zero) with
 |some v=>Eg cells v.cells.toList
 |none=>amI
def flat:Nat->TypeId->Option Nat
 |0,_=>amG
 |d+1,t=>
  match P.underlying t with
  |some (.int _)=>if oF P t 1 then amF 1 else amG
  |some (.struct fs)=>
   if P.stoodInHeld t then amG else
   match fs.toList.foldl (fun r f=>match r with
    |some n=>if f.offset==n&&f.name != "_" then (match flat d f.type with
     |some m=>if oF P f.type m then amF (n+m) else amG
     |none=>amG) else amG
    |none=>amG) (amF 0) with
   |some n=>if oF P t n then amF n else amG
   |none=>amG
  |_=>amG
def uA (place:Nat->Option (Nat×Nat)):List (Nat×Nat×fy)->List (Nat×Operand)->Bool
 | [],[]=>amH
 |(off,sz,x)::r,(i,o)::s=>(match place i with|some (a,b)=>a==off&&b==sz|none=>amI)&&bB x o&&uA place r s
 |_,_=>amI
def mY:List (Nat×fy)->List (Nat×Operand)->Bool
 | [],[]=>amH
 |(i,x)::r,(j,o)::s=>i==j&&bB x o&&mY r s
 |_,_=>amI
def placeOf (t:TypeId):Nat->Option (Nat×Nat):=
 match P.underlying t with
 |some (.struct fs)=>fun i=>(fs[i]?).bind fun f=>(P.info? f.type).map fun j=>(f.offset,j.size)
 |some (.array _ e)=>fun i=>(P.info? e).map fun j=>(i*j.size,j.size)
 |_=>fun _=>amG
def xl (t:TypeId) (n:Option Nat):Bool:=
 match n with
 |none=>(match P.underlying t with|some (.int _)=>amH|_=>amI)
 |some n=>gS P t&&flat P 100 t==amF n
def Ws (f:FuncId):Bool:=(P.funcs[f]?).any fun fn=>fn.body.isSome&&!(fn.name== "runtime.NumGoroutine")
def wR (prims:FuncId->Bool) (ty:TypeId):kS->Op->Bool
 | .SG x,.move o=>bB x o
 | .SG x,.assign o=>bB x o
 | .pick c a b,.pick d e f=>bB c d&&bB a e&&bB b f
 | .bin op x y,.binOp op' _ a b _=>op==op'&&bB x a&&bB y b
 | .Kf neg x y,.binOp op t a b _=>(if neg then op== .neq else op== .eql)&&P.underlying t matches amF .bool&&bB x a&&bB y b
 | .eqc n neg x y,.binOp op t a b _=>(if neg then op== .neq else op== .eql)&&gS P t&&flat P 100 t==amF n&&!P.eqGuardType P.depth t&&bB x a&&bB y b
 | .un op x,.unOp op' _ a=>op==op'&&bB x a
 | .conv k x,.convert s d a=>(P.underlying s).isSome&&(match P.underlying d with|some (.int l)=>fu k l|_=>amI)&&bB x a
 | .len x,.call {callee:= .builtin .len,args,argTypes}=>(match argTypes[0]? with|some t=>rN P t|none=>amI)&&eY [x] args.toList
 | .Nh n,.call {callee:= .builtin .len,args,argTypes}=>!args.isEmpty&&(match argTypes[0]? with
  |some t=>(match P.underlying t with
   |some (.array m _)=>m==n
   |some (.pointer e)=>(match P.underlying e with|some (.array m _)=>m==n|_=>amI)
   |_=>amI)
  |none=>amI)
 | .box x,.box _ a=>bB x a
 | .alloc cells,.alloc t=>tJ P t cells
 | .build zero parts,.build t ps=>tJ P t zero&&gS P t&&uA (placeOf P t) parts ps.toList
  &&(match P.underlying t with|some (.struct fs)=>fs.all fun f=>(P.info? f.type).isSome|some (.array _ e)=>(P.info? e).isSome|_=>amI)
 | .AD esz n zero parts,.buildSlice t m ps=>n==m&&(match P.underlying t with|some (.slice e)=>oF P e esz&&tJ P e zero&&(amE zero)==esz&&!(esz==0)|_=>amI)&&ae3 (n*esz) 1048576&&zero.all PV.plain&&mY parts ps.toList
 | .load agg p,.load t a=>AF P t agg&&bB p a
 | .store sz p v,.store t a b=>oF P t sz&&bB p a&&bB v b
 | .Kg x,.nilCheck a=>bB x a
 | .Kh off p,.fieldAddr t a f=>(match P.underlying t with
  |some (.struct fs)=>(match fs[f]? with|some g=>g.offset==off&&(P.info? g.type).any fun i=>!(i.size==0)|none=>amI)
  |_=>amI)&&bB p a
 | .jS agg off x,.field t a f=>(match P.underlying t with
  |some (.struct fs)=>(match fs[f]? with|some g=>g.offset==off&&AF P g.type agg|none=>amI)
  |_=>amI)&&bB x a
 | .Ki esz x i,.indexAddr t a j=>yn P t esz&&bB x a&&bB i j
 | .CU n esz p i,.indexAddr t a j=>Pe P t n esz&&bB p a&&bB i j
 | .idx n esz agg x i,.index t a j=>(match P.underlying t with|some (.array m e)=>m==n&&oF P e esz&&AF P e agg|_=>amI)&&bB x a&&bB i j
 | .Kj x i,.index t a j=>P.underlying t matches amF .string&&bB x a&&bB i j
 | .Q1 esz x l h m,.slice t a b c d=>(m.isNone||h.isSome)&&yn P t esz&&bB x a&&Iw l b&&Iw h c&&Iw m d
 | .mks esz zero l c,.makeSlice t a b=>(match P.underlying t with|some (.slice e)=>oF P e esz&&tJ P e zero&&(amE zero)==esz&&DM P e&&!(esz==0)|_=>amI)&&zero.all PV.plain&&bB l a&&bB c b
 | .mkf fn a b,.makeFunc (.func g) c d=>fn==g&&eY a c.toList&&eY b d.toList
 | .mkm _,.makeMap _ amG=>amH
 | .ext i x,.extract a j=>i==j&&bB x a
 | .append esz x y,.call {callee:= .builtin .append,args,argTypes}=>(match argTypes.toList with
  | [t,u]=>(match P.underlying t with|some (.slice e)=>oF P e esz&&DM P e&&!(esz==0)&&(P.info? e).any (fun i=>i.zero.any fun z=>z.cells.size==esz)|_=>amI)&&rN P u
  |_=>amI)&&eY [x,y] args.toList
 | .lookup n zero ok m k,.lookup t a b ok'=>ok==ok'&&(match P.underlying t with|some (.map kt et)=>xl P kt n&&(match (P.info? et).bind (·.zero) with|some v=>tI zero v|none=>amI)|_=>amI)&&bB m a&&bB k b
 | .Ip n m k v,.mapUpdate t a b c=>(match P.underlying t with|some (.map kt _)=>xl P kt n|_=>amI)&&bB m a&&bB k b&&bB v c
 | .copy esz x y,.call {callee:= .builtin .copy,args,argTypes}=>(match argTypes.toList with| [t,u]=>yn P t esz&&rN P u|_=>amI)&&eY [x,y] args.toList
 | .clear esz zero x,.call {callee:= .builtin .clear,args,argTypes}=>(match argTypes.toList with
  | [t]=>(match P.underlying t with|some (.slice e)=>oF P e esz&&tJ P e zero&&(amE zero)==esz&&zero.all PV.plain|_=>amI)
  |_=>amI)&&eY [x] args.toList
 | .mm isMax x xs,.call {callee:= .builtin b,args,argTypes:=_}=>(if isMax then b== .max else b== .min)&&eY (x::xs) args.toList
 | .call _ f args,.call {callee:= .value (.func g),args:=as,argTypes:=_}=>f==g&&(prims f||Ws P f)&&eY args as.toList
 | .wN x args,.call {callee:= .value (.tmp t),args:=as,argTypes:=_}=>bB x (.tmp t)&&eY args as.toList
 | .CT x y,.buildSlice t m ps=>m==2&&(match P.underlying t with|some (.slice e)=>oF P e 1&&(P.info? e).any (fun i=>i.zero.any fun z=>z.cells.size==1)|_=>amI)&&(match ps.toList with| [(i,a),(j,b)]=>i==0&&j==1&&bB x a&&bB y b|_=>amI)
 | .Ip n m k v,.insert t a b c=>(match P.underlying t with|some (.map kt _)=>xl P kt n|_=>amI)&&bB m a&&bB k b&&bB v c
 | .bad,_=>amH
 |_,_=>ty==0&&amI
end
end Go.Vm
/- What a pure value says of a value of the model, a block of the call's own of the memory. -/
namespace Go.Vm
structure LI where
 df:Nat
 sh:Nat
 esz:Nat
 n:Nat
 sz:Nat
abbrev Im:=Nat->Option Obj
abbrev Loc:=Nat->Option LI
def nM (im:Im) (b o:Nat):Option Value:=
 match im b with
 |some (.cells c _ _)=>c[o]?
 |_=>amG
def jA:PV->Option Value
 | .int k n=>amF (.int k n)
 | .bool b=>amF (.bool b)
 | .str s=>amF (.string s)
 |_=>amG
def bO (get:Nat->Option Value) (sh esz:Nat) (rows:List Row):Prop:=
 ∀(i:Nat) (r:Row),rows[i]? =amF r->amE r=esz/\ ∀(j:Nat) (c:PV),r[j]? =amF c-> ∃v,jA c=amF v/\get (sh+i*esz+j)=amF v
mutual
inductive VR (im:Im) (loc:Loc):PV->Value->Prop
 |undef (v:Value):VR im loc .undef v
 |jy:VR im loc .jy Go.undef
 |int (k:IntKind) (n:Int):VR im loc (.int k n) (.int k n)
 |bool (b:Bool):VR im loc (.bool b) (.bool b)
 |str (s:ByteArray):VR im loc (.str s) (.string s)
 |agg (cs:List PV) (vs:List Value) (h:eX im loc cs vs):VR im loc (.agg cs) (.agg ⟨vs⟩)
 |cu (cs:List PV) (vs:List Value) (h:eX im loc cs vs):VR im loc (.cu cs) (.tuple ⟨vs⟩)
 |sl (esz:Nat) (qA:Bool) (rows:List Row) (a:Option Addr) (cap:Nat) (hc:(amE rows)<=cap) (hk:qA=amH->cap=amE rows)
  (h:rows≠[]-> ∃b o,a=amF ⟨b,o,amG⟩/\bO (nM im b) o esz rows):VR im loc (.sl esz qA rows) (.slice a (amE rows) cap)
 |own (t esz off len cap:Nat) (ex:Bool) (li:LI) (a:Option Addr) (cY:Nat) (hl:loc t=amF li) (he:li.esz=esz) (hn:off+cap<=li.n) (hc:len<=cap)
  (hx:cap<=cY) (hk:ex=amH->cY=cap)
  (h:cY=0\/(li.n≠0/\a=amF ⟨li.df,li.sh+off*esz,amG⟩/\li.sh+(off+cY)*esz<=li.sz)):VR im loc (.own t esz off len cap ex) (.slice a len cY)
 |ptr (t esz row off:Nat) (li:LI) (hl:loc t=amF li) (he:li.esz=esz) (hn:row<li.n):
  VR im loc (.ptr t esz row off) (.pointer (amF ⟨li.df,li.sh+row*esz+off,amG⟩))
 |bI (cs:List PV) (off b o:Nat) (vs:List Value) (h:eX im loc cs vs) (hv: ∀(j:Nat) (v:Value),vs[j]? =amF v->nM im b (o+j)=amF v):
  VR im loc (.bI cs off) (.pointer (amF ⟨b,o+off,amG⟩))
 |mp (t:Nat) (li:LI) (hl:loc t=amF li):VR im loc (.mp t) (.map (amF li.df))
 |eL (fn:FuncId) (a b:List PV) (as bs:List Value) (ha:eX im loc a as) (hb:eX im loc b bs):VR im loc (.eL fn a b) (.func (.func fn) ⟨as⟩ ⟨bs⟩)
 |dU:VR im loc .dU .nilFunc
inductive eX (im:Im) (loc:Loc):List PV->List Value->Prop
 |nil:eX im loc [] []
 |cons (x:PV) (v:Value) (xs:List PV) (vs:List Value) (h:VR im loc x v) (hs:eX im loc xs vs):eX im loc (x::xs) (v::vs)
end
def nN (im eB:Im):Prop:= ∀b o,im b=amF o->eB b=amF o
def lZ (loc bm:Loc):Prop:= ∀t li,loc t=amF li->bm t=amF li
theorem nN.refl (im:Im):nN im im:=fun _ _ h=>h
theorem nN.trans {a b c:Im} (h:nN a b) (k:nN b c):nN a c:=fun x o e=>k x o (h x o e)
theorem lZ.refl (loc:Loc):lZ loc loc:=fun _ _ h=>h
theorem lZ.trans {a b c:Loc} (h:lZ a b) (k:lZ b c):lZ a c:=fun x o e=>k x o (h x o e)
theorem nN.cell {im eB:Im} (h:nN im eB) {b o:Nat} {v:Value} (hc:nM im b o=amF v):nM eB b o=amF v:=by
 unfold nM at hc ⊢;cases hb:im b with
 |none=>rw [hb] at hc;cases hc
 |some x=>rw [hb] at hc;rw [h b x hb];exact hc
theorem bO.mono {g g':Nat->Option Value} {sh esz:Nat} {rows:List Row} (h:bO g sh esz rows) (hg: ∀k v,g k=amF v->g' k=amF v):
 bO g' sh esz rows:=by
 intro i r hr;obtain ⟨h1,h2⟩:=h i r hr;exact ⟨h1,fun j c hc=>let ⟨v,hv,hw⟩:=h2 j c hc;⟨v,hv,hg _ _ hw⟩⟩
mutual
theorem VR.mono {im eB:Im} {loc bm:Loc} (hi:nN im eB) (hl:lZ loc bm): ∀{x:PV} {v:Value},VR im loc x v->VR eB bm x v
 |_,_,.undef v=> .undef v
 |_,_,.jy=> .jy
 |_,_,.int k n=> .int k n
 |_,_,.bool b=> .bool b
 |_,_,.str s=> .str s
 |_,_,.agg cs vs h=> .agg cs vs (eX.mono hi hl h)
 |_,_,.cu cs vs h=> .cu cs vs (eX.mono hi hl h)
 |_,_,.sl esz qA rows a cap hc hk h=> .sl esz qA rows a cap hc hk fun dS=>let ⟨b,o,ha,hr⟩:=h dS;⟨b,o,ha,hr.mono fun _ _ e=>hi.cell e⟩
 |_,_,.own t esz off len cap ex li a cY h1 h2 h3 h4 h5 h6 h7=> .own t esz off len cap ex li a cY (hl _ _ h1) h2 h3 h4 h5 h6 h7
 |_,_,.ptr t esz row off li h1 h2 h3=> .ptr t esz row off li (hl _ _ h1) h2 h3
 |_,_,.bI cs off b o vs h hv=> .bI cs off b o vs (eX.mono hi hl h) fun j v e=>hi.cell (hv j v e)
 |_,_,.mp t li h=> .mp t li (hl _ _ h)
 |_,_,.eL fn a b as bs ha hb=> .eL fn a b as bs (eX.mono hi hl ha) (eX.mono hi hl hb)
 |_,_,.dU=> .dU
theorem eX.mono {im eB:Im} {loc bm:Loc} (hi:nN im eB) (hl:lZ loc bm): ∀{x:List PV} {v:List Value},eX im loc x v->eX eB bm x v
 |_,_,.nil=> .nil
 |_,_,.cons x v xs vs h hs=> .cons x v xs vs (VR.mono hi hl h) (eX.mono hi hl hs)
end
theorem eX.mK {im:Im} {loc:Loc}: ∀{x:List PV} {v:List Value},eX im loc x v->amE x=amE v
 |_,_,.nil=>rfl
 |_,_,.cons _ _ _ _ _ hs=>by simp [hs.mK]
theorem eX.get {im:Im} {loc:Loc}: ∀{xs:List PV} {vs:List Value},eX im loc xs vs-> ∀(i:Nat) (x:PV),xs[i]? =amF x-> ∃v,vs[i]? =amF v/\VR im loc x v
 |_,_,.nil,i,x,h=>by simp at h
 |_,_,.cons y v xs vs h hs,0,x,e=>by simp at e;subst e;exact ⟨v,rfl,h⟩
 |_,_,.cons y v xs vs h hs,i+1,x,e=>by
  obtain ⟨u,hu,hr⟩:=hs.get i x (by simpa using e)
  exact ⟨u,by simpa using hu,hr⟩
theorem eX.append {im:Im} {loc:Loc}: ∀{xs:List PV} {vs:List Value},eX im loc xs vs-> ∀{ys:List PV} {us:List Value},eX im loc ys us->eX im loc (xs++ys) (vs++us)
 |_,_,.nil,_,_,k=>k
 |_,_,.cons y v xs vs h hs,_,_,k=> .cons _ _ _ _ h (hs.append k)
theorem eX.take {im:Im} {loc:Loc}: ∀{xs:List PV} {vs:List Value},eX im loc xs vs-> ∀n,eX im loc (xs.take n) (vs.take n)
 |_,_,.nil,n=>by simp;exact .nil
 |_,_,.cons y v xs vs h hs,0=> .nil
 |_,_,.cons y v xs vs h hs,n+1=> .cons _ _ _ _ h (hs.take n)
theorem eX.drop {im:Im} {loc:Loc}: ∀{xs:List PV} {vs:List Value},eX im loc xs vs-> ∀n,eX im loc (xs.drop n) (vs.drop n)
 |_,_,.nil,n=>by simp;exact .nil
 |_,_,.cons y v xs vs h hs,0=> .cons _ _ _ _ h hs
 |_,_,.cons y v xs vs h hs,n+1=>hs.drop n
theorem eX.of {im:Im} {loc:Loc}: ∀(xs:List PV) (vs:List Value),amE xs=amE vs->(∀(i:Nat) (x:PV) (v:Value),xs[i]? =amF x->vs[i]? =amF v->VR im loc x v)->eX im loc xs vs
 | [],[],_,_=> .nil
 |x::xs,v::vs,hl,h=> .cons x v xs vs (h 0 x v rfl rfl) (eX.of xs vs (by simpa using hl) fun i a b ha hb=>h (i+1) a b (by simpa using ha) (by simpa using hb))
theorem VR.plain {im:Im} {loc:Loc} {x:PV} {v:Value} (h:VR im loc x v) (hp:x.plain=amH):jA x=amF v:=by
 cases h<;>first|rfl|cases hp
theorem VR.Eh {im:Im} {loc:Loc} {x:PV} {v:Value} (h:jA x=amF v):VR im loc x v:=by
 cases x<;>simp only [jA,v6] at h<;>first|(subst h;constructor)|cases h
theorem VR.cells {im:Im} {loc:Loc} {x:PV} {v:Value} (h:VR im loc x v) (hs: ∀c∈x.cells,c.pS=amH):eX im loc x.cells v.cells.toList:=by
 have one: ∀{y:PV} {u:Value},VR im loc y u->y.pS=amH->(∀us,u≠ .agg us):=by
  intro y u hy ho us e;subst e;cases hy<;>cases ho
 cases h with
 |agg cs vs h=>exact h
 |undef v=>have:=hs .undef (by simp [PV.cells]);cases this
 |jy=>have:=hs .jy (by simp [PV.cells]);cases this
 |cu cs vs h=>have:=hs (.cu cs) (by simp [PV.cells]);cases this
 |int k n=>exact .cons _ _ _ _ (.int k n) .nil
 |bool b=>exact .cons _ _ _ _ (.bool b) .nil
 |str s=>exact .cons _ _ _ _ (.str s) .nil
 |sl esz qA rows a cap hc hk h=>exact .cons _ _ _ _ (.sl esz qA rows a cap hc hk h) .nil
 |own t esz off len cap ex li a cY h1 h2 h3 h4 h5 h6 h7=>exact .cons _ _ _ _ (.own t esz off len cap ex li a cY h1 h2 h3 h4 h5 h6 h7) .nil
 |ptr t esz row off li h1 h2 h3=>exact .cons _ _ _ _ (.ptr t esz row off li h1 h2 h3) .nil
 |bI cs off b o vs h hv=>exact .cons _ _ _ _ (.bI cs off b o vs h hv) .nil
 |mp t li h=>exact .cons _ _ _ _ (.mp t li h) .nil
 |eL fn a b as bs ha hb=>exact .cons _ _ _ _ (.eL fn a b as bs ha hb) .nil
 |dU=>exact .cons _ _ _ _ .dU .nil
theorem VR.Ix {im:Im} {loc:Loc} {x:PV} {v:Value} (h:VR im loc x v) (hs:x.pS=amH):(∀us,v≠ .agg us)/\ ∀us,v≠ .tuple us:=by
 cases h<;>first|(simp [PV.pS] at hs;done)|simp
def valOf:PV->Option Value
 | .agg cs=>(cs.mapM jA).map fun vs=> .agg ⟨vs⟩
 |x=>jA x
def fC:List (PV×PV)->List MapEntry->Prop
 | [],[]=>True
 |(k,v)::r,e::r'=>valOf k=amF e.key/\valOf v=amF e.val/\fC r r'
 |_,_=>False
def BR (im:Im) (loc:Loc) (w:World) (li:LI):jR->Prop
 | .arr e rows=>li.esz=e/\li.n=amE rows/\(rows≠[]-> ∃cs el,w.heap[li.df]? =amF (.cells cs el (0,0))/\cs.size=li.sz/\li.sh+amE rows*e<=li.sz/\bO (fun k=>cs[k]?) li.sh e rows)
 | .box cells=>(li.esz=amE cells/\li.n=1\/li.esz=1/\li.n=amE cells)/\True/\li.sh=0/\ ∃vs el,w.heap[li.df]? =amF (.cells ⟨vs⟩ el (0,0))/\amE vs=li.sz/\eX im loc cells vs
 | .map es=> ∃kT clock,w.heap[li.df]? =amF (.map kT clock)/\fC es kT.toList
 | .dead=>True
theorem BR.mono {im eB:Im} {loc bm:Loc} {w w':World} {li:LI} {k:jR} (h:BR im loc w li k) (hi:nN im eB) (hl:lZ loc bm)
 (hw:w'.heap[li.df]? =w.heap[li.df]?):BR eB bm w' li k:=by
 cases k with
 |arr e rows=>exact ⟨h.1,h.2.1,fun dS=>let ⟨cs,el,h1,h2,h3⟩:=h.2.2 dS;⟨cs,el,by rw [hw];exact h1,h2,h3⟩⟩
 |box cells=>obtain ⟨h1,h2,h3,vs,el,h4,h5,h6⟩:=h;exact ⟨h1,h2,h3,vs,el,by rw [hw];exact h4,h5,h6.mono hi hl⟩
 |map es=>obtain ⟨en,cl,h1,h2⟩:=h;exact ⟨en,cl,by rw [hw];exact h1,h2⟩
 |dead=>trivial
theorem BR.lt {im:Im} {loc:Loc} {w:World} {li:LI} {k:jR} (h:BR im loc w li k) (hs:k.bM=amH):li.df<w.heap.size:=by
 have get: ∀{o:Obj},w.heap[li.df]? =amF o->li.df<w.heap.size:=fun e=>by
  rcases acK li.df w.heap.size with h|h
  · exact h
  simp [ajB h] at e
 cases k with
 |arr e rows=>
  cases rows with
  |nil=>cases hs
  |cons r rs=>obtain ⟨cs,el,h1,_⟩:=h.2.2 (by simp);exact get h1
 |box cells=>obtain ⟨_,_,_,vs,el,h4,_⟩:=h;exact get h4
 |map es=>obtain ⟨en,cl,h1,h2⟩:=h;exact get h1
 |dead=>cases hs
structure SR (im:Im) (loc:Loc) (aE:cK) (fz:List Nat) (w:World):Prop where
 bH: ∀b o,im b=amF o->w.heap[b]? =amF o
 df: ∀t li,loc t=amF li-> ∃k,aE[t]? =amF k/\BR im loc w li k
 iI: ∀t u li lj k k',loc t=amF li->loc u=amF lj->aE[t]? =amF k->aE[u]? =amF k'->k.bM=amH->k'.bM=amH->li.df=lj.df->t=u
 free: ∀t li k,loc t=amF li->aE[t]? =amF k->k.bM=amH->has fz t=amI->im li.df=amG
def ER (im:Im) (loc:Loc) (e:Env) (tmps:Array Value):Prop:= ∀t,VR im loc (lk t e) (tmps.getD t Go.undef)
theorem ER.mono {im eB:Im} {loc bm:Loc} (hi:nN im eB) (hl:lZ loc bm) {e:Env} {tmps:Array Value} (h:ER im loc e tmps):ER eB bm e tmps:=
 fun t=>(h t).mono hi hl
theorem qX (t s:Nat) (v:PV) (e:Env):lk t ((s,v)::e)=if s=t then v else lk t e:=by
 simp only [lk]
 by_cases h:s=t<;>simp [h]
theorem ER.put {im:Im} {loc:Loc} {e:Env} {tmps:Array Value} (h:ER im loc e tmps) {d:Nat} {x:PV} {v:Value} (hd:d<tmps.size) (hv:VR im loc x v):
 ER im loc ((d,x)::e) (tmps.setIfInBounds d v):=by
 intro t;rw [qX]
 by_cases hdt:d=t
 · subst hdt
   simpa [hd] using hv
 rw [rc hdt]
 have:=h t
 simpa [ae5,hdt] using this
end Go.Vm
/- Renaming the blocks. -/
namespace Go.Vm
theorem yo {t:Nat}: ∀{m:List Nat} {u:Nat},idxOf t m=amF u->m[u]? =amF t
 | [],u,h=>by simp [idxOf] at h
 |s::r,u,h=>by
  simp only [idxOf] at h;split at h
  · rename_i e
    injection h with h;subst h
    have:s=t:=by simpa using e
    simp [this]
  rw [AC] at h
  obtain ⟨v,hv,rfl⟩:=h;simpa using yo hv
section
variable {im : Im} {loc dj : Loc} {m : List Nat}
def Ren (m:List Nat) (loc dj:Loc):Prop:= ∀(u t:Nat),m[u]? =amF t->dj u=loc t
mutual
theorem SW (hm:Ren m loc dj): ∀{x y:PV} {v:Value},VR im loc x v->zc m x=amF y->VR im dj y v
 | .undef,y,v,h,hr=>by simp only [zc,v6] at hr;subst hr;exact .undef _
 | .jy,y,v,h,hr=>by simp only [zc,v6] at hr;subst hr;cases h;exact .jy
 | .int k n,y,v,h,hr=>by simp only [zc,v6] at hr;subst hr;cases h;exact .int _ _
 | .bool b,y,v,h,hr=>by simp only [zc,v6] at hr;subst hr;cases h;exact .bool _
 | .str b,y,v,h,hr=>by simp only [zc,v6] at hr;subst hr;cases h;exact .str _
 | .dU,y,v,h,hr=>by simp only [zc,v6] at hr;subst hr;cases h;exact .dU
 | .agg cs,y,v,h,hr=>by
  simp only [zc,AC] at hr;obtain ⟨He,h1,rfl⟩:=hr;cases h with|agg _ vs h=>exact .agg _ _ (sQ hm h h1)
 | .cu cs,y,v,h,hr=>by
  simp only [zc,AC] at hr;obtain ⟨He,h1,rfl⟩:=hr;cases h with|cu _ vs h=>exact .cu _ _ (sQ hm h h1)
 | .sl e c rows,y,v,h,hr=>by
  simp only [zc,v6] at hr;subst hr;cases h with|sl _ _ _ a cap h1 h2 h3=>exact .sl _ _ _ a cap h1 h2 h3
 | .own t e off len cap ex,y,v,h,hr=>by
  simp only [zc,AC] at hr;obtain ⟨u,h1,rfl⟩:=hr;cases h with|own _ _ _ _ _ _ li a cY g1 g2 g3 g4 g5 g6 g7=>exact .own _ _ _ _ _ _ li a cY (by rw [hm u t (yo h1)];exact g1) g2 g3 g4 g5 g6 g7
 | .ptr t e row off,y,v,h,hr=>by
  simp only [zc,AC] at hr;obtain ⟨u,h1,rfl⟩:=hr;cases h with|ptr _ _ _ _ li g1 g2 g3=>exact .ptr _ _ _ _ li (by rw [hm u t (yo h1)];exact g1) g2 g3
 | .bI cs off,y,v,h,hr=>by
  simp only [zc,AC] at hr;obtain ⟨He,h1,rfl⟩:=hr;cases h with|bI _ _ b o vs h hv=>exact .bI _ _ b o vs (sQ hm h h1) hv
 | .mp t,y,v,h,hr=>by
  simp only [zc,AC] at hr;obtain ⟨u,h1,rfl⟩:=hr;cases h with|mp _ li g1=>exact .mp _ li (by rw [hm u t (yo h1)];exact g1)
 | .eL f a b,y,v,h,hr=>by
  simp only [zc] at hr;split at hr
  · rename_i a' b' ha hb
    injection hr with hr;subst hr;cases h with|eL _ _ _ as bs h1 h2=>exact .eL _ _ _ _ _ (sQ hm h1 ha) (sQ hm h2 hb)
  cases hr
theorem sQ (hm:Ren m loc dj): ∀{x y:List PV} {v:List Value},eX im loc x v->y5 m x=amF y->eX im dj y v
 | [],y,v,h,hr=>by simp only [y5,v6] at hr;subst hr;cases h;exact .nil
 |x::xs,y,v,h,hr=>by
  simp only [y5] at hr;split at hr
  · rename_i x' xs' h1 h2
    injection hr with hr;subst hr;cases h with|cons _ u _ us g1 g2=>exact .cons _ _ _ _ (SW hm g1 h1) (sQ hm g2 h2)
  cases hr
end
theorem CX: ∀{x y:List PV},y5 m x=amF y->amE y=amE x
 | [],y,h=>by simp only [y5,v6] at h;subst h;rfl
 |x::xs,y,h=>by
  simp only [y5] at h;split at h
  · rename_i x' xs' h1 h2
    injection h with h;subst h;simp [CX h2]
  cases h
theorem Hf {w:World} {li:LI} {k k':jR} (hm:Ren m loc dj) (hr:nJ m k=amF k') (h:BR im loc w li k):BR im dj w li k':=by
 cases k with
 |arr e rows=>simp only [nJ,v6] at hr;subst hr;exact h
 |map es=>simp only [nJ,v6] at hr;subst hr;exact h
 |dead=>simp only [nJ,v6] at hr;subst hr;trivial
 |box cs=>
  simp only [nJ,AC] at hr;obtain ⟨He,h1,rfl⟩:=hr;obtain ⟨g1,g2,g3,vs,el,g4,g5,g6⟩:=h;exact ⟨by rw [CX h1];exact g1,g2,g3,vs,el,g4,g5,sQ hm g6 h1⟩
theorem AG {k k':jR} (hr:nJ m k=amF k'):k'.bM=k.bM:=by
 cases k with
 |arr e rows=>simp only [nJ,v6] at hr;subst hr;rfl
 |map es=>simp only [nJ,v6] at hr;subst hr;rfl
 |dead=>simp only [nJ,v6] at hr;subst hr;rfl
 |box cs=>
  simp only [nJ,AC] at hr;obtain ⟨He,h1,rfl⟩:=hr;rfl
theorem BW {aE:cK}: ∀{l:List Nat} {s1:cK},xj aE m l=amF s1->amE s1=amE l/\ ∀(u t:Nat),l[u]? =amF t-> ∃k k',aE[t]? =amF k/\nJ m k=amF k'/\s1[u]? =amF k'
 | [],s1,h=>by simp only [xj,v6] at h;subst h;exact ⟨rfl,fun u t h=>by simp at h⟩
 |t::ts,s1,h=>by
  simp only [xj] at h;split at h
  · rename_i b hb
    split at h
    · rename_i b' r h1 h2
      injection h with h;subst h;obtain ⟨g1,g2⟩:=BW h2;refine ⟨by simp [g1],fun u t' ht=>?_⟩
      cases u with
      |zero=>simp at ht;subst ht;exact ⟨b,b',hb,h1,rfl⟩
      |succ u=>simpa using g2 u t' (by simpa using ht)
    cases h
  cases h
end
end Go.Vm
/- Operation by operation: the model's run gives what the logical machine says. First part: what reads no memory. -/
namespace Go.Vm
theorem fg {k l:IntKind}:fu k l=amH↔k=l:=by
 cases k<;>cases l<;>simp [fu]
theorem DN {n:Int} (h1: -9223372036854775808<=n) (h2:n<9223372036854775808):IntKind.wrap .i64 n=n:=by
 simp only [IntKind.wrap,IntKind.bits,IntKind.signed,amx];have e1:(2:Int)^64=18446744073709551616:=by decide
 have e2:(2:Int)^(64-1)=9223372036854775808:=by decide
 simp only [e1,e2,decide_eq_true_eq];split<;>omega
theorem rO (k:IntKind) (n:Int):ae k n=k.wrap n:=by
 unfold ae;split
 · rename_i m
   split
   · rename_i h
     have h:m<9223372036854775808:=by simpa using h
     have e:Int.ofNat m=(m:Int):=rfl;exact (DN (by rw [e];omega) (by rw [e];omega)).symm
   rfl
 · rename_i m
   split
   · rename_i h
     have h:m<9223372036854775808:=by simpa using h
     exact (DN (by omega) (by omega)).symm
   rfl
 · rename_i m
   simp only [IntKind.wrap,IntKind.bits,IntKind.signed,Bool.false_and];have e1:(2:Int)^64=18446744073709551616:=by decide
   simp only [e1];rfl
 rfl
section
variable {P : Program} {im : Im} {loc : Loc} {w : World}
theorem VR.gr {k:IntKind} {n:Int} {v:Value} (h:VR im loc (.int k n) v):v= .int k n:=by cases h;rfl
theorem VR.jB {b:Bool} {v:Value} (h:VR im loc (.bool b) v):v= .bool b:=by cases h;rfl
theorem VR.DO {b:ByteArray} {v:Value} (h:VR im loc (.str b) v):v= .string b:=by cases h;rfl
theorem VR.pj {cs:List PV} {v:Value} (h:VR im loc (.agg cs) v): ∃vs,v= .agg ⟨vs⟩/\eX im loc cs vs:=by cases h with|agg _ vs h=>exact ⟨vs,rfl,h⟩
theorem VR.AH {cs:List PV} {v:Value} (h:VR im loc (.cu cs) v): ∃vs,v= .tuple ⟨vs⟩/\eX im loc cs vs:=by cases h with|cu _ vs h=>exact ⟨vs,rfl,h⟩
mutual
theorem Iy: ∀{x:PV} {v:Value},tI x v=amH->VR im loc x v
 | .int k n,v,h=>by
  cases v<;>simp only [tI] at h<;>first|cases h|skip
  simp only [ut,beq_iff_eq,fg] at h;obtain ⟨rfl,rfl⟩:=h;exact .int _ _
 | .bool a,v,h=>by
  cases v<;>simp only [tI] at h<;>first|cases h|skip
  rename_i b;have:a=b:=by simpa using h
  subst this;exact .bool _
 | .str a,v,h=>by
  cases v<;>simp only [tI] at h<;>first|cases h|skip
  rename_i b;have h1:a.data.toList=b.data.toList:=by simpa using h
  obtain ⟨⟨x⟩⟩:=a;obtain ⟨⟨y⟩⟩:=b;have h2:x=y:=h1;subst h2;exact .str _
 | .sl e c [],v,h=>by
  cases v with
  |slice a n cap=>
   cases a with
   |none=>
    cases n with
    |zero=>
     cases cap with
     |zero=>exact .sl e c [] amG 0 (Nat.zero_le _) (fun _=>rfl) (fun dS=>absurd rfl dS)
     |succ c=>simp [tI] at h
    |succ n=>simp [tI] at h
   |some a=>simp [tI] at h
  |_=>simp [tI] at h
 | .sl e c (_::_),v,h=>by simp [tI] at h
 | .agg cs,v,h=>by
  cases v<;>simp only [tI] at h<;>first|cases h|skip
  rename_i vs;exact .agg cs vs.toList (xm h)
 | .dU,v,h=>by
  cases v<;>simp only [tI] at h<;>first|cases h|skip
  exact .dU
 | .undef,v,_=> .undef v
 | .jy,v,h=>by simp [tI] at h
 | .cu _,v,h=>by simp [tI] at h
 | .own ..,v,h=>by simp [tI] at h
 | .ptr ..,v,h=>by simp [tI] at h
 | .bI ..,v,h=>by simp [tI] at h
 | .mp _,v,h=>by simp [tI] at h
 | .eL ..,v,h=>by simp [tI] at h
theorem xm: ∀{x:List PV} {v:List Value},Eg x v=amH->eX im loc x v
 | [],[],_=> .nil
 |x::xs,v::vs,h=>by
  simp only [Eg,ut] at h;exact .cons _ _ _ _ (Iy h.1) (xm h.2)
 | [],_::_,h=>by simp [Eg] at h
 |_::_,[],h=>by simp [Eg] at h
end
theorem Wt {op : BinOp} {t : TypeId} {a b : Operand} {x y : PV} {u v : Value} {z : PV} (hx : VR im loc x u) (hy : VR im loc y v) (h : Q2 op x y = amF z) :
    ∃ r, (do eqGuard op t a b u v; binOp op t u v : Sem Value).run P w = .ok r w /\ VR im loc z r := by
  unfold Q2 at h
  split at h
  · rename_i k a l b
    obtain rfl := hx.gr
    obtain rfl := hy.gr
    have hg : ∀ (k l : IntKind) (a b : Int) (o p : Operand), (eqGuard op t o p (.int k a) (.int l b)).run P w = .ok () w := by
      intros; unfold eqGuard; cases op <;> simp
    split at h
    · simp only [BS] at h
      split at h
      · cases h
      rename_i hb
      injection h with h; subst h
      refine ⟨_, ?_, .int _ _⟩
      simp only [Do, hg, ww, binOp, Op.shift, hb, if_false]
      rfl
    · simp only [BS] at h
      split at h
      · cases h
      rename_i hb
      injection h with h; subst h
      refine ⟨_, ?_, .int _ _⟩
      simp only [Do, hg, ww, binOp, Op.shift, hb, if_false]
      rfl
    split at h
    · rename_i awK awL hk
      have := fg.1 hk; subst this
      unfold arith at h
      split at h
      all_goals first
        | (injection h with h; subst h
           first
             | (refine ⟨_, ?_, .int _ _⟩
                simp only [Do, hg, ww, binOp, Op.intArith, Op.intBits, rO, ne_eq, not_true_eq_false, if_false]
                rfl)
             | (refine ⟨_, ?_, .bool _⟩
                simp only [Do, hg, ww, binOp, Op.intCmp, ne_eq, not_true_eq_false, if_false]
                rfl))
        | (split at h
           · cases h
           rename_i hb
           injection h with h; subst h
           refine ⟨_, ?_, .int _ _⟩
           simp only [Do, hg, ww, binOp, Op.intDiv, rO, ne_eq, not_true_eq_false, if_false, hb]
           rfl)
        | cases h
    cases h
  cases h
theorem SX {neg:Bool} {op:BinOp} {t:TypeId} {p q:Operand} {a b:Bool} (ho:op=if neg then .neq else .eql) (ht:P.underlying t=amF .bool):
 (do eqGuard op t p q (.bool a) (.bool b);binOp op t (.bool a) (.bool b):Sem Value).run P w= .ok (.bool (if neg then !(a==b) else a==b)) w:=by
 have h1:(Op.equal t (.bool a) (.bool b)).run P w= .ok (a==b) w:=run_equalIn_bool' w 9999 t a b ht;cases neg<;>simp only [ae0,if_false,if_true] at ho<;>subst ho<;>simp [eqGuard,binOp,h1]
theorem afr {op:UnOp} {x z:PV} {u:Value} (hx:VR im loc x u) (h:unE op x=amF z): ∃r,(Op.unary op u).run P w= .ok r w/\VR im loc z r:=by
 unfold unE at h;split at h
 · injection h with h;subst h
   obtain rfl:=hx.gr;exact ⟨_,rfl,by rw [rO];exact .int _ _⟩
 · injection h with h;subst h
   obtain rfl:=hx.jB;exact ⟨_,rfl,.bool _⟩
 cases h
theorem SY {s d:TypeId} {k k':IntKind} {n:Int} {ds:TypeDesc} (hs:P.underlying s=amF ds) (hd:P.underlying d=amF (.int k)):
 (convert s d (.int k' n)).run P w= .ok (.int k (ae k n)) w:=by
 simp only [convert,Do,run_underlying hs,run_underlying hd,ww,rO];cases ds<;>rfl
theorem BX {t:TypeId} (h:gS P t=amH):(isAgg t).run P w= .ok amH w:=by
 unfold gS at h;split at h
 · rename_i f hu;simp [isAgg,run_underlying hu]
 · rename_i n f hu;simp [isAgg,run_underlying hu]
 cases h
theorem BY {t:TypeId} (hs:(P.underlying t).isSome=amH) (h:gS P t=amI):(isAgg t).run P w= .ok amI w:=by
 cases hu:P.underlying t with
 |none=>rw [hu] at hs;cases hs
 |some d=>
  unfold gS at h;rw [hu] at h;cases d<;>first|(simp [isAgg,run_underlying hu];done)|cases h
theorem kA {t:TypeId} {n:Nat} (h:oF P t n=amH):(sizeOf t).run P w= .ok n w:=by
 unfold oF at h;cases hi:P.info? t with
 |none=>rw [hi] at h;cases h
 |some i=>
  rw [hi] at h
  have:i.size=n:=by simpa using h
  simp [sizeOf,typeInfo,hi,this]
theorem Kq {agg:Option Nat} {t:TypeId} {off:Nat} {cs:List PV} {vs:List Value} {x:PV} (ha:AF P t agg=amH) (h:eX im loc cs vs)
 (hp:part agg off cs=amF x): ∃v,(Go.part t ⟨vs⟩ off).run P w= .ok v w/\VR im loc x v:=by
 unfold AF at ha;simp only [ut] at ha;obtain ⟨hs,ha⟩:=ha;cases agg with
 |some n=>
  simp only [ut] at ha;simp only [part] at hp;split at hp
  · rename_i k7
    injection hp with hp;subst hp;refine ⟨.agg ⟨(vs.drop off).take n⟩,?_,.agg _ _ ((h.drop off).take n)⟩;simp only [Go.part,Do,BX ha.1,ww,if_true,kA ha.2,EQ]
    congr 2
    apply aew;simp [afv]
  cases hp
 |none=>
  simp only [ut,aeu] at ha;simp only [part] at hp;obtain ⟨v,hv,hr⟩:=h.get off x hp;refine ⟨v,?_,hr⟩;simp only [Go.part,Do,BY hs ha.1,ww,ae0,if_false]
  have:(⟨vs⟩:Array Value)[off]? =amF v:=by simpa using hv
  simp [this]
theorem vo {agg:Option Nat} {t:TypeId} {b o off:Nat} {cs:List PV} {vs:List Value} {x:PV} (ha:AF P t agg=amH) (h:eX im loc cs vs)
 (hm: ∀(j:Nat) (v:Value),vs[j]? =amF v->w.cell? ⟨b,o+j,amG⟩=amF v)
 (hp:part agg off cs=amF x): ∃v,(loadVar t ⟨b,o+off,amG⟩).run P w= .ok v w/\VR im loc x v:=by
 unfold AF at ha;simp only [ut] at ha;obtain ⟨hs,ha⟩:=ha;have arv: ∀k j:Nat,(⟨b,k,amG⟩:Addr).add j=⟨b,k+j,amG⟩:=by
  intro k j;unfold Addr.add;split
  · rename_i h;subst h;rfl
  rfl
 cases agg with
 |some n=>
  simp only [ut] at ha;simp only [part] at hp;split at hp
  · rename_i k7
    injection hp with hp;subst hp;refine ⟨.agg ⟨(vs.drop off).take n⟩,?_,.agg _ _ ((h.drop off).take n)⟩;have hl:((vs.drop off).take n).length=n:=by
     have:=h.mK
     simp;omega
    have:=run_loadCells_list (P:=P) w ⟨b,o+off,amG⟩ ((vs.drop off).take n) (by
     intro j v hj;rw [arv];have hj':j<n:=by
      rcases acK j n with h|h
      · exact h
      rw [M2 (by omega)] at hj;cases hj
     rw [af5 hj',afu] at hj
     have:=hm _ _ hj
     rwa [show o+(off+j)=o+off+j by omega] at this)
    rw [hl] at this;simp only [loadVar,Do,BX ha.1,ww,if_true,kA ha.2,this,EQ]
  cases hp
 |none=>
  simp only [ut,aeu] at ha;simp only [part] at hp;obtain ⟨v,hv,hr⟩:=h.get off x hp;refine ⟨v,?_,hr⟩;simp only [loadVar,Do,BY hs ha.1,ww,ae0,if_false];rw [run_load,hm off v hv]
end
end Go.Vm
/- What an operation does to the memory, and the shapes in which it does it. -/
namespace Go.Vm
structure sR (im:Im) (loc:Loc) (aE:cK) (w:World) (r:nI) (eB:Im) (bm:Loc) (w':World):Prop where
 gD:nN im eB
 dV:lZ loc bm
 bH: ∀b o,eB b=amF o->w'.heap[b]? =amF o
 dY: ∀b o,eB b=amF o->im b=amF o\/w.heap.size<=b\/ ∃t li k,has r.fr t=amH/\loc t=amF li/\aE[t]? =amF k/\k.bM=amH/\li.df=b
 os:w'.os=w.os
 tape:w'.tape=w.tape
 output:w'.output=w.output
 size:w.heap.size<=w'.heap.size
 frame: ∀b,b<w.heap.size->(∀t k li k0,(t,k)∈r.wr->loc t=amF li->aE[t]? =amF k0->k0.bM=amH->li.df≠b)->w'.heap[b]? =w.heap[b]?
 Q4: ∀t k,(t,k)∈r.wr->k.bM=amH-> ∃k0,aE[t]? =amF k0/\k0.bM=amH
 wr: ∀t k li,(t,k)∈r.wr->loc t=amF li->BR eB bm w' li k
 kU: ∀t li,bm t=amF li->loc t=amF li\/(amE aE<=t/\t<amE aE+amE r.news)
 news: ∀(j:Nat) (k:jR) (li:LI),r.news[j]? =amF k->bm (amE aE+j)=amF li->BR eB bm w' li k/\
  (k.bM=amH->eB li.df=amG/\(w.heap.size<=li.df\/ ∃t lt k0,(t,jR.dead)∈r.wr/\loc t=amF lt/\aE[t]? =amF k0/\k0.bM=amH/\lt.df=li.df))
 distinct: ∀(i j:Nat) (ki kj:jR) (li lj:LI),r.news[i]? =amF ki->r.news[j]? =amF kj->ki.bM=amH->kj.bM=amH->
  bm (amE aE+i)=amF li->bm (amE aE+j)=amF lj->li.df=lj.df->i=j
theorem BZ {α:Type} {n:Nat} {l:List α} {loc:Loc} {A:LI->α->Prop} (h: ∀(j:Nat) (k:α),l[j]? =amF k-> ∃li,loc (n+j)=amF li/\A li k):
 ∀(j:Nat) (k:α) (li:LI),l[j]? =amF k->loc (n+j)=amF li->A li k:=fun j k li hj hl=>by
 obtain ⟨li',h1,h2⟩:=h j k hj;rw [hl] at h1;injection h1 with h1;subst h1;exact h2
structure jl (im:Im) (loc:Loc) (aE:cK) (w:World) (r:nI):Prop where
 bH: ∀b o,im b=amF o->w.heap[b]? =amF o
 tok: ∀t,t∈r.rd\/(∃k,(t,k)∈r.wr)-> ∀li,loc t=amF li-> ∃k,aE[t]? =amF k/\BR im loc w li k
 free: ∀t k,(t,k)∈r.wr-> ∀li k',loc t=amF li->aE[t]? =amF k'->k'.bM=amH->im li.df=amG
 fresh: ∀j,j<amE r.news->loc (amE aE+j)=amG
 iI: ∀t u li lj k k',(t∈r.rd\/ ∃b,(t,b)∈r.wr)->(u∈r.rd\/ ∃b,(u,b)∈r.wr)->loc t=amF li->loc u=amF lj->aE[t]? =amF k->aE[u]? =amF k'->k.bM=amH->k'.bM=amH->li.df=lj.df->t=u
section
variable {im : Im} {loc : Loc} {aE : cK} {w : World} {r : nI}
theorem sR.none (hk:jl im loc aE w r) (hn:r.news=[]) (hw:r.wr=[]):sR im loc aE w r im loc w where
 gD:= .refl _
 dV:= .refl _
 bH:=hk.bH
 dY:=fun _ _ h=> .inl h
 os:=rfl
 tape:=rfl
 output:=rfl
 size:=If _
 frame:=fun _ _ _=>rfl
 Q4:=fun t k h=>by rw [hw] at h;cases h
 wr:=fun t k li h=>by rw [hw] at h;cases h
 kU:=fun _ _ h=> .inl h
 news:=fun j k li h=>by rw [hn] at h;simp at h
 distinct:=fun i j ki kj li lj h=>by rw [hn] at h;simp at h
def Loc.set (loc:Loc) (t:Nat) (li:LI):Loc:=fun u=>if u=t then amF li else loc u
theorem Loc.eT (loc:Loc) (t:Nat) (li:LI):loc.set t li t=amF li:=by simp [Loc.set]
theorem Loc.xn {loc:Loc} {t:Nat} (li:LI) (h:loc t=Option.none):lZ loc (loc.set t li):=by
 intro u l hu;unfold Loc.set;split
 · rename_i e;subst e;rw [h] at hu;cases hu
 exact hu
theorem sR.new (hk:jl im loc aE w r) {k:jR} {o:Obj} {w':World} (li:LI) (hn:r.news=[k]) (hw:r.wr=[])
 (hh:w'.heap=w.heap.push o) (ho:w'.os=w.os) (ht:w'.tape=w.tape) (hp:w'.output=w.output) (hl:li.df=w.heap.size)
 (hb:BR im (loc.set (amE aE) li) w' li k):sR im loc aE w r im (loc.set (amE aE) li) w' where
 gD:= .refl _
 dV:=Loc.xn li (by have:=hk.fresh 0 (by simp [hn]);simpa using this)
 bH:=fun b o h=>by
  have h1:=hk.bH b o h;have dI:b<w.heap.size:=by
   rcases acK b w.heap.size with h|h
   · exact h
   simp [ajB h] at h1
  rw [hh,alX,rc (by omega)];exact h1
 dY:=fun _ _ h=> .inl h
 os:=ho
 tape:=ht
 output:=hp
 size:=by rw [hh];simp
 frame:=fun b Az _=>by rw [hh,alX,rc (by omega)]
 Q4:=fun t k h=>by rw [hw] at h;cases h
 wr:=fun t k li h=>by rw [hw] at h;cases h
 kU:=fun t l h=>by
  unfold Loc.set at h;split at h
  · rename_i e;subst e;exact .inr ⟨If _,by simp [hn]⟩
  exact .inl h
 news:=BZ fun j k' h=>by
  rw [hn] at h;cases j with
  |zero=>
   simp at h;subst h;refine ⟨li,Loc.eT _ _ _,hb,fun _=>⟨?_,.inl (by omega)⟩⟩
   cases hi:im li.df with
   |none=>rfl
   |some o=>have:=hk.bH _ _ hi;rw [hl] at this;simp at this
  |succ j=>simp at h
 distinct:=fun i j ki kj li lj h1 h2 _ _ _ _ _=>by
  rw [hn] at h1 h2;cases i<;>cases j<;>simp at h1 h2<;>rfl
theorem sR.SZ (hk:jl im loc aE w r) {esz:Nat} (hn:r.news=[.arr esz []]) (hw:r.wr=[]):sR im loc aE w r im (loc.set (amE aE) ⟨0,0,esz,0,0⟩) w where
 gD:= .refl _
 dV:=Loc.xn _ (by have:=hk.fresh 0 (by simp [hn]);simpa using this)
 bH:=hk.bH
 dY:=fun _ _ h=> .inl h
 os:=rfl
 tape:=rfl
 output:=rfl
 size:=If _
 frame:=fun _ _ _=>rfl
 Q4:=fun t k h=>by rw [hw] at h;cases h
 wr:=fun t k li h=>by rw [hw] at h;cases h
 kU:=fun t l h=>by
  unfold Loc.set at h;split at h
  · rename_i e;subst e;exact .inr ⟨If _,by simp [hn]⟩
  exact .inl h
 news:=BZ fun j k' h=>by
  rw [hn] at h;cases j with
  |zero=>
   simp at h;subst h;exact ⟨_,Loc.eT _ _ _,⟨rfl,rfl,fun dS=>absurd rfl dS⟩,fun hs=>by cases hs⟩
  |succ j=>simp at h
 distinct:=fun i j ki kj li lj h1 h2 _ _ _ _ _=>by
  rw [hn] at h1 h2;cases i<;>cases j<;>simp at h1 h2<;>rfl
theorem sR.write (hk:jl im loc aE w r) {t:Nat} {k k0:jR} {o:Obj} {w':World} {li:LI} (hn:r.news=[]) (hw:r.wr=[(t,k)])
 (hl:loc t=amF li) (h0:aE[t]? =amF k0) (hs:k0.bM=amH)
 (hh:w'.heap=w.heap.setIfInBounds li.df o) (ho:w'.os=w.os) (ht:w'.tape=w.tape) (hp:w'.output=w.output)
 (hb:BR im loc w' li k):sR im loc aE w r im loc w' where
 gD:= .refl _
 dV:= .refl _
 bH:=fun b o' h=>by
  have h1:=hk.bH b o' h;have rQ:=hk.free t k (by simp [hw]) li k0 hl h0 hs
  have dS:li.df≠b:=fun e=>by rw [e,h] at rQ;cases rQ
  rw [hh,ae5,rc dS];exact h1
 dY:=fun _ _ h=> .inl h
 os:=ho
 tape:=ht
 output:=hp
 size:=by rw [hh];simp
 frame:=fun b _ h=>by
  have dS:=h t k li k0 (by simp [hw]) hl h0 hs
  rw [hh,ae5,rc dS]
 Q4:=fun t' k' hm _=>by
  rw [hw] at hm;simp at hm;exact ⟨k0,by rw [hm.1];exact h0,hs⟩
 wr:=fun t' k' li' h h'=>by
  rw [hw] at h;simp at h;obtain ⟨rfl,rfl⟩:=h;rw [hl] at h';injection h' with h';subst h';exact hb
 kU:=fun _ _ h=> .inl h
 news:=fun j k li h=>by rw [hn] at h;simp at h
 distinct:=fun i j ki kj li lj h=>by rw [hn] at h;simp at h
end
end Go.Vm
/- Operation by operation, second part: addresses, reads, new blocks. -/
namespace Go.Vm
section
variable {P : Program} {im : Im} {loc : Loc} {aE : cK} {w : World}
theorem qD (b o n:Nat):(⟨b,o,amG⟩:Addr).add n=⟨b,o+n,amG⟩:=by
 unfold Addr.add;split
 · rename_i h;subst h;rfl
 rfl
theorem VR.yp {t e r o:Nat} {v:Value} (h:VR im loc (.ptr t e r o) v):
 ∃li,loc t=amF li/\li.esz=e/\r<li.n/\v= .pointer (amF ⟨li.df,li.sh+r*e+o,amG⟩):=by
 cases h with|ptr _ _ _ _ li h1 h2 h3=>exact ⟨li,h1,h2,h3,rfl⟩
theorem VR.xo {cs:List PV} {off:Nat} {v:Value} (h:VR im loc (.bI cs off) v):
 ∃b o vs,eX im loc cs vs/\(∀(j:Nat) (v:Value),vs[j]? =amF v->nM im b (o+j)=amF v)/\v= .pointer (amF ⟨b,o+off,amG⟩):=by
 cases h with|bI _ _ b o vs h1 h2=>exact ⟨b,o,vs,h1,h2,rfl⟩
theorem kI {b o:Nat} {cs:Array Value} {el:TypeId} {fr:Nat×Nat} {v:Value} (h:w.heap[b]? =amF (.cells cs el fr)) (hc:cs[o]? =amF v):
 w.cell? ⟨b,o,amG⟩=amF v:=by simp [World.cell?,h,hc]
theorem pX (hk: ∀b o,im b=amF o->w.heap[b]? =amF o) {b o:Nat} {v:Value} (h:nM im b o=amF v):w.cell? ⟨b,o,amG⟩=amF v:=by
 unfold nM at h;cases hb:im b with
 |none=>rw [hb] at h;cases h
 |some x=>
  rw [hb] at h;cases x<;>first|exact kI (hk b _ hb) h|cases h
def aV (r:Row):List Value:=r.map fun c=>(jA c).getD Go.undef
theorem sS {get:Nat->Option Value} {sh esz:Nat} {rows:List Row} (h:bO get sh esz rows) {i:Nat} {r:Row} (hr:rows[i]? =amF r):
 eX im loc r (aV r)/\ ∀(j:Nat) (v:Value),(aV r)[j]? =amF v->get (sh+i*esz+j)=amF v:=by
 obtain ⟨_,hc⟩:=h i r hr;constructor
 · refine eX.of _ _ (by simp [aV]) fun j x v hx hv=>?_
   obtain ⟨u,hu,_⟩:=hc j x hx;simp [aV,hx,hu] at hv;subst hv;exact VR.Eh hu
 intro j v hv
 cases hx:r[j]? with
 |none=>simp [aV,hx] at hv
 |some x=>
  obtain ⟨u,hu,hg⟩:=hc j x hx;simp [aV,hx,hu] at hv;subst hv;exact hg
theorem Kr {agg:Option Nat} {t:TypeId} {p:PV} {u:Value} {r:nI} (hp:VR im loc p u) (ha:AF P t agg=amH) (h:oJ aE agg p=amF r)
 (hk:jl im loc aE w r): ∃v,(Instr.loadAt t u).run P w= .ok v w/\VR im loc r.v v/\r.news=[]/\r.wr=[]:=by
 unfold oJ at h;split at h
 · rename_i tk e row off
   obtain ⟨li,hl,he,hn,rfl⟩:=hp.yp;split at h
   · rename_i e' rows hs
     split at h
     · rename_i cs mL
       rw [AC] at h;obtain ⟨x,hx,rfl⟩:=h;obtain ⟨k,gQ,hb⟩:=hk.tok tk (.inl (by simp)) li hl
       rw [hs] at gQ;injection gQ with gQ;subst gQ;have dS:rows≠[]:=by intro e;subst e;simp at mL
       obtain ⟨h1,h2,h3⟩:=hb;obtain ⟨arr,el,sU,_,_,lf⟩:=h3 dS;obtain ⟨hv,hg⟩:=sS (im:=im) (loc:=loc) lf mL;have Ni:e'=e:=by rw [<- h1,he]
       subst Ni;obtain ⟨v,cq,oG⟩:=vo (P:=P) (w:=w) (b:=li.df) (o:=li.sh+row*e') ha hv
        (fun j v hj=>kI sU (hg j v hj)) hx
       exact ⟨v,by simp only [Instr.loadAt,Instr.sureAddr,Do,EQ,ww,cq],oG,rfl,rfl⟩
     cases h
   · rename_i cs hs
     split at h
     · rename_i uB
       have uB:row=0:=by simpa using uB
       subst uB;rw [AC] at h;obtain ⟨x,hx,rfl⟩:=h;obtain ⟨k,gQ,hb⟩:=hk.tok tk (.inl (by simp)) li hl
       rw [hs] at gQ;injection gQ with gQ;subst gQ;obtain ⟨h1,h2,h3,vs,el,h4,h5,h6⟩:=hb;obtain ⟨v,cq,oG⟩:=vo (P:=P) (w:=w) (b:=li.df) (o:=li.sh+0*e) ha h6
        (fun j v hj=>kI h4 (by simpa [h3] using hj)) hx
       exact ⟨v,by simp only [Instr.loadAt,Instr.sureAddr,Do,EQ,ww,cq],oG,rfl,rfl⟩
     cases h
   cases h
 · rename_i cs off
   obtain ⟨b,o,vs,h1,h2,rfl⟩:=hp.xo;rw [AC] at h;obtain ⟨x,hx,rfl⟩:=h;obtain ⟨v,cq,oG⟩:=vo (P:=P) (w:=w) (b:=b) (o:=o) ha h1 (fun j v hj=>pX hk.bH (h2 j v hj)) hx
   exact ⟨v,by simp only [Instr.loadAt,Instr.sureAddr,Do,EQ,ww,cq],oG,rfl,rfl⟩
 cases h
theorem Ei {cs:List PV} {vs:List Value} {el:TypeId} {r:nI} (h:eX im loc cs vs) (hr:r={v:= .ptr (amE aE) (amE cs) 0 0,news:=[.box cs]}) (hk:jl im loc aE w r):
 ∃bm,VR im bm r.v (.pointer (amF ⟨w.heap.size,0,amG⟩))/\sR im loc aE w r im bm {w with heap:=w.heap.push (.cells ⟨vs⟩ el)}:=by
 subst hr
 let li:LI:=⟨w.heap.size,0,amE cs,1,amE vs⟩
 refine ⟨loc.set (amE aE) li,?_,?_⟩
 · have:=VR.ptr (im:=im) (loc:=loc.set (amE aE) li) (amE aE) (amE cs) 0 0 li (Loc.eT _ _ _) rfl (Nat.zero_lt_one)
   simpa [li] using this
 refine sR.new hk li rfl rfl rfl rfl rfl rfl rfl ⟨.inl ⟨rfl,rfl⟩,trivial,rfl,vs,el,?_,rfl,h.mono (.refl _) (Loc.xn li (by have:=hk.fresh 0 (by simp);simpa using this))⟩
 simp [li]
theorem Kt {x y:PV} {u v:Value} {el:TypeId} {r:nI} (hx:VR im loc x u) (hy:VR im loc y v) (hr:r={v:= .own (amE aE) 1 0 2 2 amH,news:=[.box [x,y]]}) (hk:jl im loc aE w r):
 ∃bm,VR im bm r.v (.slice (amF ⟨w.heap.size,0,amG⟩) 2 2)/\sR im loc aE w r im bm {w with heap:=w.heap.push (.cells #[u,v] el)}:=by
 subst hr
 let li:LI:=⟨w.heap.size,0,1,2,2⟩
 refine ⟨loc.set (amE aE) li,?_,?_⟩
 · exact .own (amE aE) 1 0 2 2 amH li _ 2 (Loc.eT _ _ _) rfl (If _) (If _) (If _) (fun _=>rfl) (.inr ⟨by simp [li],by simp [li],by simp [li]⟩)
 refine sR.new hk li rfl rfl rfl rfl rfl rfl rfl ⟨.inr ⟨rfl,rfl⟩,trivial,rfl,[u,v],el,?_,rfl,(eX.cons _ _ _ _ hx (.cons _ _ _ _ hy .nil)).mono (.refl _) (Loc.xn li (by have:=hk.fresh 0 (by simp);simpa using this))⟩
 simp [li]
theorem S0 {off:Nat} {t:TypeId} {f:Nat} {fs:Array Field} {g:Field} {i:TypeInfo} {p z:PV} {u:Value} (hp:VR im loc p u)
 (hu:P.underlying t=amF (.struct fs)) (hf:fs[f]? =amF g) (ho:g.offset=off) (hi:P.info? g.type=amF i) (hz:i.size≠0)
 (h:(match (generalizing:=false) p with| .ptr t s r o=>some (PV.ptr t s r (o+off))| .bI c o=>some (PV.bI c (o+off))|_=>none)=some z):
 ∃v,(Instr.fieldAt t u f).run P w= .ok v w/\VR im loc z v:=by
 have qz:(sizeOf g.type).run P w= .ok i.size w:=by simp [sizeOf,typeInfo,hi]
 cases p with
 |ptr tk s r o=>
  injection h with h;subst h;obtain ⟨li,hl,he,hn,rfl⟩:=hp.yp;refine ⟨_,?_,.ptr tk s r (o+off) li hl he hn⟩;simp [Instr.fieldAt,run_underlying hu,hf,Instr.sureAddr,fieldPlace,qz,hz,qD,ho,af9]
 |bI cs o=>
  injection h with h;subst h;obtain ⟨b,o',vs,h1,h2,rfl⟩:=hp.xo;refine ⟨_,?_,.bI cs (o+off) b o' vs h1 h2⟩;simp [Instr.fieldAt,run_underlying hu,hf,Instr.sureAddr,fieldPlace,qz,hz,qD,ho,af9]
 |_=>cases h
theorem oP {x:PV} {n:Nat} {u:Value} (hx:VR im loc x u) (h:jU x=amF n): ∃k,u= .int k (n:Int):=by
 unfold jU at h;split at h
 · rename_i k m
   obtain rfl:=hx.gr;split at h
   · rename_i m';injection h with h;subst h;exact ⟨k,rfl⟩
   cases h
 cases h
theorem Q5 {n esz j:Nat} {t e:TypeId} {p z:PV} {u:Value} {k:IntKind} (hp:VR im loc p u)
 (hu:P.underlying t=amF (.array n e)) (hs:oF P e esz=amH) (hj:j<n)
 (h:(match (generalizing:=false) p with| .ptr t s r o=>some (PV.ptr t s r (o+j*esz))| .bI c o=>some (PV.bI c (o+j*esz))|_=>none)=some z):
 ∃v,(Instr.indexAt t u (.int k j)).run P w= .ok v w/\VR im loc z v:=by
 have qz:=kA (P:=P) (w:=w) hs;cases p with
 |ptr tk s r o=>
  injection h with h;subst h;obtain ⟨li,hl,he,hn,rfl⟩:=hp.yp;refine ⟨_,?_,.ptr tk s r (o+j*esz) li hl he hn⟩;simp [Instr.indexAt,asIntOf,run_underlying hu,Instr.sureAddr,qz,qD,af9];intro h;omega
 |bI cs o=>
  injection h with h;subst h;obtain ⟨b,o',vs,h1,h2,rfl⟩:=hp.xo;refine ⟨_,?_,.bI cs (o+j*esz) b o' vs h1 h2⟩;simp [Instr.indexAt,asIntOf,run_underlying hu,Instr.sureAddr,qz,qD,af9];intro h;omega
 |_=>cases h
theorem VR.nO {esz:Nat} {qA:Bool} {rows:List Row} {v:Value} (h:VR im loc (.sl esz qA rows) v):
 ∃a cap,v= .slice a (amE rows) cap/\amE rows<=cap/\(qA=amH->cap=amE rows)/\(rows≠[]-> ∃b o,a=amF ⟨b,o,amG⟩/\bO (nM im b) o esz rows):=by
 cases h with|sl _ _ _ a cap hc hk h=>exact ⟨a,cap,rfl,hc,hk,h⟩
theorem VR.gT {t esz off len cap:Nat} {ex:Bool} {v:Value} (h:VR im loc (.own t esz off len cap ex) v):
 ∃li a cY,v= .slice a len cY/\loc t=amF li/\li.esz=esz/\off+cap<=li.n/\len<=cap/\cap<=cY/\(ex=amH->cY=cap)/\
  (cY=0\/(li.n≠0/\a=amF ⟨li.df,li.sh+off*esz,amG⟩/\li.sh+(off+cY)*esz<=li.sz)):=by
 cases h with|own _ _ _ _ _ _ li a cY h1 h2 h3 h4 h5 h6 h7=>exact ⟨li,a,cY,rfl,h1,h2,h3,h4,h5,h6,h7⟩
theorem run_indexAt_slice {t e:TypeId} {esz j len cap b o:Nat} {k:IntKind} (hu:P.underlying t=amF (.slice e)) (hs:oF P e esz=amH) (hj:j<len):
 (Instr.indexAt t (.slice (amF ⟨b,o,amG⟩) len cap) (.int k j)).run P w= .ok (.pointer (amF ⟨b,o+j*esz,amG⟩)) w:=by
 have qz:=kA (P:=P) (w:=w) hs;have dI: ¬(len<=j):=by omega
 simp [Instr.indexAt,asIntOf,run_underlying hu,qz,qD];intro h;exact absurd h dI
theorem S1 {esz n:Nat} {t e:TypeId} {x z:PV} {u:Value} {k:IntKind} (hx:VR im loc x u)
 (hu:P.underlying t=amF (.slice e)) (hs:oF P e esz=amH)
 (h:(match (generalizing:=false) x with
  | .sl s _ rows=>match rows[n]? with
   |some cs=>if F0s s esz then amF (PV.bI cs 0) else amG
   |none=>amG
  | .own t s off len _ _=>if afe n len&&F0s s esz then amF (PV.ptr t s (off+n) 0) else amG
  |_=>amG)=amF z):
 ∃v,(Instr.indexAt t u (.int k n)).run P w= .ok v w/\VR im loc z v:=by
 cases x with
 |sl s qA rows=>
  dsimp only at h;cases mL:rows[n]? with
  |none=>rw [mL] at h;cases h
  |some cs=>
   rw [mL] at h;dsimp only at h;split at h
   · rename_i Wu
     have Wu:s=esz:=by simpa using Wu
     subst Wu;injection h with h;subst h;obtain ⟨a,cap,rfl,_,_,hr⟩:=hx.nO;have dS:rows≠[]:=by intro e;subst e;simp at mL
     obtain ⟨b,o,rfl,lf⟩:=hr dS;have hn:n<(amE rows):=by
      rcases acK n (amE rows) with h|h
      · exact h
      rw [M2 h] at mL;cases mL
     refine ⟨_,run_indexAt_slice hu hs hn,?_⟩;obtain ⟨hv,hg⟩:=sS (im:=im) (loc:=loc) lf mL
     have:=VR.bI (im:=im) (loc:=loc) cs 0 b (o+n*s) (aV cs) hv hg
     simpa using this
   cases h
 |own tk s off len cap ex=>
  dsimp only at h;split at h
  · rename_i hc
    simp only [ut] at hc;have hn:n<len:=by simpa using hc.1
    have Wu:s=esz:=by simpa using hc.2
    subst Wu;injection h with h;subst h;obtain ⟨li,a,cY,rfl,hl,he,B0,cW,GN,_,hd⟩:=hx.gT;rcases hd with hd|⟨dS,rfl,_⟩
    · omega
    refine ⟨_,run_indexAt_slice hu hs hn,?_⟩
    have:=VR.ptr (im:=im) (loc:=loc) tk s (off+n) 0 li hl he (by omega)
    rw [show li.sh+(off+n)*s+0=li.sh+off*s+n*s by rw [PP];omega] at this
    exact this
  cases h
 |_=>cases h
theorem run_sliceBound {x k:Nat} {kd:IntKind} {code:BoundsCode} (h:x<=k):(Instr.sliceBound (.int kd x) k code).run P w= .ok x w:=by
 have:(0:Int)<=(x:Int)/\(x:Int)<=(k:Int):=by omega
 simp [Instr.sliceBound,asIntOf,this]
def zM (v:Option Value) (n:Option Nat):Prop:=
 match v,n with
 |none,amG=>True
 |some v,amF n=> ∃k,v= .int k (n:Int)
 |_,_=>False
theorem mz {len cap:Nat} {lo hi mx:Option Nat} {vl vh vm:Option Value} (h1:zM vl lo) (h2:zM vh hi) (h3:zM vm mx)
 (hm:mx.isSome=amH->hi.isSome=amH) (k7:lo.getD 0<=hi.getD len) (hhm:hi.isSome=amH->hi.getD len<=mx.getD cap) (hmc:mx.getD cap<=cap):
 (Instr.sliceBounds amH len cap vl vh vm).run P w= .ok (lo.getD 0,hi.getD len,mx.getD cap) w:=by
 cases mx with
 |none=>
  cases vm with
  |some v=>exact h3.elim
  |none=>
   cases hi with
   |none=>
    cases vh with
    |some v=>exact h2.elim
    |none=>
     cases lo with
     |none=>
      cases vl with
      |some v=>exact h1.elim
      |none=>simp [Instr.sliceBounds]
     |some l=>
      cases vl with
      |none=>exact h1.elim
      |some v=>
       obtain ⟨k,rfl⟩:=h1;simp only [aet,afn] at k7;simp [Instr.sliceBounds,run_sliceBound k7]
   |some hh=>
    cases vh with
    |none=>exact h2.elim
    |some v=>
     obtain ⟨k,rfl⟩:=h2;simp only [aet,afn,am1,true_implies] at k7 hhm;cases lo with
     |none=>
      cases vl with
      |some v=>exact h1.elim
      |none=>simp [Instr.sliceBounds,run_sliceBound hhm]
     |some l=>
      cases vl with
      |none=>exact h1.elim
      |some v=>
       obtain ⟨k,rfl⟩:=h1;simp only [aet] at k7;simp [Instr.sliceBounds,run_sliceBound hhm,run_sliceBound k7]
 |some m=>
  cases vm with
  |none=>exact h3.elim
  |some v=>
   obtain ⟨k,rfl⟩:=h3;cases hi with
   |none=>simp at hm
   |some hh=>
    cases vh with
    |none=>exact h2.elim
    |some v=>
     obtain ⟨k,rfl⟩:=h2;simp only [aet,am1,true_implies] at k7 hhm hmc;cases lo with
     |none=>
      cases vl with
      |some v=>exact h1.elim
      |none=>simp [Instr.sliceBounds,run_sliceBound hhm,run_sliceBound hmc]
     |some l=>
      cases vl with
      |none=>exact h1.elim
      |some v=>
       obtain ⟨k,rfl⟩:=h1;simp only [aet] at k7;simp [Instr.sliceBounds,run_sliceBound hhm,run_sliceBound k7,run_sliceBound hmc]
end
end Go.Vm
/- Operation by operation, third part: stores, aggregates. -/
namespace Go.Vm
def mA {α:Type} (off:Nat) (new old:List α):List α:=old.take off++new++old.drop (off+amE new)
theorem gU {α:Type} (off:Nat) (new old:List α) (h:off+amE new<=amE old) (j:Nat):
 (mA off new old)[j]? =if off<=j/\j<off+(amE new) then new[j-off]? else old[j]?:=by
 unfold mA;have hl:(old.take off).length=off:=by simp;omega
 by_cases h1:j<off
 · rw [rc (by omega),am8,adc (by omega),af5 h1]
 by_cases h2:j<off+amE new
 · rw [pp ⟨by omega,h2⟩,am8,acl (by omega),hl,adc (by omega)]
 rw [rc (by omega),acl (by simp;omega),afu]
 congr 1
 simp;omega
theorem cZ {α:Type} (off:Nat) (new old:List α) (h:off+amE new<=amE old):(mA off new old).length=(amE old):=by
 unfold mA;simp;omega
theorem eX.mA {im:Im} {loc:Loc} {off:Nat} {xs ys:List PV} {vs us:List Value} (h:eX im loc xs vs) (k:eX im loc ys us):
 eX im loc (Vm.mA off xs ys) (Vm.mA off vs us):=by
 unfold Vm.mA;rw [<- h.mK];exact ((k.take off).append h).append (k.drop _)
theorem eX.Hg {im:Im} {loc:Loc}: ∀{xs:List PV} {vs:List Value},eX im loc xs vs->(∀c∈xs,c.plain=amH)->
 ∀(j:Nat) (c:PV),xs[j]? =amF c-> ∃v,jA c=amF v/\vs[j]? =amF v:=by
 intro xs vs h hp j c hc;obtain ⟨v,hv,hr⟩:=h.get j c hc;exact ⟨v,hr.plain (hp c (afo hc)),hv⟩
theorem Q6 {i row esz j off n sh:Nat} (dS:i≠row) (hj:j<esz) (hn:off+n<=esz):
 ¬(sh+row*esz+off<=sh+i*esz+j/\sh+i*esz+j<sh+row*esz+off+n):=by
 rcases Nat.lt_or_gt_of_ne dS with h|h
 · have:=UV esz (show i+1<=row from h)
   rw [PP] at this;omega
 have:=UV esz (show row+1<=i from h)
 rw [PP] at this;omega
theorem bO.store {get get':Nat->Option Value} {sh esz row off:Nat} {rows:List Row} {cs ws:List PV} {vs:List Value}
 (h:bO get sh esz rows) (hr:rows[row]? =amF cs) (k7:off+amE ws<=amE cs)
 (hw: ∀(j:Nat) (c:PV),ws[j]? =amF c-> ∃v,jA c=amF v/\vs[j]? =amF v) (hl:(amE vs)=amE ws)
 (hg: ∀k,get' k=if sh+row*esz+off<=k/\k<sh+row*esz+off+(amE vs) then vs[k- (sh+row*esz+off)]? else get k):
 bO get' sh esz (rows.set row (mA off ws cs)):=by
 intro i r hi;rw [List.getElem?_set] at hi;have uB:row<(amE rows):=by
  rcases acK row (amE rows) with h|h
  · exact h
  rw [M2 h] at hr;cases hr
 obtain ⟨AA,Nj⟩:=h row cs hr;split at hi
 · rename_i e
   subst e;injection hi with hi;subst hi;refine ⟨by rw [cZ _ _ _ k7];exact AA,fun j c hc=>?_⟩
   rw [gU _ _ _ k7] at hc;rw [hg];split at hc
   · rename_i hj
     obtain ⟨v,hv,Nk⟩:=hw _ _ hc;refine ⟨v,hv,?_⟩;rw [pp ⟨by omega,by omega⟩,<- Nk]
     congr 1
     omega
   rename_i hj
   obtain ⟨v,hv,Nk⟩:=Nj j c hc;refine ⟨v,hv,?_⟩;rw [rc (by omega)]
   exact Nk
 rename_i dS
 obtain ⟨Ku,hrc⟩:=h i r hi;refine ⟨Ku,fun j c hc=>?_⟩
 obtain ⟨v,hv,Nk⟩:=hrc j c hc;refine ⟨v,hv,?_⟩;have hj:j<esz:=by
  rcases acK j (amE r) with h|h
  · omega
  rw [M2 h] at hc;cases hc
 rw [hg,rc (Q6 (fun e=>dS e.symm) hj (by omega))]
 exact Nk
section
variable {P : Program} {im : Im} {loc : Loc} {aE : cK} {fz : List Nat} {w : World}
theorem bT {g:Nat} {cur cs:Array Value} {t:TypeId} (hg:w.heap[g]? =amF (.cells cur t (0,0))):
 (w.setRow g cs).heap=w.heap.setIfInBounds g (.cells cs t (0,0)):=by
 have dI:g<w.heap.size:=(IR.1 hg).1;have hv:w.heap[g]= .cells cur t (0,0):=(IR.1 hg).2;unfold World.setRow;apply Array.ext
 · simp
 intro k h1 h2
 rw [Array.getElem_setIfInBounds];simp only [Array.getElem_modify];split
 · rename_i hk;subst hk;simp [hv]
 rfl
theorem Kv {v:Value} (h:(∀us,v≠ .agg us)/\ ∀us,v≠ .tuple us):v.oneCell'=amH:=by
 cases v<;>first|rfl|exact absurd rfl (h.1 _)|exact absurd rfl (h.2 _)
theorem eX.one: ∀{xs:List PV} {vs:List Value},eX im loc xs vs->(∀c∈xs,c.pS=amH)-> ∀v∈vs,v.oneCell'=amH
 |_,_,.nil,_,_,hv=>by cases hv
 |_,_,.cons x u xs vs h hs,ho,v,hv=>by
  cases hv with
  |head=>exact Kv (h.Ix (ho x (by simp)))
  |tail _ hm=>exact eX.one hs (fun c hc=>ho c (by simp [hc])) v hm
theorem xp {c:PV} (h:c.plain=amH):c.pS=amH:=by cases c<;>first|rfl|cases h
theorem zN {v:PV} {ws:List PV} (h:v.stored=amF ws):ws=v.cells/\ ∀c∈v.cells,c.pS=amH:=by
 unfold PV.stored at h;split at h
 · rename_i ha;injection h with h;exact ⟨h.symm,by simpa using ha⟩
 cases h
theorem mB {v:PV} {ws:List PV} (h:v.cL=amF ws):ws=v.cells/\ ∀c∈v.cells,c.plain=amH:=by
 unfold PV.cL at h;split at h
 · rename_i ha;injection h with h;exact ⟨h.symm,by simpa using ha⟩
 cases h
theorem CY {t el:TypeId} {sz b o:Nat} {x:Value} {cur:Array Value} (hs:oF P t sz=amH) (hb:w.heap[b]? =amF (.cells cur el (0,0)))
 (hx:x.cells.size=sz) (k7:o+sz<=cur.size) (h1: ∀v∈x.cells.toList,v.oneCell'=amH):
 (Instr.storeAt t (.pointer (amF ⟨b,o,amG⟩)) x).run P w= .ok () (w.setRow b (mA o x.cells.toList cur.toList).toArray):=by
 have:=run_storeCells_at P b o el x.cells.toList 0 cur w hb (by simp;omega) h1
 simp only [Instr.storeAt,Instr.sureAddr,Do,EQ,ww,storeVar,kA hs,hx,ne_eq,not_true_eq_false,if_false];simpa [mA] using this
theorem Q7 {t:TypeId} {sz:Nat} {p v:PV} {u x:Value} {r:nI} (hp:VR im loc p u) (hv:VR im loc v x) (hs:oF P t sz=amH)
 (h:rM aE fz sz v p=amF r) (hk:jl im loc aE w r):
 ∃w',(Instr.storeAt t u x).run P w= .ok () w'/\sR im loc aE w r im loc w'/\r.v= .undef:=by
 unfold rM at h;cases p with
 |ptr tk e row off=>
  dsimp only at h;obtain ⟨li,hl,he,hn,rfl⟩:=hp.yp;cases pY:aE[tk]? with
  |none=>rw [pY] at h;cases h
  |some df=>
   rw [pY] at h;cases df with
   |arr e' rows=>
    dsimp only at h;cases mL:rows[row]? with
    |none=>rw [mL] at h;cases h
    |some cs=>
     cases hw:v.cL with
     |none=>rw [mL,hw] at h;cases h
     |some ws=>
      rw [mL,hw] at h;dsimp only at h;split at h
      · rename_i hc
        simp only [ut,aeA,af3] at hc;obtain ⟨⟨cW,k7⟩,SI⟩:=hc;obtain ⟨rfl,Nl⟩:=mB hw;injection h with h;subst h;obtain ⟨k,gQ,hb⟩:=hk.tok tk (.inr ⟨_,aem.2 rfl⟩) li hl;rw [pY] at gQ;injection gQ with gQ;subst gQ;have dS:rows≠[]:=by intro e;subst e;simp at mL
        obtain ⟨h1,h2,h3⟩:=hb;obtain ⟨arr,el,sU,Iz,J',lf⟩:=h3 dS;have Ni:e'=e:=by rw [<- h1,he]
        subst Ni;have AA:(amE cs)=e':=(lf row cs mL).1;have Pf:=hv.cells (fun c hc=>xp (Nl c hc))
        have Q8:x.cells.size=sz:=by have:=Pf.mK;simp only [aeH] at this;omega
        have Ku:row<(amE rows):=by
         rcases acK row (amE rows) with h|h
         · exact h
         rw [M2 h] at mL;cases mL
        have GO:=UV e' (show row+1<=(amE rows) from Ku);rw [PP] at GO;have qE:li.sh+row*e'+off+sz<=arr.size:=by omega
        have cq:=CY (P:=P) (w:=w) (t:=t) (b:=li.df) (o:=li.sh+row*e'+off) hs sU Q8 qE (Pf.one (fun c hc=>xp (Nl c hc)))
        refine ⟨_,cq,?_,rfl⟩;refine sR.write hk (t:=tk) (k0:= .arr e' rows) (li:=li) rfl rfl hl pY (by cases rows with|nil=>exact absurd rfl dS|cons _ _=>rfl) (bT sU) rfl rfl rfl ?_
        refine ⟨h1,by simpa using h2,fun _=>⟨(mA (li.sh+row*e'+off) x.cells.toList arr.toList).toArray,el,?_,?_,by simpa using J',?_⟩⟩
        · rw [bT sU]
          have dI:=(IR.1 sU).1;simp [dI]
        · rw [<- Iz]
          simp only [af0];rw [cZ _ _ _ (by simp;omega)];simp
        refine lf.store mL (by omega) (Pf.Hg Nl) Pf.mK.symm (fun k=>?_)
        simp only [aeB];rw [gU _ _ _ (by simp;omega)]
        simp
      cases h
   |box cs=>
    dsimp only at h;cases hw:v.stored with
    |none=>rw [hw] at h;cases h
    |some ws=>
     rw [hw] at h;dsimp only at h;split at h
     · rename_i hc
       simp only [ut,aeA,af3] at hc;obtain ⟨⟨⟨uB,cW⟩,k7⟩,SI⟩:=hc;subst uB;obtain ⟨rfl,AI⟩:=zN hw;injection h with h;subst h;obtain ⟨k,gQ,hb⟩:=hk.tok tk (.inr ⟨_,aem.2 rfl⟩) li hl;rw [pY] at gQ;injection gQ with gQ;subst gQ;obtain ⟨h1,h2,h3,vs,el,h4,h5,h6⟩:=hb;have Pf:=hv.cells AI
       have Q8:x.cells.size=sz:=by have:=Pf.mK;simp only [aeH] at this;omega
       have hcv:=h6.mK;have cq:=CY (P:=P) (w:=w) (t:=t) (b:=li.df) (o:=li.sh+0*e+off) hs h4 Q8 (by simp [h3];omega) (Pf.one AI)
       refine ⟨_,cq,?_,rfl⟩;refine sR.write hk (t:=tk) (k0:= .box cs) (li:=li) rfl rfl hl pY rfl (bT h4) rfl rfl rfl ?_;refine ⟨by rw [show (nH off v.cells cs).length=(amE cs) by have:=cZ off v.cells cs (by omega);unfold mA at this;simpa [nH] using this];exact h1,h2,h3,mA off x.cells.toList vs,el,?_,?_,?_⟩
       · rw [bT h4]
         have dI:=(IR.1 h4).1;simp [dI,h3]
       · rw [cZ _ _ _ (by simp;omega)];exact h5
       exact eX.mA Pf h6
     cases h
   |_=>cases h
 |_=>cases h
end
end Go.Vm
/- Operation by operation, fourth part: aggregates, rows, slices. -/
namespace Go.Vm
theorem bO.tail {get:Nat->Option Value} {sh esz:Nat} {r:Row} {rs:List Row} (h:bO get sh esz (r::rs)):bO get (sh+esz) esz rs:=by
 intro i x hx;obtain ⟨h1,h2⟩:=h (i+1) x (by simpa using hx)
 refine ⟨h1,fun j c hc=>?_⟩
 obtain ⟨v,hv,hg⟩:=h2 j c hc;refine ⟨v,hv,?_⟩;rw [<- hg];congr 1;rw [PP];omega
theorem bO.drop {get:Nat->Option Value} {sh esz:Nat} {rows:List Row} (h:bO get sh esz rows) (n:Nat):bO get (sh+n*esz) esz (rows.drop n):=by
 intro i x hx;rw [afu] at hx;obtain ⟨h1,h2⟩:=h (n+i) x hx;refine ⟨h1,fun j c hc=>?_⟩
 obtain ⟨v,hv,hg⟩:=h2 j c hc;refine ⟨v,hv,?_⟩;rw [<- hg];congr 1;rw [PP];omega
theorem bO.take {get:Nat->Option Value} {sh esz:Nat} {rows:List Row} (h:bO get sh esz rows) (n:Nat):bO get sh esz (rows.take n):=by
 intro i x hx;have hi:i<n:=by
  rcases acK i n with h|h
  · exact h
  rw [M2 (by simp;omega)] at hx;cases hx
 rw [af5 hi] at hx;exact h i x hx
theorem bO.append {get:Nat->Option Value} {sh esz:Nat} {xs ys:List Row} (h:bO get sh esz xs) (k:bO get (sh+amE xs*esz) esz ys):bO get sh esz (xs++ys):=by
 intro i r hr;rcases acK i (amE xs) with hi|hi
 · rw [adc hi] at hr;exact h i r hr
 rw [acl hi] at hr
 obtain ⟨h1,h2⟩:=k _ r hr;refine ⟨h1,fun j c hc=>?_⟩
 obtain ⟨v,hv,hg⟩:=h2 j c hc;refine ⟨v,hv,?_⟩;rw [<- hg];congr 1
 have:i*esz=amE xs*esz+(i-(amE xs))*esz:=by rw [<- PP];congr 1;omega
 omega
theorem bO.nP {get:Nat->Option Value} {sh esz:Nat} {rows:List Row} (h:bO get sh esz rows): ∀r∈rows,amE r=esz:=by
 intro r hr;obtain ⟨i,hi,rfl⟩:=afp.1 hr;exact (h i _ (NE hi)).1
theorem lg (r:Row):(aV r).length=(amE r):=by simp [aV]
theorem dF {esz:Nat}: ∀{rows:List Row},(∀r∈rows,amE r=esz)->(rows.flatMap aV).length=amE rows*esz
 | [],_=>by simp
 |r::rs,h=>by
  have ih:=dF (esz:=esz) (rows:=rs) (fun x hx=>h x (by simp [hx]))
  simp only [aeD,aeZ,ih,lg,h r (by simp),aeJ,PP]
  omega
theorem bO.flat {get:Nat->Option Value} {esz:Nat}: ∀{rows:List Row} {sh:Nat},bO get sh esz rows-> ∀(j:Nat) (v:Value),(rows.flatMap aV)[j]? =amF v->get (sh+j)=amF v
 | [],_,_,j,v,h=>by simp at h
 |r::rs,sh,hr,j,v,h=>by
  rw [aeD] at h;have hl:(aV r).length=esz:=by rw [lg];exact hr.nP r (by simp)
  rcases acK j esz with hj|hj
  · rw [adc (by omega)] at h
    have:=(sS (im:=fun _=>amG) (loc:=fun _=>amG) hr (i:=0) rfl).2 j v h
    simpa using this
  rw [acl (by omega),hl] at h
  have:=bO.flat hr.tail (j-esz) v h
  rw [show sh+esz+(j-esz)=sh+j by omega] at this
  exact this
theorem bO.zO {esz:Nat}: ∀{rows:List Row} {get:Nat->Option Value} {sh:Nat},(∀r∈rows,amE r=esz)->(∀r∈rows,∀c∈r,c.plain=amH)->
 (∀(j:Nat) (v:Value),(rows.flatMap aV)[j]? =amF v->get (sh+j)=amF v)->bO get sh esz rows
 | [],_,_,_,_,_=>by intro i r h;simp at h
 |r::rs,get,sh,hl,hp,hg=>by
  have Ku:(aV r).length=esz:=by rw [lg];exact hl r (by simp)
  have h1:bO get sh esz [r]:=by
   intro i x hx;cases i with
   |succ i=>simp at hx
   |zero=>
    simp at hx;subst hx;refine ⟨hl r (by simp),fun j c hc=>?_⟩
    have hcp:=hp r (by simp) c (afo hc)
    obtain ⟨v,hv⟩: ∃v,jA c=amF v:=by cases c<;>first|exact ⟨_,rfl⟩|cases hcp
    refine ⟨v,hv,?_⟩;have hj:j<esz:=by
     rcases acK j (amE r) with h|h
     · have:=hl r (by simp);omega
     rw [M2 h] at hc;cases hc
    have:=hg j v (by
     rw [aeD,adc (by omega)]
     simp [aV,hc,hv])
    simpa using this
  have h2:bO get (sh+esz) esz rs:=bO.zO (fun x hx=>hl x (by simp [hx])) (fun x hx=>hp x (by simp [hx])) (fun j v hj=>by
   have:=hg (esz+j) v (by
    rw [aeD,acl (by omega),Ku,show esz+j-esz=j by omega];exact hj)
   rwa [<- af9] at this)
  have:=h1.append (ys:=rs) (by simpa using h2)
  simpa using this
theorem bO.plain {get:Nat->Option Value} {sh esz:Nat} {rows:List Row} (h:bO get sh esz rows): ∀r∈rows,∀c∈r,c.plain=amH:=by
 intro r hr c hc;obtain ⟨i,hi,rfl⟩:=afp.1 hr;obtain ⟨j,hj,rfl⟩:=afp.1 hc;obtain ⟨v,hv,_⟩:=(h i _ (NE hi)).2 j _ (NE hj);cases hh:rows[i][j]<;>rw [hh] at hv<;>first|rfl|cases hv
theorem nQ {rows:List Row} (hp: ∀r∈rows,∀c∈r,c.plain=amH): ∀u∈rows.flatMap aV,u.oneCell'=amH:=by
 intro u hu;obtain ⟨r,hr,hu⟩:=List.mem_flatMap.1 hu;obtain ⟨c,hc,rfl⟩:=List.mem_map.1 hu
 have:=hp r hr c hc
 cases c<;>first|rfl|cases this
section
variable {P : Program} {im : Im} {loc : Loc} {aE : cK} {fz : List Nat} {w : World}
theorem B1 {esz:Nat} {y:PV} {u:Value} {new:List Row} {tx e':TypeId} (hy:VR im loc y u) (hr:rowsOf aE esz y=amF new) (hx:P.underlying tx=amF (.slice e'))
 (bH: ∀b o,im b=amF o->w.heap[b]? =amF o) (tok: ∀t,t∈iO y-> ∀li,loc t=amF li-> ∃k,aE[t]? =amF k/\BR im loc w li k):
 Src P esz tx u (amE new) (new.flatMap aV) w/\(∀r∈new,amE r=esz)/\(∀r∈new,∀c∈r,c.plain=amH):=by
 unfold rowsOf at hr;cases y with
 |sl e qA rows=>
  obtain ⟨a,cap,rfl,_,_,lf⟩:=hy.nO;cases rows with
  |nil=>
   simp at hr;subst hr;refine ⟨?_,by simp,by simp⟩
   cases a with
   |none=>exact Src.ofNil w hx cap
   |some a=>exact Src.ofSlice w hx a 0 cap [] (by simp) (by simp) (by simp)
  |cons r rs=>
   dsimp only at hr;split at hr
   · rename_i he
     have he:e=esz:=by simpa using he
     subst he;injection hr with hr;subst hr;obtain ⟨b,o,rfl,db⟩:=lf (by simp)
     refine ⟨Src.ofSlice w hx ⟨b,o,amG⟩ _ cap _ (dF db.nP) (fun j v hj=>?_) (nQ db.plain),db.nP,db.plain⟩
     rw [qD];exact pX bH (db.flat j v hj)
   cases hr
 |own t e off len cap ex=>
  dsimp only at hr;split at hr
  · rename_i he
    have he:e=esz:=by simpa using he
    subst he;obtain ⟨li,a,cY,rfl,hl,h2,h3,h4,h5,h6,h7⟩:=hy.gT;obtain ⟨k,gQ,hb⟩:=tok t (by simp [iO]) li hl
    rw [gQ] at hr;cases k with
    |arr e' rows=>
     simp only [v6] at hr;subst hr;obtain ⟨b1,b2,b3⟩:=hb;have cW:((rows.drop off).take len).length=len:=by simp;omega
     have Ni:e'=e:=by rw [<- b1,h2]
     subst Ni;cases rows with
     |nil=>
      have:len=0:=by simp at b2;omega
      subst this;refine ⟨?_,by simp,by simp⟩
      simp;cases a with
      |none=>exact Src.ofNil w hx cY
      |some a=>exact Src.ofSlice w hx a 0 cY [] (by simp) (by simp) (by simp)
     |cons r rs=>
      obtain ⟨arr,el,sU,Iz,J',db⟩:=b3 (by simp)
      have vp:=(db.drop off).take len;rcases h7 with h7|⟨h7,rfl,h9⟩
      · have:len=0:=by omega
        subst this;refine ⟨?_,by simp,by simp⟩
        simp;cases a with
        |none=>exact Src.ofNil w hx cY
        |some a=>exact Src.ofSlice w hx a 0 cY [] (by simp) (by simp) (by simp)
      rw [cW]
      refine ⟨Src.ofSlice w hx ⟨li.df,li.sh+off*e',amG⟩ len cY _ (by rw [dF vp.nP,cW]) (fun j v hj=>?_) (nQ vp.plain),vp.nP,vp.plain⟩
      rw [qD];exact kI sU (vp.flat j v hj)
    |_=>cases hr
  cases hr
 |_=>cases hr
end
end Go.Vm
/- Operation by operation, fifth part: append. -/
namespace Go.Vm
theorem xq: ∀(new:List Row) (i:Nat) (rows:List Row),i+amE new<=amE rows->kV i new rows=mA i new rows
 | [],i,rows,h=>by simp [kV,mA]
 |r::rs,i,rows,h=>by
  simp only [aeJ] at h;rw [kV,xq rs (i+1) (rows.set i r) (by simp;omega)]
  apply afA;intro j;rw [gU _ _ _ (by simp;omega),gU _ _ _ (by simp;omega)]
  simp only [aeJ]
  by_cases h1:i+1<=j/\j<i+1+amE rs
  · rw [pp h1,pp ⟨by omega,by omega⟩]
    obtain ⟨k,hk⟩: ∃k,j-i=k+1:=⟨j-i-1,by omega⟩
    rw [hk,show j- (i+1)=k by omega];simp
  rw [rc h1]
  by_cases h2:j=i
  · subst h2
    rw [pp ⟨If _,by omega⟩,ajC (by omega)]
    simp
  rw [rc (by omega),alu (by omega)]
theorem bO.mA {get get':Nat->Option Value} {sh esz i:Nat} {new rows:List Row} (h:bO get sh esz rows) (k7:i+amE new<=amE rows)
 (hl: ∀r∈new,amE r=esz) (hp: ∀r∈new,∀c∈r,c.plain=amH)
 (hg: ∀k,get' k=if sh+i*esz<=k/\k<sh+i*esz+amE new*esz then (new.flatMap aV)[k- (sh+i*esz)]? else get k):
 bO get' sh esz (mA i new rows):=by
 have S2:=dF hl;have old: ∀k r,rows[k]? =amF r->(k<i\/i+amE new<=k)->amE r=esz/\ ∀(j:Nat) (c:PV),r[j]? =amF c-> ∃v,jA c=amF v/\get' (sh+k*esz+j)=amF v:=by
  intro k r hk Wv;obtain ⟨h1,h2⟩:=h k r hk;refine ⟨h1,fun j c hc=>?_⟩
  obtain ⟨v,hv,Nk⟩:=h2 j c hc;refine ⟨v,hv,?_⟩;have hj:j<esz:=by
   rcases acK j (amE r) with h|h
   · omega
   rw [M2 h] at hc;cases hc
  rw [hg,rc]
  · exact Nk
  rcases Wv with Wv|Wv
  · have:=UV esz (show k+1<=i from Wv)
    rw [PP] at this;omega
  have:=UV esz Wv
  rw [PP] at this;omega
 have AJ:bO get' (sh+i*esz) esz new:=bO.zO hl hp fun j v hj=>by
  have Nn:j<amE new*esz:=by
   rcases acK j (amE new*esz) with h|h
   · exact h
   rw [M2 (by omega)] at hj;cases hj
  rw [hg,pp ⟨by omega,by omega⟩,<- hj];congr 1;omega
 intro k r hk;rw [gU _ _ _ k7] at hk;split at hk
 · rename_i hc
   obtain ⟨h1,h2⟩:=AJ _ r hk;refine ⟨h1,fun j c B2=>?_⟩
   obtain ⟨v,hv,Nk⟩:=h2 j c B2;refine ⟨v,hv,?_⟩;rw [<- Nk];congr 1
   have:k*esz=i*esz+(k-i)*esz:=by rw [<- PP];congr 1;omega
   omega
 rename_i hc
 exact old k r hk (by omega)
theorem grownCap_ge (w:World) (No old:Nat) (e:TypeId):No<=grownCap w No old e:=by
 unfold grownCap;simp [Question.cut]
theorem S3 {No old bytes:Nat} (h:old<No) (hn:No<=1048576) (hb:bytes<=1048576):Builtin.nextslicecap No old*bytes<=281474976710656:=by
 have h1:=nextslicecap_le h;have h2:Builtin.nextslicecap No old<=2097152:=by omega
 have:=amu h2 hb
 omega
theorem xt (z:Array Value) (n:Nat):(Builtin.zeroCells z n).size=n*z.size:=by simp [Builtin.zeroCells]
section
variable {P : Program} {im : Im} {loc : Loc} {aE : cK} {fz : List Nat} {w : World}
theorem jr (t tx ty e:TypeId) (i:TypeInfo) (ht:P.underlying t=amF (.slice e)) (hi:P.info? e=amF i) (b off tK sCap:Nat) (x:Value) (n:Nat) (news:List Value) (hs:Src P i.size tx x n news w)
 (sV:tK+n<=sCap) {cur:Array Value} {el:TypeId} (hb:w.heap[b]? =amF (.cells cur el (0,0))) (k7:off+tK*i.size+amE news<=cur.size):
 (Builtin.append_ #[t,tx] ty #[.slice (amF ⟨b,off,amG⟩) tK sCap,x]).run P w=
  .ok (.slice (amF ⟨b,off,amG⟩) (tK+n) sCap) (w.setRow b (mA (off+tK*i.size) news cur.toList).toArray):=by
 have ck:=run_storeCells_at P b (off+tK*i.size) el news 0 cur w hb (by simpa using k7) hs.one
 simp only [amB] at ck;rcases hs.kind with ⟨e',hk⟩|hk<;>simp [Builtin.append_,run_underlying ht,run_underlying hk,sizeOf,typeInfo,hi,hs.len,sV,hs.cells,Addr.add_lit,ck,mA]
theorem B3 {esz:Nat} {olds new:List Row} {rest:Array Value} {el:TypeId} {r:nI} {w':World} {nc:Nat} (hr:r.v= .own (amE aE) esz 0 (amE olds+amE new) (amE olds+amE new) amI)
 (hn:r.news=[.arr esz (olds++new)]) (hk:jl im loc aE w r) (dS:new≠[])
 (hh:w'.heap=w.heap.push (.cells (((olds.flatMap aV)++(new.flatMap aV)).toArray++rest) el))
 (Hh: ∀r∈olds,amE r=esz) (hp1: ∀r∈olds,∀c∈r,c.plain=amH) (Kw: ∀r∈new,amE r=esz) (hp2: ∀r∈new,∀c∈r,c.plain=amH)
 (hnc:(amE olds)+amE new<=nc) (Ww:rest.size=(nc- (amE olds+amE new))*esz):
 ∃li:LI,li.df=w.heap.size/\VR im (loc.set (amE aE) li) r.v (.slice (amF ⟨w.heap.size,0,amG⟩) (amE olds+amE new) nc)/\
  BR im (loc.set (amE aE) li) w' li (.arr esz (olds++new))/\lZ loc (loc.set (amE aE) li):=by
 have ary:=dF Hh;have arz:=dF Kw;have qz:(((olds.flatMap aV)++(new.flatMap aV)).toArray++rest).size=nc*esz:=by
  simp only [Array.size_append,af0,aeZ,ary,arz,Ww];rw [<- PP,<- PP];congr 1;omega
 let li:LI:=⟨w.heap.size,0,esz,(olds++new).length,nc*esz⟩
 refine ⟨li,rfl,?_,⟨rfl,rfl,fun _=>⟨_,el,by rw [hh];simp [li],qz,?_,?_⟩⟩,Loc.xn li (by have:=hk.fresh 0 (by simp [hn]);simpa using this)⟩
 · rw [hr]
   have:=VR.own (im:=im) (loc:=loc.set (amE aE) li) (amE aE) esz 0 (amE olds+amE new) (amE olds+amE new) amI li (amF ⟨w.heap.size,0,amG⟩) nc
    (Loc.eT _ _ _) rfl (by simp [li]) (If _) hnc (by simp)
    (.inr ⟨by simp [li];intro _;exact dS,by simp [li],by simp [li]⟩)
   exact this
 · simp only [li]
   have:=UV esz hnc
   simp only [aeZ];omega
 refine bO.zO (fun r hr=>?_) (fun r hr=>?_) (fun j v hj=>?_)
 · rcases aeC.1 hr with h|h
   · exact Hh r h
   exact Kw r h
 · rcases aeC.1 hr with h|h
   · exact hp1 r h
   exact hp2 r h
 rw [alZ] at hj
 simp only [li,ajD];rw [Array.getElem?_append_left (by
  have:=(aev.1 hj).1
  simpa using this)]
 simpa using hj
end
end Go.Vm
/- Operation by operation, sixth part: append, whole. -/
namespace Go.Vm
section
variable {P : Program} {im : Im} {loc : Loc} {aE : cK} {fz : List Nat} {w : World}
theorem Ej {t tx ty e:TypeId} {i:TypeInfo} {z:Value} {esz:Nat} (ht:P.underlying t=amF (.slice e)) (hi:P.info? e=amF i) (hz:i.zero=amF z) (Kx:z.cells.size=esz)
 (Np:i.bytes<=1048576) {nR:Option Addr} {tK sCap:Nat} {olds:List Row} {new:List Row} {x:Value}
 (tL:(Builtin.firstCells i.size tK (.slice nR tK sCap)).run P w.drew= .ok (olds.flatMap aV).toArray w.drew)
 (hs:Src P i.size tx x (amE new) (new.flatMap aV) w) (hg:sCap<tK+amE new) (hm:tK+amE new<=1048576):
 ∃(nc:Nat) (rest:Array Value),tK+amE new<=nc/\rest.size=(nc- (tK+amE new))*esz/\
  (Builtin.append_ #[t,tx] ty #[.slice nR tK sCap,x]).run P w= .ok (.slice (amF ⟨w.heap.size,0,amG⟩) (tK+amE new) nc)
   (w.drew.alloc (.cells (((olds.flatMap aV)++(new.flatMap aV)).toArray++rest) e)):=by
 refine ⟨_,_,grownCap_ge w (tK+amE new) sCap e,by rw [xt,Kx],
  run_append_grow_src w t tx ty e i z ht hi hz nR tK sCap _ tL x _ _ hs hg (by omega) (S3 hg hm Np)⟩
theorem Ek {t tx ty e e' : TypeId} {i : TypeInfo} {z : Value} {esz : Nat} (ht : P.underlying t = amF (.slice e)) (htx : P.underlying tx = amF (.slice e')) (hi : P.info? e = amF i) (qz : i.size = esz)
    (hz : i.zero = amF z) (Kx : z.cells.size = esz) (Np : i.bytes <= 1048576)
    {x y : PV} {u v : Value} {r : nI} (hx : VR im loc x u) (hy : VR im loc y v) (h : iP aE fz esz x y = amF r) (hk : jl im loc aE w r) :
    ∃ v' w' bm, (Builtin.append_ #[t, tx] ty #[u, v]).run P w = .ok v' w' /\ VR im bm r.v v' /\ sR im loc aE w r im bm w' := by
  unfold iP at h
  cases AB : rowsOf aE esz y with
  | none => rw [AB] at h; cases h
  | some new =>
    rw [AB] at h
    dsimp only at h
    cases new with
    | nil =>
      dsimp only at h
      have key : ∀ (a : Option Addr) (n cap : Nat), u = .slice a n cap -> n <= cap -> amF ({ v := x, rd := iO y } : nI) = amF r ->
          ∃ v' w' bm, (Builtin.append_ #[t, tx] ty #[u, v]).run P w = .ok v' w' /\ VR im bm r.v v' /\ sR im loc aE w r im bm w' := by
        intro a n cap hu k7 hr
        injection hr with hr; subst hr
        obtain ⟨hs, _, _⟩ := B1 (P := P) (w := w) hy AB htx hk.bH (fun t ht => hk.tok t (.inl ht))
        simp only [afX, al7] at hs
        subst hu
        rw [<- qz] at hs
        exact ⟨_, _, loc, run_append_nothing w t tx ty e i ht hi a n cap k7 _ hs, hx, sR.none hk rfl rfl⟩
      have fresh : ∀ (a : Option Addr) (rd : List Nat), u = .slice a 0 0 -> (∀ t ∈ iO y, t ∈ rd) -> amF ({ v := .own (amE aE) esz 0 0 0 amI, news := [.arr esz []], rd := rd } : nI) = amF r ->
          ∃ v' w' bm, (Builtin.append_ #[t, tx] ty #[u, v]).run P w = .ok v' w' /\ VR im bm r.v v' /\ sR im loc aE w r im bm w' := by
        intro a rd hu GP hr
        injection hr with hr; subst hr
        obtain ⟨hs, _, _⟩ := B1 (P := P) (w := w) hy AB htx hk.bH (fun t ht => hk.tok t (.inl (GP t ht)))
        simp only [afX, al7] at hs
        subst hu
        rw [<- qz] at hs
        exact ⟨_, _, _, run_append_nothing w t tx ty e i ht hi a 0 0 (If _) _ hs, .own _ esz 0 0 0 amI ⟨0, 0, esz, 0, 0⟩ a 0 (Loc.eT _ _ _) rfl (If _) (If _) (If _) (by simp) (.inl rfl), sR.SZ hk rfl rfl⟩
      cases x with
      | sl e qA rows =>
        obtain ⟨a, cap, hu, k7, AA, _⟩ := hx.nO
        dsimp only at h
        split at h
        · rename_i hc
          simp only [ut, amn] at hc
          obtain ⟨hc, rfl⟩ := hc
          have := AA hc
          simp at this
          subst this
          exact fresh a _ (by simpa using hu) (fun _ h => h) h
        exact key a _ cap hu k7 h
      | own tk e off len cap ex =>
        obtain ⟨li, a, cY, hu, h1, h2, h3, h4, h5, h6, _⟩ := hx.gT
        dsimp only at h
        split at h
        · rename_i hc
          simp only [ut, aeA] at hc
          obtain ⟨⟨rfl, rfl⟩, hc⟩ := hc
          have := h6 hc
          subst this
          exact fresh a _ hu (fun _ h => aft _ h) h
        exact key a _ cY hu (by omega) h
      | _ => cases h
    | cons n0 ns =>
      dsimp only at h
      generalize AJ : n0 :: ns = new at h AB
      have dS : new ≠ [] := by rw [<- AJ]; simp
      have GQ : 0 < (amE new) := by rw [<- AJ]; simp
      cases x with
      | sl e1 qA rows =>
        dsimp only at h
        split at h
        · rename_i hc
          simp only [ut, al8, aeA, af3] at hc
          obtain ⟨⟨am0, Dx⟩, ik⟩ := hc
          injection h with h
          obtain ⟨a, cap, rfl, GN, Wg, lf⟩ := hx.nO
          have arA := Wg am0
          have uC : jl im loc aE w { v := .own (amE aE) esz 0 ((amE rows) + (amE new)) ((amE rows) + (amE new)) amI, news := [.arr esz (rows ++ new)], rd := iO y } := by rw [h]; exact hk
          obtain ⟨hs, GR, SJ⟩ := B1 (P := P) (w := w) hy AB htx uC.bH (fun t ht => uC.tok t (.inl ht))
          rw [<- qz] at hs
          have tL : (Builtin.firstCells i.size (amE rows) (.slice a (amE rows) cap)).run P w.drew = .ok (rows.flatMap aV).toArray w.drew /\ (∀ r ∈ rows, (amE r) = esz) /\ (∀ r ∈ rows, ∀ c ∈ r, c.plain = amH) := by
            cases hrw : rows with
            | nil =>
              refine ⟨?_, by simp, by simp⟩
              cases a with
              | none => simpa using run_firstCells_none w.drew i.size 0 0 cap
              | some a => exact run_firstCells_some w.drew i.size 0 a 0 cap [] (by simp) (by simp)
            | cons r0 rs =>
              rw [<- hrw]
              have afs : rows ≠ [] := by rw [hrw]; simp
              obtain ⟨b, o, rfl, db⟩ := lf afs
              have SK : e1 = esz := by
                rcases Dx with h | h
                · exact h
                rw [hrw] at h; simp at h
              subst SK
              refine ⟨run_firstCells_some w.drew i.size (amE rows) ⟨b, o, amG⟩ (amE rows) cap _ (by rw [qz]; exact dF db.nP) (fun j v hj => ?_), db.nP, db.plain⟩
              rw [qD]
              exact pX uC.bH (db.flat j v hj)
          obtain ⟨tL, hol, fv⟩ := tL
          obtain ⟨nc, rest, hnc, Ww, cq⟩ := Ej (P := P) (w := w) (tx := tx) (ty := ty) ht hi hz Kx Np (sCap := cap) tL hs (by omega) (by simpa [dH] using ik)
          obtain ⟨li, hlb, oG, rR, k7⟩ := B3 (im := im) (loc := loc) (r := { v := .own (amE aE) esz 0 ((amE rows) + (amE new)) ((amE rows) + (amE new)) amI, news := [.arr esz (rows ++ new)], rd := iO y })
            (w' := w.drew.alloc (.cells (((rows.flatMap aV) ++ (new.flatMap aV)).toArray ++ rest) e)) rfl rfl uC dS rfl hol fv GR SJ hnc Ww
          subst h
          exact ⟨_, _, _, cq, oG, sR.new uC li rfl rfl rfl rfl rfl rfl hlb rR⟩
        cases h
      | own tk e1 off len cap ex =>
        dsimp only at h
        obtain ⟨li, a, cY, rfl, hl, he, B0, cW, GN, hex, AL⟩ := hx.gT
        cases ck : aE[tk]? with
        | none => rw [ck] at h; cases h
        | some df =>
          rw [ck] at h
          cases df with
          | arr e2 rows =>
            dsimp only at h
            split at h
            · cases h
            rename_i Ni
            have Ni : e1 = esz := by simpa using Ni
            subst Ni
            split at h
            ·
              rename_i sV
              have sV : len + (amE new) <= cap := by simpa using sV
              split at h
              · cases h
              rename_i SI
              injection h with h
              subst h
              obtain ⟨hs, GR, SJ⟩ := B1 (P := P) (w := w) hy AB htx hk.bH (fun t ht => hk.tok t (.inl ht))
              rw [<- qz] at hs
              obtain ⟨k, gQ, hb⟩ := hk.tok tk (.inr ⟨_, aem.2 rfl⟩) li hl
              rw [ck] at gQ; injection gQ with gQ; subst gQ
              obtain ⟨b1, b2, b3⟩ := hb
              have nS : rows ≠ [] := by intro e; subst e; simp at b2; omega
              have CZ : e2 = e1 := by rw [<- b1, he]
              subst CZ
              obtain ⟨arr, el, sU, Iz, J', db⟩ := b3 nS
              rcases AL with h0 | ⟨_, rfl, qE⟩
              · omega
              have GS := dF GR
              have GO := UV e2 (show off + (len + (amE new)) <= (amE rows) by omega)
              have Nq : (off + (len + (amE new))) * e2 = off * e2 + len * e2 + (amE new) * e2 := by rw [PP, PP]; omega
              have El : li.sh + off * e2 + len * i.size + (new.flatMap aV).length <= arr.size := by rw [qz, GS]; omega
              have cq := jr (P := P) (w := w) t tx ty e i ht hi li.df (li.sh + off * e2) len cY v (amE new) (new.flatMap aV) hs (by omega) sU El
              refine ⟨_, _, loc, cq, ?_, ?_⟩
              · exact .own tk e2 off (len + (amE new)) cap ex li _ cY hl he B0 sV GN hex (.inr ⟨by omega, rfl, qE⟩)
              refine sR.write hk (t := tk) (k0 := .arr e2 rows) (li := li) rfl rfl hl ck (by cases rows with | nil => exact absurd rfl nS | cons _ _ => rfl) (bT sU) rfl rfl rfl ?_
              rw [xq _ _ _ (by omega)]
              refine ⟨b1, by rw [cZ _ _ _ (by omega)]; exact b2, fun _ => ⟨(mA (li.sh + off * e2 + len * i.size) (new.flatMap aV) arr.toList).toArray, el, ?_, ?_, ?_, ?_⟩⟩
              · rw [bT sU]
                have dI := (IR.1 sU).1
                simp [dI]
              · rw [<- Iz]
                simp only [af0]
                rw [cZ _ _ _ (by simpa using El)]; simp
              · rw [cZ _ _ _ (by omega)]; exact J'
              refine db.mA (by omega) GR SJ (fun k => ?_)
              simp only [aeB]
              rw [gU _ _ _ (by simpa using El), GS]
              have : li.sh + off * e2 + len * i.size = li.sh + (off + len) * e2 := by rw [qz, PP]; omega
              rw [this]
              simp
            rename_i sV
            have sV : ¬ (len + (amE new) <= cap) := by simpa using sV
            split at h
            · cases h
            rename_i ik
            have ik : len + (amE new) <= 1048576 := by simpa [dH] using ik
            have old : ∀ (rd : List Nat) (wr : List (Nat × jR)), (tk ∈ rd \/ ∃ k, (tk, k) ∈ wr) ->
                jl im loc aE w { v := .own (amE aE) e1 0 (len + (amE new)) (len + (amE new)) amI, news := [.arr e1 ((rows.drop off).take len ++ new)], wr := wr, rd := rd } ->
                (Builtin.firstCells i.size len (.slice a len cY)).run P w.drew = .ok (((rows.drop off).take len).flatMap aV).toArray w.drew /\ ((rows.drop off).take len).length = len /\
                  (∀ r ∈ (rows.drop off).take len, (amE r) = e1) /\ (∀ r ∈ (rows.drop off).take len, ∀ c ∈ r, c.plain = amH) := by
              intro rd wr y6 uC
              obtain ⟨k, gQ, hb⟩ := uC.tok tk y6 li hl
              rw [ck] at gQ; injection gQ with gQ; subst gQ
              obtain ⟨b1, b2, b3⟩ := hb
              have CZ : e2 = e1 := by rw [<- b1, he]
              subst CZ
              have zP : ((rows.drop off).take len).length = len := by simp; omega
              by_cases Ka : len = 0
              · subst Ka
                refine ⟨?_, zP, by simp, by simp⟩
                simp only [List.take_zero, afX]
                cases a with
                | none => exact run_firstCells_none w.drew i.size 0 0 cY
                | some a => exact run_firstCells_some w.drew i.size 0 a 0 cY [] (by simp) (by simp)
              have nS : rows ≠ [] := by intro e; subst e; simp at zP; omega
              obtain ⟨arr, el, sU, Iz, J', db⟩ := b3 nS
              have vp := (db.drop off).take len
              rcases AL with h0 | ⟨_, rfl, _⟩
              · omega
              refine ⟨run_firstCells_some w.drew i.size len _ len cY _ (by rw [qz, dF vp.nP, zP]) (fun j v hj => ?_), zP, vp.nP, vp.plain⟩
              rw [qD]
              exact kI (w := w) sU (vp.flat j v hj)
            split at h
            ·
              rename_i am2
              injection h with h
              have uC : jl im loc aE w { v := .own (amE aE) e1 0 (len + (amE new)) (len + (amE new)) amI, news := [.arr e1 ((rows.drop off).take len ++ new)], wr := [], rd := tk :: iO y } := by rw [h]; exact hk
              obtain ⟨tL, zP, hol, fv⟩ := old (tk :: iO y) [] (.inl (by simp)) uC
              obtain ⟨hs, GR, SJ⟩ := B1 (P := P) (w := w) hy AB htx uC.bH (fun t ht => uC.tok t (.inl (aft _ ht)))
              rw [<- qz] at hs
              have hce := hex am2
              obtain ⟨nc, rest, hnc, Ww, cq⟩ := Ej (P := P) (w := w) (tx := tx) (ty := ty) ht hi hz Kx Np (sCap := cY) tL hs (by omega) ik
              obtain ⟨lj, hlb, oG, rR, k7⟩ := B3 (im := im) (loc := loc) (olds := (rows.drop off).take len) (new := new) (r := { v := .own (amE aE) e1 0 (len + (amE new)) (len + (amE new)) amI, news := [.arr e1 ((rows.drop off).take len ++ new)], wr := [], rd := tk :: iO y })
                (w' := w.drew.alloc (.cells (((((rows.drop off).take len).flatMap aV) ++ (new.flatMap aV)).toArray ++ rest) e)) (by rw [zP]) rfl uC dS rfl hol fv GR SJ (by rw [zP]; exact hnc) (by rw [zP]; exact Ww)
              subst h
              rw [zP] at oG
              exact ⟨_, _, _, cq, oG, sR.new uC lj rfl rfl rfl rfl rfl rfl hlb rR⟩
            rename_i am2
            split at h
            · cases h
            rename_i SI
            injection h with h
            have uC : jl im loc aE w { v := .own (amE aE) e1 0 (len + (amE new)) (len + (amE new)) amI, news := [.arr e1 ((rows.drop off).take len ++ new)], wr := [(tk, .dead)], rd := iO y } := by rw [h]; exact hk
            obtain ⟨tL, zP, hol, fv⟩ := old (iO y) [(tk, .dead)] (.inr ⟨_, aem.2 rfl⟩) uC
            obtain ⟨hs, GR, SJ⟩ := B1 (P := P) (w := w) hy AB htx uC.bH (fun t ht => uC.tok t (.inl ht))
            have uD := hs
            rw [<- qz] at hs
            subst h
            rcases acK cY (len + (amE new)) with hg | hg
            ·
              obtain ⟨nc, rest, hnc, Ww, cq⟩ := Ej (P := P) (w := w) (tx := tx) (ty := ty) ht hi hz Kx Np (sCap := cY) tL hs hg ik
              obtain ⟨lj, hlb, oG, rR, k7⟩ := B3 (im := im) (loc := loc) (olds := (rows.drop off).take len) (new := new) (r := { v := .own (amE aE) e1 0 (len + (amE new)) (len + (amE new)) amI, news := [.arr e1 ((rows.drop off).take len ++ new)], wr := [(tk, .dead)], rd := iO y })
                (w' := w.drew.alloc (.cells (((((rows.drop off).take len).flatMap aV) ++ (new.flatMap aV)).toArray ++ rest) e)) (by rw [zP]) rfl uC dS rfl hol fv GR SJ (by rw [zP]; exact hnc) (by rw [zP]; exact Ww)
              rw [zP] at oG
              refine ⟨_, _, _, cq, oG, ?_⟩
              have nR := sR.new (r := { v := .own (amE aE) e1 0 (len + (amE new)) (len + (amE new)) amI, news := [.arr e1 ((rows.drop off).take len ++ new)], wr := [], rd := iO y })
                (w' := w.drew.alloc (.cells (((((rows.drop off).take len).flatMap aV) ++ (new.flatMap aV)).toArray ++ rest) e))
                ⟨uC.bH, fun t ht => uC.tok t (by rcases ht with ht | ⟨k, ht⟩; exact .inl ht; cases ht), fun t k h => absurd h (by simp), uC.fresh, fun t u li lj k k' h1 h2 => uC.iI t u li lj k k' (by rcases h1 with h | ⟨k, h⟩; exact .inl h; cases h) (by rcases h2 with h | ⟨k, h⟩; exact .inl h; cases h)⟩ lj rfl rfl rfl rfl rfl rfl hlb rR
              exact { gD := nR.gD, dV := nR.dV, bH := nR.bH, dY := nR.dY, os := nR.os, tape := nR.tape, output := nR.output, size := nR.size,
                      frame := fun b hb _ => nR.frame b hb (fun t k li k0 h => absurd h (by simp)),
                      Q4 := (fun t k hm hs => by
                        obtain ⟨rfl, rfl⟩ : t = tk /\ k = .dead := by simpa using hm
                        cases hs),
                      wr := fun t k li hm me => by
                        obtain ⟨rfl, rfl⟩ : t = tk /\ k = .dead := by simpa using hm
                        trivial,
                      kU := nR.kU,
                      news := fun j k li hj hl => by
                        obtain ⟨h2, h3⟩ := nR.news j k li hj hl
                        refine ⟨h2, fun hs => ⟨(h3 hs).1, ?_⟩⟩
                        rcases (h3 hs).2 with h | ⟨t, lt, k0, hm, _⟩
                        · exact .inl h
                        exact absurd hm (by simp),
                      distinct := nR.distinct }
            ·
              obtain ⟨k, gQ, hb⟩ := uC.tok tk (.inr ⟨_, aem.2 rfl⟩) li hl
              rw [ck] at gQ; injection gQ with gQ; subst gQ
              obtain ⟨b1, b2, b3⟩ := hb
              have CZ : e2 = e1 := by rw [<- b1, he]
              subst CZ
              rcases AL with h0 | ⟨Wx, rfl, qE⟩
              · omega
              have nS : rows ≠ [] := by intro e; subst e; simp at b2; omega
              obtain ⟨arr, el, sU, Iz, J', db⟩ := b3 nS
              have vp := (db.drop off).take len
              have GS := dF GR
              have am3 := dF hol
              rw [zP] at am3
              have GO := UV e2 (show off + (len + (amE new)) <= off + cY by omega)
              have Nq : (off + (len + (amE new))) * e2 = off * e2 + len * e2 + (amE new) * e2 := by rw [PP, PP]; omega
              have El : li.sh + off * e2 + len * i.size + (new.flatMap aV).length <= arr.size := by rw [qz, GS]; omega
              have cq := jr (P := P) (w := w) t tx ty e i ht hi li.df (li.sh + off * e2) len cY v (amE new) (new.flatMap aV) hs hg sU El
              have Pg := bT (cs := (mA (li.sh + off * e2 + len * i.size) (new.flatMap aV) arr.toList).toArray) sU
              have dI := (IR.1 sU).1
              have zQ : (jR.arr e2 rows).bM = amH := by cases rows with | nil => exact absurd rfl nS | cons _ _ => rfl
              have AM := uC.free tk .dead (aem.2 rfl) li (.arr e2 rows) hl ck zQ
              let lj : LI := ⟨li.df, li.sh + off * e2, e2, ((rows.drop off).take len ++ new).length, li.sz⟩
              have S4 : loc (amE aE) = amG := by have := uC.fresh 0 (by simp); simpa using this
              have hlj : lj.n = len + (amE new) := by simp only [lj, aeZ, zP]
              refine ⟨_, _, loc.set (amE aE) lj, cq, ?_, ?_⟩
              · exact .own (amE aE) e2 0 (len + (amE new)) (len + (amE new)) amI lj _ cY (Loc.eT _ _ _) rfl (by omega) (If _) hg (by simp)
                  (.inr ⟨by omega, by simp [lj], by simp only [lj, ajD]; rw [PP] at qE; omega⟩)
              have rR : BR im (loc.set (amE aE) lj) (w.setRow li.df (mA (li.sh + off * e2 + len * i.size) (new.flatMap aV) arr.toList).toArray) lj (.arr e2 ((rows.drop off).take len ++ new)) := by
                refine ⟨rfl, rfl, fun _ => ⟨(mA (li.sh + off * e2 + len * i.size) (new.flatMap aV) arr.toList).toArray, el, by rw [Pg]; simp [lj, dI], ?_, ?_, ?_⟩⟩
                · simp only [lj, af0]
                  rw [cZ _ _ _ (by simpa using El)]; simpa using Iz
                · simp only [lj, aeZ, zP]
                  rw [PP]; rw [Nq] at GO; omega
                refine bO.zO (fun r hr => ?_) (fun r hr => ?_) (fun j u hj => ?_)
                · rcases aeC.1 hr with h | h
                  · exact hol r h
                  exact GR r h
                · rcases aeC.1 hr with h | h
                  · exact fv r h
                  exact SJ r h
                rw [alZ] at hj
                simp only [lj, aeB]
                rw [gU _ _ _ (by simpa using El), GS, qz]
                rcases acK j (len * e2) with Nn | Nn
                · rw [adc (by omega)] at hj
                  rw [rc (by omega)]
                  have := vp.flat j u hj
                  simpa using this
                rw [acl (by omega), am3] at hj
                have hjb := (aev.1 hj).1
                rw [pp ⟨by omega, by omega⟩, <- hj]
                congr 1
                omega
              exact { gD := .refl _, dV := Loc.xn lj S4,
                      bH := fun b o hb => by
                        have h1 := uC.bH b o hb
                        have Nr : li.df ≠ b := fun e => by rw [e, hb] at AM; cases AM
                        rw [Pg, ae5, rc Nr]; exact h1,
                      dY := fun _ _ h => .inl h, os := rfl, tape := rfl, output := rfl,
                      size := by rw [Pg]; simp,
                      Q4 := (fun t k hm hs => by
                        obtain ⟨rfl, rfl⟩ : t = tk /\ k = .dead := by simpa using hm
                        cases hs),
                      frame := fun b _ hb => by
                        have Nr := hb tk .dead li _ (aem.2 rfl) hl ck zQ
                        rw [Pg, ae5, rc Nr],
                      wr := fun t k li hm me => by
                        obtain ⟨rfl, rfl⟩ : t = tk /\ k = .dead := by simpa using hm
                        trivial,
                      kU := fun t l h => by
                        unfold Loc.set at h
                        split at h
                        · rename_i e; subst e; exact .inr ⟨If _, by simp⟩
                        exact .inl h,
                      news := BZ (fun j k hj => by
                        cases j with
                        | zero =>
                          simp at hj; subst hj
                          exact ⟨lj, Loc.eT _ _ _, rR, fun _ => ⟨AM, .inr ⟨tk, li, _, aem.2 rfl, hl, ck, zQ, rfl⟩⟩⟩
                        | succ j => simp at hj),
                      distinct := fun i j ki kj li lj h1 h2 _ _ _ _ _ => by
                        cases i <;> cases j <;> simp at h1 h2 <;> rfl }
          | _ => cases h
      | _ => cases h
end
end Go.Vm
/- Operation by operation, seventh part: aggregates and rows that are built, slices that are cut. -/
namespace Go.Vm
section
variable {P : Program} {im : Im} {loc : Loc} {aE : cK} {fz : List Nat} {w : World}
theorem uE {α β:Type} (f:α->Sem β) (g:α->β):
 ∀(xs:List α),(∀a∈xs,(f a).run P w= .ok (g a) w)-> ∀(acc:Array β),(xs.foldlM (fun bs a=>bs.push<$>f a) acc).run P w= .ok (acc++(xs.map g).toArray) w
 | [],_,acc=>by simp
 |x::xs,h,acc=>by
  simp only [amo,Do,Sem.run_map,h x (by simp),ww,uE f g xs (fun a ha=>h a (by simp [ha]))]
  congr 1
  apply aew;simp
theorem Q9 {α β:Type} (f:α->Sem β) (g:α->β) (xs:Array α) (h: ∀a∈xs,(f a).run P w= .ok (g a) w):(xs.mapM f).run P w= .ok (xs.map g) w:=by
 rw [Array.mapM_eq_foldlM,<- Array.foldlM_toList,uE f g xs.toList (fun a ha=>h a (by simpa using ha))]
 congr 1
 apply aew;simp
theorem Hi (off:Nat): ∀(xs:List Value) (k:Nat) (cells:Array Value),off+k+amE xs<=cells.size->
 ((xs.zipIdx k).foldl (fun (cs:Array Value) (p:Value×Nat)=>cs.setIfInBounds (off+p.2) p.1) cells).toList=mA (off+k) xs cells.toList
 | [],k,cells,_=>by simp [mA]
 |x::xs,k,cells,h=>by
  simp only [aeJ] at h;rw [List.zipIdx_cons,afb,Hi off xs (k+1) _ (by simp;omega)]
  apply afA;intro j;rw [gU _ _ _ (by simp;omega),gU _ _ _ (by simp;omega)]
  simp only [aeJ,Array.toList_setIfInBounds]
  by_cases h1:off+(k+1)<=j/\j<off+(k+1)+amE xs
  · rw [pp h1,pp ⟨by omega,by omega⟩]
    obtain ⟨m,hm⟩: ∃m,j- (off+k)=m+1:=⟨j- (off+k) -1,by omega⟩
    rw [hm,show j- (off+(k+1))=m by omega];simp
  rw [rc h1]
  by_cases h2:j=off+k
  · subst h2
    rw [pp ⟨If _,by omega⟩,ajC (by simp;omega)]
    simp
  rw [rc (by omega),alu (by omega)]
theorem yq {place:Nat->Option (Nat×Nat)} {i off size:Nat} {v:Value} {rest:List (Nat×Value)} {cells:Array Value} (hp:place i=amF (off,size)) (hs:v.cells.size=size)
 (hf:off+size<=cells.size):Instr.fill place cells ((i,v)::rest)=Instr.fill place ⟨mA off v.cells.toList cells.toList⟩ rest:=by
 have he:(v.cells.zipIdx.foldl (fun cs (c,j)=>cs.setIfInBounds (off+j) c) cells)=⟨mA off v.cells.toList cells.toList⟩:=by
  apply aew;rw [<- Array.foldl_toList,Array.toList_zipIdx]
  have:=Hi off v.cells.toList 0 cells (by simp;omega)
  simpa using this
 simp only [Instr.fill,hp];rw [rc (by simp [hs];omega),he]
inductive uF (im:Im) (loc:Loc) (place:Nat->Option (Nat×Nat)):List (Nat×Nat×PV)->List (Nat×Value)->Prop
 |nil:uF im loc place [] []
 |cons (off sz i:Nat) (x:PV) (v:Value) (r:List (Nat×Nat×PV)) (s:List (Nat×Value)) (hp:place i=amF (off,sz)) (hv:VR im loc x v) (h:uF im loc place r s):
  uF im loc place ((off,sz,x)::r) ((i,v)::s)
theorem Ky {place:Nat->Option (Nat×Nat)}: ∀{ps:List (Nat×Nat×PV)} {qs:List (Nat×Value)},uF im loc place ps qs-> ∀{cs He:List PV} {vs:Array Value},
 eX im loc cs vs.toList->mW ps cs=amF He-> ∃M',Instr.fill place vs qs=amF M'/\eX im loc He M'.toList
 |_,_,.nil,cs,He,vs,h,hf=>by
  simp only [mW,v6] at hf;subst hf;exact ⟨vs,rfl,h⟩
 |_,_,.cons off sz i x v r s hp hv hr,cs,He,vs,h,hf=>by
  simp only [mW] at hf;cases ck:x.stored with
  |none=>rw [ck] at hf;cases hf
  |some ws=>
   rw [ck] at hf;dsimp only at hf;split at hf
   · rename_i hc
     simp only [ut,aeA,af3] at hc;obtain ⟨rfl,AI⟩:=zN ck;have Pf:=hv.cells AI;have hl:=Pf.mK;have AA:=h.mK;simp only [aeH] at hl AA;rw [yq hp (by omega) (by omega)]
     exact Ky hr (eX.mA Pf h) hf
   cases hf
theorem Em {t:TypeId} {fs:Array Field} (hu:P.underlying t=amF (.struct fs)) (hf: ∀f∈fs,(P.info? f.type).isSome=amH):
 (fs.mapM fun f=>do pure (f.offset,<- sizeOf f.type):Sem (Array (Nat×Nat))).run P w= .ok (fs.map fun f=>(f.offset,P.cellsOf f.type)) w/\
 (fun i=>(fs.map fun f=>(f.offset,P.cellsOf f.type))[i]?)=placeOf P t:=by
 constructor
 · refine Q9 _ _ _ fun f hm=>?_
   obtain ⟨i,hi⟩:=aeE.1 (hf f hm);simp [sizeOf,typeInfo,hi,Program.cellsOf]
 funext i
 unfold placeOf;rw [hu];cases hfi:fs[i]? with
 |none=>simp [hfi]
 |some f=>
  obtain ⟨j,hj⟩:=aeE.1 (hf f (Array.mem_of_getElem? hfi));simp [hfi,hj,Program.cellsOf]
theorem Q' {t:TypeId} {zero cs:List PV} {ps:List (Nat×Nat×PV)} {qs:Array (Nat×Value)} (hz:tJ P t zero=amH)
 (nG:(match P.underlying t with|some (.struct fs)=>fs.all fun f=>(P.info? f.type).isSome|some (.array _ e)=>(P.info? e).isSome|_=>amI)=amH)
 (hr:uF im loc (placeOf P t) ps qs.toList) (hf:mW ps zero=amF cs): ∃v,(Instr.build t qs).run P w= .ok v w/\VR im loc (.agg cs) v:=by
 unfold tJ at hz;cases hi:P.info? t with
 |none=>rw [hi] at hz;cases hz
 |some i=>
  rw [hi] at hz;cases IA:i.zero with
  |none=>simp [IA] at hz
  |some z=>
   simp [IA] at hz;have Ph:(zeroValue t).run P w= .ok z w:=by simp [zeroValue,typeInfo,hi,IA]
   obtain ⟨M',h1,h2⟩:=Ky hr (xm hz) hf;refine ⟨.agg M',?_,.agg cs M'.toList h2⟩;cases hu:P.underlying t with
   |none=>rw [hu] at nG;cases nG
   |some d=>
    rw [hu] at nG;cases d<;>first|cases nG|skip
    case array n e=>
     obtain ⟨j,hj⟩:=aeE.1 nG;have hp:(fun i=>amF (i*j.size,j.size))=placeOf P t:=by funext i;unfold placeOf;rw [hu];simp [hj]
     have qz:(sizeOf e).run P w= .ok j.size w:=by simp [sizeOf,typeInfo,hj]
     simp only [Instr.build,Do,Ph,run_underlying hu,ww,qz,hp,h1,EQ]
    case struct fs=>
     have qY: ∀f∈fs,(P.info? f.type).isSome=amH:=by
      intro f hf
      have:=Array.all_eq_true.1 nG
      obtain ⟨k,hk,rfl⟩:=Array.mem_iff_getElem.1 hf;exact this k hk
     obtain ⟨hm,hp⟩:=Em (P:=P) (w:=w) hu qY;simp only [Instr.build,Do,Ph,run_underlying hu,ww,hm,hp,h1,EQ]
theorem B4 {zero:Row} {zs:Array Value} (h: ∀(j:Nat) (c:PV),zero[j]? =amF c-> ∃v,jA c=amF v/\zs[j]? =amF v) (hl:(amE zero)=zs.size) (n:Nat):
 bO (fun k=>((afI (n*zs.size)).map (zs[· %zs.size]!))[k]?) 0 zs.size (aex n zero):=by
 intro i r hr;have hi:i<n:=by
  rcases acK i n with h|h
  · exact h
  rw [M2 (by simpa using h)] at hr;cases hr
 rw [List.getElem?_replicate,pp hi] at hr;injection hr with hr;subst hr;refine ⟨hl,fun j c hc=>?_⟩
 obtain ⟨v,hv,hz⟩:=h j c hc;refine ⟨v,hv,?_⟩;have hj:j<zs.size:=(IR.1 hz).1;have dI:i*zs.size+j<n*zs.size:=by
  have:=UV zs.size (show i+1<=n from hi)
  rw [PP] at this;omega
 have arD:(i*zs.size+j)%zs.size=j:=by rw [Nat.mul_comm,Nat.mul_add_mod];exact Nat.mod_eq_of_lt hj
 simp only [ajD];rw [Array.getElem?_map,Array.getElem?_range,pp dI];simp only [amq,arD];rw [getElem!_pos zs j hj]
 have:=(IR.1 hz).2
 rw [this]
inductive xu (im:Im) (loc:Loc):List (Nat×PV)->List (Nat×Value)->Prop
 |nil:xu im loc [] []
 |cons (i:Nat) (x:PV) (v:Value) (r:List (Nat×PV)) (s:List (Nat×Value)) (hv:VR im loc x v) (h:xu im loc r s):xu im loc ((i,x)::r) ((i,v)::s)
theorem AN {esz n : Nat} : ∀ {ps : List (Nat × PV)} {qs : List (Nat × Value)}, xu im loc ps qs -> ∀ {rows qQ : List Row} {vs : Array Value},
    bO (fun k => vs[k]?) 0 esz rows -> vs.size = n * esz -> (amE rows) = n -> pT ps rows esz = amF qQ ->
    ∃ M', Instr.fill (fun i => amF (i * esz, esz)) vs qs = amF M' /\ bO (fun k => M'[k]?) 0 esz qQ /\ M'.size = n * esz /\ (amE qQ) = n
  | _, _, .nil, rows, qQ, vs, h, hs, hn, hf => by
    simp only [pT, v6] at hf
    subst hf
    exact ⟨vs, rfl, h, hs, hn⟩
  | _, _, .cons i x v r s hv hr, rows, qQ, vs, h, hs, hn, hf => by
    simp only [pT] at hf
    cases ck : x.cL with
    | none => rw [ck] at hf; cases hf
    | some ws =>
      rw [ck] at hf
      dsimp only at hf
      split at hf
      · rename_i hc
        have C0 : (amE ws) = esz := by simp only [ut, aeA] at hc; exact hc.1
        have En : i < (amE rows) := by simp only [ut] at hc; simpa using hc.2
        obtain ⟨rfl, Nl⟩ := mB ck
        have Pf := hv.cells (fun c hc => xp (Nl c hc))
        have hl := Pf.mK
        simp only [aeH] at hl
        have GO := UV esz (show i + 1 <= n by omega)
        rw [PP] at GO
        rw [yq (place := fun i => amF (i * esz, esz)) rfl (by omega) (by omega)]
        have hgi : rows[i]? = amF rows[i] := NE En
        have hil := (h i _ hgi).1
        have am4 := h.store (get' := fun k => (⟨mA (i * esz) v.cells.toList vs.toList⟩ : Array Value)[k]?) (off := 0) (ws := x.cells) (vs := v.cells.toList) hgi (by omega) (Pf.Hg Nl) (by simp; omega) (fun k => by
          simp only [aeB]
          rw [gU _ _ _ (by simp; omega)]
          simp)
        have arE : mA 0 x.cells rows[i] = x.cells := by
          unfold mA; rw [afm (by omega)]; simp
        rw [arE] at am4
        exact AN hr am4 (by simp only [af0]; rw [cZ _ _ _ (by simp; omega)]; simpa using hs) (by simpa using hn) hf
      cases hf
end
end Go.Vm
/- Operation by operation, last part: all of them. -/
namespace Go.Vm
def kS.fj:kS->List fy
 | .SG x| .un _ x| .conv _ x| .len x| .box x| .load _ x| .Kg x| .Kh _ x| .jS _ _ x| .ext _ x=>[x]
 | .pick a b c=>[a,b,c]
 | .bin _ x y| .Kf _ x y| .eqc _ _ x y| .store _ x y| .Ki _ x y| .CU _ _ x y| .idx _ _ _ x y| .Kj x y| .mks _ _ x y| .append _ x y| .copy _ x y=>[x,y]
 | .build _ ps=>ps.map (·.2.2)
 | .AD _ _ _ ps=>ps.map (·.2)
 | .CT x y=>[x,y]
 | .Q1 _ x a b c=>x::(a.toList++b.toList++c.toList)
 | .mkf _ a b=>a++b
 | .lookup _ _ _ m k=>[m,k]
 | .Ip _ m k v=>[m,k,v]
 | .clear _ _ x=>[x]
 | .mm _ x xs=>x::xs
 | .call _ _ as=>as
 | .wN x as=>x::as
 | .Nh _| .alloc _| .mkm _| .bad=>[]
section
variable {P : Program} {im : Im} {loc : Loc} {aE : cK} {fz : List Nat} {w : World} {e : Env} {ρ : Operand -> Value}
theorem mZ: ∀{xs:List fy} {os:List Operand},(∀x∈xs,∀o,bB x o=amH->VR im loc (x.ev e) (ρ o))->eY xs os=amH->eX im loc (D' e xs) (os.map ρ)
 | [],[],_,_=> .nil
 |x::xs,o::os,h,hc=>by
  simp only [eY,ut] at hc;exact .cons _ _ _ _ (h x (by simp) o hc.1) (mZ (fun y hy=>h y (by simp [hy])) hc.2)
 | [],_::_,_,hc=>by simp [eY] at hc
 |_::_,[],_,hc=>by simp [eY] at hc
theorem AO {place:Nat->Option (Nat×Nat)}: ∀{ps:List (Nat×Nat×fy)} {qs:List (Nat×Operand)},(∀x∈ps.map (·.2.2),∀o,bB x o=amH->VR im loc (x.ev e) (ρ o))->uA place ps qs=amH->
 uF im loc place (ps.map fun p=>(p.1,p.2.1,p.2.2.ev e)) (qs.map fun (i,x)=>(i,ρ x))
 | [],[],_,_=> .nil
 |(off,sz,x)::r,(i,o)::s,h,hc=>by
  simp only [uA,ut] at hc;obtain ⟨⟨h1,h2⟩,h3⟩:=hc;refine .cons off sz i _ _ _ _ ?_ (h x (by simp) o h2) (AO (fun y hy=>h y (by simp only [amy,afa];exact .inr hy)) h3)
  cases hp:place i with
  |none=>rw [hp] at h1;cases h1
  |some q=>
   rw [hp] at h1;simp only [ut,beq_iff_eq] at h1;obtain ⟨rfl,rfl⟩:=h1;rfl
 | [],_::_,_,hc=>by simp [uA] at hc
 |_::_,[],_,hc=>by simp [uA] at hc
theorem wS: ∀{ps:List (Nat×fy)} {qs:List (Nat×Operand)},(∀x∈ps.map (·.2),∀o,bB x o=amH->VR im loc (x.ev e) (ρ o))->mY ps qs=amH->
 xu im loc (ps.map fun p=>(p.1,p.2.ev e)) (qs.map fun (i,x)=>(i,ρ x))
 | [],[],_,_=> .nil
 |(i,x)::r,(j,o)::s,h,hc=>by
  simp only [mY,ut,beq_iff_eq] at hc;obtain ⟨⟨rfl,h2⟩,h3⟩:=hc;exact .cons i _ _ _ _ (h x (by simp) o h2) (wS (fun y hy=>h y (by simp only [amy,afa];exact .inr hy)) h3)
 | [],_::_,_,hc=>by simp [mY] at hc
 |_::_,[],_,hc=>by simp [mY] at hc
theorem Eo {t:TypeId} {zero:Row} (h:tJ P t zero=amH) (hp:zero.all PV.plain=amH):
 ∃i z,P.info? t=amF i/\i.zero=amF z/\amE zero=z.cells.size/\ ∀(j:Nat) (c:PV),zero[j]? =amF c-> ∃v,jA c=amF v/\z.cells[j]? =amF v:=by
 unfold tJ at h;cases hi:P.info? t with
 |none=>rw [hi] at h;cases h
 |some i=>
  rw [hi] at h;cases hz:i.zero with
  |none=>simp [hz] at h
  |some z=>
   simp [hz] at h;have hr:eX (fun _=>amG) (fun _=>amG) zero z.cells.toList:=xm h
   refine ⟨i,z,rfl,hz,by simpa using hr.mK,fun j c hc=>?_⟩
   obtain ⟨v,hv,Nk⟩:=hr.get j c hc;refine ⟨v,Nk.plain ?_,by simpa using hv⟩
   have:=amp.1 hp c (afo hc)
   exact this
theorem C1 {esz n len cap:Nat} {rows:List Row} {vs:Array Value} {el:TypeId} {r:nI} (hr:r={v:= .own (amE aE) esz 0 len cap amH,news:=[.arr esz rows]}) (hk:jl im loc aE w r)
 (db:bO (fun k=>vs[k]?) 0 esz rows) (hs:vs.size=n*esz) (hn:(amE rows)=n) (hc:cap=n) (hl:len<=cap):
 ∃bm,VR im bm r.v (.slice (amF ⟨w.heap.size,0,amG⟩) len cap)/\sR im loc aE w r im bm {w with heap:=w.heap.push (.cells vs el)}:=by
 subst hr hc
 let li:LI:=⟨w.heap.size,0,esz,cap,vs.size⟩
 refine ⟨loc.set (amE aE) li,?_,?_⟩
 · refine .own (amE aE) esz 0 len cap amH li _ cap (Loc.eT _ _ _) rfl (by simp [li]) hl (If _) (fun _=>rfl) ?_
   rcases am6 cap with h|h
   · exact .inl h
   exact .inr ⟨by simp [li];omega,by simp [li],by simp [li,hs]⟩
 exact sR.new hk li rfl rfl rfl rfl rfl rfl rfl ⟨rfl,hn.symm,fun _=>⟨vs,el,by simp [li],rfl,by simp [li,hs,hn],db⟩⟩
theorem Pj {isMax:Bool} {k:IntKind}: ∀{ys:List PV} {us:List Value},eX im loc ys us-> ∀{a:Int} {z:PV},mmE isMax k a ys=amF z->
 ∃b,z= .int k b/\(us.foldlM (if isMax then Builtin.max2 else Builtin.min2) (.int k a)).run P w= .ok (.int k b) w
 |_,_,.nil,a,z,h=>by
  simp only [mmE,v6] at h;exact ⟨a,h.symm,rfl⟩
 |_,_,.cons y u ys us hy hs,a,z,h=>by
  unfold mmE at h;cases y with
  |int l c=>
   obtain rfl:=hy.gr;dsimp only at h;cases SL:fu k l with
   |false=>rw [SL] at h;cases h
   |true=>
    have:=fg.1 SL;subst this
    rw [SL,pp rfl] at h;obtain ⟨b,hz,ih⟩:=Pj (isMax:=isMax) hs h;refine ⟨b,hz,?_⟩;rw [amo,Do];cases isMax with
    |true=>simp only [if_true] at ih ⊢;simp only [Builtin.max2,EQ,ww];exact ih
    |false=>simp only [ae0,if_false] at ih ⊢;simp only [Builtin.min2,EQ,ww];exact ih
  |_=>cases h
end
end Go.Vm
/- Operation by operation: all that call nothing. -/
namespace Go.Vm
def S5 (P:Program) (ρ:Operand->Value) (o:Oper) (im:Im) (loc:Loc) (aE:cK) (w:World) (r:nI):Prop:=
 ∃nx w' bm,(execOp ρ o).run P w= .ok nx w'/\((nx= .skip/\r.v= .undef)\/ ∃v,nx= .value v/\VR im bm r.v v)/\sR im loc aE w r im bm w'
section
variable {P : Program} {im : Im} {loc : Loc} {aE : cK} {fz : List Nat} {w : World} {e : Env} {ρ : Operand -> Value}
theorem S5.pure {o:Oper} {r:nI} {v:Value} (hk:jl im loc aE w r) (hn:r.news=[]) (hw:r.wr=[]) (h:(execOp ρ o).run P w= .ok (.value v) w) (hv:VR im loc r.v v):
 S5 P ρ o im loc aE w r:=⟨_,w,loc,h,.inr ⟨v,rfl,hv⟩,sR.none hk hn hw⟩
theorem IB {t:TypeId} (h:(P.underlying t matches amF .bool)=amH):P.underlying t=amF .bool:=by
 split at h
 · assumption
 cases h
theorem vq {x:Option fy} {o:Option Operand} {n:Option Nat} (oE: ∀y∈x.toList,∀o,bB y o=amH->VR im loc (y.ev e) (ρ o)) (hc:Iw x o=amH)
 (h:(match (generalizing:=false) x with|none=>some none|some a=>(jU (a.ev e)).map some)=some n):zM (o.map ρ) n:=by
 cases x with
 |none=>
  cases o with
  |none=>injection h with h;subst h;trivial
  |some o=>cases hc
 |some a=>
  cases o with
  |none=>cases hc
  |some o=>
   simp only [AC] at h;obtain ⟨m,hm,rfl⟩:=h;exact oP (oE a (by simp) o hc) hm
theorem sW {t el:TypeId} {esz:Nat} {a:Option Addr} {len cap l h m:Nat} {vl vh vm:Option Value} (hu:P.underlying t=amF (.slice el)) (hs:oF P el esz=amH)
 (hb:(Instr.sliceBounds amH len cap vl vh vm).run P w= .ok (l,h,m) w):
 (Instr.sliceAt t (.slice a len cap) vl vh vm).run P w= .ok (.slice (if m=l then a else a.map (·.add (l*esz))) (h-l) (m-l)) w:=by
 simp only [Instr.sliceAt,Do,run_underlying hu,ww,Instr.slice,hb,kA hs,EQ]
theorem Ra {t el:TypeId} {esz:Nat} {x z:PV} {u:Value} {lo hi mx:Option Nat} {vl vh vm:Option Value} (hx:VR im loc x u) (hu:P.underlying t=amF (.slice el)) (hs:oF P el esz=amH)
 (h1:zM vl lo) (h2:zM vh hi) (h3:zM vm mx) (hm:mx.isSome=amH->hi.isSome=amH) (Dx: ∀e c r,x= .sl e c r->r=[]\/e=esz) (am5: ∀tk e o l c ex,x= .own tk e o l c ex->e=esz)
 (h:qC x lo hi mx=amF z): ∃v,(Instr.sliceAt t u vl vh vm).run P w= .ok v w/\VR im loc z v:=by
 unfold qC at h;cases x with
 |sl e qA rows=>
  obtain ⟨a,cap,rfl,GN,Wg,lf⟩:=hx.nO;dsimp only at h;have sub: ∀(l h m:Nat) (Pk:Bool),l<=h->h<=amE rows->h<=m->m<=cap->(Pk=amH->m=h)->
   VR im loc (.sl e Pk ((rows.drop l).take (h-l))) (.slice (if m=l then a else a.map (·.add (l*esz))) (h-l) (m-l)):=by
   intro l h m Pk hlh hhr hhm hmc AA;have cW:((rows.drop l).take (h-l)).length=h-l:=by simp;omega
   have:=VR.sl (im:=im) (loc:=loc) e Pk ((rows.drop l).take (h-l)) (if m=l then a else a.map (·.add (l*esz))) (m-l) (by omega) (fun hc=>by have:=AA hc;omega) (fun dS=>by
    have dI:l<h:=by
     rcases acK l h with h'|h'
     · exact h'
     exfalso;apply dS;rw [show h-l=0 by omega];simp
    have nS:rows≠[]:=by intro e;subst e;simp at hhr;omega
    obtain ⟨b,o,rfl,db⟩:=lf nS;have he:e=esz:=(Dx e qA rows rfl).resolve_left nS;subst he;refine ⟨b,o+l*e,?_,(db.drop l).take _⟩;rw [rc (by omega)]
    simp [qD])
   rwa [cW] at this
  cases mx with
  |none=>
   dsimp only at h;split at h
   · rename_i hc
     simp only [ut,af3] at hc;injection h with h;subst h;have hb:=mz (P:=P) (w:=w) (len:=amE rows) (cap:=cap) h1 h2 h3 hm hc.1 (fun _=>by simp;omega) (by simp)
     simp only [afn] at hb;refine ⟨_,sW hu hs hb,sub _ _ cap _ hc.1 hc.2 (by omega) (If _) (fun AA=>?_)⟩
     simp only [ut,aeA] at AA
     have:=Wg AA.1;omega
   cases h
  |some m=>
   dsimp only at h;split at h
   · rename_i hc
     simp only [ut,af3] at hc;injection h with h;subst h;have hb:=mz (P:=P) (w:=w) (len:=amE rows) (cap:=cap) h1 h2 h3 hm hc.1.1 (fun _=>hc.1.2) (by simp;omega)
     simp only [aet] at hb;refine ⟨_,sW hu hs hb,sub _ _ m _ hc.1.1 (by omega) hc.1.2 (by omega) (fun AA=>?_)⟩
     simp only [aeA] at AA;exact AA.symm
   cases h
 |own tk e off len cap ex=>
  obtain ⟨li,a,cY,rfl,hl,he,B0,cW,GN,hex,AL⟩:=hx.gT;have Ni:=am5 tk e off len cap ex rfl;subst Ni;dsimp only at h;have sub: ∀(l h c m m':Nat) (ex':Bool),l<=h->h<=m->m<=cap->m<=m'->m'<=cY->(ex'=amH->m'=m)->
   VR im loc (.own tk e (off+l) (h-l) (m-l) ex') (.slice (if m'=l then a else a.map (·.add (l*e))) (h-l) (m'-l)):=by
   intro l h c m m' ex' hlh hhm hmc hmm awP arF;refine .own tk e (off+l) (h-l) (m-l) ex' li _ (m'-l) hl he (by omega) (by omega) (by omega) (fun hx=>by have:=arF hx;omega) ?_
   by_cases Kb:m'=l
   · exact .inl (by omega)
   rw [rc Kb]
   rcases AL with h0|⟨Wx,rfl,qE⟩
   · exact .inl (by omega)
   refine .inr ⟨Wx,?_,?_⟩
   · simp only [amq,qD];congr 2;rw [PP];omega
   have:=UV e (show off+l+(m'-l)<=off+cY by omega)
   omega
  cases mx with
  |none=>
   dsimp only at h;split at h
   · rename_i hc
     simp only [ut,af3] at hc;injection h with h;subst h;have hb:=mz (P:=P) (w:=w) (len:=len) (cap:=cY) h1 h2 h3 hm hc.1 (fun _=>by simp;omega) (by simp)
     simp only [afn] at hb;exact ⟨_,sW hu hs hb,sub _ _ 0 cap cY ex hc.1 hc.2 (If _) GN (If _) hex⟩
   cases h
  |some m=>
   dsimp only at h;split at h
   · rename_i hc
     simp only [ut,af3] at hc;injection h with h;subst h;have hb:=mz (P:=P) (w:=w) (len:=len) (cap:=cY) h1 h2 h3 hm hc.1.1 (fun _=>hc.1.2) (by simp;omega)
     simp only [aet] at hb;exact ⟨_,sW hu hs hb,sub _ _ 0 m m amH hc.1.1 hc.1.2 hc.2 (If _) (by omega) (fun _=>rfl)⟩
   cases h
 |_=>cases h
end
end Go.Vm
/- Two aggregates of plain cells are compared cell by cell. -/
namespace Go.Vm
theorem xw: ∀(a b c d:List PV),amE a=amE b->dB (a++c) (b++d)=match dB a b with|some amH=>dB c d|x=>x
 | [],[],c,d,_=>by simp [dB]
 |x::xs,y::ys,c,d,h=>by
  simp only [List.cons_append,dB];cases qB x y with
  |none=>rfl
  |some r=>
   cases r with
   |false=>rfl
   |true=>exact xw xs ys c d (by simpa using h)
 | [],_::_,_,_,h=>by simp at h
 |_::_,[],_,_,h=>by simp at h
section
variable {P : Program} {im : Im} {loc : Loc} {w : World}
def whole (P:Program) (t:TypeId) (us:List Value):Value:=if gS P t then .agg ⟨us⟩ else us.getD 0 Go.undef
def iQ (P:Program) (d:Nat) (r:Option Nat) (f:Field):Option Nat:=
 match r with
 |some n=>if f.offset==n&&f.name != "_" then (match flat P d f.type with
  |some m=>if oF P f.type m then amF (n+m) else amG
  |none=>amG) else amG
 |none=>amG
theorem pk {d:Nat}: ∀(fs:List Field),fs.foldl (iQ P d) amG=amG
 | []=>rfl
 |f::fs=>by rw [afb];exact pk fs
theorem IC {d:Nat} {t:TypeId} {n:Nat} (h:flat P d t=amF n) (hr:gS P t=amI):n=1:=by
 cases d with
 |zero=>cases h
 |succ d=>
  simp only [flat] at h;split at h
  · split at h
    · injection h with h;exact h.symm
    cases h
  · rename_i fs hu
    unfold gS at hr;rw [hu] at hr;cases hr
  cases h
theorem zR {d:Nat} {t:TypeId} {m k:Nat} {us:List Value} (h:flat P d t=amF m) (hs:oF P t m=amH) (hk:k+m<=amE us) (Pm:(P.underlying t).isSome=amH):
 (Go.part t ⟨us⟩ k).run P w= .ok (whole P t ((us.drop k).take m)) w:=by
 unfold whole;cases hr:gS P t with
 |true=>
  simp only [Go.part,Do,BX hr,ww,if_true,kA hs,EQ]
  congr 2
  apply aew;simp [afv]
 |false=>
  have h1:=IC h hr;subst h1;simp only [Go.part,Do,BY Pm hr,ww,ae0,if_false];have dI:k<(amE us):=by omega
  have:(⟨us⟩:Array Value)[k]? =amF us[k]:=by simp [dI]
  rw [this];simp [amA,dI]
theorem Hj {d:Nat} {t:TypeId} {n:Nat} (h:flat P d t=amF n):(P.underlying t).isSome=amH:=by
 cases d with
 |zero=>cases h
 |succ d=>
  simp only [flat] at h;cases hu:P.underlying t with
  |none=>rw [hu] at h;cases h
  |some _=>rfl
theorem Ep {d:Nat}: ∀{fs:List Field} {k n:Nat},fs.foldl (iQ P d) (amF k)=amF n->k<=n
 | [],k,n,h=>by simp at h;omega
 |f::fs,k,n,h=>by
  rw [afb] at h;cases hs:iQ P d (amF k) f with
  |none=>rw [hs,pk] at h;cases h
  |some k'=>
   rw [hs] at h
   have:=Ep h
   unfold iQ at hs;dsimp only at hs;split at hs
   · split at hs
     · split at hs
       · injection hs with hs;omega
       cases hs
     cases hs
   cases hs
theorem ID: ∀(d:Nat) (t:TypeId) (n:Nat),flat P d t=amF n-> ∀(D:Nat),d<=D-> ∀(xs ys:List PV) (us vs:List Value) (b:Bool),eX im loc xs us->eX im loc ys vs->amE xs=n->amE ys=n->
 dB xs ys=amF b->(Op.equalIn D t (whole P t us) (whole P t vs)).run P w= .ok b w
 |0,t,n,h,_,_,_,_,_,_,_,_,_,_,_,_=>by cases h
 |d+1,t,n,h,0,hD,_,_,_,_,_,_,_,_,_,_=>by omega
 |d+1,t,n,h,D+1,hD,xs,ys,us,vs,b,hx,hy,hxn,hyn,he=>by
  have Wy:gS P t=amI->n=1-> ∃x y u v,xs=[x]/\ys=[y]/\us=[u]/\vs=[v]/\VR im loc x u/\VR im loc y v/\qB x y=amF b:=by
   intro hr h1;subst h1
   match xs,us,ys,vs,hx,hy,hxn,hyn,he with
   | [x],[u],[y],[v],.cons _ _ _ _ h1 _,.cons _ _ _ _ h2 _,_,_,he=>
    refine ⟨x,y,u,v,rfl,rfl,rfl,rfl,h1,h2,?_⟩;simp only [dB] at he;cases hc:qB x y with
    |none=>rw [hc] at he;cases he
    |some r=>rw [hc] at he;cases r<;>simpa using he
  simp only [flat] at h;split at h
  · rename_i k hu
    have hr:gS P t=amI:=by unfold gS;rw [hu]
    split at h
    · injection h with h
      obtain ⟨x,y,u,v,rfl,rfl,rfl,rfl,h1,h2,h3⟩:=Wy hr h.symm;simp only [whole,hr,ae0,if_false,amA,afY,aet];unfold qB at h3;split at h3
      · split at h3
        · rename_i hk
          have:=fg.1 hk;subst this
          injection h3 with h3;subst h3;rw [h1.gr,h2.gr];exact run_equalIn_int w D t _ _ _ _ hu
        cases h3
      cases h3
    cases h
  · rename_i fs hu
    have hr:gS P t=amH:=by unfold gS;rw [hu]
    split at h
    · cases h
    rename_i ck
    have hf:P.fieldsOf t=fs:=by simp [Program.fieldsOf,hu]
    have ck:P.stoodInHeld t=amI:=by simpa using ck
    have hxl:=hx.mK;have hyl:=hy.mK;simp only [whole,hr,if_true];rw [run_equalIn_agg w D t _ _ (by rw [hf];exact hu) ck,hf]
    change (match fs.toList.foldl (iQ P d) (amF 0) with|some n=>if oF P t n then amF n else amG|none=>amG)=amF n at h
    cases hfo:fs.toList.foldl (iQ P d) (amF 0) with
    |none=>rw [hfo] at h;cases h
    |some n'=>
     rw [hfo] at h;dsimp only at h;split at h
     · injection h with h
       subst h;have key: ∀(l:List Field) (k:Nat),l.foldl (iQ P d) (amF k)=amF n'-> ∀(b':Bool),dB (xs.drop k) (ys.drop k)=amF b'->
        (Op.eqFields D ⟨us⟩ ⟨vs⟩ l).run P w= .ok b' w:=by
        intro l
        induction l with
        |nil=>
         intro k hk b' Az;simp only [List.foldl_nil,v6] at hk;subst hk;rw [afm (by omega),afm (by omega)] at Az
         simp only [dB,v6] at Az;subst Az;simp [Op.eqFields]
        |cons f l ih=>
         intro k hk b' Az;rw [afb] at hk;cases hs:iQ P d (amF k) f with
         |none=>rw [hs,pk] at hk;cases hk
         |some k'=>
          rw [hs] at hk;have Wh:=Ep hk;unfold iQ at hs;dsimp only at hs;split at hs
          · rename_i hc
            simp only [ut,beq_iff_eq,bne_iff_ne,ne_eq] at hc;split at hs
            · rename_i m hm
              split at hs
              · rename_i qz
                injection hs with hs;subst hs;have Pm:=Hj hm;have e1:xs.drop k=(xs.drop k).take m++xs.drop (k+m):=by rw [<- amv,alt]
                have e2:ys.drop k=(ys.drop k).take m++ys.drop (k+m):=by rw [<- amv,alt]
                rw [e1,e2,xw _ _ _ _ (by simp;omega)] at Az
                have dS:f.name≠ "_" :=hc.2;simp only [Op.eqFields,Do,dS,ne_eq,not_false_eq_true,if_true,hc.1];rw [zR (w:=w) hm qz (by omega) Pm]
                simp only [ww];rw [zR (w:=w) hm qz (by omega) Pm]
                simp only [ww];cases hq:dB ((xs.drop k).take m) ((ys.drop k).take m) with
                |none=>rw [hq] at Az;cases Az
                |some r=>
                 have Er:=ID d f.type m hm D (by omega) _ _ _ _ r ((hx.drop k).take m) ((hy.drop k).take m) (by simp;omega) (by simp;omega) hq
                 rw [Er];simp only [ww];rw [hq] at Az;cases r with
                 |false=>
                  simp only [v6] at Az;subst Az;simp
                 |true=>
                  dsimp only at Az
                  have:=ih (k+m) hk b' Az
                  simpa using this
              cases hs
            cases hs
          cases hs
       exact key fs.toList 0 hfo b (by simpa using he)
     cases h
  cases h
end
end Go.Vm
/- Maps; copy and clear. -/
namespace Go.Vm
theorem VR.xx {im:Im} {loc:Loc} {x:PV} {v:Value} (h:valOf x=amF v):VR im loc x v:=by
 cases x with
 |agg cs=>
  simp only [valOf,AC] at h;obtain ⟨vs,IE,rfl⟩:=h;refine .agg cs vs ?_
  induction cs generalizing vs with
  |nil=>simp at IE;subst IE;exact .nil
  |cons c cs ih=>
   rw [amw] at IE;simp only [Option.bind_eq_bind,Option.bind_eq_some_iff,Option.pure_def,v6] at IE;obtain ⟨v,hv,us,xf,rfl⟩:=IE;exact .cons _ _ _ _ (.Eh hv) (ih us xf)
 |_=>exact .Eh h
theorem Kz {im:Im} {loc:Loc} {x:PV} {v:Value} (h:VR im loc x v) (hp: ∀c∈x.cells,c.plain=amH):valOf x=amF v:=by
 cases x with
 |agg cs=>
  obtain ⟨vs,rfl,hr⟩:=h.pj;simp only [valOf,AC];refine ⟨vs,?_,rfl⟩;simp only [PV.cells] at hp;clear h
  induction cs generalizing vs with
  |nil=>cases hr;rfl
  |cons c cs ih=>
   cases hr with
   |cons _ v _ us h1 h2=>
    rw [amw];simp [h1.plain (hp c (by simp)),ih (fun d hd=>hp d (by simp [hd])) us h2]
 |_=>exact h.plain (hp _ (by simp [PV.cells]))
section
variable {P : Program} {im : Im} {loc : Loc} {aE : cK} {fz : List Nat} {w : World}
theorem vt: ∀{xs ys:List PV} {us vs:List Value},dB xs ys=amF amH->eX im loc xs us->eX im loc ys vs->us=vs/\ ∀u∈us,∃k n,u= .int k n
 | [],[],_,_,_,.nil,.nil=>⟨rfl,by simp⟩
 |x::xs,y::ys,_,_,h,.cons _ u _ us h1 h2,.cons _ v _ vs h3 h4=>by
  simp only [dB] at h;split at h
  · rename_i Wz
    obtain ⟨rfl,qY⟩:=vt h h2 h4;unfold qB at Wz;split at Wz
    · rename_i k a l b
      split at Wz
      · rename_i SL
        have:=fg.1 SL;subst this
        have Rb:a=b:=by simpa using Wz
        subst Rb;rw [h1.gr,h3.gr];exact ⟨rfl,by
         intro u hu;rcases afa.1 hu with rfl|hu
         · exact ⟨_,_,rfl⟩
         exact qY u hu⟩
      cases Wz
    cases Wz
  · cases h
  cases h
 | [],_::_,_,_,h,_,_=>by simp [dB] at h
 |_::_,[],_,_,h,_,_=>by simp [dB] at h
theorem ze: ∀(us:List Value) (n:Nat),(∀u∈us,∃k m,u= .int k m)->(us.zip us).all (fun (x,y)=>Instr.sameBits n x y)=amH
 | [],_,_=>rfl
 |u::us,n,h=>by
  obtain ⟨k,m,rfl⟩:=h u (by simp)
  simp only [List.zip_cons_cons,List.all_cons,ut];exact ⟨by cases n<;>simp [Instr.sameBits],ze us n fun u hu=>h u (by simp [hu])⟩
theorem jV {n:Option Nat} {x:PV} {u:Value} (h:jz n x=amH) (hv:VR im loc x u):(n=amG/\ ∃k m,x= .int k m/\u= .int k m)\/(∃m cs us,n=amF m/\x= .agg cs/\amE cs=m/\u= .agg ⟨us⟩/\eX im loc cs us):=by
 unfold jz at h;split at h
 · exact .inl ⟨rfl,_,_,rfl,hv.gr⟩
 · rename_i m cs
   obtain ⟨us,rfl,hr⟩:=hv.pj;exact .inr ⟨m,cs,us,rfl,rfl,by simpa using h,rfl,hr⟩
 cases h
theorem S6 {n:Option Nat} {x y:PV} {u v:Value} (hx:jz n x=amH) (hy:jz n y=amH) (h:dB x.cells y.cells=amF amH) (hu:VR im loc x u) (hv:VR im loc y v):
 u=v/\Instr.sameBits 10000 u u=amH:=by
 rcases jV hx hu with ⟨rfl,k,m,rfl,rfl⟩|⟨m,cs,us,rfl,rfl,_,rfl,hr⟩
 · rcases jV hy hv with ⟨_,l,m',rfl,rfl⟩|⟨_,_,_,h',_⟩
   · obtain ⟨h1,_⟩:=vt (im:=im) (loc:=loc) h (.cons _ _ _ _ (.int k m) .nil) (.cons _ _ _ _ (.int l m') .nil)
     injection h1 with h1;exact ⟨h1,by simp [Instr.sameBits]⟩
   cases h'
 rcases jV hy hv with ⟨h',_⟩|⟨_,ds,vs,_,rfl,_,rfl,hs⟩
 · cases h'
 obtain ⟨rfl,h2⟩:=vt h hr hs
 refine ⟨rfl,?_⟩;simp only [Instr.sameBits,beq_self_eq_true,amx];exact ze us 9999 h2
theorem fC.get: ∀{es:List (PV×PV)} {kT:List MapEntry},fC es kT-> ∀{i:Nat} {p:PV×PV},es[i]? =amF p-> ∃e,kT[i]? =amF e/\valOf p.1=amF e.key/\valOf p.2=amF e.val
 |(k,v)::r,e::r',h,0,p,hp=>by
  simp at hp;subst hp;exact ⟨e,rfl,h.1,h.2.1⟩
 |(k,v)::r,e::r',h,i+1,p,hp=>by
  obtain ⟨e',h1,h2⟩:=fC.get h.2.2 (i:=i) (p:=p) (by simpa using hp)
  exact ⟨e',by simpa using h1,h2⟩
 | [],[],h,i,p,hp=>by simp at hp
 | [],_::_,h,_,_,_=>by simp [fC] at h
 |_::_,[],h,_,_,_=>by simp [fC] at h
theorem KA {q:IntKind} {k:PV} {u:Value} (hu:VR im loc k u) (hk:jz amG k=amH): ∀{es:List (PV×PV)} {kT:List MapEntry} {i:Nat} {r:Option Nat},fC es kT->ft amG k es i=amF r->
 ∃r',Instr.findNow (.int q) u kT i=amF r'/\match r with|none=>r'=amG|some j=>i<=j/\ ∃p e,es[j-i]? =amF p/\kT[j-i]? =amF e/\r'=amF (j,e.val)/\jz amG p.1=amH/\dB k.cells p.1.cells=amF amH
 | [],[],i,r,_,h=>by
  simp only [ft,v6] at h;subst h;exact ⟨amG,rfl,rfl⟩
 |(a,v)::es,e::kT,i,r,hm,h=>by
  simp only [ft] at h;split at h
  case isFalse=>cases h
  rename_i hka;obtain ⟨h1,h2,h3⟩:=hm;obtain ⟨_,kk,kn,rfl,rfl⟩:_/\ ∃kk kn,k= .int kk kn/\u= .int kk kn:=by
   rcases jV hk hu with ⟨_,kk,kn,e1,e2⟩|⟨_,_,_,e1,_⟩
   · exact ⟨trivial,kk,kn,e1,e2⟩
   cases e1
  obtain ⟨ak,an,rfl,hae⟩: ∃ak an,a= .int ak an/\e.key= .int ak an:=by
   rcases jV (im:=im) (loc:=loc) hka (VR.xx h1) with ⟨_,kk,kn,e1,e2⟩|⟨_,_,_,e1,_⟩
   · exact ⟨kk,kn,e1,e2⟩
   cases e1
  simp only [PV.cells,dB,qB] at h;cases uC:fu kk ak with
  |false=>rw [uC] at h;simp at h
  |true=>
   have:=fg.1 uC;subst this
   rw [uC] at h;simp only [if_true] at h;simp only [Instr.findNow,hae,Instr.sameNow,if_true];cases hb:(kn==an) with
   |true=>
    rw [hb] at h;simp only [v6] at h;subst h;refine ⟨_,rfl,If _,(.int kk an,v),e,by simp,by simp,rfl,hka,?_⟩
    simp [PV.cells,dB,qB,uC,hb]
   |false=>
    rw [hb] at h;simp only at h;obtain ⟨r',g1,g2⟩:=KA (q:=q) (k:= .int kk kn) (.int kk kn) hk h3 h;refine ⟨r',g1,?_⟩;cases r with
    |none=>exact g2
    |some j=>
     obtain ⟨q1,p,e',q2,q3,q4,q5,q6⟩:=g2;refine ⟨by omega,p,e',?_,?_,q4,q5,q6⟩
     · rw [show j-i=(j- (i+1))+1 by omega];simpa using q2
     rw [show j-i=(j- (i+1))+1 by omega];simpa using q3
 | [],_::_,i,r,hm,h=>by simp [fC] at hm
 |_::_,[],i,r,hm,h=>by simp [fC] at hm
theorem KB {n:Nat} {kt:TypeId} (uB:gS P kt=amH) (S2:flat P 100 kt=amF n) {k:PV} {u:Value} (hu:VR im loc k u) (hk:jz (amF n) k=amH): ∀{es:List (PV×PV)} {kT:List MapEntry} {i:Nat} {r:Option Nat},fC es kT->ft (amF n) k es i=amF r->
 ∃r',(Instr.findAsking kt u kT i).run P w= .ok r' w/\match r with|none=>r'=amG|some j=>i<=j/\ ∃p e,es[j-i]? =amF p/\kT[j-i]? =amF e/\r'=amF (j,e.val)/\jz (amF n) p.1=amH/\dB k.cells p.1.cells=amF amH
 | [],[],i,r,_,h=>by
  simp only [ft,v6] at h;subst h;exact ⟨amG,rfl,rfl⟩
 |(a,v)::es,e::kT,i,r,hm,h=>by
  simp only [ft] at h;split at h
  case isFalse=>cases h
  rename_i hka;obtain ⟨h1,h2,h3⟩:=hm;have hva:VR im loc a e.key:=VR.xx h1;have heq: ∀b,dB k.cells a.cells=amF b->(Op.equal kt u e.key).run P w= .ok b w:=by
   intro b hb;rcases jV hk hu with ⟨h',_⟩|⟨m,cs,us,h',rfl,hl,rfl,hr⟩
   · cases h'
   injection h' with h';subst h'
   rcases jV hka hva with ⟨h',_⟩|⟨m,ds,vs,h',rfl,me,he,hs⟩
   · cases h'
   injection h' with h';subst h'
   rw [he]
   have:=ID (P:=P) (w:=w) 100 kt n S2 Op.maxDepth (by decide) cs ds us vs b hr hs hl me hb
   simp only [whole,uB,if_true] at this;exact this
  cases hb:dB k.cells a.cells with
  |none=>rw [hb] at h;cases h
  |some b=>
   rw [hb] at h;have cq:=heq b hb;cases b with
   |true=>
    simp only [v6] at h;subst h;refine ⟨amF (i,e.val),by simp [Instr.findAsking,cq],If _,(a,v),e,by simp,by simp,rfl,hka,hb⟩
   |false=>
    simp only at h;obtain ⟨r',g1,g2⟩:=KB uB S2 hu hk h3 h;refine ⟨r',by simp [Instr.findAsking,cq,g1],?_⟩
    cases r with
    |none=>exact g2
    |some j=>
     obtain ⟨q1,p,e',q2,q3,q4,q5,q6⟩:=g2;refine ⟨by omega,p,e',?_,?_,q4,q5,q6⟩
     · rw [show j-i=(j- (i+1))+1 by omega];simpa using q2
     rw [show j-i=(j- (i+1))+1 by omega];simpa using q3
 | [],_::_,i,r,hm,h=>by simp [fC] at hm
 |_::_,[],i,r,hm,h=>by simp [fC] at hm
theorem Es: ∀(d:Nat) (t:TypeId) (n:Nat),flat P d t=amF n-> ∀(D:Nat),d<=D-> ∀(em:Bool) (xs:List PV) (us:List Value),eX im loc xs us->amE us=n->
 (Instr.checkKey em D t (whole P t us)).run P w= .ok () w
 |0,t,n,h,_,_,_,_,_,_,_=>by cases h
 |d+1,t,n,h,0,hD,_,_,_,_,_=>by omega
 |d+1,t,n,h,D+1,hD,em,xs,us,hx,hun=>by
  simp only [flat] at h;split at h
  · rename_i k hu
    have hr:gS P t=amI:=by unfold gS;rw [hu]
    split at h
    · injection h with h;subst h
      match us,xs,hx,hun with
      | [u],[x],.cons _ _ _ _ h1 _,_=>
       simp only [whole,hr,ae0,if_false,amA,afY,aet,Instr.checkKey,Do,run_underlying hu,ww];cases u<;>simp
    cases h
  · rename_i fs hu
    have hr:gS P t=amH:=by unfold gS;rw [hu]
    split at h
    · cases h
    change (match fs.toList.foldl (iQ P d) (amF 0) with|some n=>if oF P t n then amF n else amG|none=>amG)=amF n at h
    cases hfo:fs.toList.foldl (iQ P d) (amF 0) with
    |none=>rw [hfo] at h;cases h
    |some n'=>
     rw [hfo] at h;dsimp only at h;split at h
     · injection h with h;subst h
       simp only [whole,hr,if_true,Instr.checkKey,Do,run_underlying hu,ww];rw [<- Array.forIn_toList];have hk: ∃k,fs.toList.foldl (iQ P d) (amF k)=amF n':=⟨0,hfo⟩;clear hfo;obtain ⟨k,hk⟩:=hk;generalize fs.toList=L at hk
       induction L generalizing k with
       |nil=>simp
       |cons f l ih=>
        rw [afb] at hk;cases hs:iQ P d (amF k) f with
        |none=>rw [hs,pk] at hk;cases hk
        |some k'=>
         rw [hs] at hk;have Wh:=Ep hk;unfold iQ at hs;dsimp only at hs;split at hs
         · rename_i hc
           simp only [ut,beq_iff_eq,bne_iff_ne,ne_eq] at hc;split at hs
           · rename_i m hm
             split at hs
             · rename_i qz
               injection hs with hs;subst hs;have p1:=zR (w:=w) (us:=us) hm qz (k:=k) (by omega) (Hj hm)
               have p2:=Es d f.type m hm D (by omega) em ((xs.drop k).take m) ((us.drop k).take m) ((hx.drop k).take m) (by simp;omega)
               simp only [List.forIn_cons,Do,hc.2,ne_eq,not_false_eq_true,if_true,hc.1,p1,p2,ww,EQ];exact ih _ hk
             cases hs
           cases hs
         cases hs
     cases h
  cases h
theorem Rc {kt:TypeId} {q:IntKind} (hq:P.underlying kt=amF (.int q)) (em:Bool) (n:Nat) (k:IntKind) (m:Int):(Instr.checkKey em (n+1) kt (.int k m)).run P w= .ok () w:=by
 simp [Instr.checkKey,run_underlying hq]
theorem vu {r:Nat} {es:Array MapEntry} {clock:Nat} (hb:w.heap[r]? =amF (.map es clock)):(getObj r).run P w= .ok (.map es clock) w:=by
 simp [getObj,Sem.run,hb]
theorem Et {r:Nat} {es:Array MapEntry} {clock:Nat} (o:Obj) (hb:w.heap[r]? =amF (.map es clock)):(setObj r o).run P w= .ok () {w with heap:=w.heap.setIfInBounds r o}:=by
 simp [setObj,Sem.run,hb]
theorem KC {kt:TypeId} {d:TypeDesc} {k:Value} {l:List MapEntry} {a:Option (Nat×Value)} (hd:P.underlying kt=amF d) (h:Instr.findNow d k l 0=amF a):(Instr.findKey kt k l).run P w= .ok a w:=by
 simp [Instr.findKey,run_underlying hd,h]
theorem C2 {kt:TypeId} {n:Option Nat} (h:xl P kt n=amH) {k:PV} {u:Value} (hu:VR im loc k u) (hk:jz n k=amH) (em:Bool):(Instr.checkKey em 10000 kt u).run P w= .ok () w:=by
 rcases jV hk hu with ⟨rfl,kk,m,rfl,rfl⟩|⟨m,cs,us,rfl,rfl,hl,rfl,hr⟩
 · simp only [xl] at h
   split at h
   · rename_i q hq
     exact Rc hq em 9999 kk m
   cases h
 simp only [xl,ut,beq_iff_eq] at h
 have:=Es (P:=P) (w:=w) 100 kt m h.2 10000 (by decide) em cs us hr (by rw [<- hr.mK];exact hl)
 simp only [whole,h.1,if_true] at this;exact this
theorem Eu {kt:TypeId} {n:Option Nat} (h:xl P kt n=amH) {k:PV} {u:Value} (hu:VR im loc k u) (hk:jz n k=amH) {es:List (PV×PV)} {kT:List MapEntry} {r:Option Nat} (hm:fC es kT) (hf:ft n k es 0=amF r):
 ∃r',(Instr.findKey kt u kT).run P w= .ok r' w/\match r with|none=>r'=amG|some j=> ∃p e,es[j]? =amF p/\kT[j]? =amF e/\r'=amF (j,e.val)/\jz n p.1=amH/\dB k.cells p.1.cells=amF amH:=by
 cases n with
 |none=>
  simp only [xl] at h;split at h
  · rename_i q hq
    obtain ⟨r',h1,h2⟩:=KA (q:=q) hu hk hm hf;refine ⟨r',KC hq h1,?_⟩;cases r with
    |none=>exact h2
    |some j=>exact h2.2
  cases h
 |some m=>
  simp only [xl,ut,beq_iff_eq] at h;obtain ⟨r',h1,h2⟩:=KB (P:=P) (w:=w) h.1 h.2 hu hk hm hf;refine ⟨r',?_,?_⟩
  · rw [run_findKey_eq w ?_ u kT]
    · exact h1
    have:=h.1
    unfold gS at this
    revert this
    cases P.underlying kt with
    |none=>exact id
    |some d=>cases d<;>exact id
  cases r with
  |none=>exact h2
  |some j=>exact h2.2
theorem VR.S7 {t:Nat} {v:Value} (h:VR im loc (.mp t) v): ∃li,loc t=amF li/\v= .map (amF li.df):=by
 cases h with|mp _ li h=>exact ⟨li,h,rfl⟩
theorem Ns {t kt et:TypeId} {n:Option Nat} {zero m k:PV} {ok:Bool} {um uk:Value} {r:nI} (ht:P.underlying t=amF (.map kt et)) (hkt:xl P kt n=amH)
 (hz: ∃i z,P.info? et=amF i/\i.zero=amF z/\VR im loc zero z) (hm:VR im loc m um) (hk:VR im loc k uk)
 (h:sP aE n zero ok m k=amF r) (hkn:jl im loc aE w r):
 ∃v,(Instr.lookup t um uk ok).run P w= .ok v w/\VR im loc r.v v/\r.news=[]/\r.wr=[]:=by
 unfold sP at h;cases m with
 |mp tk=>
  dsimp only at h;obtain ⟨li,hl,rfl⟩:=hm.S7;cases hs:aE[tk]? with
  |none=>rw [hs] at h;cases h
  |some b=>
   rw [hs] at h;cases b with
   |map es=>
    dsimp only at h;split at h
    case isFalse=>cases h
    rename_i Re;cases hf:ft n k es 0 with
    |none=>rw [hf] at h;cases h
    |some q=>
     rw [hf] at h;have GP:tk∈r.rd:=by
      revert h
      cases q with
      |none=>intro h;simp only [v6] at h;subst h;simp
      |some j=>
       dsimp only;cases es[j]? with
       |none=>intro h;cases h
       |some p=>intro h;simp only [v6] at h;subst h;simp
     obtain ⟨b',KD,rR⟩:=hkn.tok tk (.inl GP) li hl;rw [hs] at KD;injection KD with KD;subst KD;obtain ⟨kT,clock,hw,uG⟩:=rR;obtain ⟨r',rQ,GU⟩:=Eu (P:=P) (w:=w) hkt hk Re uG hf;have Wg:=C2 (P:=P) (w:=w) hkt hk Re (kT.isEmpty);obtain ⟨i,z,hi,hiz,hvz⟩:=hz;have Ph:(zeroValue et).run P w= .ok z w:=by simp [zeroValue,typeInfo,hi,hiz]
     cases q with
     |none=>
      dsimp only at h GU;subst GU;injection h with h;subst h;refine ⟨if ok then .tuple #[z,.bool amI] else z,?_,?_,rfl,rfl⟩
      · simp only [Instr.lookup,Do,run_underlying ht,ww,vu hw,EQ,Wg,rQ,Ph]
      cases ok with
      |true=>exact .cu _ _ (.cons _ _ _ _ hvz (.cons _ _ _ _ (.bool amI) .nil))
      |false=>exact hvz
     |some j=>
      dsimp only at h GU;obtain ⟨p,e,h1,h2,rfl,h4,h5⟩:=GU;rw [h1] at h;simp only [v6] at h;subst h;obtain ⟨e',BN,Na,hv2⟩:=fC.get uG h1;rw [h2] at BN;injection BN with BN;subst BN;refine ⟨if ok then .tuple #[e.val,.bool amH] else e.val,?_,?_,rfl,rfl⟩
      · simp only [Instr.lookup,Do,run_underlying ht,ww,vu hw,EQ,Wg,rQ]
      cases ok with
      |true=>exact .cu _ _ (.cons _ _ _ _ (.xx hv2) (.cons _ _ _ _ (.bool amH) .nil))
      |false=>exact .xx hv2
   |_=>cases h
 |_=>cases h
theorem fC.snoc: ∀{es:List (PV×PV)} {kT:List MapEntry} {p:PV×PV} {e:MapEntry},fC es kT->valOf p.1=amF e.key->valOf p.2=amF e.val->fC (es++[p]) (kT++[e])
 | [],[],p,e,_,h1,h2=>⟨h1,h2,trivial⟩
 |(k,v)::r,e::r',p,e',h,h1,h2=>⟨h.1,h.2.1,fC.snoc h.2.2 h1 h2⟩
 | [],_::_,_,_,h,_,_=>by simp [fC] at h
 |_::_,[],_,_,h,_,_=>by simp [fC] at h
theorem fC.set: ∀{es:List (PV×PV)} {kT:List MapEntry} {i:Nat} {p:PV×PV} {f:MapEntry->MapEntry},fC es kT->(∀e,valOf p.1=amF (f e).key/\valOf p.2=amF (f e).val)->fC (es.set i p) (kT.modify i f)
 | [],[],i,p,f,h,_=>by simp [fC]
 |(k,v)::r,e::r',0,p,f,h,h1=>⟨(h1 e).1,(h1 e).2,h.2.2⟩
 |(k,v)::r,e::r',i+1,p,f,h,h1=>by
  simp only [List.set_cons_succ,List.modify_succ_cons];exact ⟨h.1,h.2.1,fC.set h.2.2 h1⟩
 | [],_::_,_,_,_,h,_=>by simp [fC] at h
 |_::_,[],_,_,_,h,_=>by simp [fC] at h
theorem KE {t kt et:TypeId} {n:Option Nat} {m k x:PV} {um uk ux:Value} {r:nI} (ht:P.underlying t=amF (.map kt et)) (hkt:xl P kt n=amH)
 (hm:VR im loc m um) (hk:VR im loc k uk) (hx:VR im loc x ux)
 (h:CW aE fz n m k x=amF r) (hkn:jl im loc aE w r):
 ∃w',(Instr.mapUpdate t um uk ux).run P w= .ok () w'/\sR im loc aE w r im loc w'/\r.v= .undef:=by
 unfold CW at h;cases m with
 |mp tk=>
  dsimp only at h;obtain ⟨li,hl,rfl⟩:=hm.S7;cases hs:aE[tk]? with
  |none=>rw [hs] at h;cases h
  |some b=>
   rw [hs] at h;cases b with
   |map es=>
    dsimp only at h;split at h
    case isFalse=>cases h
    rename_i Re;simp only [ut,aeu] at Re;obtain ⟨Re,hnf⟩:=Re;cases hkp:k.cL with
    |none=>rw [hkp] at h;cases h
    |some kc=>
     cases hxp:x.cL with
     |none=>rw [hkp,hxp] at h;cases h
     |some xc=>
      rw [hkp,hxp] at h;dsimp only at h;obtain ⟨_,arI⟩:=mB hkp;obtain ⟨_,arJ⟩:=mB hxp;have vk:=Kz hk arI;have vx:=Kz hx arJ;cases hf:ft n k es 0 with
      |none=>rw [hf] at h;cases h
      |some q=>
       rw [hf] at h;have hwr: ∃bb,r={v:= .undef,wr:=[(tk,bb)]}:=by
        revert h
        cases q with
        |none=>intro h;simp only [v6] at h;exact ⟨_,h.symm⟩
        |some j=>intro h;simp only [v6] at h;exact ⟨_,h.symm⟩
       obtain ⟨bb,hr⟩:=hwr;obtain ⟨b',KD,rR⟩:=hkn.tok tk (.inr ⟨bb,by rw [hr];simp⟩) li hl
       rw [hs] at KD;injection KD with KD;subst KD;obtain ⟨kT,clock,hw,uG⟩:=rR;obtain ⟨r',rQ,GU⟩:=Eu (P:=P) (w:=w) hkt hk Re uG hf;have Wg:=C2 (P:=P) (w:=w) hkt hk Re amI;have dI:=(IR.1 hw).1;cases q with
       |none=>
        dsimp only at h GU;subst GU;injection h with h;refine ⟨{w with heap:=w.heap.setIfInBounds li.df (.map (kT.push {key:=uk,val:=ux,born:=clock}) (clock+1))},?_,sR.write hkn (t:=tk) (k0:= .map es) (o:= .map (kT.push {key:=uk,val:=ux,born:=clock}) (clock+1)) (li:=li) (by rw [<- h]) (by rw [<- h]) hl hs rfl rfl rfl rfl rfl ?_,by rw [<- h]⟩
        · simp only [Instr.mapUpdate,Do,run_underlying ht,ww,vu hw,Wg,rQ]
          exact Et _ hw
        refine ⟨kT.push {key:=uk,val:=ux,born:=clock},clock+1,by simp [dI],?_⟩
        rw [Array.toList_push];exact uG.snoc vk vx
       |some j=>
        dsimp only at h GU;obtain ⟨p,e,h1,h2,rfl,h4,h5⟩:=GU;injection h with h;obtain ⟨e',BN,Na,hv2⟩:=fC.get uG h1;rw [h2] at BN;injection BN with BN;subst BN;obtain ⟨S8,am9⟩:=S6 (im:=im) (loc:=loc) Re h4 h5 hk (.xx Na);have am':((kT[j]?).map (·.key)).getD uk=uk:=by
         have:kT[j]? =amF e:=by simpa using h2
         rw [this];exact S8.symm
        refine ⟨{w with heap:=w.heap.setIfInBounds li.df (.map (kT.modify j fun e=>{e with key:=uk,val:=ux}) clock)},?_,sR.write hkn (t:=tk) (k0:= .map es) (o:= .map (kT.modify j fun e=>{e with key:=uk,val:=ux}) clock) (li:=li) (by rw [<- h]) (by rw [<- h]) hl hs rfl rfl rfl rfl rfl ?_,by rw [<- h]⟩
        · simp only [Instr.mapUpdate,Do,run_underlying ht,ww,vu hw,Wg,rQ,am',Instr.keyThatStays,am9,if_true,EQ]
          exact Et _ hw
        refine ⟨kT.modify j fun e=>{e with key:=uk,val:=ux},clock,by simp [dI],?_⟩
        rw [Array.toList_modify];exact uG.set fun e=>⟨vk,vx⟩
   |_=>cases h
 |_=>cases h
theorem Nt {esz:Nat} {y:PV} {u:Value} {new:List Row} (hy:VR im loc y u) (hr:rowsOf aE esz y=amF new) (n:Nat) (hn:n<=amE new)
 (bH: ∀b o,im b=amF o->w.heap[b]? =amF o) (tok: ∀t,t∈iO y-> ∀li,loc t=amF li-> ∃k,aE[t]? =amF k/\BR im loc w li k):
 (Builtin.lenOf u).run P w= .ok (amE new) w/\(Builtin.firstCells esz n u).run P w= .ok ((new.take n).flatMap aV).toArray w/\(∀r∈new,amE r=esz)/\(∀r∈new,∀c∈r,c.plain=amH):=by
 have S9: ∀(a:Option Addr) (l c:Nat),(Builtin.firstCells esz 0 (.slice a l c)).run P w= .ok #[] w:=by
  intro a l c;cases a with
  |none=>simp [Builtin.firstCells]
  |some a=>
   have:=run_loadCells_list (P:=P) w a [] (by simp)
   simpa [Builtin.firstCells] using this
 have get: ∀(rows:List Row) (b o l c:Nat) (g:Nat->Option Value),bO g o esz rows->(∀k v,g k=amF v->w.cell? ⟨b,k,amG⟩=amF v)->n<=amE rows->
  (Builtin.firstCells esz n (.slice (amF ⟨b,o,amG⟩) l c)).run P w= .ok ((rows.take n).flatMap aV).toArray w:=by
  intro rows b o l c g db hg GR;have h1:=db.take n;have S2:=dF h1.nP
  have:=run_loadCells_list (P:=P) w ⟨b,o,amG⟩ ((rows.take n).flatMap aV) (fun j v hj=>by rw [qD];exact hg _ _ (h1.flat j v hj))
  simp only [Builtin.firstCells];rw [show n*esz=((rows.take n).flatMap aV).length by rw [S2,agd,amr GR]]
  exact this
 unfold rowsOf at hr;cases y with
 |sl e qA rows=>
  obtain ⟨a,cap,rfl,_,_,lf⟩:=hy.nO;cases rows with
  |nil=>
   simp at hr;subst hr
   have:n=0:=by simpa using hn
   subst this;exact ⟨rfl,by simpa using S9 a 0 cap,by simp,by simp⟩
  |cons r rs=>
   dsimp only at hr;split at hr
   · rename_i he
     have he:e=esz:=by simpa using he
     subst he;injection hr with hr;subst hr;obtain ⟨b,o,rfl,db⟩:=lf (by simp)
     exact ⟨rfl,get (r::rs) b o _ cap _ db (fun k v hk=>pX bH hk) hn,db.nP,db.plain⟩
   cases hr
 |own t e off len cap ex=>
  dsimp only at hr;split at hr
  · rename_i he
    have he:e=esz:=by simpa using he
    subst he;obtain ⟨li,a,cY,rfl,hl,h2,h3,h4,h5,h6,h7⟩:=hy.gT;obtain ⟨k,gQ,hb⟩:=tok t (by simp [iO]) li hl
    rw [gQ] at hr;cases k with
    |arr e' rows=>
     simp only [v6] at hr;subst hr;obtain ⟨b1,b2,b3⟩:=hb;have cW:((rows.drop off).take len).length=len:=by simp;omega
     have Ni:e'=e:=by rw [<- b1,h2]
     subst Ni;rw [cW] at hn ⊢;cases rows with
     |nil=>
      have:len=0:=by simp at b2;omega
      subst this
      have:n=0:=by omega
      subst this;exact ⟨rfl,by simpa using S9 a 0 cY,by simp,by simp⟩
     |cons r rs=>
      obtain ⟨arr,el,sU,Iz,J',db⟩:=b3 (by simp)
      have vp:=(db.drop off).take len;refine ⟨rfl,?_,vp.nP,vp.plain⟩;rcases am6 n with h0|h0
      · subst h0;simpa using S9 a len cY
      rcases h7 with h7|⟨h7,rfl,h9⟩
      · omega
      exact get _ li.df (li.sh+off*e') len cY _ vp (fun k v hk=>kI sU hk) (by rw [cW];exact hn)
    |_=>cases hr
  cases hr
 |_=>cases hr
theorem KF {esz:Nat} {t off len cap:Nat} {ex:Bool} {u:Value} {rows new:List Row} {r:nI} {d:List Nat} {v:PV} (hx:VR im loc (.own t esz off len cap ex) u) (hs:aE[t]? =amF (.arr esz rows)) (hn:new≠[]) (hl:(amE new)<=len)
 (Ku: ∀r∈new,amE r=esz) (WA: ∀r∈new,∀c∈r,c.plain=amH) (hr:r={v:=v,wr:=[(t,.arr esz (kV off new rows))],rd:=d}) (hk:jl im loc aE w r):
 ∃b o c w',u= .slice (amF ⟨b,o,amG⟩) len c/\(storeCells ⟨b,o,amG⟩ (new.flatMap aV)).run P w= .ok () w'/\sR im loc aE w r im loc w':=by
 obtain ⟨li,a,cY,rfl,me,he,B0,GN,hex,hxk,AL⟩:=hx.gT;obtain ⟨k,gQ,hb⟩:=hk.tok t (.inr ⟨_,by rw [hr];simp;rfl⟩) li me
 rw [hs] at gQ;injection gQ with gQ;subst gQ;obtain ⟨b1,b2,b3⟩:=hb;have GR:0<(amE new):=List.length_pos_iff.2 hn;have nS:rows≠[]:=by intro e;subst e;simp at b2;omega
 obtain ⟨arr,el,sU,Iz,J',db⟩:=b3 nS;rcases AL with h0|⟨_,rfl,qE⟩
 · omega
 have GS:=dF Ku
 have GO:=UV esz (show off+amE new<=(amE rows) by omega)
 rw [PP] at GO;have El:li.sh+off*esz+(new.flatMap aV).length<=arr.size:=by rw [GS];omega
 have cq:=run_storeCells_at P li.df (li.sh+off*esz) el (new.flatMap aV) 0 arr w sU (by simpa using El) (nQ WA)
 refine ⟨li.df,li.sh+off*esz,cY,_,rfl,cq,?_⟩;refine sR.write hk (t:=t) (k0:= .arr esz rows) (li:=li) (by rw [hr]) (by rw [hr]) me hs (by cases rows with|nil=>exact absurd rfl nS|cons _ _=>rfl) (bT sU) rfl rfl rfl ?_
 rw [xq _ _ _ (by omega)]
 refine ⟨b1,by rw [cZ _ _ _ (by omega)];exact b2,fun _=>⟨(arr.toList.take (li.sh+off*esz+0)++new.flatMap aV++arr.toList.drop (li.sh+off*esz+0+(new.flatMap aV).length)).toArray,el,?_,?_,?_,?_⟩⟩
 · rw [bT sU]
   have dI:=(IR.1 sU).1;simp [dI]
 · rw [<- Iz]
   have:=cZ (li.sh+off*esz) (new.flatMap aV) arr.toList (by simpa using El)
   simp only [mA] at this;simpa using this
 · rw [cZ _ _ _ (by omega)];exact J'
 refine db.mA (by omega) Ku WA (fun k=>?_)
 have:=gU (li.sh+off*esz) (new.flatMap aV) arr.toList (by simpa using El) k
 simp only [mA] at this;simp only [aeB,amB];rw [this,GS];simp
end
end Go.Vm
/- Operation by operation: the theorem. -/
namespace Go.Vm
section
variable {P : Program} {im : Im} {loc : Loc} {aE : cK} {fz : List Nat} {w : World} {e : Env} {ρ : Operand -> Value}
theorem S' {esz:Nat} {x:PV} (h:uv esz x=amH):(∀e c r,x= .sl e c r->r=[]\/e=esz)/\(∀tk e o l c ex,x= .own tk e o l c ex->e=esz):=by
 constructor
 · rintro e c r rfl
   simp only [uv,al8,aeA,amn] at h;exact h.symm
 rintro tk e o l c ex rfl
 simpa [uv] using h
theorem eS {x:Sem Value} {v:Value} (h:x.run P w= .ok v w):(do pure (Next.value (<- x)):Sem Next).run P w= .ok (.value v) w:=by
 simp only [Do,h,ww,EQ]
theorem KG {x y:fy} {l:List Operand} (h:eY [x,y] l=amH): ∃a b,l=[a,b]/\bB x a=amH/\bB y b=amH:=by
 match l,h with
 | [],h=>simp [eY] at h
 | [_],h=>simp [eY] at h
 | [a,b],h=>simp only [eY,ut,amz] at h;exact ⟨a,b,rfl,h.1,h.2⟩
 |_::_::_::_,h=>simp [eY] at h
theorem KH {x:fy} {l:List Operand} (h:eY [x] l=amH): ∃a,l=[a]/\bB x a=amH:=by
 match l,h with
 | [],h=>simp [eY] at h
 | [a],h=>simp only [eY,amz] at h;exact ⟨a,rfl,h⟩
 |_::_::_,h=>simp [eY] at h
theorem Ta {prims:FuncId->Bool} {x:kS} {o:Oper} {r:nI} (hc:wR P prims o.type x o.op=amH) (oE: ∀y∈x.fj,∀o',bB y o'=amH->VR im loc (y.ev e) (ρ o'))
 (h:bF e aE fz x=amF r) (hk:jl im loc aE w r):S5 P ρ o im loc aE w r:=by
 unfold wR at hc;split at hc
 case h_1 x o' fv=>
  injection h with h;subst h;exact .pure hk rfl rfl (by simp [execOp,fv]) (oE x (by simp [kS.fj]) o' hc)
 case h_2 x o' fv=>
  injection h with h;subst h;exact .pure hk rfl rfl (by simp [execOp,fv]) (oE x (by simp [kS.fj]) o' hc)
 case h_3 c a b d e' f fv=>
  simp only [ut] at hc;have h1:=oE c (by simp [kS.fj]) d hc.1.1
  simp only [bF] at h;split at h
  · rename_i hb;rw [hb] at h1;have h1:=h1.jB
    injection h with h;subst h;exact .pure hk rfl rfl (by simp [execOp,fv,h1,asBool]) (oE a (by simp [kS.fj]) _ hc.1.2)
  · rename_i hb;rw [hb] at h1;have h1:=h1.jB
    injection h with h;subst h;exact .pure hk rfl rfl (by simp [execOp,fv,h1,asBool]) (oE b (by simp [kS.fj]) _ hc.2)
  cases h
 case h_4 op x y op' t a b u fv=>
  simp only [ut,beq_iff_eq] at hc;obtain ⟨⟨rfl,h1⟩,h2⟩:=hc;simp only [bF,AC] at h;obtain ⟨z,hz,rfl⟩:=h;obtain ⟨v,cq,hv⟩:=Wt (P:=P) (w:=w) (t:=t) (a:=a) (b:=b) (oE x (by simp [kS.fj]) a h1) (oE y (by simp [kS.fj]) b h2) hz
  exact .pure hk rfl rfl (by simp only [execOp,fv];exact eS cq) hv
 case h_5 neg x y op t a b u fv=>
  simp only [ut] at hc;obtain ⟨⟨⟨h0,ht⟩,h1⟩,h2⟩:=hc;have hx:=oE x (by simp [kS.fj]) a h1
  have hy:=oE y (by simp [kS.fj]) b h2
  simp only [bF] at h;split at h
  · rename_i p q hp hq
    rw [hp] at hx;rw [hq] at hy;injection h with h;subst h;have ho:op=if neg then .neq else .eql:=by cases neg<;>simpa using h0
    refine .pure (v:= .bool (if neg then !(p==q) else p==q)) hk rfl rfl ?_ (.bool _)
    simp only [execOp,fv,hx.jB,hy.jB];exact eS (SX ho (IB ht))
  cases h
 case h_6 n neg x y op t a b u fv=>
  simp only [ut,aeu,beq_iff_eq] at hc;obtain ⟨⟨⟨⟨⟨h0,hr⟩,hn⟩,hg⟩,h1⟩,h2⟩:=hc;have hx:=oE x (by simp [kS.fj]) a h1
  have hy:=oE y (by simp [kS.fj]) b h2
  simp only [bF] at h;split at h
  · rename_i p q hp hq
    rw [hp] at hx;rw [hq] at hy;obtain ⟨us,hu1,hu2⟩:=hx.pj;obtain ⟨vs,Na,hv2⟩:=hy.pj;split at h
    case isFalse=>cases h
    rename_i cW;simp only [ut,aeA] at cW;rw [AC] at h;obtain ⟨c,Nj,rfl⟩:=h;have ho:op=if neg then .neq else .eql:=by cases neg<;>simpa using h0
    have hq2:=ID (P:=P) (w:=w) 100 t n hn 10000 (by omega) p q us vs c hu2 hv2 cW.1 cW.2 Nj
    simp only [whole,hr,if_true] at hq2;refine .pure (v:= .bool (if neg then !c else c)) hk rfl rfl ?_ (.bool _)
    simp only [execOp,fv,hu1,Na];refine eS ?_;simp only [Do,run_eqGuard_agg w op t a b ⟨us⟩ ⟨vs⟩ hg,ww];cases neg with
    |true=>
     simp only [if_true] at ho ⊢;subst ho;rw [run_neq_struct,hq2];rfl
    |false=>
     simp only [ae0,if_false] at ho ⊢;subst ho;rw [run_eql_struct,hq2];rfl
  cases h
 case h_7 op x op' t a fv=>
  simp only [ut,beq_iff_eq] at hc;obtain ⟨rfl,h1⟩:=hc;simp only [bF,AC] at h;obtain ⟨z,hz,rfl⟩:=h;obtain ⟨v,cq,hv⟩:=afr (P:=P) (w:=w) (oE x (by simp [kS.fj]) a h1) hz
  exact .pure hk rfl rfl (by simp only [execOp,fv];exact eS cq) hv
 case h_8 k x s d a fv=>
  simp only [ut] at hc;obtain ⟨⟨hs,hd⟩,h1⟩:=hc;have hx:=oE x (by simp [kS.fj]) a h1
  obtain ⟨ds,WB⟩:=aeE.1 hs;simp only [bF] at h;split at h
  · rename_i k' n hp
    rw [hp] at hx;injection h with h;subst h;split at hd
    · rename_i l hl
      have:=fg.1 hd;subst this
      refine .pure hk rfl rfl ?_ (.int _ _);simp only [execOp,fv,hx.gr];exact eS (SY WB hl)
    cases hd
  cases h
 case h_9 x args argTypes fv=>
  simp only [ut] at hc;obtain ⟨ht,h1⟩:=hc;obtain ⟨a,ha,h1a⟩:=KH h1;have kW:args= #[a]:=aew (by simpa using ha)
  subst kW;have hx:=oE x (by simp [kS.fj]) a h1a
  split at ht
  · rename_i t ht0
    unfold rN at ht;split at ht
    · rename_i el hu
      have cq: ∀{v:Value},(Builtin.len_ argTypes o.type #[ρ a]).run P w= .ok v w->(execOp ρ o).run P w= .ok (.value v) w:=by
       intro v hv;simp only [execOp,fv,resolve,Do,EQ,ww,invoke,builtin];rw [show afc ρ #[a]= #[ρ a] by simp,hv];rfl
      simp only [bF] at h;split at h
      · rename_i e' c rows hp
        rw [hp] at hx;obtain ⟨ad,cap,hv,_⟩:=hx.nO;injection h with h;subst h;exact .pure hk rfl rfl (cq (by simp [Builtin.len_,ht0,run_underlying hu,hv,goInt])) (.int _ _)
      · rename_i tk e' off len cap ex hp
        rw [hp] at hx;obtain ⟨li,ad,cY,hv,_⟩:=hx.gT;injection h with h;subst h;exact .pure hk rfl rfl (cq (by simp [Builtin.len_,ht0,run_underlying hu,hv,goInt])) (.int _ _)
      cases h
    cases ht
  cases ht
 case h_10 n args argTypes fv=>
  simp only [ut] at hc;obtain ⟨h0,ht⟩:=hc;have dS:args.size≠0:=by intro hz;have:args= #[]:=Array.eq_empty_of_size_eq_zero hz;subst this;simp at h0
  have ha0:(afc ρ args)[0]? =amF (ρ args[0]):=by simp [show 0<args.size by omega]
  simp only [bF,v6] at h;subst h;have cq: ∀{v:Value},(Builtin.len_ argTypes o.type (afc ρ args)).run P w= .ok v w->(execOp ρ o).run P w= .ok (.value v) w:=by
   intro v hv;simp only [execOp,fv,resolve,Do,EQ,ww,invoke,builtin,hv]
  refine .pure hk rfl rfl (cq ?_) (.int _ _);split at ht
  · rename_i t ht0
    split at ht
    · rename_i m el hu
      have hm:m=n:=by simpa using ht
      subst hm;simp only [Builtin.len_,ht0,ha0,Do,run_underlying hu,ww,goInt];cases ρ args[0]<;>rfl
    · rename_i el hu
      split at ht
      · rename_i m el2 hu2
        have hm:m=n:=by simpa using ht
        subst hm;simp only [Builtin.len_,ht0,ha0,Do,run_underlying hu,ww,goInt];cases ρ args[0]<;>simp [run_underlying hu2]
      cases ht
    cases ht
  cases ht
 case h_11 x el a fv=>
  have hx:=oE x (by simp [kS.fj]) a hc
  simp only [bF] at h;cases ck:(x.ev e).stored with
  |none=>rw [ck] at h;cases h
  |some cs=>
   rw [ck] at h;injection h with h;obtain ⟨rfl,AI⟩:=zN ck;obtain ⟨bm,hv,he⟩:=Ei (el:=el) (hx.cells AI) h.symm hk;refine ⟨_,_,bm,?_,.inr ⟨_,rfl,hv⟩,he⟩;simp [execOp,fv,Instr.box,newVar,newRow]
 case h_12 cells t fv=>
  simp only [bF,v6] at h;unfold tJ at hc;cases hi:P.info? t with
  |none=>rw [hi] at hc;cases hc
  |some i=>
   rw [hi] at hc;cases hz:i.zero with
   |none=>simp [hz] at hc
   |some z=>
    simp [hz] at hc;obtain ⟨bm,hv,he⟩:=Ei (el:=t) (xm (im:=im) (loc:=loc) hc) h.symm hk;refine ⟨_,_,bm,?_,.inr ⟨_,rfl,hv⟩,he⟩;simp [execOp,fv,Instr.alloc,newVar,newRow,zeroValue,typeInfo,hi,hz]
 case h_13 zero parts t ps fv=>
  simp only [ut] at hc;obtain ⟨⟨⟨hz,_⟩,hp⟩,nG⟩:=hc;simp only [bF,AC] at h;obtain ⟨cs,mL,rfl⟩:=h;have uG:=AO (im:=im) (loc:=loc) (e:=e) (ρ:=ρ) (fun y hy=>oE y (by simpa [kS.fj] using hy)) hp
  obtain ⟨v,cq,hv⟩:=Q' (P:=P) (w:=w) (qs:=ps.map fun (i,x)=>(i,ρ x)) hz nG (by simpa using uG) mL
  exact .pure hk rfl rfl (by simp only [execOp,fv];exact eS cq) hv
 case h_14 esz n zero parts t m ps fv=>
  simp only [ut,beq_iff_eq] at hc;obtain ⟨⟨⟨⟨rfl,nG⟩,k7⟩,Nl⟩,hp⟩:=hc;split at nG
  · rename_i el hu
    simp only [ut,beq_iff_eq,aeu] at nG;obtain ⟨⟨⟨hs,hz⟩,hzl⟩,hnz⟩:=nG;simp only [bF,AC] at h;obtain ⟨rows,lf,h⟩:=h;obtain ⟨i,z,hi,IA,cW,KI⟩:=Eo hz Nl;have Dx:z.cells.size=esz:=by omega
    have db:=B4 KI cW n;rw [Dx] at db
    obtain ⟨M',h1,h2,h3,h4⟩:=AN (n:=n) (esz:=esz) (wS (im:=im) (loc:=loc) (e:=e) (ρ:=ρ) (fun y hy=>oE y (by simpa [kS.fj] using hy)) hp) db (by simp) (by simp) lf
    obtain ⟨bm,hv,he⟩:=C1 (el:=el) h.symm hk h2 h3 h4 rfl (If _);refine ⟨_,_,bm,?_,.inr ⟨_,rfl,hv⟩,he⟩;have Ph:(zeroValue el).run P w= .ok z w:=by simp [zeroValue,typeInfo,hi,IA]
    have k7:n*esz<=1048576:=by simpa using k7
    have arL: ¬(n*esz>2^24):=by omega
    simp only [execOp,fv,Instr.buildSlice,Do,run_underlying hu,ww,kA hs,arL,if_false]
    by_cases h0:n*esz=0
    · have Wx:n=0:=by
       rcases ams.1 h0 with h|h
       · exact h
       rw [h] at hnz;simp at hnz
      subst Wx;simp only [amC] at h1;simp only [amC,if_true,Do,EQ,ww,age];have e0:(afc (fun x=>(#[]:Array Value)[x%(#[]:Array Value).size]!) (afI 0))=(afc (fun x=>z.cells[x%esz]!) (afI 0)):=by simp
      rw [e0,h1];simp [newRow]
    simp only [h0,if_false,Do,Ph,ww,EQ]
    simp only [Dx,age,h1];simp [newRow]
  cases nG
 case h_15 agg p t a fv=>
  simp only [ut] at hc;have hx:=oE p (by simp [kS.fj]) a hc.2
  simp only [bF] at h;obtain ⟨v,cq,hv,hn,hw⟩:=Kr (P:=P) hx hc.1 h hk;exact .pure hk hn hw (by simp only [execOp,fv];exact eS cq) hv
 case h_16 sz p v t a b fv=>
  simp only [ut] at hc;simp only [bF] at h;obtain ⟨w',cq,w9,hu⟩:=Q7 (P:=P) (oE p (by simp [kS.fj]) a hc.1.2) (oE v (by simp [kS.fj]) b hc.2) hc.1.1 h hk
  exact ⟨.skip,w',loc,by simp only [execOp,fv,Do,cq,ww,EQ],.inl ⟨rfl,hu⟩,w9⟩
 case h_17 x a fv=>
  have hx:=oE x (by simp [kS.fj]) a hc
  simp only [bF] at h;split at h
  · rename_i t s r' o' hp
    rw [hp] at hx;injection h with h;subst h;obtain ⟨li,h1,h2,h3,hv⟩:=hx.yp;exact .pure hk rfl rfl (by simp only [execOp,fv,hv];rfl) (by rw [<- hv];exact hx)
  · rename_i c o' hp
    rw [hp] at hx;injection h with h;subst h;obtain ⟨b,o2,vs,h1,h2,hv⟩:=hx.xo;exact .pure hk rfl rfl (by simp only [execOp,fv,hv];rfl) (by rw [<- hv];exact hx)
  · rename_i f a' b' hp
    rw [hp] at hx;injection h with h;subst h;generalize hg:ρ a=g at hx;cases hx with
    |eL fn a b as bs ha hb=>
     exact .pure hk rfl rfl (by simp only [execOp,fv,hg];rfl) (.eL _ _ _ _ _ ha hb)
  cases h
 case h_18 off p t a f fv=>
  simp only [ut] at hc;obtain ⟨hc,h1⟩:=hc;have hx:=oE p (by simp [kS.fj]) a h1
  split at hc
  · rename_i fs hu
    split at hc
    · rename_i g hg
      simp only [ut,beq_iff_eq] at hc;obtain ⟨B0,hi⟩:=hc;cases afw:P.info? g.type with
      |none=>rw [afw] at hi;cases hi
      |some i=>
       rw [afw] at hi;have hz:i.size≠0:=by simpa using hi
       simp only [bF] at h
       have: ∃z,(match p.ev e with| .ptr t s r o=>amF (PV.ptr t s r (o+off))| .bI c o=>amF (PV.bI c (o+off))|_=>amG)=amF z/\r={v:=z}:=by
        revert h
        cases p.ev e<;>intro h<;>first|(injection h with h;exact ⟨_,rfl,h.symm⟩)|cases h
       obtain ⟨z,hz',rfl⟩:=this;obtain ⟨v,cq,hv⟩:=S0 (P:=P) (w:=w) hx hu hg B0 afw hz hz';exact .pure hk rfl rfl (by simp only [execOp,fv];exact eS cq) hv
    cases hc
  cases hc
 case h_19 agg off x t a f fv=>
  simp only [ut] at hc;obtain ⟨hc,h1⟩:=hc;have hx:=oE x (by simp [kS.fj]) a h1
  split at hc
  · rename_i fs hu
    split at hc
    · rename_i g hg
      simp only [ut,beq_iff_eq] at hc;obtain ⟨B0,hag⟩:=hc;simp only [bF] at h;split at h
      · rename_i cs hp
        rw [hp] at hx;obtain ⟨vs,hv,oG⟩:=hx.pj;rw [AC] at h;obtain ⟨z,hz,rfl⟩:=h;rw [<- B0] at hz;obtain ⟨v,cq,Nk⟩:=Kq (P:=P) (w:=w) hag oG hz;refine .pure hk rfl rfl ?_ Nk;simp only [execOp,fv];exact eS (by simp only [Instr.field,Do,run_underlying hu,ww,hg,hv,asAgg,EQ,cq])
      cases h
    cases hc
  cases hc
 case h_20 esz x i t a j fv=>
  simp only [ut] at hc;obtain ⟨⟨hs,h1⟩,h2⟩:=hc;have hx:=oE x (by simp [kS.fj]) a h1
  have hi:=oE i (by simp [kS.fj]) j h2
  simp only [bF] at h;cases hn:jU (i.ev e) with
  |none=>rw [hn] at h;cases h
  |some n=>
   rw [hn] at h;dsimp only at h;obtain ⟨k,BO⟩:=oP hi hn;unfold yn at hs;split at hs
   · rename_i el hu
     have: ∃z,(match x.ev e with
      | .sl s _ rows=>match rows[n]? with
       |some cs=>if F0s s esz then amF (PV.bI cs 0) else amG
       |none=>amG
      | .own t s off len _ _=>if afe n len&&F0s s esz then amF (PV.ptr t s (off+n) 0) else amG
      |_=>amG)=amF z/\r={v:=z}:=by
      revert h
      cases x.ev e with
      |sl s c rows=>
       dsimp only;cases rows[n]? with
       |none=>intro h;cases h
       |some cs=>
        dsimp only;split
        · intro h;injection h with h;exact ⟨_,rfl,h.symm⟩
        intro h;cases h
      |own t s off len cap ex=>
       dsimp only;split
       · intro h;injection h with h;exact ⟨_,rfl,h.symm⟩
       intro h;cases h
      |_=>intro h;cases h
     obtain ⟨z,hz,rfl⟩:=this;obtain ⟨v,cq,hv⟩:=S1 (P:=P) (w:=w) (k:=k) hx hu hs hz;exact .pure hk rfl rfl (by simp only [execOp,fv,BO];exact eS cq) hv
   cases hs
 case h_21 n esz p i t a j fv=>
  simp only [ut] at hc;obtain ⟨⟨hs,h1⟩,h2⟩:=hc;have hx:=oE p (by simp [kS.fj]) a h1
  have hi:=oE i (by simp [kS.fj]) j h2
  simp only [bF] at h;cases hn:jU (i.ev e) with
  |none=>rw [hn] at h;cases h
  |some m=>
   rw [hn] at h;dsimp only at h;split at h
   · rename_i dI
     have dI:m<n:=by simpa using dI
     obtain ⟨k,BO⟩:=oP hi hn;unfold Pe at hs;split at hs
     · rename_i m' el hu
       simp only [ut,beq_iff_eq] at hs;obtain ⟨rfl,hs⟩:=hs
       have: ∃z,(match p.ev e with| .ptr t s r o=>amF (PV.ptr t s r (o+m*esz))| .bI c o=>amF (PV.bI c (o+m*esz))|_=>amG)=amF z/\r={v:=z}:=by
        revert h
        cases p.ev e<;>intro h<;>first|(injection h with h;exact ⟨_,rfl,h.symm⟩)|cases h
       obtain ⟨z,hz,rfl⟩:=this;obtain ⟨v,cq,hv⟩:=Q5 (P:=P) (w:=w) (k:=k) hx hu hs dI hz;exact .pure hk rfl rfl (by simp only [execOp,fv,BO];exact eS cq) hv
     cases hs
   cases h
 case h_22 n esz agg x i t a j fv=>
  simp only [ut] at hc;obtain ⟨⟨hs,h1⟩,h2⟩:=hc;have hx:=oE x (by simp [kS.fj]) a h1
  have hi:=oE i (by simp [kS.fj]) j h2
  simp only [bF] at h;cases hn:jU (i.ev e) with
  |none=>rw [hn] at h;cases h
  |some m=>
   rw [hn] at h;dsimp only at h;split at h
   · rename_i dI
     have dI:m<n:=by simpa using dI
     obtain ⟨k,BO⟩:=oP hi hn;split at hs
     · rename_i m' el hu
       simp only [ut,beq_iff_eq] at hs;obtain ⟨⟨rfl,hs⟩,hag⟩:=hs;split at h
       · rename_i cs hp
         rw [hp] at hx;obtain ⟨vs,hv,oG⟩:=hx.pj;rw [AC] at h;obtain ⟨z,hz,rfl⟩:=h;obtain ⟨v,cq,Nk⟩:=Kq (P:=P) (w:=w) hag oG hz;refine .pure hk rfl rfl ?_ Nk;have arN:(0:Int)<=(m:Int)/\(m:Int)<(m':Int):=by omega
         simp only [execOp,fv];exact eS (by simp only [Instr.index,BO,asIntOf,Do,EQ,run_underlying hu,ww,hv,arN,and_self,if_true,kA hs,afK,cq])
       cases h
     cases hs
   cases h
 case h_23 x i t a j fv=>
  simp only [ut] at hc;obtain ⟨⟨hs,h1⟩,h2⟩:=hc;have hx:=oE x (by simp [kS.fj]) a h1
  have hi:=oE i (by simp [kS.fj]) j h2
  have hu:P.underlying t=amF .string:=by
   split at hs
   · assumption
   cases hs
  simp only [bF] at h;split at h
  · rename_i n s hn hp
    rw [hp] at hx;obtain ⟨k,BO⟩:=oP hi hn;split at h
    · rename_i b hb
      injection h with h;subst h;refine .pure hk rfl rfl ?_ (.int _ _);have h0:(0:Int)<=(n:Int):=by omega
      simp only [execOp,fv];exact eS (by simp only [Instr.index,BO,asIntOf,Do,EQ,run_underlying hu,ww,hx.DO,h0,if_true,afK,hb])
    cases h
  cases h
 case h_24 esz x l hh m t a b c d fv=>
  simp only [ut] at hc;obtain ⟨⟨⟨⟨⟨h0,hs⟩,h1⟩,h2⟩,h3⟩,h4⟩:=hc;have hx:=oE x (by simp [kS.fj]) a h1
  simp only [bF] at h;split at h
  · cases h
  rename_i he
  have he:uv esz (x.ev e)=amH:=by simpa using he
  obtain ⟨SK,CZ⟩:=S' he;split at h
  · rename_i lo hi mx Rf hhi hmx
    rw [AC] at h;obtain ⟨z,hz,rfl⟩:=h;unfold yn at hs;split at hs
    · rename_i el hu
      have b1:=vq (im:=im) (loc:=loc) (e:=e) (ρ:=ρ) (fun y hy=>oE y (by simp only [kS.fj,afa,aeC];exact .inr (.inl (.inl hy)))) h2 Rf
      have b2:=vq (im:=im) (loc:=loc) (e:=e) (ρ:=ρ) (fun y hy=>oE y (by simp only [kS.fj,afa,aeC];exact .inr (.inl (.inr hy)))) h3 hhi
      have b3:=vq (im:=im) (loc:=loc) (e:=e) (ρ:=ρ) (fun y hy=>oE y (by simp only [kS.fj,afa,aeC];exact .inr (.inr hy))) h4 hmx
      have Tb:mx.isSome=amH->hi.isSome=amH:=by
       intro hmm;cases m with
       |none=>simp at hmx;subst hmx;cases hmm
       |some mo=>
        cases hh with
        |none=>simp at h0
        |some ho=>
         simp only [AC] at hhi;obtain ⟨q,_,rfl⟩:=hhi;rfl
      obtain ⟨v,cq,hv⟩:=Ra (P:=P) (w:=w) hx hu hs b1 b2 b3 Tb SK CZ hz;exact .pure hk rfl rfl (by simp only [execOp,fv];exact eS cq) hv
    cases hs
  cases h
 case h_25 esz zero l c t a b fv=>
  simp only [ut] at hc;obtain ⟨⟨⟨nG,Nl⟩,h1⟩,h2⟩:=hc;have hx:=oE l (by simp [kS.fj]) a h1
  have hy:=oE c (by simp [kS.fj]) b h2
  split at nG
  · rename_i el hu
    simp only [ut,beq_iff_eq,aeu] at nG;obtain ⟨⟨⟨⟨hs,hz⟩,hzl⟩,Np⟩,hnz⟩:=nG;simp only [bF] at h;split at h
    · rename_i n m hn hm
      obtain ⟨k1,gQ⟩:=oP hx hn;obtain ⟨k2,BO⟩:=oP hy hm;split at h
      · rename_i k7
        simp only [ut,af3] at k7;injection h with h;obtain ⟨i,z,hi,IA,cW,KI⟩:=Eo hz Nl;have Dx:z.cells.size=esz:=by omega
        have db:=B4 KI cW m;rw [Dx] at db
        have ik:m<=1048576:=by simpa [dH] using k7.2
        obtain ⟨bm,hv,he⟩:=C1 (el:=el) h.symm hk db (by simp) (by simp) rfl k7.1
        refine ⟨_,_,bm,?_,.inr ⟨_,rfl,hv⟩,he⟩;have Ph:(zeroValue el).run P w= .ok z w:=by simp [zeroValue,typeInfo,hi,IA]
        have hti:(typeInfo el).run P w= .ok i w:=by simp [typeInfo,hi]
        have SM:i.bytes<=1048576:=by
         unfold DM at Np;rw [hi] at Np;simpa using Np
        have hw1:IntKind.i64.wrap (n:Int)=n:=DN (by omega) (by omega)
        have WC:IntKind.i64.wrap (m:Int)=m:=DN (by omega) (by omega)
        have avf:i.bytes*m<=1099511627776:=by
         have:=amu SM ik
         omega
        have C0: ¬((i.bytes:Int)*(m:Int)>2^48):=by
         have:((i.bytes*m:Nat):Int)=(i.bytes:Int)*(m:Int):=by simp
         omega
        have Nu:(sizeOf el).run P w= .ok esz w:=kA hs;simp only [execOp,fv,gQ,BO,Instr.makeSlice,asInt,asIntOf,Do,run_underlying hu,ww,EQ,hti,hw1,WC];have Pn:((amJ ((m:Int)<0)||amJ ((i.bytes:Int)*(m:Int)>2^48))||amJ ((n:Int)<0)||amJ ((n:Int)>(m:Int)))=amI:=by
         simp only [Bool.or_eq_false_iff,decide_eq_false_iff_not];refine ⟨⟨⟨by omega,C0⟩,by omega⟩,by omega⟩
        rw [Pn];simp only [ae0,if_false,Do,run_askRoom,ww,Nu,afK]
        by_cases h0:m*esz=0
        · have hm0:m=0:=by
           rcases ams.1 h0 with h|h
           · exact h
           rw [h] at hnz;simp at hnz
          subst hm0;simp [newRow]
          congr 2
          apply Array.ext<;>simp
        simp only [h0,if_false,Do,Ph,ww,EQ,Dx]
        simp [newRow]
      cases h
    cases h
  cases nG
 case h_26 fn a b g c d fv=>
  simp only [ut,beq_iff_eq] at hc;obtain ⟨⟨rfl,h1⟩,h2⟩:=hc;simp only [bF,v6] at h;subst h;have r1:=mZ (im:=im) (loc:=loc) (e:=e) (ρ:=ρ) (fun y hy=>oE y (by simp [kS.fj,hy])) h1
  have r2:=mZ (im:=im) (loc:=loc) (e:=e) (ρ:=ρ) (fun y hy=>oE y (by simp [kS.fj,hy])) h2
  refine .pure (v:= .func (.func fn) (c.map ρ) (d.map ρ)) hk rfl rfl (by simp only [execOp,fv];exact eS rfl) ?_
  have:=VR.eL (im:=im) (loc:=loc) fn _ _ _ _ r1 r2
  have e1:(⟨c.toList.map ρ⟩:Array Value)=c.map ρ:=aew (by simp)
  have e2:(⟨d.toList.map ρ⟩:Array Value)=d.map ρ:=aew (by simp)
  rw [e1,e2] at this;exact this
 case h_27 t fv=>
  simp only [bF,v6] at h
  let li:LI:=⟨w.heap.size,0,0,0,0⟩
  refine ⟨.value (.map (amF w.heap.size)),{w with heap:=w.heap.push (.map #[] 0)},loc.set (amE aE) li,?_,.inr ⟨_,rfl,?_⟩,?_⟩
  · simp [execOp,fv,Instr.makeMap]
  · subst h;exact .mp (amE aE) li (Loc.eT _ _ _)
  refine sR.new hk (k:= .map []) (o:= .map #[] 0) li (by rw [<- h]) (by rw [<- h]) rfl rfl rfl rfl rfl ⟨#[],0,by simp [li],trivial⟩
 case h_28 i x a j fv=>
  simp only [ut,beq_iff_eq] at hc;obtain ⟨rfl,h1⟩:=hc;have hx:=oE x (by simp [kS.fj]) a h1
  simp only [bF] at h;split at h
  · rename_i vs hp
    rw [hp] at hx;obtain ⟨us,hv,oG⟩:=hx.AH;rw [AC] at h;obtain ⟨z,hz,rfl⟩:=h;obtain ⟨u,hu,hur⟩:=oG.get i z hz;have BP:(⟨us⟩:Array Value)[i]? =amF u:=by simpa using hu
    exact .pure hk rfl rfl (by simp only [execOp,fv];exact eS (by simp [Instr.extract,hv,BP])) hur
  cases h
 case h_29 esz x y args argTypes fv=>
  simp only [ut] at hc;obtain ⟨nG,h1⟩:=hc;obtain ⟨a,b,Rb,h1a,h1b⟩:=KG h1;have kW:args= #[a,b]:=aew (by simpa using Rb)
  subst kW;have hx:=oE x (by simp [kS.fj]) a h1a
  have hy:=oE y (by simp [kS.fj]) b h1b
  split at nG
  · rename_i t tx db
    have Ew:argTypes= #[t,tx]:=aew (by simpa using db)
    subst Ew;simp only [ut] at nG;obtain ⟨nG,Wi⟩:=nG;unfold rN at Wi;split at Wi
    · rename_i e' htx
      split at nG
      · rename_i el hu
        simp only [ut] at nG;obtain ⟨⟨⟨hs,Np⟩,hnz⟩,hz⟩:=nG;cases hi:P.info? el with
        |none=>rw [hi] at hz;cases hz
        |some i=>
         rw [hi] at hz;cases IA:i.zero with
         |none=>simp [IA] at hz
         |some z=>
          have Kx:z.cells.size=esz:=by
           rw [amt,IA,amt] at hz;simpa using hz
          have qz:i.size=esz:=by unfold oF at hs;rw [hi] at hs;simpa using hs
          have SM:i.bytes<=1048576:=by unfold DM at Np;rw [hi] at Np;simpa using Np
          simp only [bF] at h;obtain ⟨v',w',bm,cq,hv,w9⟩:=Ek (P:=P) (ty:=o.type) hu htx hi qz IA Kx SM hx hy h hk;refine ⟨.value v',w',bm,?_,.inr ⟨v',rfl,hv⟩,w9⟩;simp only [execOp,fv,resolve,Do,EQ,ww,invoke,builtin];rw [show afc ρ #[a,b]= #[ρ a,ρ b] by simp,cq];rfl
      cases nG
    cases Wi
  cases nG
 case h_30 n zero ok m k t a b ok' fv=>
  simp only [ut,beq_iff_eq] at hc;obtain ⟨⟨⟨rfl,nG⟩,h1⟩,h2⟩:=hc;have hm:=oE m (by simp [kS.fj]) a h1
  have uC:=oE k (by simp [kS.fj]) b h2
  split at nG
  · rename_i kt et ht
    simp only [ut] at nG;obtain ⟨hkt,hz⟩:=nG;have hz': ∃i z,P.info? et=amF i/\i.zero=amF z/\VR im loc zero z:=by
     cases hi:P.info? et with
     |none=>rw [hi] at hz;cases hz
     |some i=>
      cases IA:i.zero with
      |none=>rw [hi] at hz;simp [IA] at hz
      |some z=>rw [hi] at hz;simp [IA] at hz;exact ⟨i,z,rfl,IA,Iy hz⟩
    simp only [bF] at h;obtain ⟨v,cq,hv,hn,hw⟩:=Ns (P:=P) ht hkt hz' hm uC h hk;exact .pure hk hn hw (by simp only [execOp,fv];exact eS cq) hv
  cases nG
 case h_31 n m k v t a b c fv=>
  simp only [ut] at hc;obtain ⟨⟨⟨nG,h1⟩,h2⟩,h3⟩:=hc;split at nG
  · rename_i kt et ht
    simp only [bF] at h;obtain ⟨w',cq,w9,hu⟩:=KE (P:=P) ht nG (oE m (by simp [kS.fj]) a h1) (oE k (by simp [kS.fj]) b h2) (oE v (by simp [kS.fj]) c h3) h hk
    exact ⟨.skip,w',loc,by simp only [execOp,fv,Do,cq,ww,EQ],.inl ⟨rfl,hu⟩,w9⟩
  cases nG
 case h_32 esz x y args argTypes fv=>
  simp only [ut] at hc;obtain ⟨nG,h1⟩:=hc;obtain ⟨a,b,Rb,h1a,h1b⟩:=KG h1;have kW:args= #[a,b]:=aew (by simpa using Rb)
  subst kW;have hx:=oE x (by simp [kS.fj]) a h1a
  have hy:=oE y (by simp [kS.fj]) b h1b
  split at nG
  · rename_i t tx db
    have Ew:argTypes= #[t,tx]:=aew (by simpa using db)
    subst Ew;simp only [ut] at nG;obtain ⟨Wi,_⟩:=nG;unfold yn at Wi;split at Wi
    · rename_i el hu
      have Rg: ∀{v:Value} {w':World},(Builtin.copy_ #[t,tx] o.type #[ρ a,ρ b]).run P w= .ok v w'->(execOp ρ o).run P w= .ok (.value v) w':=by
       intro v w' hv;simp only [execOp,fv,resolve,Do,EQ,ww,invoke,builtin];rw [show afc ρ #[a,b]= #[ρ a,ρ b] by simp,hv];rfl
      simp only [bF] at h;split at h
      · rename_i src tk s off len cap ex AB Wj
        rw [Wj] at hx;have afx:Nat.min (amE src) len=min (amE src) len:=rfl;have GP:r.rd=iO (y.ev e):=by
         split at h
         · injection h with h;rw [<- h]
         split at h
         · split at h
           · injection h with h;rw [<- h]
           cases h
         cases h
        obtain ⟨g1,g2,g3,g4⟩:=Nt (P:=P) (w:=w) hy AB (min (amE src) len) (Nat.min_le_left _ _) hk.bH (fun t ht=>hk.tok t (.inl (by rw [GP];exact ht)))
        have B5:(src.take (min (amE src) len))=src.take len:=by
         rcases Nat.le_total (amE src) len with h'|h'
         · rw [amr h',ajE (If _),ajE h']
         rw [Nat.min_eq_right h']
        rw [B5] at g2;have Nu:(sizeOf el).run P w= .ok esz w:=kA Wi;split at h
        · rename_i GV
          injection h with h;subst h;rw [GV] at g2;have h0:min (amE src) len=0:=by
           have:=congrArg amD GV
           simp only [agd,al7] at this;omega
          obtain ⟨li,ad,cY,hv,_⟩:=hx.gT;refine .pure (v:= .int .i64 0) hk rfl rfl (Rg ?_) (.int _ _);have g2':(Builtin.firstCells esz 0 (ρ b)).run P w= .ok #[] w:=by rw [h0] at g2;simpa using g2
          simp only [Builtin.copy_,hv];cases ad with
          |none=>simp [run_underlying hu,g1,afx,h0,Nu,g2',goInt]
          |some ad=>simp [run_underlying hu,g1,afx,h0,Nu,g2',goInt,storeCells]
        rename_i r1 rs Tc
        split at h
        · rename_i s' rows ck
          split at h
          · rename_i Nj
            simp only [ut,aeA,aeu] at Nj;obtain ⟨rfl,hnf⟩:=Nj;injection h with h;have Wu:s'=s:=by
             obtain ⟨li,ad,cY,hv,hl,he,_⟩:=hx.gT;obtain ⟨k,gQ,hb⟩:=hk.tok tk (.inr ⟨_,by rw [<- h];simp;rfl⟩) li hl
             rw [ck] at gQ;injection gQ with gQ;subst gQ;rw [<- hb.1,he]
            subst Wu;have vp: ∀q,q∈r1::rs->q∈src:=fun q hq=>by rw [<- Tc] at hq;exact List.mem_of_mem_take hq
            have aeG:min (amE src) len=amE rs+1:=by
             have:=congrArg amD Tc
             simp only [agd,aeJ] at this;omega
            rw [Tc] at g2;obtain ⟨b',o',c',w',hv,cq,w9⟩:=KF (P:=P) (new:=r1::rs) hx ck (by simp) (by simp;omega) (fun q hq=>g3 q (vp q hq)) (fun q hq=>g4 q (vp q hq)) h.symm hk
            refine ⟨.value (.int .i64 (Int.ofNat (amE rs+1))),w',loc,Rg ?_,.inr ⟨_,rfl,by rw [<- h];exact .int _ _⟩,w9⟩
            rw [aeG] at g2;simp only [Builtin.copy_,hv];simp [run_underlying hu,g1,afx,aeG,Nu,g2,goInt,-aeD];rw [cq];rfl
          cases h
        cases h
      cases h
    cases Wi
  cases nG
 case h_33 esz zero x args argTypes fv=>
  simp only [ut] at hc;obtain ⟨nG,h1⟩:=hc;obtain ⟨a,ha,h1a⟩:=KH h1;have kW:args= #[a]:=aew (by simpa using ha)
  subst kW;have hx:=oE x (by simp [kS.fj]) a h1a
  split at nG
  · rename_i t db
    have Ew:argTypes= #[t]:=aew (by simpa using db)
    subst Ew;split at nG
    · rename_i el hu
      simp only [ut,beq_iff_eq] at nG;obtain ⟨⟨⟨hs,hz⟩,hzl⟩,Nl⟩:=nG;have Rg: ∀{v:Value} {w':World},(Builtin.clear_ #[t] o.type #[ρ a]).run P w= .ok v w'->(execOp ρ o).run P w= .ok (.value v) w':=by
       intro v w' hv;simp only [execOp,fv,resolve,Do,EQ,ww,invoke,builtin];rw [show afc ρ #[a]= #[ρ a] by simp,hv];rfl
      simp only [bF] at h;split at h
      · rename_i tk s off len cap ex Wj
        rw [Wj] at hx;split at h
        · injection h with h;subst h
          obtain ⟨li,ad,cY,hv,_⟩:=hx.gT;refine .pure (v:= .tuple #[]) hk rfl rfl (Rg ?_) (.undef _);simp only [Builtin.clear_,hv];cases ad<;>simp [run_underlying hu]
        rename_i len
        split at h
        · rename_i s' rows ck
          split at h
          · rename_i Nj
            simp only [ut,aeA,aeu] at Nj;obtain ⟨rfl,hnf⟩:=Nj;injection h with h;have Wu:s'=s:=by
             obtain ⟨li,ad,cY,hv,hl,he,_⟩:=hx.gT;obtain ⟨k,gQ,hb⟩:=hk.tok tk (.inr ⟨_,by rw [<- h];simp;rfl⟩) li hl
             rw [ck] at gQ;injection gQ with gQ;subst gQ;rw [<- hb.1,he]
            subst Wu;obtain ⟨i,z,hi,IA,cW,KI⟩:=Eo hz Nl;have Ku: ∀q∈aex (len+1) zero,amE q=s':=fun q hq=>by rw [(am7.1 hq).2];exact hzl
            have WA: ∀q∈aex (len+1) zero,∀c∈q,c.plain=amH:=fun q hq c hc=>by rw [(am7.1 hq).2] at hc;exact amp.1 Nl c hc
            obtain ⟨b',o',c',w',hv,cq,w9⟩:=KF (P:=P) (new:=aex (len+1) zero) hx ck (by simp) (by simp) Ku WA h.symm hk
            refine ⟨.value (.tuple #[]),w',loc,Rg ?_,.inr ⟨_,rfl,by rw [<- h];exact .undef _⟩,w9⟩
            have Ph:(zeroValue el).run P w= .ok z w:=by simp [zeroValue,typeInfo,hi,IA]
            have hzc:(Builtin.zeroCells z.cells (len+1)).toList=(aex (len+1) zero).flatMap aV:=by
             have db:=B4 KI cW (len+1);have S2:=dF Ku;have qz:=xt z.cells (len+1);apply afA;intro j;rcases acK j ((aex (len+1) zero).flatMap aV).length with hj|hj
             · have hfj:=db.flat j _ (NE hj)
               rw [NE hj,<- hfj];simp only [Builtin.zeroCells,ajD,Array.getElem?_toList]
             rw [M2 hj,M2]
             simp only [aeH,qz];rw [S2] at hj;simp only [List.length_replicate] at hj;rw [<- cW,hzl];exact hj
            simp only [Builtin.clear_,hv];simp [run_underlying hu,Ph,hzc,-aeD];rw [cq];rfl
          cases h
        cases h
      · rename_i e1 c1 Wj
        rw [Wj] at hx;injection h with h;subst h;obtain ⟨ad,cY,hv,_⟩:=hx.nO;refine .pure (v:= .tuple #[]) hk rfl rfl (Rg ?_) (.undef _);simp only [Builtin.clear_,hv];cases ad<;>simp [run_underlying hu]
      cases h
    cases nG
  cases nG
 case h_34 isMax x xs b args Wk fv=>
  simp only [ut] at hc;obtain ⟨hb,h1⟩:=hc;simp only [bF] at h;have uG:=mZ (im:=im) (loc:=loc) (e:=e) (ρ:=ρ) (fun y hy=>oE y (by simpa [kS.fj] using hy)) h1
  split at h
  · rename_i k a hp
    rw [AC] at h;obtain ⟨z,hz,rfl⟩:=h;have gK:D' e (x::xs)= .int k a::D' e xs:=by simp [D',hp]
    rw [gK] at uG;generalize hl:args.toList.map ρ=l at uG;cases uG with
    |cons _ u _ us h1 h2=>
     obtain rfl:=h1.gr;obtain ⟨c,rfl,cq⟩:=Pj (P:=P) (w:=w) (isMax:=isMax) h2 hz;refine .pure hk rfl rfl ?_ (.int k c);have me:(args.map ρ).toList= .int k a::us:=by simpa using hl
     have SM:b=if isMax then .max else .min:=by cases isMax<;>simpa using hb
     subst SM;cases isMax with
     |true=>
      simp only [if_true] at fv cq;simp only [execOp,fv,resolve,Do,EQ,ww,invoke,builtin,Builtin.max_,me,cq]
     |false=>
      simp only [ae0,if_false] at fv cq;simp only [execOp,fv,resolve,Do,EQ,ww,invoke,builtin,Builtin.min_,me,cq]
  cases h
 case h_37 x y t m ps fv=>
  simp only [ut,beq_iff_eq] at hc;obtain ⟨⟨rfl,nG⟩,hp⟩:=hc;split at nG
  · rename_i el hu
    simp only [ut] at nG;obtain ⟨hs,hz⟩:=nG;split at hp
    · rename_i i a j b hps
      simp only [ut,beq_iff_eq] at hp;obtain ⟨⟨⟨rfl,rfl⟩,h1⟩,h2⟩:=hp;simp only [bF] at h;split at h
      · rename_i AI
        simp only [ut] at AI;injection h with h;have hx:=oE x (by simp [kS.fj]) a h1
        have hy:=oE y (by simp [kS.fj]) b h2
        obtain ⟨bm,hv,he⟩:=Kt (el:=el) hx hy h.symm hk;refine ⟨_,_,bm,?_,.inr ⟨_,rfl,hv⟩,he⟩;have IA: ∃i z,P.info? el=amF i/\i.zero=amF z/\z.cells.size=1:=by
         cases hi:P.info? el with
         |none=>rw [hi] at hz;cases hz
         |some i=>
          cases hq:i.zero with
          |none=>rw [hi] at hz;simp [hq] at hz
          |some z=>rw [hi] at hz;simp [hq] at hz;exact ⟨i,z,rfl,hq,hz⟩
        obtain ⟨i,z,hi,hq,qz⟩:=IA;have Ph:(zeroValue el).run P w= .ok z w:=by simp [zeroValue,typeInfo,hi,hq]
        have c1:(ρ a).cells= #[ρ a]:=by
         obtain ⟨q1,q2⟩:=hx.Ix AI.1;cases Na:ρ a<;>first|rfl|exact absurd Na (q1 _)|exact absurd Na (q2 _)
        have c2:(ρ b).cells= #[ρ b]:=by
         obtain ⟨q1,q2⟩:=hy.Ix AI.2;cases Na:ρ b<;>first|rfl|exact absurd Na (q1 _)|exact absurd Na (q2 _)
        have fl: ∀q:Value,Instr.fill (fun i=>amF (i*1,1)) #[q,q] [(0,ρ a),(1,ρ b)]=amF #[ρ a,ρ b]:=fun q=>by
         have s1:(⟨mA (0*1) (ρ a).cells.toList (#[q,q]:Array Value).toList⟩:Array Value)= #[ρ a,q]:=by rw [c1];rfl
         have s2:(⟨mA (1*1) (ρ b).cells.toList (#[ρ a,q]:Array Value).toList⟩:Array Value)= #[ρ a,ρ b]:=by rw [c2];rfl
         rw [yq (place:=fun i=>amF (i*1,1)) rfl (by rw [c1];rfl) (by simp),s1,yq (place:=fun i=>amF (i*1,1)) rfl (by rw [c2];rfl) (by simp),s2]
         rfl
        simp only [execOp,fv,Instr.buildSlice,Do,run_underlying hu,ww,kA hs];have e0:(afc (fun x=>z.cells[x%z.cells.size]!) (afI (2*1)))= #[z.cells[0]!,z.cells[0]!]:=by
         rw [qz,show afI (2*1)= #[0,1] from by decide];simp [Nat.mod_one]
        have big: ¬(2*1>2^24):=by decide
        have nz: ¬(2*1=0):=by decide
        have ml:(ps.map fun (i,x)=>(i,ρ x)).toList=[(0,ρ a),(1,ρ b)]:=by rw [age,hps];rfl
        simp only [big,nz,if_false,Do,Ph,ww,EQ];rw [e0,ml,fl];simp [newRow]
      cases h
    cases hp
  cases nG
 case h_38 n m k v t a b c fv=>
  simp only [ut] at hc;obtain ⟨⟨⟨nG,h1⟩,h2⟩,h3⟩:=hc;split at nG
  · rename_i kt et ht
    simp only [bF] at h;obtain ⟨w',cq,w9,hu⟩:=KE (P:=P) ht nG (oE m (by simp [kS.fj]) a h1) (oE k (by simp [kS.fj]) b h2) (oE v (by simp [kS.fj]) c h3) h hk
    exact ⟨.skip,w',loc,by simp only [execOp,fv,Do,cq,ww,EQ],.inl ⟨rfl,hu⟩,w9⟩
  cases nG
 all_goals first|(simp only [bF] at h;cases h;done)|(simp at hc;done)
end
end Go.Vm
/- What goes over the border of a pure call, and what comes back. -/
namespace Go.Vm
def fW:Loc:=fun _=>amG
def grow (im:Im) (w:World) (bs:List Nat):Im:=fun b=>match im b with
 |some o=>amF o
 |none=>if bs.contains b then w.heap[b]? else amG
theorem IF (im:Im) (w:World) (bs:List Nat):nN im (grow im w bs):=fun b o h=>by unfold grow;rw [h]
theorem Po {im:Im} {w:World} {bs:List Nat} (h: ∀b o,im b=amF o->w.heap[b]? =amF o): ∀b o,grow im w bs b=amF o->w.heap[b]? =amF o:=by
 intro b o hb;unfold grow at hb;split at hb
 · rename_i o' ho;injection hb with hb;subst hb;exact h b _ ho
 split at hb
 · exact hb
 cases hb
theorem WD {im:Im} {w:World} {bs:List Nat} (h: ∀b o,im b=amF o->w.heap[b]? =amF o) {b:Nat} (hb:b∈bs):grow im w bs b=w.heap[b]?:=by
 unfold grow;split
 · rename_i o ho;exact (h b o ho).symm
 rw [pp (by simpa using hb)]
theorem Td {im:Im} {w:World} {bs:List Nat} {b:Nat} {o:Obj} (h:grow im w bs b=amF o):im b=amF o\/b∈bs:=by
 unfold grow at h;split at h
 · rename_i o' ho;injection h with h;subst h;exact .inl ho
 split at h
 · rename_i hc;exact .inr (by simpa using hc)
 cases h
def zS (loc:Loc) (aE:cK) (tk:List Nat):List Nat:=tk.filterMap fun t=>if (aE[t]?).any jR.bM then (loc t).map (·.df) else amG
theorem zT {loc:Loc} {aE:cK} {tk:List Nat} {b:Nat}:b∈zS loc aE tk↔ ∃t li k,t∈tk/\loc t=amF li/\aE[t]? =amF k/\k.bM=amH/\li.df=b:=by
 unfold zS;rw [List.mem_filterMap];constructor
 · rintro ⟨t,ht,h⟩
   split at h
   · rename_i hs
     rw [AC] at h;obtain ⟨li,hl,rfl⟩:=h;cases hk:aE[t]? with
     |none=>rw [hk] at hs;cases hs
     |some k=>rw [hk] at hs;exact ⟨t,li,k,ht,hl,hk,hs,rfl⟩
   cases h
 rintro ⟨t,li,k,ht,hl,hk,hs,rfl⟩
 exact ⟨t,ht,by rw [hk,hl];simp [hs]⟩
theorem m7 {e:Nat} {rows:List Row} (h:rows≠[]):(jR.arr e rows).bM=amH:=by
 cases rows with
 |nil=>exact absurd rfl h
 |cons _ _=>rfl
section
variable {im eB : Im} {loc : Loc} {aE : cK} {w : World}
def Over (im eB:Im) (loc:Loc) (aE:cK) (w:World) (t:Nat):Prop:=
 ∀li,loc t=amF li-> ∃k,aE[t]? =amF k/\BR im loc w li k/\(k.bM=amH->eB li.df=w.heap[li.df]?)
def afy (eB:Im) (loc:Loc) (bx:Nat->Option (List PV)) (t:Nat):Prop:=
 ∀li cs,loc t=amF li->bx t=amF cs-> ∃vs,eX eB fW cs vs/\ ∀(j:Nat) (v:Value),vs[j]? =amF v->nM eB li.df (li.sh+j)=amF v
theorem yr {b o:Nat} {cs:Array Value} {el:TypeId} {fr:Nat×Nat} (h:im b=amF (.cells cs el fr)):nM im b o=cs[o]?:=by
 unfold nM;rw [h]
theorem bO.KJ {get:Nat->Option Value} {sh esz off len:Nat} {rows:List Row} (h:bO get sh esz rows):bO get (sh+off*esz) esz ((rows.drop off).take len):=(h.drop off).take len
mutual
theorem afz (hi:nN im eB) {bx:Nat->Option (List PV)} {tb:Nat->List Nat} (hb: ∀t,(∀u,u∈tb t->Over im eB loc aE w u)->Over im eB loc aE w t->afy eB loc bx t):
 ∀{x y:PV} {v:Value},(∀t,t∈iZ tb x->Over im eB loc aE w t)->VR im loc x v->BT aE bx x=amF y->VR eB fW y v
 | .undef,y,v,_,_,h=>by simp [BT] at h
 | .jy,y,v,_,_,h=>by simp [BT] at h
 | .int k n,y,v,_,hv,h=>by simp only [BT,v6] at h;subst h;rw [hv.gr];exact .int _ _
 | .bool b,y,v,_,hv,h=>by simp only [BT,v6] at h;subst h;rw [hv.jB];exact .bool _
 | .str b,y,v,_,hv,h=>by simp only [BT,v6] at h;subst h;rw [hv.DO];exact .str _
 | .agg cs,y,v,ht,hv,h=>by
  simp only [BT,AC] at h;obtain ⟨ys,Te,rfl⟩:=h;obtain ⟨vs,rfl,oG⟩:=hv.pj;exact .agg _ _ (xy hi hb (fun t h=>ht t (by simpa [iZ] using h)) oG Te)
 | .cu cs,y,v,ht,hv,h=>by
  simp only [BT,AC] at h;obtain ⟨ys,Te,rfl⟩:=h;obtain ⟨vs,rfl,oG⟩:=hv.AH;exact .cu _ _ (xy hi hb (fun t h=>ht t (by simpa [iZ] using h)) oG Te)
 | .sl e c rows,y,v,_,hv,h=>by
  simp only [BT,v6] at h;subst h;obtain ⟨a,cap,rfl,h1,h2,h3⟩:=hv.nO;exact .sl e amI rows a cap h1 (by simp) fun dS=>let ⟨b,o,ha,hr⟩:=h3 dS;⟨b,o,ha,hr.mono fun _ _ e=>hi.cell e⟩
 | .own t e off len cap ex,y,v,ht,hv,h=>by
  obtain ⟨li,a,cY,rfl,hl,h2,h3,h4,h5,h6,h7⟩:=hv.gT;obtain ⟨k,hk,rR,WE⟩:=ht t (by simp [iZ]) li hl
  simp only [BT,hk] at h;cases k with
  |arr e' rows=>
   simp only [v6] at h;subst h;obtain ⟨b1,b2,b3⟩:=rR;have cW:((rows.drop off).take len).length=len:=by simp;omega
   have he:e'=e:=by rw [<- b1,h2]
   subst he
   have:=VR.sl (im:=eB) (loc:=fW) e' amI ((rows.drop off).take len) a cY (by omega) (by simp) (fun dS=>by
    have nS:rows≠[]:=by intro e;subst e;simp at dS
    obtain ⟨arr,el,sU,Iz,J',db⟩:=b3 nS;rcases h7 with h7|⟨_,rfl,_⟩
    · exfalso;apply dS;apply aig.1;omega
    refine ⟨_,_,rfl,db.KJ.mono fun k v hkv=>?_⟩
    rw [yr (by rw [WE (m7 nS)];exact sU)];exact hkv)
   rwa [cW] at this
  |_=>cases h
 | .ptr t e row off,y,v,ht,hv,h=>by
  obtain ⟨li,hl,he,hn,rfl⟩:=hv.yp;obtain ⟨k,hk,rR,WE⟩:=ht t (by simp [iZ]) li hl
  simp only [BT,hk] at h;cases k with
  |arr e' rows=>
   simp only [AC] at h;obtain ⟨r,hr,rfl⟩:=h;obtain ⟨b1,b2,b3⟩:=rR;have nS:rows≠[]:=by intro e;subst e;simp at hr
   obtain ⟨arr,el,sU,Iz,J',db⟩:=b3 nS;have Ni:e'=e:=by rw [<- b1,he]
   subst Ni;obtain ⟨h1,h2⟩:=sS (im:=eB) (loc:=fW) db hr;exact .bI r off li.df (li.sh+row*e') _ h1 fun j v hj=>by rw [yr (by rw [WE (m7 nS)];exact sU)];exact h2 j v hj
  |box cs=>
   dsimp only at h;split at h
   · rename_i uB
     have uB:row=0:=by simpa using uB
     subst uB;rw [AC] at h;obtain ⟨ys,Te,rfl⟩:=h;obtain ⟨vs,h1,h2⟩:=hb t (fun u hu=>ht u (by simp [iZ,hu])) (ht t (by simp [iZ])) li ys hl Te
     exact .bI ys off li.df (li.sh+0*e) vs h1 fun j v hj=>by simpa using h2 j v hj
   cases h
  |_=>cases h
 | .bI cs off,y,v,ht,hv,h=>by
  simp only [BT,AC] at h;obtain ⟨ys,Te,rfl⟩:=h;obtain ⟨b,o,vs,h1,h2,rfl⟩:=hv.xo;exact .bI ys off b o vs (xy hi hb (fun t h=>ht t (by simpa [iZ] using h)) h1 Te) fun j v hj=>hi.cell (h2 j v hj)
 | .mp t,y,v,_,_,h=>by simp [BT] at h
 | .eL fn a b,y,v,ht,hv,h=>by
  simp only [BT] at h;cases ha:BU aE bx a with
  |none=>rw [ha] at h;cases h
  |some a'=>
   cases Az:BU aE bx b with
   |none=>rw [ha,Az] at h;cases h
   |some b'=>
    rw [ha,Az] at h;simp only [v6] at h;subst h;cases hv with
    |eL _ _ _ as bs h1 h2=>
     exact .eL fn a' b' as bs (xy hi hb (fun t h=>ht t (by simp [iZ,h])) h1 ha) (xy hi hb (fun t h=>ht t (by simp [iZ,h])) h2 Az)
 | .dU,y,v,_,hv,h=>by
  simp only [BT,v6] at h;subst h;cases hv;exact .dU
theorem xy (hi:nN im eB) {bx:Nat->Option (List PV)} {tb:Nat->List Nat} (hb: ∀t,(∀u,u∈tb t->Over im eB loc aE w u)->Over im eB loc aE w t->afy eB loc bx t):
 ∀{x y:List PV} {v:List Value},(∀t,t∈dC tb x->Over im eB loc aE w t)->eX im loc x v->BU aE bx x=amF y->eX eB fW y v
 | [],y,v,_,hv,h=>by simp only [BU,v6] at h;subst h;cases hv;exact .nil
 |x::xs,y,v,ht,hv,h=>by
  simp only [BU] at h;cases hx:BT aE bx x with
  |none=>rw [hx] at h;cases h
  |some x'=>
   cases Q8:BU aE bx xs with
   |none=>rw [hx,Q8] at h;cases h
   |some xs'=>
    rw [hx,Q8] at h;simp only [v6] at h;subst h;cases hv with
    |cons _ u _ us h1 h2=>
     exact .cons _ _ _ _ (afz hi hb (fun t h=>ht t (by simp [dC,h])) h1 hx) (xy hi hb (fun t h=>ht t (by simp [dC,h])) h2 Q8)
end
theorem Pp (hi:nN im eB): ∀(n:Nat) (t:Nat),(∀u,u∈di aE n t->Over im eB loc aE w u)->Over im eB loc aE w t->afy eB loc (xi aE n) t
 |0,t,_,_=>by intro li cs _ h;cases h
 |n+1,t,ht,hto=>by
  intro li cs hl h;obtain ⟨k,hk,rR,WE⟩:=hto li hl;simp only [xi,hk] at h;cases k with
  |box cells=>
   dsimp only at h;obtain ⟨b1,b2,b3,vs,el,h4,h5,h6⟩:=rR;refine ⟨vs,xy hi (fun t'=>Pp hi n t') (tb:=di aE n) (fun u hu=>ht u (by simp [di,hk,hu])) h6 h,fun j v hj=>?_⟩
   rw [yr (by rw [WE rfl];exact h4),b3]
   simpa using hj
  |_=>cases h
end
end Go.Vm
/- A pure call: what comes back. -/
namespace Go.Vm
section
variable {im eB : Im} {loc bm : Loc} {aE : cK} {w : World}
mutual
theorem KK: ∀{x:PV} {v:Value},x.ky=amH->VR im loc x v->VR eB bm x v
 | .int k n,v,_,h=>by rw [h.gr];exact .int _ _
 | .bool b,v,_,h=>by rw [h.jB];exact .bool _
 | .str s,v,_,h=>by rw [h.DO];exact .str _
 | .agg cs,v,hn,h=>by
  obtain ⟨vs,rfl,hr⟩:=h.pj;exact .agg _ _ (B6 (by simpa [PV.ky] using hn) hr)
 | .cu cs,v,hn,h=>by
  obtain ⟨vs,rfl,hr⟩:=h.AH;exact .cu _ _ (B6 (by simpa [PV.ky] using hn) hr)
 | .undef,_,hn,_=>by simp [PV.ky] at hn
 | .jy,_,hn,_=>by simp [PV.ky] at hn
 | .sl ..,_,hn,_=>by simp [PV.ky] at hn
 | .own ..,_,hn,_=>by simp [PV.ky] at hn
 | .ptr ..,_,hn,_=>by simp [PV.ky] at hn
 | .bI ..,_,hn,_=>by simp [PV.ky] at hn
 | .mp ..,_,hn,_=>by simp [PV.ky] at hn
 | .eL ..,_,hn,_=>by simp [PV.ky] at hn
 | .dU,_,hn,_=>by simp [PV.ky] at hn
theorem B6: ∀{x:List PV} {v:List Value},vf x=amH->eX im loc x v->eX eB bm x v
 | [],_,_,h=>by cases h;exact .nil
 |x::xs,_,hn,h=>by
  simp only [vf,ut] at hn;cases h with
  |cons _ u _ us h1 h2=>exact .cons _ _ _ _ (KK hn.1 h1) (B6 hn.2 h2)
end
mutual
theorem Tf (hi:nN im eB): ∀{x y:PV} {v:Value},(∀t,t∈iZ sK x->Over im eB loc aE w t)->VR im loc x v->ym aE x=amF y->VR eB bm y v
 | .int k n,y,v,_,hv,h=>by simp only [ym,v6] at h;subst h;rw [hv.gr];exact .int _ _
 | .bool b,y,v,_,hv,h=>by simp only [ym,v6] at h;subst h;rw [hv.jB];exact .bool _
 | .str b,y,v,_,hv,h=>by simp only [ym,v6] at h;subst h;rw [hv.DO];exact .str _
 | .agg cs,y,v,ht,hv,h=>by
  simp only [ym,AC] at h;obtain ⟨ys,Te,rfl⟩:=h;obtain ⟨vs,rfl,oG⟩:=hv.pj;exact .agg _ _ (IG hi (fun t h=>ht t (by simpa [iZ] using h)) oG Te)
 | .cu cs,y,v,ht,hv,h=>by
  simp only [ym,AC] at h;obtain ⟨ys,Te,rfl⟩:=h;obtain ⟨vs,rfl,oG⟩:=hv.AH;exact .cu _ _ (IG hi (fun t h=>ht t (by simpa [iZ] using h)) oG Te)
 | .sl e c rows,y,v,_,hv,h=>by
  simp only [ym,v6] at h;subst h;obtain ⟨a,cap,rfl,h1,h2,h3⟩:=hv.nO;exact .sl e amI rows a cap h1 (by simp) fun dS=>let ⟨b,o,ha,hr⟩:=h3 dS;⟨b,o,ha,hr.mono fun _ _ e=>hi.cell e⟩
 | .own t e off len cap ex,y,v,ht,hv,h=>by
  obtain ⟨li,a,cY,rfl,hl,h2,h3,h4,h5,h6,h7⟩:=hv.gT;obtain ⟨k,hk,rR,WE⟩:=ht t (by simp [iZ]) li hl
  simp only [ym,hk] at h;cases k with
  |arr e' rows=>
   simp only [v6] at h;subst h;obtain ⟨b1,b2,b3⟩:=rR;have cW:((rows.drop off).take len).length=len:=by simp;omega
   have he:e'=e:=by rw [<- b1,h2]
   subst he
   have:=VR.sl (im:=eB) (loc:=bm) e' amI ((rows.drop off).take len) a cY (by omega) (by simp) (fun dS=>by
    have nS:rows≠[]:=by intro e;subst e;simp at dS
    obtain ⟨arr,el,sU,Iz,J',db⟩:=b3 nS;rcases h7 with h7|⟨_,rfl,_⟩
    · exfalso;apply dS;apply aig.1;omega
    refine ⟨_,_,rfl,db.KJ.mono fun k v hkv=>?_⟩
    rw [yr (by rw [WE (m7 nS)];exact sU)];exact hkv)
   rwa [cW] at this
  |_=>cases h
 | .undef,_,_,_,_,h=>by simp [ym] at h
 | .jy,_,_,_,_,h=>by simp [ym] at h
 | .ptr ..,_,_,_,_,h=>by simp [ym] at h
 | .bI ..,_,_,_,_,h=>by simp [ym] at h
 | .mp ..,_,_,_,_,h=>by simp [ym] at h
 | .eL ..,_,_,_,_,h=>by simp [ym] at h
 | .dU,_,_,_,_,h=>by simp [ym] at h
theorem IG (hi:nN im eB): ∀{x y:List PV} {v:List Value},(∀t,t∈dC sK x->Over im eB loc aE w t)->eX im loc x v->Iq aE x=amF y->eX eB bm y v
 | [],y,v,_,hv,h=>by simp only [Iq,v6] at h;subst h;cases hv;exact .nil
 |x::xs,y,v,ht,hv,h=>by
  simp only [Iq] at h;cases hx:ym aE x with
  |none=>rw [hx] at h;cases h
  |some x'=>
   cases Q8:Iq aE xs with
   |none=>rw [hx,Q8] at h;cases h
   |some xs'=>
    rw [hx,Q8] at h;simp only [v6] at h;subst h;cases hv with
    |cons _ u _ us h1 h2=>
     exact .cons _ _ _ _ (Tf hi (fun t h=>ht t (by simp [dC,h])) h1 hx) (IG hi (fun t h=>ht t (by simp [dC,h])) h2 Q8)
end
theorem pq {l:List Nat} {t:Nat}:has l t=amH↔t∈l:=by
 unfold has;rw [List.any_eq_true];constructor
 · rintro ⟨x,hx,h⟩
   have:t=x:=by simpa using h
   subst this;exact hx
 intro h;exact ⟨t,h,by simp⟩
theorem jC {l:List Nat} {t:Nat}:has l t=amI↔t∉l:=by
 rw [<- pq];simp
def arQ:Im:=fun _=>amG
structure ImO (dj:Loc) (nT:cK) (GJ:List Nat) (w:World) (seen seen':List Nat) (news:cK) (KL:List LI) (ts:List (Option Nat)):Prop where
 IH:(amE KL)=amE news
 Kn:(amE ts)=amE news
 br: ∀(j:Nat) (k:jR) (li:LI),news[j]? =amF k->KL[j]? =amF li->(∃e rows,k= .arr e rows)/\BR arQ fW w li k
 own: ∀(j:Nat) (k:jR) (li:LI) (t:Nat),news[j]? =amF k->KL[j]? =amF li->ts[j]? =amF (amF t)->dj t=amF li/\nT[t]? =amF k/\t∉GJ/\t∈seen'/\t∉seen
 dum: ∀(j:Nat) (k:jR),news[j]? =amF k->ts[j]? =amF amG->k.bM=amI
 inj: ∀(i j t:Nat),ts[i]? =amF (amF t)->ts[j]? =amF (amF t)->i=j
 sub: ∀t,t∈seen->t∈seen'
theorem ImO.none {dj:Loc} {nT:cK} {GJ:List Nat} {seen:List Nat}:ImO dj nT GJ w seen seen [] [] [] where
 IH:=rfl
 Kn:=rfl
 br:=fun j k li h=>by simp at h
 own:=fun j k li t h=>by simp at h
 dum:=fun j k h=>by simp at h
 inj:=fun i j t h=>by simp at h
 sub:=fun _ h=>h
theorem gu {α:Type} {a b:List α} {j:Nat} {x:α} (h:(a++b)[j]? =amF x):(j<amE a/\a[j]? =amF x)\/(amE a<=j/\b[j-(amE a)]? =amF x):=by
 rcases acK j (amE a) with hj|hj
 · rw [adc hj] at h;exact .inl ⟨hj,h⟩
 rw [acl hj] at h;exact .inr ⟨hj,h⟩
theorem ImO.append {dj:Loc} {nT:cK} {GJ s0 s1 s2:List Nat} {n1 n2:cK} {l1 l2:List LI} {t1 t2:List (Option Nat)} (h:ImO dj nT GJ w s0 s1 n1 l1 t1) (k:ImO dj nT GJ w s1 s2 n2 l2 t2):
 ImO dj nT GJ w s0 s2 (n1++n2) (l1++l2) (t1++t2):=by
 have e1:=h.IH;have e2:=h.Kn;have Tg: ∀(j t:Nat),t1[j]? =amF (amF t)->t∈s1:=by
  intro j t ht;have hj:=(aev.1 ht).1;exact (h.own j n1[j] l1[j] t (NE (by omega)) (NE (by omega)) ht).2.2.2.1
 have Pq: ∀(j t:Nat),t2[j]? =amF (amF t)->t∉s1:=by
  intro j t ht;have hj:=(aev.1 ht).1
  have:=k.IH;have:=k.Kn
  exact (k.own j n2[j] l2[j] t (NE (by omega)) (NE (by omega)) ht).2.2.2.2
 refine ⟨by simp [e1,k.IH],by simp [e2,k.Kn],fun j b li hb hl=>?_,fun j b li t hb hl ht=>?_,fun j b hb ht=>?_,fun i j t hi hj=>?_,fun t ht=>k.sub t (h.sub t ht)⟩
 · rcases gu hb with ⟨h1,hb⟩|⟨h1,hb⟩
   · rcases gu hl with ⟨h2,hl⟩|⟨h2,hl⟩
     · exact h.br j b li hb hl
     omega
   rcases gu hl with ⟨h2,hl⟩|⟨h2,hl⟩
   · omega
   rw [e1] at hl;exact k.br _ b li hb hl
 · rcases gu hb with ⟨h1,hb⟩|⟨h1,hb⟩
   · rcases gu hl with ⟨h2,hl⟩|⟨h2,hl⟩
     · rcases gu ht with ⟨h3,ht⟩|⟨h3,ht⟩
       · obtain ⟨a1,a2,a3,a4,a5⟩:=h.own j b li t hb hl ht
         exact ⟨a1,a2,a3,k.sub t a4,a5⟩
       omega
     omega
   rcases gu hl with ⟨h2,hl⟩|⟨h2,hl⟩
   · omega
   rcases gu ht with ⟨h3,ht⟩|⟨h3,ht⟩
   · omega
   rw [e1] at hl;rw [e2] at ht
   obtain ⟨a1,a2,a3,a4,a5⟩:=k.own _ b li t hb hl ht;exact ⟨a1,a2,a3,a4,fun hs=>a5 (h.sub t hs)⟩
 · rcases gu hb with ⟨h1,hb⟩|⟨h1,hb⟩
   · rcases gu ht with ⟨h3,ht⟩|⟨h3,ht⟩
     · exact h.dum j b hb ht
     omega
   rcases gu ht with ⟨h3,ht⟩|⟨h3,ht⟩
   · omega
   rw [e2] at ht;exact k.dum _ b hb ht
 rcases gu hi with ⟨h1,hi⟩|⟨h1,hi⟩
 · rcases gu hj with ⟨h2,hj⟩|⟨h2,hj⟩
   · exact h.inj i j t hi hj
   exact absurd (Tg i t hi) (Pq _ t hj)
 rcases gu hj with ⟨h2,hj⟩|⟨h2,hj⟩
 · exact absurd (Tg j t hj) (Pq _ t hi)
 have:=k.inj _ _ t hi hj;omega
def aeI (dj:Loc) (nT:cK) (DP:Im) (w:World):Prop:= ∀t li,dj t=amF li-> ∃k,nT[t]? =amF k/\BR DP dj w li k
mutual
theorem Th {DP:Im} {dj:Loc} {nT:cK} {GJ:List Nat} (hk:aeI dj nT DP w): ∀{x y:PV} {v:Value} {nx:Nat} {seen seen':List Nat} {news:cK},
 VR DP dj x v->zb nT GJ nx seen x=amF (y,news,seen')->
 ∃KL ts,ImO dj nT GJ w seen seen' news KL ts/\ ∀(DQ:Im) (qF:Loc),(∀(j:Nat) (li:LI),KL[j]? =amF li->qF (nx+j)=amF li)->VR DQ qF y v
 | .int k n,y,v,nx,seen,seen',news,hv,h=>by
  simp only [zb,v6,aeF] at h;obtain ⟨rfl,rfl,rfl⟩:=h;exact ⟨[],[],.none,fun _ _ _=>by rw [hv.gr];exact .int _ _⟩
 | .bool k,y,v,nx,seen,seen',news,hv,h=>by
  simp only [zb,v6,aeF] at h;obtain ⟨rfl,rfl,rfl⟩:=h;exact ⟨[],[],.none,fun _ _ _=>by rw [hv.jB];exact .bool _⟩
 | .agg cs,y,v,nx,seen,seen',news,hv,h=>by
  simp only [zb,AC,aeF] at h;obtain ⟨⟨ys,n2,s2⟩,hr,rfl,rfl,rfl⟩:=h;obtain ⟨vs,rfl,oG⟩:=hv.pj;obtain ⟨KL,ts,h1,h2⟩:=II hk oG hr;exact ⟨KL,ts,h1,fun DQ qF hl=> .agg _ _ (h2 DQ qF hl)⟩
 | .cu cs,y,v,nx,seen,seen',news,hv,h=>by
  simp only [zb,AC,aeF] at h;obtain ⟨⟨ys,n2,s2⟩,hr,rfl,rfl,rfl⟩:=h;obtain ⟨vs,rfl,oG⟩:=hv.AH;obtain ⟨KL,ts,h1,h2⟩:=II hk oG hr;exact ⟨KL,ts,h1,fun DQ qF hl=> .cu _ _ (h2 DQ qF hl)⟩
 | .sl e c rows,y,v,nx,seen,seen',news,hv,h=>by
  obtain ⟨a,cap,rfl,h1,h2,h3⟩:=hv.nO;cases c with
  |false=>simp [zb] at h
  |true=>
   cases rows with
   |cons r rs=>simp [zb] at h
   |nil=>
    simp only [zb,v6,aeF] at h;obtain ⟨rfl,rfl,rfl⟩:=h;have GN:cap=0:=h2 rfl;subst GN;refine ⟨[⟨0,0,e,0,0⟩],[amG],⟨rfl,rfl,fun j k li hj hl=>?_,fun j k li t hj hl ht=>?_,fun j k hj ht=>?_,fun i j t hi hj=>?_,fun _ h=>h⟩,fun DQ qF hl=>?_⟩
    · cases j with
      |zero=>
       simp at hj hl;subst hj hl;exact ⟨⟨_,_,rfl⟩,rfl,rfl,fun dS=>absurd rfl dS⟩
      |succ j=>simp at hj
    · cases j<;>simp at ht
    · cases j with
      |zero=>simp at hj;subst hj;rfl
      |succ j=>simp at hj
    · cases i<;>simp at hi
    exact .own nx e 0 0 0 amI ⟨0,0,e,0,0⟩ a 0 (hl 0 _ rfl) rfl (If _) (If _) (If _) (by simp) (.inl rfl)
 | .own t e off len cap ex,y,v,nx,seen,seen',news,hv,h=>by
  obtain ⟨li,a,cY,rfl,hl,h2,h3,h4,h5,h6,h7⟩:=hv.gT;obtain ⟨k,uC,rR⟩:=hk t li hl;simp only [zb,uC] at h;cases k with
  |arr e' rows=>
   dsimp only at h;split at h
   · cases h
   rename_i hs
   simp only [al8,not_or,Bool.not_eq_true] at hs;simp only [v6,aeF] at h;obtain ⟨rfl,rfl,rfl⟩:=h;refine ⟨[li],[amF t],⟨rfl,rfl,fun j k li' hj me=>?_,fun j k li' t' hj me ht=>?_,fun j k hj ht=>?_,fun i j t hi hj=>?_,fun _ h=>aft _ h⟩,fun DQ qF Kw=>?_⟩
   · cases j with
     |zero=>simp at hj me;subst hj me;exact ⟨⟨_,_,rfl⟩,rR⟩
     |succ j=>simp at hj
   · cases j with
     |zero=>
      simp at hj me ht;subst hj me ht;exact ⟨hl,uC,jC.1 hs.2,by simp,jC.1 hs.1⟩
     |succ j=>simp at hj
   · cases j<;>simp at ht
   · cases i with
     |zero=>
      cases j with
      |zero=>rfl
      |succ j=>simp at hj
     |succ i=>simp at hi
   exact .own nx e off len cap amI li a cY (Kw 0 _ rfl) h2 h3 h4 h5 (fun h=>by cases h) h7
  |_=>cases h
 | .str s,y,v,nx,seen,seen',news,hv,h=>by simp [zb] at h
 | .undef,y,v,nx,seen,seen',news,hv,h=>by simp [zb] at h
 | .jy,y,v,nx,seen,seen',news,hv,h=>by simp [zb] at h
 | .ptr ..,y,v,nx,seen,seen',news,hv,h=>by simp [zb] at h
 | .bI ..,y,v,nx,seen,seen',news,hv,h=>by simp [zb] at h
 | .mp ..,y,v,nx,seen,seen',news,hv,h=>by simp [zb] at h
 | .eL ..,y,v,nx,seen,seen',news,hv,h=>by simp [zb] at h
 | .dU,y,v,nx,seen,seen',news,hv,h=>by simp [zb] at h
theorem II {DP:Im} {dj:Loc} {nT:cK} {GJ:List Nat} (hk:aeI dj nT DP w): ∀{x y:List PV} {v:List Value} {nx:Nat} {seen seen':List Nat} {news:cK},
 eX DP dj x v->Ir nT GJ nx seen x=amF (y,news,seen')->
 ∃KL ts,ImO dj nT GJ w seen seen' news KL ts/\ ∀(DQ:Im) (qF:Loc),(∀(j:Nat) (li:LI),KL[j]? =amF li->qF (nx+j)=amF li)->eX DQ qF y v
 | [],y,v,nx,seen,seen',news,hv,h=>by
  simp only [Ir,v6,aeF] at h;obtain ⟨rfl,rfl,rfl⟩:=h;cases hv;exact ⟨[],[],.none,fun _ _ _=> .nil⟩
 |x::xs,y,v,nx,seen,seen',news,hv,h=>by
  simp only [Ir] at h;cases h1:zb nT GJ nx seen x with
  |none=>rw [h1] at h;cases h
  |some r1=>
   obtain ⟨y1,n1,s1⟩:=r1;rw [h1] at h;dsimp only at h;cases h2:Ir nT GJ (nx+amE n1) s1 xs with
   |none=>rw [h2] at h;cases h
   |some r2=>
    obtain ⟨y2,n2,s2⟩:=r2;rw [h2] at h;simp only [v6,aeF] at h;obtain ⟨rfl,rfl,rfl⟩:=h;cases hv with
    |cons _ u _ us hx Q8=>
     obtain ⟨l1,t1,a1,b1⟩:=Th hk hx h1;obtain ⟨l2,t2,a2,b2⟩:=II hk Q8 h2;refine ⟨l1++l2,t1++t2,a1.append a2,fun DQ qF hl=> .cons _ _ _ _ (b1 DQ qF fun j li hj=>?_) (b2 DQ qF fun j li hj=>?_)⟩
     · have:=(aev.1 hj).1
       exact hl j li (by rw [adc this];exact hj)
     have:=hl (amE n1+j) li (by rw [acl (by rw [a1.IH];omega),a1.IH,show (amE n1)+j-(amE n1)=j by omega];exact hj)
     rwa [<- af9] at this
end
end
end Go.Vm
