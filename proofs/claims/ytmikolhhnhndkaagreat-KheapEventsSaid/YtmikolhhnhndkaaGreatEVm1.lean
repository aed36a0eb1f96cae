/- The logical machine, part 1: VmDef, VmWp, VmChk, VmRel, VmRen, VmOps1, VmEff, VmOps2, VmOps3, VmOps4, VmOps5, VmOps6, VmOps7, VmOps8, VmOps9, VmEq, VmMap, VmOpsA, VmCall, VmCall2. -/
import GoSem.Dispatch
import Derived.Laws.StructEq
import Derived.Calls
import Derived.Below
import Derived.Laws.CopyRow
import Derived.Deep.AppendSrc
import Derived.Deep.Upon
import Derived.WideKeyRuns
open Bool renaming and_eq_true->ut,false_eq_true->ad2,not_eq_true'->ad7,or_eq_true->aeJ,true_and->agy,and_true->agK,true->ah5,false->ah8
open Option.some renaming injEq->v6
open Go.Result renaming andThen_ok->ww
open Option renaming map_eq_some_iff->AC,getD_some->ad6,isSome_iff_exists->adB,getD_none->aed,isSome_some->aeU,map_some->aft,any_some->afE,some->ah0,none->ah4
open Go.Sem renaming run_bind->Do,run_pure->EQ
open Nat renaming le_refl->If,beq->IR,add_mul->UV,mul_le_mul_right->ac6,lt_or_ge->ad0,ble->ad3,beq_eq->ads,ble_eq->adX,add_assoc->adZ,blt->aeb,le_max_right->aes,zero_add->aeE,le_max_left->aeH,eq_zero_or_pos->aeV,min_eq_left->afB,mul_eq_zero->afC,mul_le_mul->afK,add_zero->agQ,zero_mul->agT
open Array renaming getElem?_eq_some_iff->M2,getElem?_setIfInBounds->ad4,ext'->ad9,length_toList->adG,map->aea,range->aen,toList_map->aeA,getElem?_eq_none->aeC,getElem?_push->aeS
open List renaming getElem?_eq_none->NE,getElem?_eq_getElem->PP,getElem?_append_right->acl,getElem?_append_left->ad1,mem_singleton->ad5,getElem?_eq_some_iff->ad8,replicate->adc,getElem?_toArray->adu,mem_append->adz,flatMap_cons->adA,length_cons->adU,length_append->adV,size_toArray->adW,getElem?_take_of_lt->adY,mem_cons->ae6,foldl_cons->ae9,drop_eq_nil_of_le->aec,mem_of_getElem?->aee,mem_iff_getElem->aef,mem_cons_of_mem->aeg,getElem?_drop->aeh,extract_eq_take_drop->ael,ext_getElem?->aem,flatMap_nil->aev,getElem?_cons_zero->aew,length_take->aez,length_eq_zero_iff->aeB,getElem?_set_self->aeD,take_of_length_le->aeG,length_nil->aeI,take_append_drop->aeK,getElem?_set_ne->aeR,flatMap_append->aeT,mem_replicate->aeW,append_assoc->afa,isEmpty_iff->afb,foldlM_cons->afd,all_eq_true->afq,drop_drop->agd,mapM_cons->ags,map_cons->agB,getD->agO,length->agU,length->agY
open Prod.mk renaming injEq->adD
open Int renaming toNat_natCast->aeo
open Decidable renaming decide->ahd
/- Definitions of a logical machine over pure values: what it computes is tied to the model's runs in VmSound. -/
namespace Go.Vm
universe u
theorem lw{α:Sort u}{a b:α}:cond ah5 a b=a:=rfl
theorem pp{α:Sort u}{a b:α}:cond ah8 a b=b:=rfl
theorem rc{c:Prop}{h:Decidable c}(p:c){α:Sort u}{t e:α}:ite c t e=t:=if_pos p
theorem sp{c:Prop}{h:Decidable c}(p:¬c){α:Sort u}{t e:α}:ite c t e=e:=if_neg p
inductive PV where
 |undef
 |iI
 |int (k:IntKind) (n:Int)
 |bool (b:Bool)
 |str (s:ByteArray)
 |agg (cs:List PV)
 |bT (cs:List PV)
 |sl (esz:Nat) (pD:Bool) (rows:List (List PV))
 |own (t esz off len cap:Nat) (ex:Bool)
 |ptr (t esz row off:Nat)
 |bw (cells:List PV) (off:Nat)
 |mp (t:Nat)
 |ed (fn:FuncId) (fst cap:List PV)
 |dv
instance:Inhabited PV:=⟨.undef⟩
abbrev Row:=List PV
inductive jc where
 |arr (esz:Nat) (rows:List Row)
 |box (cells:List PV)
 |map (es:List (PV×PV))
 |dead
abbrev bS:=List jc
abbrev Env:=List (Nat×PV)
inductive eL where
 |t (n:Nat)
 |c (v:PV)
inductive CM where
 |Sq|own|shr|fp
inductive jL where
 |OV (x:eL)
 |pick (c a b:eL)
 |bin (op:BinOp) (x y:eL)
 |HP (neg:Bool) (x y:eL)
 |Xc (n:Nat) (neg:Bool) (x y:eL)
 |un (op:UnOp) (x:eL)
 |conv (k:IntKind) (x:eL)
 |len (x:eL)
 |Kn (n:Nat)
 |box (x:eL)
 |alloc (cells:List PV)
 |build (zero:List PV) (parts:List (Nat×Nat×eL))
 |zt (esz n:Nat) (zero:Row) (parts:List (Nat×eL))
 |BM (x y:eL)
 |load (agg:Option Nat) (p:eL)
 |store (sz:Nat) (p v:eL)
 |HQ (x:eL)
 |HR (off:Nat) (p:eL)
 |iq (agg:Option Nat) (off:Nat) (x:eL)
 |HS (esz:Nat) (x i:eL)
 |BN (n esz:Nat) (p i:eL)
 |idx (n esz:Nat) (agg:Option Nat) (x i:eL)
 |HT (x i:eL)
 |Nk (esz:Nat) (x:eL) (lo hi mx:Option eL)
 |Xd (esz:Nat) (zero:Row) (len cap:eL)
 |Xe (fn:FuncId) (fst cap:List eL)
 |Xf (z:Option PV)
 |lookup (n:Option Nat) (zero:PV) (ok:Bool) (m k:eL)
 |Gt (n:Option Nat) (m k v:eL)
 |ext (i:Nat) (x:eL)
 |append (esz:Nat) (x y:eL)
 |copy (esz:Nat) (x y:eL)
 |clear (esz:Nat) (zero:Row) (x:eL)
 |mm (isMax:Bool) (x:eL) (xs:List eL)
 |call (m:CM) (f:FuncId) (args:List eL)
 |u4 (x:eL) (args:List eL)
 |bad
structure bD where
 dst:Option Nat
 op:jL
 guard:Option (Nat×Bool)
inductive iF where
 |skip
 |region (draw:Option (List Nat)) (ops:List bD) (fc:List Nat)
 |seq (a b:iF)
 |cond (c:eL) (a b:iF)
 |block (id:Nat) (b:iF)
 |loop (live:List (Nat×Option Nat)) (b:iF)
 |exit (id:Nat)
 |ret
inductive RV where
 |tmp (t:Nat)
 |cell (t:Nat) (agg:Option Nat)
structure aL where
 BO:Nat
 code:iF
 res:List RV
inductive Sr where
 |code (x:aL)
 |ir (L0:Bool) (f:List PV->Option (PV×bS))
 |Nl (f:List PV->bS->List Nat->Option (PV×bS×List Nat))
abbrev jM:=FuncId->Option Sr
structure St where
 env:Env
 az:bS
 fz:List Nat
 kn:Nat
inductive gg where
 |normal
 |exit (id:Nat)
 |ret
def lk (t:Nat):Env->PV
 | []=> .undef
 |(s,v)::r=>if IR s t then v else lk t r
def eL.ev (e:Env):eL->PV
 | .t n=>lk n e
 | .c v=>v
def PV.oP:PV->Bool
 | .undef| .iI| .agg _| .bT _=>ah8
 |_=>ah5
def PV.plain:PV->Bool
 | .int _ _| .bool _| .str _=>ah5
 |_=>ah8
def PV.cells:PV->List PV
 | .agg cs=>cs
 |v=>[v]
def PV.stored (v:PV):Option (List PV):=if v.cells.all PV.oP then ah0 v.cells else ah4
def PV.bW (v:PV):Option (List PV):=if v.cells.all PV.plain then ah0 v.cells else ah4
def part (agg:Option Nat) (off:Nat) (cs:List PV):Option PV:=
 match agg with
 |some s=>if off+s<=(agY cs) then ah0 (.agg ((cs.drop off).take s)) else ah4
 |none=>cs[off]?
def mB (off:Nat) (new old:List PV):List PV:=old.take off++new++old.drop (off+agY new)
def aj (k:IntKind) (n:Int):Int:=
 match k,n with
 | .i64,.ofNat m=>if aeb m 9223372036854775808 then .ofNat m else IntKind.wrap .i64 n
 | .i64,.negSucc m=>if aeb m 9223372036854775808 then .negSucc m else IntKind.wrap .i64 n
 | .u64,.ofNat m=> .ofNat (Nat.mod m 18446744073709551616)
 |k,n=>IntKind.wrap k n
def arith (op:BinOp) (k:IntKind) (a b:Int):Option PV:=
 match op with
 | .add=>ah0 (.int k (aj k (a+b)))
 | .sub=>ah0 (.int k (aj k (a-b)))
 | .mul=>ah0 (.int k (aj k (a*b)))
 | .quo=>if b=0 then ah4 else ah0 (.int k (aj k (a.tdiv b)))
 | .rem=>if b=0 then ah4 else ah0 (.int k (a.tmod b))
 | .and=>ah0 (.int k (k.wrap (BitVec.ofInt k.bits a&&&BitVec.ofInt k.bits b).toNat))
 | .or=>ah0 (.int k (k.wrap (BitVec.ofInt k.bits a|||BitVec.ofInt k.bits b).toNat))
 | .xor=>ah0 (.int k (k.wrap (BitVec.ofInt k.bits a^^^BitVec.ofInt k.bits b).toNat))
 | .andNot=>ah0 (.int k (k.wrap (BitVec.ofInt k.bits a&&& ~~~ BitVec.ofInt k.bits b).toNat))
 | .eql=>ah0 (.bool (a==b))
 | .neq=>ah0 (.bool (a !=b))
 | .lss=>ah0 (.bool (ahd (a<b)))
 | .leq=>ah0 (.bool (ahd (a<=b)))
 | .gtr=>ah0 (.bool (ahd (a>b)))
 | .geq=>ah0 (.bool (ahd (a>=b)))
 | .shl| .shr=>ah4
def AQ (op:BinOp) (k:IntKind) (a b:Int):Option PV:=
 if b<0 then ah4 else
 let n:=min b.toNat k.bits
 match op with
 | .shl=>ah0 (.int k (k.wrap (a*2^n)))
 | .shr=>ah0 (.int k (a.fdiv (2^n)))
 |_=>ah4
def eG:IntKind->IntKind->Bool
 | .i8,.i8| .i16,.i16| .i32,.i32| .i64,.i64| .u8,.u8| .u16,.u16| .u32,.u32| .u64,.u64=>ah5
 |_,_=>ah8
def Nn (op:BinOp) (x y:PV):Option PV:=
 match x,y with
 | .int k a,.int l b=>
  match op with
  | .shl=>AQ .shl k a b
  | .shr=>AQ .shr k a b
  |op=>if eG k l then arith op k a b else ah4
 |_,_=>ah4
def pE:PV->PV->Option Bool
 | .int k a,.int l b=>if eG k l then ah0 (a==b) else ah4
 |_,_=>ah4
def cU:List PV->List PV->Option Bool
 | [],[]=>ah0 ah5
 |x::xs,y::ys=>
  match pE x y with
  |some ah5=>cU xs ys
  |some ah8=>ah0 ah8
  |none=>ah4
 |_,_=>ah4
def unE (op:UnOp) (x:PV):Option PV:=
 match op,x with
 | .neg,.int k n=>ah0 (.int k (aj k (0-n)))
 | .not,.bool b=>ah0 (.bool !b)
 |_,_=>ah4
def rowsOf (az:bS) (esz:Nat):PV->Option (List Row)
 | .sl e _ rows=>match rows with
  | []=>ah0 []
  |_=>if IR e esz then ah0 rows else ah4
 | .own t e off len _ _=>if IR e esz then (match az[t]? with
  |some (.arr _ rows)=>ah0 ((rows.drop off).take len)
  |_=>ah4) else ah4
 |_=>ah4
def hG:PV->List Nat
 | .own t _ _ _ _ _=>[t]
 |_=>[]
structure mC where
 v:PV
 news:bS:=[]
 wr:List (Nat×jc):=[]
 rd:List Nat:=[]
 fr:List Nat:=[]
def lS:List (Nat×Nat×PV)->List PV->Option (List PV)
 | [],cs=>ah0 cs
 |(off,sz,v)::r,cs=>
  match v.stored with
  |some w=>if IR (agY w) sz&&ad3 (off+sz) (agY cs) then lS r (mB off w cs) else ah4
  |none=>ah4
def oQ:List (Nat×PV)->List Row->Nat->Option (List Row)
 | [],rows,_=>ah0 rows
 |(i,v)::r,rows,esz=>
  match v.bW with
  |some w=>if IR (agY w) esz&&aeb i (agY rows) then oQ r (rows.set i w) esz else ah4
  |none=>ah4
def jd:PV->Option Nat
 | .int _ n=>match n with
  | .ofNat m=>ah0 m
  | .negSucc _=>ah4
 |_=>ah4
def iP (n:Option Nat) (k:PV):Bool:=
 match n,k with
 |none,.int _ _=>ah5
 |some n,.agg cs=>IR (agY cs) n
 |_,_=>ah8
def eE (n:Option Nat) (k:PV):List (PV×PV)->Nat->Option (Option Nat)
 | [],_=>ah0 ah4
 |(a,_)::r,i=>
  if iP n a then
   match cU k.cells a.cells with
   |some ah5=>ah0 (ah0 i)
   |some ah8=>eE n k r (i+1)
   |none=>ah4
  else ah4
def kI:Nat:=1048576
def nH (az:bS) (agg:Option Nat):PV->Option mC
 | .ptr t _ row off=>match az[t]? with
  |some (.arr _ rows)=>match rows[row]? with
   |some cs=>(part agg off cs).map fun v=>{v,rd:=[t]}
   |none=>ah4
  |some (.box cs)=>if IR row 0 then (part agg off cs).map fun v=>{v,rd:=[t]} else ah4
  |_=>ah4
 | .bw cs off=>(part agg off cs).map fun v=>{v}
 |_=>ah4
def has (l:List Nat) (t:Nat):Bool:=l.any (IR t)
def qB (az:bS) (fz:List Nat) (sz:Nat) (v:PV):PV->Option mC
 | .ptr t _ row off=>match az[t]? with
  |some (.arr e rows)=>match rows[row]?,v.bW with
   |some cs,ah0 w=>if IR (agY w) sz&&ad3 (off+sz) (agY cs)&&!has fz t then
    ah0 {v:= .undef,wr:=[(t,.arr e (rows.set row (mB off w cs)))]} else ah4
   |_,_=>ah4
  |some (.box cs)=>match v.stored with
   |some w=>if IR row 0&&IR (agY w) sz&&ad3 (off+sz) (agY cs)&&!has fz t then
    ah0 {v:= .undef,wr:=[(t,.box (mB off w cs))]} else ah4
   |none=>ah4
  |_=>ah4
 |_=>ah4
def sX (esz:Nat):PV->Bool
 | .sl e _ rows=>IR e esz||rows.isEmpty
 | .own _ e _ _ _ _=>IR e esz
 |_=>ah8
def pF (x:PV) (lo hi mx:Option Nat):Option PV:=
 match x with
 | .sl e pD rows=>
  let l:=lo.getD 0
  let h:=hi.getD (agY rows)
  match mx with
  |none=>if ad3 l h&&ad3 h (agY rows) then ah0 (.sl e (pD&&IR h (agY rows)) ((rows.drop l).take (h-l))) else ah4
  |some m=>if ad3 l h&&ad3 h m&&ad3 m (agY rows) then ah0 (.sl e (IR h m) ((rows.drop l).take (h-l))) else ah4
 | .own t e off len cap ex=>
  let l:=lo.getD 0
  let h:=hi.getD len
  match mx with
  |none=>if ad3 l h&&ad3 h cap then ah0 (.own t e (off+l) (h-l) (cap-l) ex) else ah4
  |some m=>if ad3 l h&&ad3 h m&&ad3 m cap then ah0 (.own t e (off+l) (h-l) (m-l) ah5) else ah4
 |_=>ah4
def jS:Nat->List Row->List Row->List Row
 |_,[],rows=>rows
 |i,w::r,rows=>jS (i+1) r (rows.set i w)
def hJ (az:bS) (fz:List Nat) (esz:Nat) (x y:PV):Option mC:=
 match rowsOf az esz y with
 |none=>ah4
 |some new=>
  match new with
  | []=>match x with
   | .sl _ pD rows=>if pD&&rows.isEmpty then ah0 {v:= .own (agY az) esz 0 0 0 ah8,news:=[.arr esz []],rd:=hG y} else ah0 {v:=x,rd:=hG y}
   | .own t _ _ len cap ex=>if IR len 0&&IR cap 0&&ex then ah0 {v:= .own (agY az) esz 0 0 0 ah8,news:=[.arr esz []],rd:=t::hG y} else ah0 {v:=x,rd:=hG y}
   |_=>ah4
  |_=>
   let m:=agY new
   match x with
   | .sl e pD rows=>
    if pD&&(IR e esz||IR (agY rows) 0)&&ad3 (agY rows+m) kI then
     ah0 {v:= .own (agY az) esz 0 (agY rows+m) (agY rows+m) ah8,news:=[.arr esz (rows++new)],rd:=hG y}
    else ah4
   | .own t e off len cap ex=>
    match az[t]? with
    |some (.arr _ rows)=>
     if !Nat.beq e esz then ah4
     else if ad3 (len+m) cap then
      if has fz t then ah4 else ah0 {v:= .own t e off (len+m) cap ex,wr:=[(t,.arr e (jS (off+len) new rows))],rd:=hG y}
     else if !Nat.ble (len+m) kI then ah4
     else if ex then
      ah0 {v:= .own (agY az) e 0 (len+m) (len+m) ah8,news:=[.arr e ((rows.drop off).take len++new)],rd:=t::hG y}
     else if has fz t then ah4
     else ah0 {v:= .own (agY az) e 0 (len+m) (len+m) ah8,news:=[.arr e ((rows.drop off).take len++new)],wr:=[(t,.dead)],rd:=hG y}
    |_=>ah4
   |_=>ah4
def Yb (isMax:Bool) (k:IntKind):Int->List PV->Option PV
 |a,[]=>ah0 (.int k a)
 |a,x::r=>match x with
  | .int l b=>if eG k l then Yb isMax k (if isMax then (if b>a then b else a) else (if b<a then b else a)) r else ah4
  |_=>ah4
def C3 (e:Env) (l:List eL):List PV:=l.map (eL.ev e)
def rB (az:bS) (n:Option Nat) (zero:PV) (ok:Bool) (m k:PV):Option mC:=
 match m with
 | .mp t=>match az[t]? with
  |some (.map es)=>if iP n k then (match eE n k es 0 with
   |some (ah0 i)=>match es[i]? with
    |some p=>ah0 {v:=if ok then .bT [p.2,.bool ah5] else p.2,rd:=[t]}
    |none=>ah4
   |some ah4=>ah0 {v:=if ok then .bT [zero,.bool ah8] else zero,rd:=[t]}
   |none=>ah4) else ah4
  |_=>ah4
 |_=>ah4
def BP (az:bS) (fz:List Nat) (n:Option Nat) (m k v:PV):Option mC:=
 match m with
 | .mp t=>match az[t]? with
  |some (.map es)=>if iP n k&&!has fz t then (match k.bW,v.bW with
   |some _,ah0 _=>match eE n k es 0 with
    |some (ah0 i)=>ah0 {v:= .undef,wr:=[(t,.map (es.set i (k,v)))]}
    |some ah4=>ah0 {v:= .undef,wr:=[(t,.map (es++[(k,v)]))]}
    |none=>ah4
   |_,_=>ah4) else ah4
  |_=>ah4
 |_=>ah4
def bq (e:Env) (az:bS) (fz:List Nat):jL->Option mC
 | .OV x=>ah0 {v:=x.ev e}
 | .pick c a b=>match c.ev e with
  | .bool ah5=>ah0 {v:=a.ev e}
  | .bool ah8=>ah0 {v:=b.ev e}
  |_=>ah4
 | .bin op x y=>(Nn op (x.ev e) (y.ev e)).map fun v=>{v}
 | .HP neg x y=>match x.ev e,y.ev e with
  | .bool a,.bool b=>ah0 {v:= .bool (if neg then !(a==b) else a==b)}
  |_,_=>ah4
 | .Xc n neg x y=>match x.ev e,y.ev e with
  | .agg xs,.agg ys=>if IR (agY xs) n&&IR (agY ys) n then (cU xs ys).map fun b=>{v:= .bool (if neg then !b else b)} else ah4
  |_,_=>ah4
 | .un op x=>(unE op (x.ev e)).map fun v=>{v}
 | .conv k x=>match x.ev e with
  | .int _ n=>ah0 {v:= .int k (aj k n)}
  |_=>ah4
 | .len x=>match x.ev e with
  | .sl _ _ rows=>ah0 {v:= .int .i64 (.ofNat (agY rows))}
  | .own _ _ _ len _ _=>ah0 {v:= .int .i64 (.ofNat len)}
  |_=>ah4
 | .Kn n=>ah0 {v:= .int .i64 (.ofNat n)}
 | .box x=>match (x.ev e).stored with
  |some cs=>ah0 {v:= .ptr (agY az) (agY cs) 0 0,news:=[.box cs]}
  |none=>ah4
 | .alloc cells=>ah0 {v:= .ptr (agY az) (agY cells) 0 0,news:=[.box cells]}
 | .build zero parts=>(lS (parts.map fun p=>(p.1,p.2.1,p.2.2.ev e)) zero).map fun cs=>{v:= .agg cs}
 | .zt esz n zero parts=>(oQ (parts.map fun p=>(p.1,p.2.ev e)) (adc n zero) esz).map fun rows=>
  {v:= .own (agY az) esz 0 n n ah5,news:=[.arr esz rows]}
 | .BM x y=>if (x.ev e).oP&&(y.ev e).oP then ah0 {v:= .own (agY az) 1 0 2 2 ah5,news:=[.box [x.ev e,y.ev e]]} else ah4
 | .load agg p=>nH az agg (p.ev e)
 | .store sz p v=>qB az fz sz (v.ev e) (p.ev e)
 | .HQ x=>match x.ev e with
  | .ptr t s r o=>ah0 {v:= .ptr t s r o}
  | .bw c o=>ah0 {v:= .bw c o}
  | .ed f a b=>ah0 {v:= .ed f a b}
  |_=>ah4
 | .HR off p=>match p.ev e with
  | .ptr t s r o=>ah0 {v:= .ptr t s r (o+off)}
  | .bw c o=>ah0 {v:= .bw c (o+off)}
  |_=>ah4
 | .iq agg off x=>match x.ev e with
  | .agg cs=>(part agg off cs).map fun v=>{v}
  |_=>ah4
 | .HS esz x i=>match jd (i.ev e) with
  |none=>ah4
  |some n=>match x.ev e with
   | .sl s _ rows=>match rows[n]? with
    |some cs=>if IR s esz then ah0 {v:= .bw cs 0} else ah4
    |none=>ah4
   | .own t s off len _ _=>if aeb n len&&IR s esz then ah0 {v:= .ptr t s (off+n) 0} else ah4
   |_=>ah4
 | .BN n esz p i=>match jd (i.ev e) with
  |none=>ah4
  |some j=>if aeb j n then (match p.ev e with
   | .ptr t s r o=>ah0 {v:= .ptr t s r (o+j*esz)}
   | .bw c o=>ah0 {v:= .bw c (o+j*esz)}
   |_=>ah4) else ah4
 | .idx n esz agg x i=>match jd (i.ev e) with
  |none=>ah4
  |some j=>if aeb j n then (match x.ev e with
   | .agg cs=>(part agg (j*esz) cs).map fun v=>{v}
   |_=>ah4) else ah4
 | .HT x i=>match jd (i.ev e),x.ev e with
  |some j,.str s=>match s[j]? with
   |some b=>ah0 {v:= .int .u8 b.toNat}
   |none=>ah4
  |_,_=>ah4
 | .Nk esz x lo hi mx=>
  if !sX esz (x.ev e) then ah4 else
  match (match lo with|none=>ah0 ah4|some a=>(jd (a.ev e)).map ah0),
   (match hi with|none=>ah0 ah4|some a=>(jd (a.ev e)).map ah0),
   (match mx with|none=>ah0 ah4|some a=>(jd (a.ev e)).map ah0) with
  |some l,ah0 h,ah0 m=>(pF (x.ev e) l h m).map fun v=>{v}
  |_,_,_=>ah4
 | .Xd esz zero l c=>match jd (l.ev e),jd (c.ev e) with
  |some n,ah0 m=>if ad3 n m&&ad3 m kI then
   ah0 {v:= .own (agY az) esz 0 n m ah5,news:=[.arr esz (adc m zero)]} else ah4
  |_,_=>ah4
 | .Xe fn a b=>ah0 {v:= .ed fn (C3 e a) (C3 e b)}
 | .Xf _=>ah0 {v:= .mp (agY az),news:=[.map []]}
 | .lookup n zero ok m k=>rB az n zero ok (m.ev e) (k.ev e)
 | .Gt n m k v=>BP az fz n (m.ev e) (k.ev e) (v.ev e)
 | .ext i x=>match x.ev e with
  | .bT vs=>vs[i]?.map fun v=>{v}
  |_=>ah4
 | .append esz x y=>hJ az fz esz (x.ev e) (y.ev e)
 | .copy esz x y=>match rowsOf az esz (y.ev e),x.ev e with
  |some src,.own t s off len _ _=>match src.take len with
   | []=>ah0 {v:= .int .i64 0,rd:=hG (y.ev e)}
   |r::rs=>match az[t]? with
    |some (.arr s' rows)=>
     if IR s esz&&!has fz t then
      ah0 {v:= .int .i64 (.ofNat (agY rs+1)),wr:=[(t,.arr s' (jS off (r::rs) rows))],rd:=hG (y.ev e)}
     else ah4
    |_=>ah4
  |_,_=>ah4
 | .clear esz zero x=>match x.ev e with
  | .own t s off len _ _=>match len with
   |0=>ah0 {v:= .undef}
   |len+1=>match az[t]? with
    |some (.arr s' rows)=>
     if IR s esz&&!has fz t then
      ah0 {v:= .undef,wr:=[(t,.arr s' (jS off (adc (len+1) zero) rows))]}
     else ah4
    |_=>ah4
  | .sl _ _ []=>ah0 {v:= .undef}
  |_=>ah4
 | .mm isMax x xs=>match x.ev e with
  | .int k a=>(Yb isMax k a (C3 e xs)).map fun v=>{v}
  |_=>ah4
 | .call .. =>ah4
 | .u4 .. =>ah4
 | .bad=>ah4
mutual
def AR (az:bS) (bx:Nat->Option (List PV)):PV->Option PV
 | .undef=>ah4
 | .iI=>ah4
 | .int k n=>ah0 (.int k n)
 | .bool b=>ah0 (.bool b)
 | .str s=>ah0 (.str s)
 | .agg cs=>(AL az bx cs).map .agg
 | .bT cs=>(AL az bx cs).map .bT
 | .sl e _ rows=>ah0 (.sl e ah8 rows)
 | .own t e off len _ _=>match az[t]? with
  |some (.arr _ rows)=>ah0 (.sl e ah8 ((rows.drop off).take len))
  |_=>ah4
 | .ptr t _ row off=>match az[t]? with
  |some (.box _)=>if IR row 0 then (bx t).map (.bw · off) else ah4
  |some (.arr _ rows)=>rows[row]?.map (.bw · off)
  |_=>ah4
 | .bw cs off=>(AL az bx cs).map (.bw · off)
 | .mp _=>ah4
 | .ed f a b=>match AL az bx a,AL az bx b with
  |some a',ah0 b'=>ah0 (.ed f a' b')
  |_,_=>ah4
 | .dv=>ah0 .dv
def AL (az:bS) (bx:Nat->Option (List PV)):List PV->Option (List PV)
 | []=>ah0 []
 |x::xs=>match AR az bx x,AL az bx xs with
  |some y,ah0 ys=>ah0 (y::ys)
  |_,_=>ah4
end
def vt (az:bS):Nat->Nat->Option (List PV)
 |0,_=>ah4
 |n+1,t=>match az[t]? with
  |some (.box cs)=>AL az (vt az n) cs
  |_=>ah4
mutual
def iu (bx:Nat->List Nat):PV->List Nat
 | .agg cs=>cQ bx cs
 | .bT cs=>cQ bx cs
 | .own t _ _ _ _ _=>[t]
 | .ptr t _ _ _=>t::bx t
 | .bw cs _=>cQ bx cs
 | .mp t=>[t]
 | .ed _ a b=>cQ bx a++cQ bx b
 | .undef| .iI| .int _ _| .bool _| .str _| .sl .. | .dv=>[]
def cQ (bx:Nat->List Nat):List PV->List Nat
 | []=>[]
 |x::xs=>iu bx x++cQ bx xs
end
def rh (_:Nat):List Nat:=[]
def cD (az:bS):Nat->Nat->List Nat
 |0,_=>[]
 |n+1,t=>match az[t]? with
  |some (.box cs)=>cQ (cD az n) cs
  |_=>[]
mutual
def PV.iQ:PV->Bool
 | .int _ _| .bool _| .str _=>ah5
 | .agg cs=>qC cs
 | .bT cs=>qC cs
 |_=>ah8
def qC:List PV->Bool
 | []=>ah5
 |x::xs=>x.iQ&&qC xs
end
mutual
def vB (az:bS):PV->Option PV
 | .int k n=>ah0 (.int k n)
 | .bool b=>ah0 (.bool b)
 | .str s=>ah0 (.str s)
 | .agg cs=>(C4 az cs).map .agg
 | .bT cs=>(C4 az cs).map .bT
 | .sl e _ rows=>ah0 (.sl e ah8 rows)
 | .own t e off len _ _=>match az[t]? with
  |some (.arr _ rows)=>ah0 (.sl e ah8 ((rows.drop off).take len))
  |_=>ah4
 |_=>ah4
def C4 (az:bS):List PV->Option (List PV)
 | []=>ah0 []
 |x::xs=>match vB az x,C4 az xs with
  |some y,ah0 ys=>ah0 (y::ys)
  |_,_=>ah4
end
mutual
def xO (az:bS) (fz:List Nat):Nat->List Nat->PV->Option (PV×bS×List Nat)
 |_,seen,.int k n=>ah0 (.int k n,[],seen)
 |_,seen,.bool b=>ah0 (.bool b,[],seen)
 |nx,seen,.agg cs=>(Gu az fz nx seen cs).map fun r=>(.agg r.1,r.2)
 |nx,seen,.bT cs=>(Gu az fz nx seen cs).map fun r=>(.bT r.1,r.2)
 |nx,seen,.sl e ah5 []=>ah0 (.own nx e 0 0 0 ah8,[.arr e []],seen)
 |nx,seen,.own t e off len cap _=>match az[t]? with
  |some (.arr e' rows)=>if has seen t||has fz t then ah4 else ah0 (.own nx e off len cap ah8,[.arr e' rows],t::seen)
  |_=>ah4
 |_,_,_=>ah4
def Gu (az:bS) (fz:List Nat):Nat->List Nat->List PV->Option (List PV×bS×List Nat)
 |_,seen,[]=>ah0 ([],[],seen)
 |nx,seen,x::xs=>match xO az fz nx seen x with
  |some (y,n1,aei)=>match Gu az fz (nx+agY n1) aei xs with
   |some (ys,n2,aej)=>ah0 (y::ys,n1++n2,aej)
   |none=>ah4
  |none=>ah4
end
def pU:jc->List Nat
 | .box cs=>cQ rh cs
 |_=>[]
def reach (az:bS):Nat->List Nat->List Nat->Option (List Nat)
 |_,[],seen=>ah0 seen
 |0,_::_,_=>ah4
 |n+1,t::ts,seen=>
  if has seen t then reach az n ts seen
  else match az[t]? with
   |some b=>reach az n (pU b++ts) (seen++[t])
   |none=>ah4
def idxOf (t:Nat):List Nat->Option Nat
 | []=>ah4
 |s::r=>if IR s t then ah0 0 else (idxOf t r).map (· +1)
mutual
def zu (m:List Nat):PV->Option PV
 | .agg cs=>(xP m cs).map .agg
 | .bT cs=>(xP m cs).map .bT
 | .own t e off len cap ex=>(idxOf t m).map fun u=> .own u e off len cap ex
 | .ptr t e row off=>(idxOf t m).map fun u=> .ptr u e row off
 | .bw cs off=>(xP m cs).map (.bw · off)
 | .mp t=>(idxOf t m).map .mp
 | .ed f a b=>match xP m a,xP m b with
  |some a',ah0 b'=>ah0 (.ed f a' b')
  |_,_=>ah4
 | .undef=>ah0 .undef
 | .iI=>ah0 .iI
 | .int k n=>ah0 (.int k n)
 | .bool b=>ah0 (.bool b)
 | .str s=>ah0 (.str s)
 | .sl e c rows=>ah0 (.sl e c rows)
 | .dv=>ah0 .dv
def xP (m:List Nat):List PV->Option (List PV)
 | []=>ah0 []
 |x::xs=>match zu m x,xP m xs with
  |some y,ah0 ys=>ah0 (y::ys)
  |_,_=>ah4
end
def mD (m:List Nat):jc->Option jc
 | .box cs=>(xP m cs).map .box
 | .arr e rows=>ah0 (.arr e rows)
 | .map es=>ah0 (.map es)
 | .dead=>ah0 .dead
def vH (az:bS) (m:List Nat):List Nat->Option bS
 | []=>ah0 []
 |t::ts=>match az[t]? with
  |some b=>match mD m b,vH az m ts with
   |some b',ah0 r=>ah0 (b'::r)
   |_,_=>ah4
  |none=>ah4
def vI (fz:List Nat):Nat->List Nat->List Nat
 |_,[]=>[]
 |i,t::ts=>if has fz t then i::vI fz (i+1) ts else vI fz (i+1) ts
def Fs:Option Nat->PV->PV
 |some _,.own t e off len cap _=> .own t e off len cap ah8
 |_,v=>v
def pV (e:Env) (m:List Nat):Nat->List (Nat×Option Nat)->Option (Env×bS)
 |_,[]=>ah0 ([],[])
 |nx,(s,k)::r=>
  match k,lk s e with
  |some esz,.sl _ ah5 []=>(pV e m (nx+1) r).map fun p=>((s,.own nx esz 0 0 0 ah8)::p.1,.arr esz []::p.2)
  |_,v=>match zu m v,pV e m nx r with
   |some v',ah0 p=>ah0 ((s,Fs k v')::p.1,p.2)
   |_,_=>ah4
def sY:Nat->List Nat
 |0=>[]
 |n+1=>sY n++[n]
def pW (st:St) (t c esz:Nat):St:=
 match st.az[t]? with
 |some (.box cs)=>match cs[c]? with
  |some (.sl _ ah5 [])=>{st with az:=st.az.set t (.box (cs.set c (.own (agY st.az) esz 0 0 0 ah8)))++[.arr esz []]}
  |_=>st
 |_=>st
def C5:PV->Option Nat
 | .ptr t _ 0 0=>ah0 t
 |_=>ah4
def HU:PV->Option Nat
 | .ed _ _ (x::_)=>C5 x
 |x=>C5 x
def ju:List (Nat×Option Nat)->St->St
 | [],st=>st
 |(s,k)::r,st=>match k with
  |some n=>if ad3 1000 n then (match HU (lk s st.env) with
   |some t=>ju r (pW st t (n / 1000-1) (n%1000))
   |none=>ju r st) else ju r st
  |none=>ju r st
def C6 (live:List (Nat×Option Nat)) (st:St):Option St:=
 match reach st.az 4096 ((st.az.take st.kn).flatMap pU++live.flatMap fun p=>iu rh (lk p.1 st.env)) (sY st.kn) with
 |none=>ah4
 |some m=>match vH st.az m m,pV st.env m (agY m) live with
  |some s1,ah0 (e1,s2)=>ah0 (ju live {env:=e1,az:=s1++s2,fz:=vI st.fz 0 m,kn:=st.kn})
  |_,_=>ah4
def norm (live:List (Nat×Option Nat)) (st:St):Option St:=
 match C6 live st with
 |some s=>if live.any fun p=>p.2.isSome then C6 live s else ah0 s
 |none=>ah4
inductive Task where
 |func (f:FuncId) (args:List PV) (az:bS) (fz:List Nat)
 |loop (live:List (Nat×Option Nat)) (b:iF) (st:St)
inductive Out where
 |func (v:PV) (az:bS) (fz:List Nat)
 |code (e:gg) (st:St)
structure Tr where
 rd:List Nat
 wr:List Nat
 al:Bool
 HV:Bool
 cl:Bool
 lo:Nat
 hi:Nat
inductive XR where
 |loc (r:mC)
 |shr (v:PV) (az:bS) (fz:List Nat)
def fv:List (Nat×jc)->bS->bS
 | [],s=>s
 |(t,b)::r,s=>fv r (s.set t b)
def C7:PV->Bool
 | .ptr .. =>ah5
 | .own .. =>ah5
 | .mp _=>ah5
 |_=>ah8
def deep:Nat:=8
def cu (F:jM) (rec:Task->Option Out) (own:Bool) (f:FuncId) (args:List PV) (az:bS) (fz:List Nat):Option mC:=
 match AL az (vt az deep) args with
 |none=>ah4
 |some lT=>
  let tk:=cQ (cD az deep) args
  match F f with
  |some (.ir L0 p)=>match p lT with
   |some (v,news)=>match xO news [] (agY az) [] v with
    |some (v',n2,_)=>
     if L0 then match args with
      | .own t _ _ _ _ _::r=>
       let tr:=cQ (cD az deep) r
       if has fz t||has tr t then ah4
       else ah0 {v:=v',news:=n2,wr:=[(t,.dead)],rd:=tr}
      |_=>ah4
     else ah0 {v:=v',news:=n2,rd:=tk}
    |none=>ah4
   |none=>ah4
  |_=>match rec (.func f lT [] []) with
   |some (.func v s1 z1)=>
    if own then match xO s1 z1 (agY az) [] v with
     |some (v',n2,_)=>ah0 {v:=v',news:=n2,rd:=tk}
     |none=>ah4
    else if v.iQ then ah0 {v,rd:=tk}
    else match vB s1 v with
     |some v'=>ah0 {v:=v',rd:=tk,fr:=tk}
     |none=>ah4
   |_=>ah4
def jc.bA:jc->Bool
 | .dead=>ah8
 | .arr _ []=>ah8
 |_=>ah5
def nI:List Nat->List Nat
 | []=>[]
 |t::r=>if has r t then nI r else t::nI r
mutual
def AS (g:Nat->Nat):PV->PV
 | .agg cs=> .agg (u5 g cs)
 | .bT cs=> .bT (u5 g cs)
 | .own t e off len cap ex=> .own (g t) e off len cap ex
 | .ptr t e row off=> .ptr (g t) e row off
 | .bw cs off=> .bw (u5 g cs) off
 | .mp t=> .mp (g t)
 | .ed f a b=> .ed f (u5 g a) (u5 g b)
 | .undef=> .undef
 | .iI=> .iI
 | .int k n=> .int k n
 | .bool b=> .bool b
 | .str s=> .str s
 | .sl e c rows=> .sl e c rows
 | .dv=> .dv
def u5 (g:Nat->Nat):List PV->List PV
 | []=>[]
 |x::xs=>AS g x::u5 g xs
end
def xW (g:Nat->Nat):jc->jc
 | .box cs=> .box (u5 g cs)
 |b=>b
def zw (g:Nat->Nat):bS->bS
 | []=>[]
 |b::r=>xW g b::zw g r
def ji (tk:List Nat) (n u:Nat):Nat:=
 match tk[u]? with
 |some t=>t
 |none=>n+(u-(agY tk))
def nK (g:Nat->Nat):List Nat->bS->List (Nat×jc)
 |t::r,b::s=>(t,xW g b)::nK g r s
 |_,_=>[]
def tL:bS->bS->Bool
 | [],_=>ah5
 |b::r,c::q=>(match b.bA,c.bA with|true,ah5=>ah5|false,ah8=>ah5|_,_=>ah8)&&tL r q
 |_::_,[]=>ah8
def SD (args:List PV) (az:bS) (fz:List Nat) (tk:List Nat):Option (List PV×bS):=
 if tk.all fun t=>!has fz t then
  match xP tk args,vH az tk tk with
  |some a,ah0 s=>ah0 (a,s)
  |_,_=>ah4
 else ah4
def gA (k:Nat) (v:PV) (s:bS):Bool:=(iu rh v++(s.take k).flatMap pU).all fun t=>aeb t k
def C8 (tk:List Nat) (n:Nat) (s0:bS) (v:PV) (s:bS):Option mC:=
 if tL s0 s then ah0 {v:=AS (ji tk n) v,news:=if gA (agY tk) v s then [] else zw (ji tk n) (s.drop (agY tk)),wr:=nK (ji tk n) tk s} else ah4
def su (rec:Task->Option Out) (f:FuncId) (args:List PV) (az:bS) (fz:List Nat):Option mC:=
 match SD args az fz (nI (cQ (cD az deep) args)) with
 |none=>ah4
 |some (a,s0)=>match rec (.func f a s0 []) with
  |some (.func v s [])=>C8 (nI (cQ (cD az deep) args)) (agY az) s0 v s
  |_=>ah4
def ff (rec:Task->Option Out) (f:FuncId) (args:List PV) (az:bS) (fz:List Nat):Option XR:=
 match rec (.func f args az fz) with
 |some (.func v s z)=>if ad3 (agY az) (agY s)&&fz.all (has z) then ah0 (.shr v s z) else ah4
 |_=>ah4
def u6 (F:jM) (rec:Task->Option Out) (e:Env) (az:bS) (fz:List Nat):jL->Option XR
 | .call m f args=>match m with
  | .Sq=>(cu F rec ah8 f (C3 e args) az fz).map .loc
  | .own=>(cu F rec ah5 f (C3 e args) az fz).map .loc
  | .shr=>ff rec f (C3 e args) az fz
  | .fp=>(su rec f (C3 e args) az fz).map .loc
 | .u4 x args=>match x.ev e with
  | .ed f a b=>
   if (C3 e args++b).any C7 then ff rec f (a++C3 e args++b) az fz
   else (cu F rec ah8 f (a++C3 e args++b) az fz).map .loc
  |_=>ah4
 |op=>(bq e az fz op).map .loc
def gW (d:Option Nat) (v:PV) (e:Env):Env:=
 match d with
 |some t=>(t,v)::e
 |none=>e
def HW (s:bS):List jc->bS
 | []=>s
 |b::r=>s++b::r
theorem pX (s:bS) (l:List jc):HW s l=s++l:=by
 cases l
 · exact (List.append_nil s).symm
 rfl
def XR.next (d:Option Nat) (st:St):XR->St
 | .loc r=>{env:=gW d r.v st.env,az:=HW (fv r.wr st.az) r.news,fz:=r.fr++st.fz,kn:=st.kn}
 | .shr v s z=>{env:=gW d v st.env,az:=s,fz:=z,kn:=st.kn}
def XR.tr (nx:Nat):XR->Tr
 | .loc r=>⟨r.rd++r.fr,r.wr.map (·.1),!r.news.isEmpty,ah8,(r.rd++r.fr).all (aeb · nx)&&r.wr.all (fun p=>aeb p.1 nx),nx,nx+agY r.news⟩
 | .shr .. =>⟨[],[],ah5,ah5,ah5,0,0⟩
def tM:List (Nat×jc)->Bool
 | []=>ah5
 |p::r=>(r.all fun q=>!Nat.beq q.1 p.1)&&tM r
def XR.ok (fz:List Nat):XR->Bool
 | .loc r=>(r.wr.all fun p=>!has fz p.1)&&tM r.wr
 | .shr .. =>ah5
def Tr.idle:Tr:=⟨[],[],ah8,ah8,ah5,0,0⟩
def wanted (g:Option (Nat×Bool)) (e:Env):Option Bool:=
 match g with
 |none=>ah0 ah5
 |some (s,want)=>match lk s e with
  | .bool b=>ah0 (b==want)
  | .iI=>ah0 ah8
  |_=>ah4
def k7 (F:jM) (rec:Task->Option Out):List bD->St->List Tr->Option (St×List Tr)
 | [],st,tr=>ah0 (st,tr)
 |o::r,st,tr=>
  match wanted o.guard st.env with
  |some ah5=>match u6 F rec st.env st.az st.fz o.op with
   |some x=>if x.ok st.fz then k7 F rec r (x.next o.dst st) (x.tr (agY st.az)::tr) else ah4
   |none=>ah4
  |some ah8=>k7 F rec r {st with env:=gW o.dst .iI st.env} (Tr.idle::tr)
  |none=>ah4
def meets (a b:List Nat):Bool:=a.any (has b)
def Tr.fY (a:Tr):Bool:=!a.rd.isEmpty||!a.wr.isEmpty||a.al||a.HV
def Tr.sZ (a b:Tr):Bool:=
 (a.HV&&b.fY)||(b.HV&&a.fY)||meets a.wr b.rd||meets a.wr b.wr||meets a.rd b.wr||
  b.wr.any fun t=>ad3 a.lo t&&aeb t a.hi
def AT (rows:List Row):Bool:=rows.all fun r=>IR (agY r) 1&&r.all PV.plain
def Yc (args:List PV) (az:bS) (fz:List Nat):Option (PV×bS×List Nat):=
 match args with
 | [.own t e off len _ _]=>match az[t]? with
  |some (.box [.sl e1 _ x,.sl e2 _ y])=>if IR e 1&&IR off 0&&IR len 2&&!has fz t&&AT x&&AT y&&ad3 1 (agY x+agY y)&&ad3 (agY x+agY y) kI&&(IR e1 1||x.isEmpty)&&(IR e2 1||y.isEmpty) then
   ah0 (.own (agY az) 1 0 (x++y).length (x++y).length ah8,az.set t .dead++[.arr 1 (x++y)],fz)
   else ah4
  |_=>ah4
 |_=>ah4
def Gv (i:Nat) (a:Tr):List (Tr×Nat)->Bool
 | []=>ah5
 |(b,bf)::r=>(!a.sZ b||bf.testBit i)&&Gv i a r
def pY:Nat->List (Tr×Nat)->Bool
 |_,[]=>ah5
 |i,(a,_)::r=>a.cl&&Gv i a r&&pY (i+1) r
def j0 (F:jM) (rec:Task->Option Out) (draw:Option (List Nat)) (ops:List bD) (fc:List Nat) (st:St):Option St:=
 match k7 F rec ops st [] with
 |none=>ah4
 |some (jE,tr)=>
  let st2:St:={jE with env:=fc.map fun s=>(s,lk s jE.env)}
  match draw with
  |none=>ah0 st2
  |some bf=>if pY 0 (tr.reverse.zip bf) then ah0 st2 else ah4
def ri (F:jM) (rec:Task->Option Out):iF->St->Option (gg×St)
 | .skip,st=>ah0 (.normal,st)
 | .region d ops fc,st=>(j0 F rec d ops fc st).map fun s=>(.normal,s)
 | .seq a b,st=>match ri F rec a st with
  |some (.normal,jE)=>ri F rec b jE
  |r=>r
 | .cond c a b,st=>match c.ev st.env with
  | .bool ah5=>ri F rec a st
  | .bool ah8=>ri F rec b st
  |_=>ah4
 | .block id b,st=>match ri F rec b st with
  |some (.exit j,jE)=>if IR j id then ah0 (.normal,jE) else ah0 (.exit j,jE)
  |r=>r
 | .loop live b,st=>match rec (.loop live b st) with
  |some (.code e jE)=>ah0 (e,jE)
  |_=>ah4
 | .exit id,st=>ah0 (.exit id,st)
 | .ret,st=>ah0 (.ret,st)
def C9 (st:St):RV->Option PV
 | .tmp t=>ah0 (lk t st.env)
 | .cell t agg=>(nH st.az agg (lk t st.env)).map (·.v)
def mE (st:St):List RV->Option (List PV)
 | []=>ah0 []
 |r::rs=>match C9 st r,mE st rs with
  |some v,ah0 vs=>ah0 (v::vs)
  |_,_=>ah4
def results1:List PV->PV
 | [v]=>v
 |vs=> .bT vs
def s4:Nat->List PV->Env
 |_,[]=>[]
 |i,v::r=>(i,v)::s4 (i+1) r
def step (F:jM) (rec:Task->Option Out):Task->Option Out
 | .func f args az fz=>match F f with
  |some (.code x)=>
   if IR (agY args) x.BO then
    match ri F rec x.code {env:=s4 0 args,az,fz,kn:=agY az} with
    |some (.normal,st)=>(mE st x.res).map fun vs=> .func (results1 vs) st.az st.fz
    |some (.ret,st)=>(mE st x.res).map fun vs=> .func (results1 vs) st.az st.fz
    |_=>ah4
   else ah4
  |some (.Nl p)=>(p args az fz).map fun r=> .func r.1 r.2.1 r.2.2
  |_=>ah4
 | .loop live b st=>match norm live st with
  |none=>ah4
  |some st1=>match ri F rec b st1 with
   |some (.normal,st2)=>rec (.loop live b st2)
   |some (e,st2)=>ah0 (.code e st2)
   |none=>ah4
def eN (esz:Nat):List PV->Option (PV×bS)
 | [.sl e _ rows]=>match rows with
  | []=>ah0 (.own 1 esz 0 0 0 ah8,[.arr esz [],.arr esz []])
  |r::rs=>if IR e esz&&ad3 (agY rs+1) kI then ah0 (.own 1 esz 0 (0+(agY rs+1)) (0+(agY rs+1)) ah8,[.arr esz [],.arr esz (r::rs)]) else ah4
 |_=>ah4
def O8 (esz:Nat) (args:List PV) (az:bS) (fz:List Nat):Option (PV×bS×List Nat):=
 match args with
 | [.own t e off len _ _,.int .i64 i,.own u e2 aek HX _ _]=>
  match az[t]?,az[u]? with
  |some (.arr _ rows),ah0 (.arr _ new)=>
   if IR e esz&&IR e2 esz&&IR off 0&&IR aek 0&&IR len (agY rows)&&IR HX 1&&IR (agY new) 1&&!Nat.beq t u&&!has fz t&&ahd (0<=i)&&ad3 i.toNat len&&ad3 (len+1) kI then
    ah0 (.own (agY az) esz 0 (len+1) (len+1) ah8,az.set t .dead++[.arr esz (rows.take i.toNat++new++rows.drop i.toNat)],fz)
   else ah4
  |_,_=>ah4
 |_=>ah4
def yv:List PV->Option (PV×bS)
 | [.int .u64 (.ofNat a),.int .u64 (.ofNat b),.int .u64 (.ofNat c)]=>
  if ad3 c 1 then
   let s:=a+b+c
   ah0 (.bT [.int .u64 (.ofNat (s%18446744073709551616)),.int .u64 (.ofNat (s / 18446744073709551616))],[])
  else ah4
 |_=>ah4
noncomputable def run (F:jM) (n:Nat):Task->Option Out:=Nat.rec (fun _=>ah4) (fun _ ih=>step F ih) n
end Go.Vm
/- Rules for the logical machine: what more fuel keeps, and a calculus of its runs. -/
namespace Go.Vm
def Le (r s:Task->Option Out):Prop:= ∀t o,r t=ah0 o->s t=ah0 o
structure SF (F G:jM) (r:Task->Option Out):Prop where
 yes: ∀f e,F f=ah0 e->G f=ah0 e
 no: ∀f,F f=ah4->G f=ah4\/ ∀a,r (.func f a [] [])=ah4
theorem SF.refl (F:jM) (r:Task->Option Out):SF F F r:=⟨fun _ _ h=>h,fun _ h=> .inl h⟩
theorem ot {F G:jM} {r s:Task->Option Out} (g:SF F G r) (h:Le r s) {own:Bool} {f:FuncId} {args:List PV} {az:bS} {fz:List Nat} {x:mC}
 (hx:cu F r own f args az fz=ah0 x):cu G s own f args az fz=ah0 x:=by
 cases ha:AL az (vt az deep) args with
 |none=>simp [cu,ha] at hx
 |some a=>
  simp only [cu,ha] at hx ⊢;cases hp:F f with
  |none=>
   rw [hp] at hx;dsimp only at hx;cases hr:r (.func f a [] []) with
   |none=>rw [hr] at hx;cases hx
   |some o=>
    rw [hr] at hx;rcases g.no f hp with hq|hq
    · rw [hq];dsimp only;rw [h _ _ hr];exact hx
    rw [hq a] at hr;cases hr
  |some en=>
   rw [hp] at hx;rw [g.yes f _ hp];cases en with
   |ir k p=>exact hx
   |code x=>
    dsimp only at hx ⊢;cases hr:r (.func f a [] []) with
    |none=>rw [hr] at hx;cases hx
    |some o=>rw [hr] at hx;rw [h _ _ hr];exact hx
   |Nl x=>
    dsimp only at hx ⊢;cases hr:r (.func f a [] []) with
    |none=>rw [hr] at hx;cases hx
    |some o=>rw [hr] at hx;rw [h _ _ hr];exact hx
theorem u7 {r s:Task->Option Out} (h:Le r s) {f:FuncId} {args:List PV} {az:bS} {fz:List Nat} {x:XR}
 (hx:ff r f args az fz=ah0 x):ff s f args az fz=ah0 x:=by
 unfold ff at hx ⊢;cases hr:r (.func f args az fz) with
 |none=>rw [hr] at hx;cases hx
 |some o=>rw [hr] at hx;rw [h _ _ hr];exact hx
theorem HY {r s:Task->Option Out} (h:Le r s) {f:FuncId} {args:List PV} {az:bS} {fz:List Nat} {x:mC}
 (hx:su r f args az fz=ah0 x):su s f args az fz=ah0 x:=by
 unfold su at hx ⊢;cases hl:SD args az fz (nI (cQ (cD az deep) args)) with
 |none=>rw [hl] at hx;cases hx
 |some p=>
  rw [hl] at hx;dsimp only at hx ⊢;cases hr:r (.func f p.1 p.2 []) with
  |none=>rw [hr] at hx;cases hx
  |some o=>rw [hr] at hx;rw [h _ _ hr];exact hx
theorem HZ {F G:jM} {r s:Task->Option Out} (g:SF F G r) (h:Le r s) {e:Env} {az:bS} {fz:List Nat} {op:jL} {x:XR}
 (hx:u6 F r e az fz op=ah0 x):u6 G s e az fz op=ah0 x:=by
 cases op with
 |call m f args=>
  cases m with
  |Sq=>simp only [u6,AC] at hx ⊢;obtain ⟨a,ha,rfl⟩:=hx;exact ⟨a,ot g h ha,rfl⟩
  |own=>simp only [u6,AC] at hx ⊢;obtain ⟨a,ha,rfl⟩:=hx;exact ⟨a,ot g h ha,rfl⟩
  |shr=>exact u7 h hx
  |fp=>simp only [u6,AC] at hx ⊢;obtain ⟨a,ha,rfl⟩:=hx;exact ⟨a,HY h ha,rfl⟩
 |u4 c args=>
  simp only [u6] at hx ⊢;split at hx
  · split at hx
    · rename_i hc;simp only [hc,if_true];exact u7 h hx
    rename_i hc
    rw [sp hc];rw [AC] at hx ⊢;obtain ⟨a,ha,rfl⟩:=hx;exact ⟨a,ot g h ha,rfl⟩
  cases hx
 |_=>exact hx
theorem C' {F G:jM} {r s:Task->Option Out} (g:SF F G r) (h:Le r s) (ops:List bD):
 ∀(st:St) (tr:List Tr) (x:St×List Tr),k7 F r ops st tr=ah0 x->k7 G s ops st tr=ah0 x:=by
 induction ops with
 |nil=>intro st tr x hx;exact hx
 |cons o l ih=>
  intro st tr x hx;simp only [k7] at hx ⊢;cases hw:wanted o.guard st.env with
  |none=>rw [hw] at hx;cases hx
  |some b=>
   rw [hw] at hx;cases b with
   |false=>exact ih _ _ _ hx
   |true=>
    dsimp only at hx ⊢;cases hy:u6 F r st.env st.az st.fz o.op with
    |none=>rw [hy] at hx;cases hx
    |some y=>
     rw [hy] at hx;rw [HZ g h hy];dsimp only at hx ⊢;split at hx
     · rename_i yw;rw [rc yw];exact ih _ _ _ hx
     cases hx
theorem E9 {F G:jM} {r s:Task->Option Out} (g:SF F G r) (h:Le r s) {d:Option (List Nat)} {ops:List bD} {fc:List Nat} {st jE:St}
 (hx:j0 F r d ops fc st=ah0 jE):j0 G s d ops fc st=ah0 jE:=by
 unfold j0 at hx ⊢;cases hy:k7 F r ops st [] with
 |none=>rw [hy] at hx;cases hx
 |some y=>rw [hy] at hx;rw [C' g h _ _ _ _ hy];exact hx
theorem oR {F G:jM} {r s:Task->Option Out} (g:SF F G r) (h:Le r s) (c:iF):
 ∀(st:St) (x:gg×St),ri F r c st=ah0 x->ri G s c st=ah0 x:=by
 induction c with
 |skip=>intro st x hx;exact hx
 |region d ops fc=>intro st x hx;simp only [ri,AC] at hx ⊢;obtain ⟨a,ha,rfl⟩:=hx;exact ⟨a,E9 g h ha,rfl⟩
 |seq a b Xg SG=>
  intro st x hx;simp only [ri] at hx ⊢;cases hy:ri F r a st with
  |none=>rw [hy] at hx;cases hx
  |some y=>
   rw [hy] at hx;rw [Xg _ _ hy];obtain ⟨e,st1⟩:=y;cases e with
   |normal=>exact SG _ _ hx
   |exit i=>exact hx
   |ret=>exact hx
 |cond c a b Xg SG=>
  intro st x hx;simp only [ri] at hx ⊢;split at hx
  · exact Xg _ _ hx
  · exact SG _ _ hx
  cases hx
 |block id b ih=>
  intro st x hx;simp only [ri] at hx ⊢;cases hy:ri F r b st with
  |none=>rw [hy] at hx;cases hx
  |some y=>rw [hy] at hx;rw [ih _ _ hy];exact hx
 |loop live b _=>
  intro st x hx;simp only [ri] at hx ⊢;split at hx
  · rename_i e st1 hr;rw [h _ _ hr];exact hx
  cases hx
 |exit id=>intro st x hx;exact hx
 |ret=>intro st x hx;exact hx
theorem Ft {F G:jM} {r s:Task->Option Out} (g:SF F G r) (h:Le r s):Le (step F r) (step G s):=by
 intro t o ho;cases t with
 |func f args az fz=>
  simp only [step] at ho ⊢;split at ho
  · rename_i x hx
    rw [g.yes f _ hx];dsimp only;split at ho
    · rename_i hl
      simp only [hl,if_true];split at ho
      · rename_i st1 hc;rw [oR g h _ _ _ hc];exact ho
      · rename_i st1 hc;rw [oR g h _ _ _ hc];exact ho
      cases ho
    cases ho
  · rename_i p hx
    rw [g.yes f _ hx];exact ho
  cases ho
 |loop live b st=>
  simp only [step] at ho ⊢;split at ho
  · cases ho
  rename_i st1 hn
  split at ho
  · rename_i st2 hc;rw [oR g h _ _ _ hc];exact h _ _ ho
  · rename_i e st2 dC hc
    rw [oR g h _ _ _ hc];cases e with
    |normal=>exact absurd rfl (dC ·)
    |exit i=>exact ho
    |ret=>exact ho
  cases ho
theorem jw (F:jM) (n:Nat):run F (n+1)=step F (run F n):=rfl
theorem Yd (F:jM) (n:Nat):Le (run F n) (run F (n+1)):=by
 induction n with
 |zero=>intro t o h;cases h
 |succ n ih=>exact Ft (.refl _ _) ih
theorem oS (F:jM) {n m:Nat} (h:n<=m):Le (run F n) (run F m):=by
 induction h with
 |refl=>intro t o h;exact h
 |step _ ih=>intro t o h;exact Yd F _ _ _ (ih _ _ h)
theorem L1 {F G:jM} (h: ∀f e,F f=ah0 e->G f=ah0 e) (n:Nat):SF F G (run F n):=⟨h,fun f hf=> .inr fun a=>by
 cases n with
 |zero=>rfl
 |succ n=>rw [jw];simp only [step,hf]⟩
theorem SH {F G:jM} (h: ∀f e,F f=ah0 e->G f=ah0 e) (n:Nat):Le (run F n) (run G n):=by
 induction n with
 |zero=>intro t o h;cases h
 |succ n ih=>exact Ft (L1 h n) ih
def Fin (F:jM) (t:Task) (Q:Out->Prop):Prop:= ∃n o,run F n t=ah0 o/\Q o
def WP (F:jM) (c:iF) (st:St) (Q:gg->St->Prop):Prop:= ∃n e s,ri F (run F n) c st=ah0 (e,s)/\Q e s
def WO (F:jM) (ops:List bD) (st:St) (tr:List Tr) (Q:St->List Tr->Prop):Prop:=
 ∃n s t,k7 F (run F n) ops st tr=ah0 (s,t)/\Q s t
variable {F : jM}
theorem Fin.mono {t:Task} {Q R:Out->Prop} (h:Fin F t Q) (hr: ∀o,Q o->R o):Fin F t R:=
 let ⟨n,o,e,q⟩:=h;⟨n,o,e,hr _ q⟩
theorem WP.mono {c:iF} {st:St} {Q R:gg->St->Prop} (h:WP F c st Q) (hr: ∀e s,Q e s->R e s):WP F c st R:=
 let ⟨n,e,s,x,q⟩:=h;⟨n,e,s,x,hr _ _ q⟩
theorem WP.skip {st:St} {Q:gg->St->Prop} (h:Q .normal st):WP F .skip st Q:=⟨0,_,_,rfl,h⟩
theorem WP.ret {st:St} {Q:gg->St->Prop} (h:Q .ret st):WP F .ret st Q:=⟨0,_,_,rfl,h⟩
theorem WP.exit {id:Nat} {st:St} {Q:gg->St->Prop} (h:Q (.exit id) st):WP F (.exit id) st Q:=⟨0,_,_,rfl,h⟩
def andThen (k:St->Prop) (Q:gg->St->Prop):gg->St->Prop
 | .normal,s=>k s
 |e,s=>Q e s
theorem WP.seq {a b:iF} {st:St} {Q:gg->St->Prop} (h:WP F a st (andThen (fun s=>WP F b s Q) Q)):WP F (.seq a b) st Q:=by
 obtain ⟨n,e,s,he,hq⟩:=h;cases e with
 |normal=>obtain ⟨m,e',s',AM,OW⟩:=hq;refine ⟨max n m,e',s',?_,OW⟩;simp only [ri];rw [oR (.refl _ _) (oS F (aeH n m)) _ _ _ he];exact oR (.refl _ _) (oS F (aes n m)) _ _ _ AM
 |exit i=>exact ⟨n,_,s,by simp only [ri,he],hq⟩
 |ret=>exact ⟨n,_,s,by simp only [ri,he],hq⟩
theorem WP.Xh {c:eL} {a b:iF} {st:St} {Q:gg->St->Prop} (hc:c.ev st.env= .bool ah5) (h:WP F a st Q):WP F (.cond c a b) st Q:=by obtain ⟨n,e,s,he,hq⟩:=h;exact ⟨n,e,s,by simp only [ri,hc,he],hq⟩
theorem WP.Xi {c:eL} {a b:iF} {st:St} {Q:gg->St->Prop} (hc:c.ev st.env= .bool ah8) (h:WP F b st Q):WP F (.cond c a b) st Q:=by obtain ⟨n,e,s,he,hq⟩:=h;exact ⟨n,e,s,by simp only [ri,hc,he],hq⟩
theorem WP.cond {c:eL} {a b:iF} {st:St} {Q:gg->St->Prop} (t:Bool) (hc:c.ev st.env= .bool t)
 (ha:t=ah5->WP F a st Q) (hb:t=ah8->WP F b st Q):WP F (.cond c a b) st Q:=by
 cases t
 · exact WP.Xi hc (hb rfl)
 exact WP.Xh hc (ha rfl)
def inBlock (id:Nat) (Q:gg->St->Prop):gg->St->Prop
 | .exit j,s=>if j=id then Q .normal s else Q (.exit j) s
 |e,s=>Q e s
theorem WP.block {id:Nat} {b:iF} {st:St} {Q:gg->St->Prop} (h:WP F b st (inBlock id Q)):WP F (.block id b) st Q:=by
 obtain ⟨n,e,s,he,hq⟩:=h;cases e with
 |normal=>exact ⟨n,_,s,by simp only [ri,he],hq⟩
 |ret=>exact ⟨n,_,s,by simp only [ri,he],hq⟩
 |exit j=>
  by_cases hj:j=id
  · subst hj
    have OW:Q .normal s:=by simpa [inBlock] using hq
    exact ⟨n,.normal,s,by simp [ri,he],OW⟩
  have OW:Q (.exit j) s:=by simpa [inBlock,hj] using hq
  exact ⟨n,.exit j,s,by simp [ri,he,hj],OW⟩
def oT (fc:List Nat) (s:St):St:={s with env:=fc.map fun t=>(t,lk t s.env)}
theorem WP.region {ops:List bD} {fc:List Nat} {st:St} {Q:gg->St->Prop}
 (h:WO F ops st [] (fun s _=>Q .normal (oT fc s))):WP F (.region ah4 ops fc) st Q:=by
 obtain ⟨n,s,t,he,hq⟩:=h;exact ⟨n,.normal,_,by simp only [ri,j0,he];rfl,hq⟩
theorem WP.SI {bf:List Nat} {ops:List bD} {fc:List Nat} {st:St} {Q:gg->St->Prop}
 (h:WO F ops st [] (fun s t=>pY 0 (t.reverse.zip bf)=ah5/\Q .normal (oT fc s))):WP F (.region (ah0 bf) ops fc) st Q:=by
 obtain ⟨n,s,t,he,ho,hq⟩:=h;exact ⟨n,.normal,oT fc s,by simp [ri,j0,he,ho,oT],hq⟩
theorem WO.nil {st:St} {tr:List Tr} {Q:St->List Tr->Prop} (h:Q st tr):WO F [] st tr Q:=⟨0,_,_,rfl,h⟩
theorem WO.op {o:bD} {r:List bD} {st:St} {tr:List Tr} {Q:St->List Tr->Prop} (x:mC)
 (hw:wanted o.guard st.env=ah0 ah5) (hx: ∀rec,u6 F rec st.env st.az st.fz o.op=ah0 (.loc x)) (yw:(XR.loc x).ok st.fz=ah5)
 (h:WO F r ((XR.loc x).next o.dst st) ((XR.loc x).tr (agY st.az)::tr) Q):WO F (o::r) st tr Q:=by
 obtain ⟨n,s,t,he,hq⟩:=h;exact ⟨n,s,t,by simp only [k7,hw,hx,yw,if_true,he],hq⟩
theorem WO.skip {o:bD} {r:List bD} {st:St} {tr:List Tr} {Q:St->List Tr->Prop}
 (hw:wanted o.guard st.env=ah0 ah8)
 (h:WO F r {st with env:=gW o.dst .iI st.env} (Tr.idle::tr) Q):WO F (o::r) st tr Q:=by
 obtain ⟨n,s,t,he,hq⟩:=h;exact ⟨n,s,t,by simp only [k7,hw,he],hq⟩
theorem WO.call {o:bD} {r:List bD} {st:St} {tr:List Tr} {Q:St->List Tr->Prop} (x:XR)
 (hw:wanted o.guard st.env=ah0 ah5) (hx: ∃n,u6 F (run F n) st.env st.az st.fz o.op=ah0 x) (yw:x.ok st.fz=ah5)
 (h:WO F r (x.next o.dst st) (x.tr (agY st.az)::tr) Q):WO F (o::r) st tr Q:=by
 obtain ⟨n,s,t,he,hq⟩:=h;obtain ⟨m,hx⟩:=hx;refine ⟨max n m,s,t,?_,hq⟩;simp only [k7,hw];rw [HZ (.refl _ _) (oS F (aes n m)) hx];dsimp only;rw [rc yw];exact C' (.refl _ _) (oS F (aeH n m)) _ _ _ _ he
theorem WP.loop {α:Type} {live:List (Nat×Option Nat)} {b:iF} {st:St} {Q:gg->St->Prop} (S:α->St) (I:α->Prop) (μ:α->Nat)
 (x:α) (h0:norm live st=ah0 (S x)) (hI:I x)
 (round: ∀x,I x->WP F b (S x) (andThen (fun s=> ∃y,norm live s=ah0 (S y)/\I y/\μ y<μ x) Q)):WP F (.loop live b) st Q:=by
 have key: ∀k x st,μ x=k->I x->norm live st=ah0 (S x)-> ∃n e s,run F n (.loop live b st)=ah0 (.code e s)/\Q e s:=by
  intro k
  induction k using Nat.strongRecOn with
  |_ k ih=>
   intro x st hk hI h0;obtain ⟨n,e,s,he,hq⟩:=round x hI;cases e with
   |normal=>obtain ⟨y,hy,hIy,cY⟩:=hq;obtain ⟨m,e',s',hr,OW⟩:=ih (μ y) (hk▸cY) y s rfl hIy hy;refine ⟨max n m+1,e',s',?_,OW⟩;rw [jw];simp only [step,h0];rw [oR (.refl _ _) (oS F (aeH n m)) _ _ _ he];exact oS F (aes n m) _ _ hr
   |exit i=>exact ⟨n+1,_,s,by rw [jw];simp only [step,h0,he],hq⟩
   |ret=>exact ⟨n+1,_,s,by rw [jw];simp only [step,h0,he],hq⟩
 obtain ⟨n,e,s,hr,hq⟩:=key _ x st rfl hI h0;exact ⟨n,e,s,by simp only [ri,hr],hq⟩
def Gw (x:aL) (R:PV->bS->List Nat->Prop):gg->St->Prop
 | .normal,s=> ∃vs,mE s x.res=ah0 vs/\R (results1 vs) s.az s.fz
 | .ret,s=> ∃vs,mE s x.res=ah0 vs/\R (results1 vs) s.az s.fz
 | .exit _,_=>False
def yx (F:jM) (f:FuncId) (args:List PV) (az:bS) (fz:List Nat) (R:PV->bS->List Nat->Prop):Prop:=
 ∃n v s z,run F n (.func f args az fz)=ah0 (.func v s z)/\R v s z
theorem yx.of {f:FuncId} {x:aL} {args:List PV} {az:bS} {fz:List Nat} {R:PV->bS->List Nat->Prop}
 (hf:F f=ah0 (.code x)) (hn:IR (agY args) x.BO=ah5)
 (h:WP F x.code {env:=s4 0 args,az,fz,kn:=agY az} (Gw x R)):yx F f args az fz R:=by
 obtain ⟨n,e,s,he,hq⟩:=h;cases e with
 |normal=>obtain ⟨vs,hv,hr⟩:=hq;exact ⟨n+1,_,_,_,by rw [jw];simp only [step,hf,hn,he,hv,if_true];rfl,hr⟩
 |ret=>obtain ⟨vs,hv,hr⟩:=hq;exact ⟨n+1,_,_,_,by rw [jw];simp only [step,hf,hn,he,hv,if_true];rfl,hr⟩
 |exit i=>exact hq.elim
def Pure (F:jM) (f:FuncId) (args:List PV) (v:PV):Prop:=
 (∀k p,F f≠ah0 (.ir k p))/\yx F f args [] [] fun u _ _=>u.iQ=ah5/\u=v
def L2 (F:jM) (f:FuncId) (args:List PV) (v:PV):Prop:=
 (∀k p,F f≠ah0 (.ir k p))/\yx F f args [] [] fun u s _=>u.iQ=ah8/\vB s u=ah0 v
theorem Pure.of {f:FuncId} {x:aL} {args:List PV} {v:PV}
 (hf:F f=ah0 (.code x)) (hn:IR (agY args) x.BO=ah5)
 (h:WP F x.code {env:=s4 0 args,az:=[],fz:=[],kn:=0} (Gw x fun u _ _=>u.iQ=ah5/\u=v)):
 Pure F f args v:=⟨fun k p e=>by (rw [hf] at e;cases e),yx.of hf hn h⟩
theorem L2.of {f:FuncId} {x:aL} {args:List PV} {v:PV}
 (hf:F f=ah0 (.code x)) (hn:IR (agY args) x.BO=ah5)
 (h:WP F x.code {env:=s4 0 args,az:=[],fz:=[],kn:=0} (Gw x fun u s _=>u.iQ=ah8/\vB s u=ah0 v)):
 L2 F f args v:=⟨fun k p e=>by (rw [hf] at e;cases e),yx.of hf hn h⟩
theorem Pure.cu {f:FuncId} {as args:List PV} {az:bS} {fz:List Nat} {v:PV} (h:Pure F f args v)
 (ha:AL az (vt az deep) as=ah0 args):
 ∃n,Vm.cu F (run F n) ah8 f as az fz=ah0 {v,rd:=cQ (cD az deep) as}:=by
 obtain ⟨hp,n,u,s,z,hr,h1,h2⟩:=h;subst h2;refine ⟨n,?_⟩;simp only [Vm.cu,ha];cases hf:F f with
 |none=>simp [hr,h1]
 |some en=>
  cases en with
  |ir k p=>exact absurd hf (hp k p)
  |code x=>simp [hr,h1]
  |Nl x=>simp [hr,h1]
theorem L2.cu {f:FuncId} {as args:List PV} {az:bS} {fz:List Nat} {v:PV} (h:L2 F f args v)
 (ha:AL az (vt az deep) as=ah0 args):
 ∃n,Vm.cu F (run F n) ah8 f as az fz=ah0 {v,rd:=cQ (cD az deep) as,fr:=cQ (cD az deep) as}:=by
 obtain ⟨hp,n,u,s,z,hr,h1,h2⟩:=h;refine ⟨n,?_⟩;simp only [Vm.cu,ha];cases hf:F f with
 |none=>simp [hr,h1,h2]
 |some en=>
  cases en with
  |ir k p=>exact absurd hf (hp k p)
  |code x=>simp [hr,h1,h2]
  |Nl x=>simp [hr,h1,h2]
theorem WO.pure {d:Option Nat} {g:Option (Nat×Bool)} {f:FuncId} {as:List eL} {r:List bD} {st:St} {tr:List Tr} {Q:St->List Tr->Prop}
 {args:List PV} {v:PV} (h:Pure F f args v)
 (hw:wanted g st.env=ah0 ah5) (ha:AL st.az (vt st.az deep) (C3 st.env as)=ah0 args)
 (k:WO F r ((XR.loc {v,rd:=cQ (cD st.az deep) (C3 st.env as)}).next d st) ((XR.loc {v,rd:=cQ (cD st.az deep) (C3 st.env as)}).tr (agY st.az)::tr) Q):
 WO F (⟨d,.call .Sq f as,g⟩::r) st tr Q:=by
 obtain ⟨n,hn⟩:=h.cu (fz:=st.fz) ha;exact WO.call _ hw ⟨n,by simp only [u6,hn];rfl⟩ rfl k
end Go.Vm
/- The look at an operation of the model: is the logical machine's operation its own? -/
namespace Go.Vm
mutual
def sx:PV->Value->Bool
 | .int k n,.int l m=>eG k l&&n==m
 | .bool a,.bool b=>a==b
 | .sl _ _ [],.slice ah4 0 0=>ah5
 | .agg cs,.agg vs=>Da cs vs.toList
 | .dv,.nilFunc=>ah5
 | .str s,.string t=>s.data.toList==t.data.toList
 | .undef,_=>ah5
 |_,_=>ah8
def Da:List PV->List Value->Bool
 | [],[]=>ah5
 |x::xs,v::vs=>sx x v&&Da xs vs
 |_,_=>ah8
end
def bn:eL->Operand->Bool
 | .t n,.tmp m=>n==m
 | .c v,.const u=>sx v u
 | .c (.ed f [] []),.func g=>f==g
 | .c .undef,_=>ah5
 |_,_=>ah8
def ef:List eL->List Operand->Bool
 | [],[]=>ah5
 |x::xs,o::os=>bn x o&&ef xs os
 |_,_=>ah8
def Gx:Option eL->Option Operand->Bool
 |none,ah4=>ah5
 |some x,ah0 o=>bn x o
 |_,_=>ah8
section
variable (P : Program)
def fZ (t:TypeId):Bool:=
 match P.underlying t with
 |some (.struct _)|some (.array _ _)=>ah5
 |_=>ah8
def nD (t:TypeId) (n:Nat):Bool:=(P.info? t).any fun i=>i.size==n
def CF (t:TypeId):Bool:=(P.info? t).any fun i=>ad3 i.bytes 1048576
def zx (t:TypeId) (agg:Option Nat):Bool:=
 (P.underlying t).isSome&&match agg with
 |some n=>fZ P t&&nD P t n
 |none=>!fZ P t&&nD P t 1
def xb (t:TypeId) (esz:Nat):Bool:=
 match P.underlying t with
 |some (.slice e)=>nD P e esz
 |_=>ah8
def qD (t:TypeId):Bool:=
 match P.underlying t with
 |some (.slice _)=>ah5
 |_=>ah8
def L3 (t:TypeId) (n esz:Nat):Bool:=
 match P.underlying t with
 |some (.array m e)=>m==n&&nD P e esz
 |_=>ah8
def sy (t:TypeId) (cells:List PV):Bool:=
 match (P.info? t).bind (·.zero) with
 |some v=>Da cells v.cells.toList
 |none=>ah8
def flat:Nat->TypeId->Option Nat
 |0,_=>ah4
 |d+1,t=>
  match P.underlying t with
  |some (.int _)=>if nD P t 1 then ah0 1 else ah4
  |some (.struct fs)=>
   if P.stoodInHeld t then ah4 else
   match fs.toList.foldl (fun r f=>match r with
    |some n=>if f.offset==n&&f.name != "_" then (match flat d f.type with
     |some m=>if nD P f.type m then ah0 (n+m) else ah4
     |none=>ah4) else ah4
    |none=>ah4) (ah0 0) with
   |some n=>if nD P t n then ah0 n else ah4
   |none=>ah4
  |_=>ah4
def s5 (place:Nat->Option (Nat×Nat)):List (Nat×Nat×eL)->List (Nat×Operand)->Bool
 | [],[]=>ah5
 |(off,sz,x)::r,(i,o)::s=>(match place i with|some (a,b)=>a==off&&b==sz|none=>ah8)&&bn x o&&s5 place r s
 |_,_=>ah8
def lU:List (Nat×eL)->List (Nat×Operand)->Bool
 | [],[]=>ah5
 |(i,x)::r,(j,o)::s=>i==j&&bn x o&&lU r s
 |_,_=>ah8
def placeOf (t:TypeId):Nat->Option (Nat×Nat):=
 match P.underlying t with
 |some (.struct fs)=>fun i=>(fs[i]?).bind fun f=>(P.info? f.type).map fun j=>(f.offset,j.size)
 |some (.array _ e)=>fun i=>(P.info? e).map fun j=>(i*j.size,j.size)
 |_=>fun _=>ah4
def vJ (t:TypeId) (n:Option Nat):Bool:=
 match n with
 |none=>(match P.underlying t with|some (.int _)=>ah5|_=>ah8)
 |some n=>fZ P t&&flat P 100 t==ah0 n
def SJ (f:FuncId):Bool:=(P.funcs[f]?).any fun fn=>fn.body.isSome&&!(fn.name== "runtime.NumGoroutine")
def u9 (prims:FuncId->Bool) (ty:TypeId):jL->Op->Bool
 | .OV x,.move o=>bn x o
 | .OV x,.assign o=>bn x o
 | .pick c a b,.pick d e f=>bn c d&&bn a e&&bn b f
 | .bin op x y,.binOp op' _ a b _=>op==op'&&bn x a&&bn y b
 | .HP neg x y,.binOp op t a b _=>(if neg then op== .neq else op== .eql)&&P.underlying t matches ah0 .bool&&bn x a&&bn y b
 | .Xc n neg x y,.binOp op t a b _=>(if neg then op== .neq else op== .eql)&&fZ P t&&flat P 100 t==ah0 n&&!P.eqGuardType P.depth t&&bn x a&&bn y b
 | .un op x,.unOp op' _ a=>op==op'&&bn x a
 | .conv k x,.convert s d a=>(P.underlying s).isSome&&(match P.underlying d with|some (.int l)=>eG k l|_=>ah8)&&bn x a
 | .len x,.call {callee:= .builtin .len,args,argTypes}=>(match argTypes[0]? with|some t=>qD P t|none=>ah8)&&ef [x] args.toList
 | .Kn n,.call {callee:= .builtin .len,args,argTypes}=>!args.isEmpty&&(match argTypes[0]? with
  |some t=>(match P.underlying t with
   |some (.array m _)=>m==n
   |some (.pointer e)=>(match P.underlying e with|some (.array m _)=>m==n|_=>ah8)
   |_=>ah8)
  |none=>ah8)
 | .box x,.box _ a=>bn x a
 | .alloc cells,.alloc t=>sy P t cells
 | .build zero parts,.build t ps=>sy P t zero&&fZ P t&&s5 (placeOf P t) parts ps.toList
  &&(match P.underlying t with|some (.struct fs)=>fs.all fun f=>(P.info? f.type).isSome|some (.array _ e)=>(P.info? e).isSome|_=>ah8)
 | .zt esz n zero parts,.buildSlice t m ps=>n==m&&(match P.underlying t with|some (.slice e)=>nD P e esz&&sy P e zero&&(agY zero)==esz&&!(esz==0)|_=>ah8)&&ad3 (n*esz) 1048576&&zero.all PV.plain&&lU parts ps.toList
 | .load agg p,.load t a=>zx P t agg&&bn p a
 | .store sz p v,.store t a b=>nD P t sz&&bn p a&&bn v b
 | .HQ x,.nilCheck a=>bn x a
 | .HR off p,.fieldAddr t a f=>(match P.underlying t with
  |some (.struct fs)=>(match fs[f]? with|some g=>g.offset==off&&(P.info? g.type).any fun i=>!(i.size==0)|none=>ah8)
  |_=>ah8)&&bn p a
 | .iq agg off x,.field t a f=>(match P.underlying t with
  |some (.struct fs)=>(match fs[f]? with|some g=>g.offset==off&&zx P g.type agg|none=>ah8)
  |_=>ah8)&&bn x a
 | .HS esz x i,.indexAddr t a j=>xb P t esz&&bn x a&&bn i j
 | .BN n esz p i,.indexAddr t a j=>L3 P t n esz&&bn p a&&bn i j
 | .idx n esz agg x i,.index t a j=>(match P.underlying t with|some (.array m e)=>m==n&&nD P e esz&&zx P e agg|_=>ah8)&&bn x a&&bn i j
 | .HT x i,.index t a j=>P.underlying t matches ah0 .string&&bn x a&&bn i j
 | .Nk esz x l h m,.slice t a b c d=>(m.isNone||h.isSome)&&xb P t esz&&bn x a&&Gx l b&&Gx h c&&Gx m d
 | .Xd esz zero l c,.makeSlice t a b=>(match P.underlying t with|some (.slice e)=>nD P e esz&&sy P e zero&&(agY zero)==esz&&CF P e&&!(esz==0)|_=>ah8)&&zero.all PV.plain&&bn l a&&bn c b
 | .Xe fn a b,.makeFunc (.func g) c d=>fn==g&&ef a c.toList&&ef b d.toList
 | .Xf _,.makeMap _ ah4=>ah5
 | .ext i x,.extract a j=>i==j&&bn x a
 | .append esz x y,.call {callee:= .builtin .append,args,argTypes}=>(match argTypes.toList with
  | [t,u]=>(match P.underlying t with|some (.slice e)=>nD P e esz&&CF P e&&!(esz==0)&&(P.info? e).any (fun i=>i.zero.any fun z=>z.cells.size==esz)|_=>ah8)&&qD P u
  |_=>ah8)&&ef [x,y] args.toList
 | .lookup n zero ok m k,.lookup t a b ok'=>ok==ok'&&(match P.underlying t with|some (.map kt et)=>vJ P kt n&&(match (P.info? et).bind (·.zero) with|some v=>sx zero v|none=>ah8)|_=>ah8)&&bn m a&&bn k b
 | .Gt n m k v,.mapUpdate t a b c=>(match P.underlying t with|some (.map kt _)=>vJ P kt n|_=>ah8)&&bn m a&&bn k b&&bn v c
 | .copy esz x y,.call {callee:= .builtin .copy,args,argTypes}=>(match argTypes.toList with| [t,u]=>xb P t esz&&qD P u|_=>ah8)&&ef [x,y] args.toList
 | .clear esz zero x,.call {callee:= .builtin .clear,args,argTypes}=>(match argTypes.toList with
  | [t]=>(match P.underlying t with|some (.slice e)=>nD P e esz&&sy P e zero&&(agY zero)==esz&&zero.all PV.plain|_=>ah8)
  |_=>ah8)&&ef [x] args.toList
 | .mm isMax x xs,.call {callee:= .builtin b,args,argTypes:=_}=>(if isMax then b== .max else b== .min)&&ef (x::xs) args.toList
 | .call _ f args,.call {callee:= .value (.func g),args:=as,argTypes:=_}=>f==g&&(prims f||SJ P f)&&ef args as.toList
 | .u4 x args,.call {callee:= .value (.tmp t),args:=as,argTypes:=_}=>bn x (.tmp t)&&ef args as.toList
 | .BM x y,.buildSlice t m ps=>m==2&&(match P.underlying t with|some (.slice e)=>nD P e 1&&(P.info? e).any (fun i=>i.zero.any fun z=>z.cells.size==1)|_=>ah8)&&(match ps.toList with| [(i,a),(j,b)]=>i==0&&j==1&&bn x a&&bn y b|_=>ah8)
 | .Gt n m k v,.insert t a b c=>(match P.underlying t with|some (.map kt _)=>vJ P kt n|_=>ah8)&&bn m a&&bn k b&&bn v c
 | .bad,_=>ah5
 |_,_=>ty==0&&ah8
end
end Go.Vm
/- What a pure value says of a value of the model, a block of the call's own of the memory. -/
namespace Go.Vm
structure Tape (w w':World):Prop where
 eq:w'.tape=w.tape
 dr:w.drawn<=w'.drawn
theorem Tape.refl (w:World):Tape w w:=⟨rfl,If _⟩
theorem Tape.trans {a b c:World} (h2:Tape b c) (h1:Tape a b):Tape a c:=⟨h2.eq.trans h1.eq,Nat.le_trans h1.dr h2.dr⟩
theorem Tape.same {w w':World} (h:w'.tape=w.tape) (k:w'.drawn=w.drawn):Tape w w':=⟨h,by rw [k];exact If _⟩
structure LI where
 cX:Nat
 sh:Nat
 esz:Nat
 n:Nat
 sz:Nat
abbrev Im:=Nat->Option Obj
abbrev Loc:=Nat->Option LI
def kV (im:Im) (b o:Nat):Option Value:=
 match im b with
 |some (.cells c _ _)=>c[o]?
 |_=>ah4
def gB:PV->Option Value
 | .int k n=>ah0 (.int k n)
 | .bool b=>ah0 (.bool b)
 | .str s=>ah0 (.string s)
 |_=>ah4
def bz (get:Nat->Option Value) (sh esz:Nat) (rows:List Row):Prop:=
 ∀(i:Nat) (r:Row),rows[i]? =ah0 r->agY r=esz/\ ∀(j:Nat) (c:PV),r[j]? =ah0 c-> ∃v,gB c=ah0 v/\get (sh+i*esz+j)=ah0 v
mutual
inductive VR (im:Im) (loc:Loc):PV->Value->Prop
 |undef (v:Value):VR im loc .undef v
 |iI:VR im loc .iI Go.undef
 |int (k:IntKind) (n:Int):VR im loc (.int k n) (.int k n)
 |bool (b:Bool):VR im loc (.bool b) (.bool b)
 |str (s:ByteArray):VR im loc (.str s) (.string s)
 |agg (cs:List PV) (vs:List Value) (h:eo im loc cs vs):VR im loc (.agg cs) (.agg ⟨vs⟩)
 |bT (cs:List PV) (vs:List Value) (h:eo im loc cs vs):VR im loc (.bT cs) (.tuple ⟨vs⟩)
 |sl (esz:Nat) (pD:Bool) (rows:List Row) (a:Option Addr) (cap:Nat) (hc:(agY rows)<=cap) (hk:pD=ah5->cap=agY rows)
  (h:rows≠[]-> ∃b o,a=ah0 ⟨b,o,ah4⟩/\bz (kV im b) o esz rows):VR im loc (.sl esz pD rows) (.slice a (agY rows) cap)
 |own (t esz off len cap:Nat) (ex:Bool) (li:LI) (a:Option Addr) (cw:Nat) (hl:loc t=ah0 li) (he:li.esz=esz) (hn:off+cap<=li.n) (hc:len<=cap)
  (hx:cap<=cw) (hk:ex=ah5->cw=cap)
  (h:cw=0\/(li.n≠0/\a=ah0 ⟨li.cX,li.sh+off*esz,ah4⟩/\li.sh+(off+cw)*esz<=li.sz)):VR im loc (.own t esz off len cap ex) (.slice a len cw)
 |ptr (t esz row off:Nat) (li:LI) (hl:loc t=ah0 li) (he:li.esz=esz) (hn:row<li.n):
  VR im loc (.ptr t esz row off) (.pointer (ah0 ⟨li.cX,li.sh+row*esz+off,ah4⟩))
 |bw (cs:List PV) (off b o:Nat) (vs:List Value) (h:eo im loc cs vs) (hv: ∀(j:Nat) (v:Value),vs[j]? =ah0 v->kV im b (o+j)=ah0 v):
  VR im loc (.bw cs off) (.pointer (ah0 ⟨b,o+off,ah4⟩))
 |mp (t:Nat) (li:LI) (hl:loc t=ah0 li):VR im loc (.mp t) (.map (ah0 li.cX))
 |ed (fn:FuncId) (a b:List PV) (as bs:List Value) (ha:eo im loc a as) (hb:eo im loc b bs):VR im loc (.ed fn a b) (.func (.func fn) ⟨as⟩ ⟨bs⟩)
 |dv:VR im loc .dv .nilFunc
inductive eo (im:Im) (loc:Loc):List PV->List Value->Prop
 |nil:eo im loc [] []
 |cons (x:PV) (v:Value) (xs:List PV) (vs:List Value) (h:VR im loc x v) (hs:eo im loc xs vs):eo im loc (x::xs) (v::vs)
end
def mF (im dK:Im):Prop:= ∀b o,im b=ah0 o->dK b=ah0 o
def kT (loc ba:Loc):Prop:= ∀t li,loc t=ah0 li->ba t=ah0 li
theorem mF.refl (im:Im):mF im im:=fun _ _ h=>h
theorem mF.trans {a b c:Im} (h:mF a b) (k:mF b c):mF a c:=fun x o e=>k x o (h x o e)
theorem kT.refl (loc:Loc):kT loc loc:=fun _ _ h=>h
theorem kT.trans {a b c:Loc} (h:kT a b) (k:kT b c):kT a c:=fun x o e=>k x o (h x o e)
theorem mF.cell {im dK:Im} (h:mF im dK) {b o:Nat} {v:Value} (hc:kV im b o=ah0 v):kV dK b o=ah0 v:=by
 unfold kV at hc ⊢;cases hb:im b with
 |none=>rw [hb] at hc;cases hc
 |some x=>rw [hb] at hc;rw [h b x hb];exact hc
theorem bz.mono {g g':Nat->Option Value} {sh esz:Nat} {rows:List Row} (h:bz g sh esz rows) (hg: ∀k v,g k=ah0 v->g' k=ah0 v):
 bz g' sh esz rows:=by
 intro i r hr;obtain ⟨h1,h2⟩:=h i r hr;exact ⟨h1,fun j c hc=>let ⟨v,hv,hw⟩:=h2 j c hc;⟨v,hv,hg _ _ hw⟩⟩
mutual
theorem VR.mono {im dK:Im} {loc ba:Loc} (hi:mF im dK) (hl:kT loc ba): ∀{x:PV} {v:Value},VR im loc x v->VR dK ba x v
 |_,_,.undef v=> .undef v
 |_,_,.iI=> .iI
 |_,_,.int k n=> .int k n
 |_,_,.bool b=> .bool b
 |_,_,.str s=> .str s
 |_,_,.agg cs vs h=> .agg cs vs (eo.mono hi hl h)
 |_,_,.bT cs vs h=> .bT cs vs (eo.mono hi hl h)
 |_,_,.sl esz pD rows a cap hc hk h=> .sl esz pD rows a cap hc hk fun dC=>let ⟨b,o,ha,hr⟩:=h dC;⟨b,o,ha,hr.mono fun _ _ e=>hi.cell e⟩
 |_,_,.own t esz off len cap ex li a cw h1 h2 h3 h4 h5 h6 h7=> .own t esz off len cap ex li a cw (hl _ _ h1) h2 h3 h4 h5 h6 h7
 |_,_,.ptr t esz row off li h1 h2 h3=> .ptr t esz row off li (hl _ _ h1) h2 h3
 |_,_,.bw cs off b o vs h hv=> .bw cs off b o vs (eo.mono hi hl h) fun j v e=>hi.cell (hv j v e)
 |_,_,.mp t li h=> .mp t li (hl _ _ h)
 |_,_,.ed fn a b as bs ha hb=> .ed fn a b as bs (eo.mono hi hl ha) (eo.mono hi hl hb)
 |_,_,.dv=> .dv
theorem eo.mono {im dK:Im} {loc ba:Loc} (hi:mF im dK) (hl:kT loc ba): ∀{x:List PV} {v:List Value},eo im loc x v->eo dK ba x v
 |_,_,.nil=> .nil
 |_,_,.cons x v xs vs h hs=> .cons x v xs vs (VR.mono hi hl h) (eo.mono hi hl hs)
end
theorem eo.lG {im:Im} {loc:Loc}: ∀{x:List PV} {v:List Value},eo im loc x v->agY x=agY v
 |_,_,.nil=>rfl
 |_,_,.cons _ _ _ _ _ hs=>by simp [hs.lG]
theorem eo.get {im:Im} {loc:Loc}: ∀{xs:List PV} {vs:List Value},eo im loc xs vs-> ∀(i:Nat) (x:PV),xs[i]? =ah0 x-> ∃v,vs[i]? =ah0 v/\VR im loc x v
 |_,_,.nil,i,x,h=>by simp at h
 |_,_,.cons y v xs vs h hs,0,x,e=>by simp at e;subst e;exact ⟨v,rfl,h⟩
 |_,_,.cons y v xs vs h hs,i+1,x,e=>by obtain ⟨u,hu,hr⟩:=hs.get i x (by simpa using e);exact ⟨u,by simpa using hu,hr⟩
theorem eo.append {im:Im} {loc:Loc}: ∀{xs:List PV} {vs:List Value},eo im loc xs vs-> ∀{ys:List PV} {us:List Value},eo im loc ys us->eo im loc (xs++ys) (vs++us)
 |_,_,.nil,_,_,k=>k
 |_,_,.cons y v xs vs h hs,_,_,k=> .cons _ _ _ _ h (hs.append k)
theorem eo.take {im:Im} {loc:Loc}: ∀{xs:List PV} {vs:List Value},eo im loc xs vs-> ∀n,eo im loc (xs.take n) (vs.take n)
 |_,_,.nil,n=>by simp;exact .nil
 |_,_,.cons y v xs vs h hs,0=> .nil
 |_,_,.cons y v xs vs h hs,n+1=> .cons _ _ _ _ h (hs.take n)
theorem eo.drop {im:Im} {loc:Loc}: ∀{xs:List PV} {vs:List Value},eo im loc xs vs-> ∀n,eo im loc (xs.drop n) (vs.drop n)
 |_,_,.nil,n=>by simp;exact .nil
 |_,_,.cons y v xs vs h hs,0=> .cons _ _ _ _ h hs
 |_,_,.cons y v xs vs h hs,n+1=>hs.drop n
theorem eo.of {im:Im} {loc:Loc}: ∀(xs:List PV) (vs:List Value),agY xs=agY vs->(∀(i:Nat) (x:PV) (v:Value),xs[i]? =ah0 x->vs[i]? =ah0 v->VR im loc x v)->eo im loc xs vs
 | [],[],_,_=> .nil
 |x::xs,v::vs,hl,h=> .cons x v xs vs (h 0 x v rfl rfl) (eo.of xs vs (by simpa using hl) fun i a b ha hb=>h (i+1) a b (by simpa using ha) (by simpa using hb))
theorem VR.plain {im:Im} {loc:Loc} {x:PV} {v:Value} (h:VR im loc x v) (hp:x.plain=ah5):gB x=ah0 v:=by cases h<;>first|rfl|cases hp
theorem VR.zy {im:Im} {loc:Loc} {x:PV} {v:Value} (h:gB x=ah0 v):VR im loc x v:=by cases x<;>simp only [gB,v6] at h<;>first|(subst h;constructor)|cases h
theorem VR.cells {im:Im} {loc:Loc} {x:PV} {v:Value} (h:VR im loc x v) (hs: ∀c∈x.cells,c.oP=ah5):eo im loc x.cells v.cells.toList:=by
 have one: ∀{y:PV} {u:Value},VR im loc y u->y.oP=ah5->(∀us,u≠ .agg us):=by intro y u hy ho us e;subst e;cases hy<;>cases ho
 cases h with
 |agg cs vs h=>exact h
 |undef v=>have:=hs .undef (by simp [PV.cells]);cases this
 |iI=>have:=hs .iI (by simp [PV.cells]);cases this
 |bT cs vs h=>have:=hs (.bT cs) (by simp [PV.cells]);cases this
 |int k n=>exact .cons _ _ _ _ (.int k n) .nil
 |bool b=>exact .cons _ _ _ _ (.bool b) .nil
 |str s=>exact .cons _ _ _ _ (.str s) .nil
 |sl esz pD rows a cap hc hk h=>exact .cons _ _ _ _ (.sl esz pD rows a cap hc hk h) .nil
 |own t esz off len cap ex li a cw h1 h2 h3 h4 h5 h6 h7=>exact .cons _ _ _ _ (.own t esz off len cap ex li a cw h1 h2 h3 h4 h5 h6 h7) .nil
 |ptr t esz row off li h1 h2 h3=>exact .cons _ _ _ _ (.ptr t esz row off li h1 h2 h3) .nil
 |bw cs off b o vs h hv=>exact .cons _ _ _ _ (.bw cs off b o vs h hv) .nil
 |mp t li h=>exact .cons _ _ _ _ (.mp t li h) .nil
 |ed fn a b as bs ha hb=>exact .cons _ _ _ _ (.ed fn a b as bs ha hb) .nil
 |dv=>exact .cons _ _ _ _ .dv .nil
theorem VR.Gy {im:Im} {loc:Loc} {x:PV} {v:Value} (h:VR im loc x v) (hs:x.oP=ah5):(∀us,v≠ .agg us)/\ ∀us,v≠ .tuple us:=by cases h<;>first|(simp [PV.oP] at hs;done)|simp
def valOf:PV->Option Value
 | .agg cs=>(cs.mapM gB).map fun vs=> .agg ⟨vs⟩
 |x=>gB x
def eO:List (PV×PV)->List MapEntry->Prop
 | [],[]=>True
 |(k,v)::r,e::r'=>valOf k=ah0 e.key/\valOf v=ah0 e.val/\eO r r'
 |_,_=>False
def BR (im:Im) (loc:Loc) (w:World) (li:LI):jc->Prop
 | .arr e rows=>li.esz=e/\li.n=agY rows/\(rows≠[]-> ∃cs el,w.heap[li.cX]? =ah0 (.cells cs el (0,0))/\cs.size=li.sz/\li.sh+agY rows*e<=li.sz/\bz (fun k=>cs[k]?) li.sh e rows)
 | .box cells=>(li.esz=agY cells/\li.n=1\/li.esz=1/\li.n=agY cells)/\True/\li.sh=0/\ ∃vs el,w.heap[li.cX]? =ah0 (.cells ⟨vs⟩ el (0,0))/\agY vs=li.sz/\eo im loc cells vs
 | .map es=> ∃jN clock,w.heap[li.cX]? =ah0 (.map jN clock)/\eO es jN.toList
 | .dead=>True
theorem BR.mono {im dK:Im} {loc ba:Loc} {w w':World} {li:LI} {k:jc} (h:BR im loc w li k) (hi:mF im dK) (hl:kT loc ba)
 (hw:w'.heap[li.cX]? =w.heap[li.cX]?):BR dK ba w' li k:=by
 cases k with
 |arr e rows=>exact ⟨h.1,h.2.1,fun dC=>let ⟨cs,el,h1,h2,h3⟩:=h.2.2 dC;⟨cs,el,by rw [hw];exact h1,h2,h3⟩⟩
 |box cells=>obtain ⟨h1,h2,h3,vs,el,h4,h5,h6⟩:=h;exact ⟨h1,h2,h3,vs,el,by rw [hw];exact h4,h5,h6.mono hi hl⟩
 |map es=>obtain ⟨en,cl,h1,h2⟩:=h;exact ⟨en,cl,by rw [hw];exact h1,h2⟩
 |dead=>trivial
theorem BR.lt {im:Im} {loc:Loc} {w:World} {li:LI} {k:jc} (h:BR im loc w li k) (hs:k.bA=ah5):li.cX<w.heap.size:=by
 have get: ∀{o:Obj},w.heap[li.cX]? =ah0 o->li.cX<w.heap.size:=fun e=>by
  rcases ad0 li.cX w.heap.size with h|h
  · exact h
  simp [aeC h] at e
 cases k with
 |arr e rows=>
  cases rows with
  |nil=>cases hs
  |cons r rs=>obtain ⟨cs,el,h1,_⟩:=h.2.2 (by simp);exact get h1
 |box cells=>obtain ⟨_,_,_,vs,el,h4,_⟩:=h;exact get h4
 |map es=>obtain ⟨en,cl,h1,h2⟩:=h;exact get h1
 |dead=>cases hs
structure SR (im:Im) (loc:Loc) (az:bS) (fz:List Nat) (w:World):Prop where
 bu: ∀b o,im b=ah0 o->w.heap[b]? =ah0 o
 cX: ∀t li,loc t=ah0 li-> ∃k,az[t]? =ah0 k/\BR im loc w li k
 gQ: ∀t u li lj k k',loc t=ah0 li->loc u=ah0 lj->az[t]? =ah0 k->az[u]? =ah0 k'->k.bA=ah5->k'.bA=ah5->li.cX=lj.cX->t=u
 free: ∀t li k,loc t=ah0 li->az[t]? =ah0 k->k.bA=ah5->has fz t=ah8->im li.cX=ah4
def ER (im:Im) (loc:Loc) (e:Env) (tmps:Array Value):Prop:= ∀t,VR im loc (lk t e) (tmps.getD t Go.undef)
theorem ER.mono {im dK:Im} {loc ba:Loc} (hi:mF im dK) (hl:kT loc ba) {e:Env} {tmps:Array Value} (h:ER im loc e tmps):ER dK ba e tmps:=
 fun t=>(h t).mono hi hl
theorem pZ (t s:Nat) (v:PV) (e:Env):lk t ((s,v)::e)=if s=t then v else lk t e:=by
 simp only [lk]
 by_cases h:s=t<;>simp [h]
theorem ER.put {im:Im} {loc:Loc} {e:Env} {tmps:Array Value} (h:ER im loc e tmps) {d:Nat} {x:PV} {v:Value} (hd:d<tmps.size) (hv:VR im loc x v):
 ER im loc ((d,x)::e) (tmps.setIfInBounds d v):=by
 intro t;rw [pZ]
 by_cases hdt:d=t
 · subst hdt
   simpa [hd] using hv
 rw [sp hdt]
 have:=h t;simpa [ad4,hdt] using this
end Go.Vm
/- Renaming the blocks. -/
namespace Go.Vm
theorem xd {t:Nat}: ∀{m:List Nat} {u:Nat},idxOf t m=ah0 u->m[u]? =ah0 t
 | [],u,h=>by simp [idxOf] at h
 |s::r,u,h=>by
  simp only [idxOf] at h;split at h
  · rename_i e
    injection h with h;subst h;have:s=t:=by simpa using e
    simp [this]
  rw [AC] at h
  obtain ⟨v,hv,rfl⟩:=h;simpa using xd hv
section
variable {im : Im} {loc cL : Loc} {m : List Nat}
def Ren (m:List Nat) (loc cL:Loc):Prop:= ∀(u t:Nat),m[u]? =ah0 t->cL u=loc t
mutual
theorem O9 (hm:Ren m loc cL): ∀{x y:PV} {v:Value},VR im loc x v->zu m x=ah0 y->VR im cL y v
 | .undef,y,v,h,hr=>by simp only [zu,v6] at hr;subst hr;exact .undef _
 | .iI,y,v,h,hr=>by simp only [zu,v6] at hr;subst hr;cases h;exact .iI
 | .int k n,y,v,h,hr=>by simp only [zu,v6] at hr;subst hr;cases h;exact .int _ _
 | .bool b,y,v,h,hr=>by simp only [zu,v6] at hr;subst hr;cases h;exact .bool _
 | .str b,y,v,h,hr=>by simp only [zu,v6] at hr;subst hr;cases h;exact .str _
 | .dv,y,v,h,hr=>by simp only [zu,v6] at hr;subst hr;cases h;exact .dv
 | .agg cs,y,v,h,hr=>by simp only [zu,AC] at hr;obtain ⟨Fu,h1,rfl⟩:=hr;cases h with|agg _ vs h=>exact .agg _ _ (rC hm h h1)
 | .bT cs,y,v,h,hr=>by simp only [zu,AC] at hr;obtain ⟨Fu,h1,rfl⟩:=hr;cases h with|bT _ vs h=>exact .bT _ _ (rC hm h h1)
 | .sl e c rows,y,v,h,hr=>by simp only [zu,v6] at hr;subst hr;cases h with|sl _ _ _ a cap h1 h2 h3=>exact .sl _ _ _ a cap h1 h2 h3
 | .own t e off len cap ex,y,v,h,hr=>by simp only [zu,AC] at hr;obtain ⟨u,h1,rfl⟩:=hr;cases h with|own _ _ _ _ _ _ li a cw g1 g2 g3 g4 g5 g6 g7=>exact .own _ _ _ _ _ _ li a cw (by rw [hm u t (xd h1)];exact g1) g2 g3 g4 g5 g6 g7
 | .ptr t e row off,y,v,h,hr=>by simp only [zu,AC] at hr;obtain ⟨u,h1,rfl⟩:=hr;cases h with|ptr _ _ _ _ li g1 g2 g3=>exact .ptr _ _ _ _ li (by rw [hm u t (xd h1)];exact g1) g2 g3
 | .bw cs off,y,v,h,hr=>by simp only [zu,AC] at hr;obtain ⟨Fu,h1,rfl⟩:=hr;cases h with|bw _ _ b o vs h hv=>exact .bw _ _ b o vs (rC hm h h1) hv
 | .mp t,y,v,h,hr=>by simp only [zu,AC] at hr;obtain ⟨u,h1,rfl⟩:=hr;cases h with|mp _ li g1=>exact .mp _ li (by rw [hm u t (xd h1)];exact g1)
 | .ed f a b,y,v,h,hr=>by
  simp only [zu] at hr;split at hr
  · rename_i a' b' ha hb
    injection hr with hr;subst hr;cases h with|ed _ _ _ as bs h1 h2=>exact .ed _ _ _ _ _ (rC hm h1 ha) (rC hm h2 hb)
  cases hr
theorem rC (hm:Ren m loc cL): ∀{x y:List PV} {v:List Value},eo im loc x v->xP m x=ah0 y->eo im cL y v
 | [],y,v,h,hr=>by simp only [xP,v6] at hr;subst hr;cases h;exact .nil
 |x::xs,y,v,h,hr=>by
  simp only [xP] at hr;split at hr
  · rename_i x' xs' h1 h2
    injection hr with hr;subst hr;cases h with|cons _ u _ us g1 g2=>exact .cons _ _ _ _ (O9 hm g1 h1) (rC hm g2 h2)
  cases hr
end
theorem BQ: ∀{x y:List PV},xP m x=ah0 y->agY y=agY x
 | [],y,h=>by simp only [xP,v6] at h;subst h;rfl
 |x::xs,y,h=>by
  simp only [xP] at h;split at h
  · rename_i x' xs' h1 h2
    injection h with h;subst h;simp [BQ h2]
  cases h
theorem Fv {w:World} {li:LI} {k k':jc} (hm:Ren m loc cL) (hr:mD m k=ah0 k') (h:BR im loc w li k):BR im cL w li k':=by
 cases k with
 |arr e rows=>simp only [mD,v6] at hr;subst hr;exact h
 |map es=>simp only [mD,v6] at hr;subst hr;exact h
 |dead=>simp only [mD,v6] at hr;subst hr;trivial
 |box cs=>simp only [mD,AC] at hr;obtain ⟨Fu,h1,rfl⟩:=hr;obtain ⟨g1,g2,g3,vs,el,g4,g5,g6⟩:=h;exact ⟨by rw [BQ h1];exact g1,g2,g3,vs,el,g4,g5,rC hm g6 h1⟩
theorem zz {k k':jc} (hr:mD m k=ah0 k'):k'.bA=k.bA:=by
 cases k with
 |arr e rows=>simp only [mD,v6] at hr;subst hr;rfl
 |map es=>simp only [mD,v6] at hr;subst hr;rfl
 |dead=>simp only [mD,v6] at hr;subst hr;rfl
 |box cs=>simp only [mD,AC] at hr;obtain ⟨Fu,h1,rfl⟩:=hr;rfl
theorem AU {az:bS}: ∀{l:List Nat} {s1:bS},vH az m l=ah0 s1->agY s1=agY l/\ ∀(u t:Nat),l[u]? =ah0 t-> ∃k k',az[t]? =ah0 k/\mD m k=ah0 k'/\s1[u]? =ah0 k'
 | [],s1,h=>by simp only [vH,v6] at h;subst h;exact ⟨rfl,fun u t h=>by simp at h⟩
 |t::ts,s1,h=>by
  simp only [vH] at h;split at h
  · rename_i b hb
    split at h
    · rename_i b' r h1 h2
      injection h with h;subst h;obtain ⟨g1,g2⟩:=AU h2;refine ⟨by simp [g1],fun u t' ht=>?_⟩;cases u with
      |zero=>simp at ht;subst ht;exact ⟨b,b',hb,h1,rfl⟩
      |succ u=>simpa using g2 u t' (by simpa using ht)
    cases h
  cases h
end
end Go.Vm
/- Operation by operation: the model's run gives what the logical machine says. First part: what reads no memory. -/
namespace Go.Vm
theorem eu {k l:IntKind}:eG k l=ah5↔k=l:=by cases k<;>cases l<;>simp [eG]
theorem CG {n:Int} (h1: -9223372036854775808<=n) (h2:n<9223372036854775808):IntKind.wrap .i64 n=n:=by
 simp only [IntKind.wrap,IntKind.bits,IntKind.signed,agy];have e1:(2:Int)^64=18446744073709551616:=by decide
 have e2:(2:Int)^(64-1)=9223372036854775808:=by decide
 simp only [e1,e2,decide_eq_true_eq];split<;>omega
theorem qE (k:IntKind) (n:Int):aj k n=k.wrap n:=by
 unfold aj;split
 · rename_i m
   split
   · rename_i h
     have h:m<9223372036854775808:=by simpa using h
     have e:Int.ofNat m=(m:Int):=rfl;exact (CG (by rw [e];omega) (by rw [e];omega)).symm
   rfl
 · rename_i m
   split
   · rename_i h
     have h:m<9223372036854775808:=by simpa using h
     exact (CG (by omega) (by omega)).symm
   rfl
 · rename_i m
   simp only [IntKind.wrap,IntKind.bits,IntKind.signed,Bool.false_and];have e1:(2:Int)^64=18446744073709551616:=by decide
   simp only [e1];rfl
 rfl
section
variable {P : Program} {im : Im} {loc : Loc} {w : World}
theorem VR.eF {k:IntKind} {n:Int} {v:Value} (h:VR im loc (.int k n) v):v= .int k n:=by cases h;rfl
theorem VR.iR {b:Bool} {v:Value} (h:VR im loc (.bool b) v):v= .bool b:=by cases h;rfl
theorem VR.CH {b:ByteArray} {v:Value} (h:VR im loc (.str b) v):v= .string b:=by cases h;rfl
theorem VR.ou {cs:List PV} {v:Value} (h:VR im loc (.agg cs) v): ∃vs,v= .agg ⟨vs⟩/\eo im loc cs vs:=by cases h with|agg _ vs h=>exact ⟨vs,rfl,h⟩
theorem VR.zA {cs:List PV} {v:Value} (h:VR im loc (.bT cs) v): ∃vs,v= .tuple ⟨vs⟩/\eo im loc cs vs:=by cases h with|bT _ vs h=>exact ⟨vs,rfl,h⟩
mutual
theorem Gz: ∀{x:PV} {v:Value},sx x v=ah5->VR im loc x v
 | .int k n,v,h=>by
  cases v<;>simp only [sx] at h<;>first|cases h|skip
  simp only [ut,beq_iff_eq,eu] at h;obtain ⟨rfl,rfl⟩:=h;exact .int _ _
 | .bool a,v,h=>by
  cases v<;>simp only [sx] at h<;>first|cases h|skip
  rename_i b;have:a=b:=by simpa using h
  subst this;exact .bool _
 | .str a,v,h=>by
  cases v<;>simp only [sx] at h<;>first|cases h|skip
  rename_i b;have h1:a.data.toList=b.data.toList:=by simpa using h
  obtain ⟨⟨x⟩⟩:=a;obtain ⟨⟨y⟩⟩:=b;have h2:x=y:=h1;subst h2;exact .str _
 | .sl e c [],v,h=>by
  cases v with
  |slice a n cap=>
   cases a with
   |none=>
    cases n with
    |zero=>
     cases cap with
     |zero=>exact .sl e c [] ah4 0 (Nat.zero_le _) (fun _=>rfl) (fun dC=>absurd rfl dC)
     |succ c=>simp [sx] at h
    |succ n=>simp [sx] at h
   |some a=>simp [sx] at h
  |_=>simp [sx] at h
 | .sl e c (_::_),v,h=>by simp [sx] at h
 | .agg cs,v,h=>by
  cases v<;>simp only [sx] at h<;>first|cases h|skip
  rename_i vs;exact .agg cs vs.toList (vK h)
 | .dv,v,h=>by
  cases v<;>simp only [sx] at h<;>first|cases h|skip
  exact .dv
 | .undef,v,_=> .undef v
 | .iI,v,h=>by simp [sx] at h
 | .bT _,v,h=>by simp [sx] at h
 | .own ..,v,h=>by simp [sx] at h
 | .ptr ..,v,h=>by simp [sx] at h
 | .bw ..,v,h=>by simp [sx] at h
 | .mp _,v,h=>by simp [sx] at h
 | .ed ..,v,h=>by simp [sx] at h
theorem vK: ∀{x:List PV} {v:List Value},Da x v=ah5->eo im loc x v
 | [],[],_=> .nil
 |x::xs,v::vs,h=>by simp only [Da,ut] at h;exact .cons _ _ _ _ (Gz h.1) (vK h.2)
 | [],_::_,h=>by simp [Da] at h
 |_::_,[],h=>by simp [Da] at h
end
theorem SK {op : BinOp} {t : TypeId} {a b : Operand} {x y : PV} {u v : Value} {z : PV} (hx : VR im loc x u) (hy : VR im loc y v) (h : Nn op x y = ah0 z) :
    ∃ r, (do eqGuard op t a b u v; binOp op t u v : Sem Value).run P w = .ok r w /\ VR im loc z r := by
  unfold Nn at h
  split at h
  · rename_i k a l b
    obtain rfl := hx.eF
    obtain rfl := hy.eF
    have hg : ∀ (k l : IntKind) (a b : Int) (o p : Operand), (eqGuard op t o p (.int k a) (.int l b)).run P w = .ok () w := by
      intros; unfold eqGuard; cases op <;> simp
    split at h
    · simp only [AQ] at h
      split at h
      · cases h
      rename_i hb
      injection h with h; subst h
      refine ⟨_, ?_, .int _ _⟩
      simp only [Do, hg, ww, binOp, Op.shift, hb, if_false]
      rfl
    · simp only [AQ] at h
      split at h
      · cases h
      rename_i hb
      injection h with h; subst h
      refine ⟨_, ?_, .int _ _⟩
      simp only [Do, hg, ww, binOp, Op.shift, hb, if_false]
      rfl
    split at h
    · rename_i anV anW hk
      have := eu.1 hk; subst this
      unfold arith at h
      split at h
      all_goals first
        | (injection h with h; subst h
           first
             | (refine ⟨_, ?_, .int _ _⟩
                simp only [Do, hg, ww, binOp, Op.intArith, Op.intBits, qE, ne_eq, not_true_eq_false, if_false]
                rfl)
             | (refine ⟨_, ?_, .bool _⟩
                simp only [Do, hg, ww, binOp, Op.intCmp, ne_eq, not_true_eq_false, if_false]
                rfl))
        | (split at h
           · cases h
           rename_i hb
           injection h with h; subst h
           refine ⟨_, ?_, .int _ _⟩
           simp only [Do, hg, ww, binOp, Op.intDiv, qE, ne_eq, not_true_eq_false, if_false, hb]
           rfl)
        | cases h
    cases h
  cases h
theorem O' {neg:Bool} {op:BinOp} {t:TypeId} {p q:Operand} {a b:Bool} (ho:op=if neg then .neq else .eql) (ht:P.underlying t=ah0 .bool):
 (do eqGuard op t p q (.bool a) (.bool b);binOp op t (.bool a) (.bool b):Sem Value).run P w= .ok (.bool (if neg then !(a==b) else a==b)) w:=by
 have h1:(Op.equal t (.bool a) (.bool b)).run P w= .ok (a==b) w:=run_equalIn_bool' w 9999 t a b ht;cases neg<;>simp only [ad2,if_false,if_true] at ho<;>subst ho<;>simp [eqGuard,binOp,h1]
theorem Ye {op:UnOp} {x z:PV} {u:Value} (hx:VR im loc x u) (h:unE op x=ah0 z): ∃r,(Op.unary op u).run P w= .ok r w/\VR im loc z r:=by
 unfold unE at h;split at h
 · injection h with h;subst h
   obtain rfl:=hx.eF;exact ⟨_,rfl,by rw [qE];exact .int _ _⟩
 · injection h with h;subst h
   obtain rfl:=hx.iR;exact ⟨_,rfl,.bool _⟩
 cases h
theorem Pa {s d:TypeId} {k k':IntKind} {n:Int} {ds:TypeDesc} (hs:P.underlying s=ah0 ds) (hd:P.underlying d=ah0 (.int k)):
 (convert s d (.int k' n)).run P w= .ok (.int k (aj k n)) w:=by
 simp only [convert,Do,run_underlying hs,run_underlying hd,ww,qE];cases ds<;>rfl
theorem AV {t:TypeId} (h:fZ P t=ah5):(isAgg t).run P w= .ok ah5 w:=by
 unfold fZ at h;split at h
 · rename_i f hu;simp [isAgg,run_underlying hu]
 · rename_i n f hu;simp [isAgg,run_underlying hu]
 cases h
theorem AW {t:TypeId} (hs:(P.underlying t).isSome=ah5) (h:fZ P t=ah8):(isAgg t).run P w= .ok ah8 w:=by
 cases hu:P.underlying t with
 |none=>rw [hu] at hs;cases hs
 |some d=>unfold fZ at h;rw [hu] at h;cases d<;>first|(simp [isAgg,run_underlying hu];done)|cases h
theorem jx {t:TypeId} {n:Nat} (h:nD P t n=ah5):(sizeOf t).run P w= .ok n w:=by
 unfold nD at h;cases hi:P.info? t with
 |none=>rw [hi] at h;cases h
 |some i=>
  rw [hi] at h;have:i.size=n:=by simpa using h
  simp [sizeOf,typeInfo,hi,this]
theorem H0 {agg:Option Nat} {t:TypeId} {off:Nat} {cs:List PV} {vs:List Value} {x:PV} (ha:zx P t agg=ah5) (h:eo im loc cs vs)
 (hp:part agg off cs=ah0 x): ∃v,(Go.part t ⟨vs⟩ off).run P w= .ok v w/\VR im loc x v:=by
 unfold zx at ha;simp only [ut] at ha;obtain ⟨hs,ha⟩:=ha;cases agg with
 |some n=>
  simp only [ut] at ha;simp only [part] at hp;split at hp
  · rename_i jZ
    injection hp with hp;subst hp;refine ⟨.agg ⟨(vs.drop off).take n⟩,?_,.agg _ _ ((h.drop off).take n)⟩;simp only [Go.part,Do,AV ha.1,ww,if_true,jx ha.2,EQ]
    congr 2
    apply ad9;simp [ael]
  cases hp
 |none=>
  simp only [ut,ad7] at ha;simp only [part] at hp;obtain ⟨v,hv,hr⟩:=h.get off x hp;refine ⟨v,?_,hr⟩;simp only [Go.part,Do,AW hs ha.1,ww,ad2,if_false];have:(⟨vs⟩:Array Value)[off]? =ah0 v:=by simpa using hv
  simp [this]
theorem tN {agg:Option Nat} {t:TypeId} {b o off:Nat} {cs:List PV} {vs:List Value} {x:PV} (ha:zx P t agg=ah5) (h:eo im loc cs vs)
 (hm: ∀(j:Nat) (v:Value),vs[j]? =ah0 v->w.cell? ⟨b,o+j,ah4⟩=ah0 v)
 (hp:part agg off cs=ah0 x): ∃v,(loadVar t ⟨b,o+off,ah4⟩).run P w= .ok v w/\VR im loc x v:=by
 unfold zx at ha;simp only [ut] at ha;obtain ⟨hs,ha⟩:=ha;have Yf: ∀k j:Nat,(⟨b,k,ah4⟩:Addr).add j=⟨b,k+j,ah4⟩:=by
  intro k j;unfold Addr.add;split
  · rename_i h;subst h;rfl
  rfl
 cases agg with
 |some n=>
  simp only [ut] at ha;simp only [part] at hp;split at hp
  · rename_i jZ
    injection hp with hp;subst hp;refine ⟨.agg ⟨(vs.drop off).take n⟩,?_,.agg _ _ ((h.drop off).take n)⟩;have hl:((vs.drop off).take n).length=n:=by have:=h.lG;simp;omega
    have:=run_loadCells_list (P:=P) w ⟨b,o+off,ah4⟩ ((vs.drop off).take n) (by
     intro j v hj;rw [Yf];have hj':j<n:=by
      rcases ad0 j n with h|h
      · exact h
      rw [NE (by omega)] at hj;cases hj
     rw [adY hj',aeh] at hj;have:=hm _ _ hj
     rwa [show o+(off+j)=o+off+j by omega] at this)
    rw [hl] at this;simp only [loadVar,Do,AV ha.1,ww,if_true,jx ha.2,this,EQ]
  cases hp
 |none=>simp only [ut,ad7] at ha;simp only [part] at hp;obtain ⟨v,hv,hr⟩:=h.get off x hp;refine ⟨v,?_,hr⟩;simp only [loadVar,Do,AW hs ha.1,ww,ad2,if_false];rw [run_load,hm off v hv]
end
end Go.Vm
/- What an operation does to the memory, and the shapes in which it does it. -/
namespace Go.Vm
structure rD (im:Im) (loc:Loc) (az:bS) (w:World) (r:mC) (dK:Im) (ba:Loc) (w':World):Prop where
 fD:mF im dK
 dp:kT loc ba
 bu: ∀b o,dK b=ah0 o->w'.heap[b]? =ah0 o
 dy: ∀b o,dK b=ah0 o->im b=ah0 o\/w.heap.size<=b\/ ∃t li k,has r.fr t=ah5/\loc t=ah0 li/\az[t]? =ah0 k/\k.bA=ah5/\li.cX=b
 os:w'.os=w.os
 tape:Tape w w'
 output:w'.output=w.output
 size:w.heap.size<=w'.heap.size
 frame: ∀b,b<w.heap.size->(∀t k li k0,(t,k)∈r.wr->loc t=ah0 li->az[t]? =ah0 k0->k0.bA=ah5->li.cX≠b)->w'.heap[b]? =w.heap[b]?
 No: ∀t k,(t,k)∈r.wr->k.bA=ah5-> ∃k0,az[t]? =ah0 k0/\k0.bA=ah5
 wr: ∀t k li,(t,k)∈r.wr->loc t=ah0 li->BR dK ba w' li k
 jO: ∀t li,ba t=ah0 li->loc t=ah0 li\/(agY az<=t/\t<agY az+agY r.news)
 news: ∀(j:Nat) (k:jc) (li:LI),r.news[j]? =ah0 k->ba (agY az+j)=ah0 li->BR dK ba w' li k/\
  (k.bA=ah5->dK li.cX=ah4/\(w.heap.size<=li.cX\/ ∃t lt k0,(t,jc.dead)∈r.wr/\loc t=ah0 lt/\az[t]? =ah0 k0/\k0.bA=ah5/\lt.cX=li.cX))
 distinct: ∀(i j:Nat) (ki kj:jc) (li lj:LI),r.news[i]? =ah0 ki->r.news[j]? =ah0 kj->ki.bA=ah5->kj.bA=ah5->
  ba (agY az+i)=ah0 li->ba (agY az+j)=ah0 lj->li.cX=lj.cX->i=j
theorem AX {α:Type} {n:Nat} {l:List α} {loc:Loc} {A:LI->α->Prop} (h: ∀(j:Nat) (k:α),l[j]? =ah0 k-> ∃li,loc (n+j)=ah0 li/\A li k):
 ∀(j:Nat) (k:α) (li:LI),l[j]? =ah0 k->loc (n+j)=ah0 li->A li k:=fun j k li hj hl=>by
 obtain ⟨li',h1,h2⟩:=h j k hj;rw [hl] at h1;injection h1 with h1;subst h1;exact h2
structure iG (im:Im) (loc:Loc) (az:bS) (w:World) (r:mC):Prop where
 bu: ∀b o,im b=ah0 o->w.heap[b]? =ah0 o
 tok: ∀t,t∈r.rd\/(∃k,(t,k)∈r.wr)-> ∀li,loc t=ah0 li-> ∃k,az[t]? =ah0 k/\BR im loc w li k
 free: ∀t k,(t,k)∈r.wr-> ∀li k',loc t=ah0 li->az[t]? =ah0 k'->k'.bA=ah5->im li.cX=ah4
 fresh: ∀j,j<agY r.news->loc (agY az+j)=ah4
 gQ: ∀t u li lj k k',(t∈r.rd\/ ∃b,(t,b)∈r.wr)->(u∈r.rd\/ ∃b,(u,b)∈r.wr)->loc t=ah0 li->loc u=ah0 lj->az[t]? =ah0 k->az[u]? =ah0 k'->k.bA=ah5->k'.bA=ah5->li.cX=lj.cX->t=u
section
variable {im : Im} {loc : Loc} {az : bS} {w : World} {r : mC}
theorem rD.none (hk:iG im loc az w r) (hn:r.news=[]) (hw:r.wr=[]):rD im loc az w r im loc w where
 fD:= .refl _
 dp:= .refl _
 bu:=hk.bu
 dy:=fun _ _ h=> .inl h
 os:=rfl
 tape:= .refl _
 output:=rfl
 size:=If _
 frame:=fun _ _ _=>rfl
 No:=fun t k h=>by rw [hw] at h;cases h
 wr:=fun t k li h=>by rw [hw] at h;cases h
 jO:=fun _ _ h=> .inl h
 news:=fun j k li h=>by rw [hn] at h;simp at h
 distinct:=fun i j ki kj li lj h=>by rw [hn] at h;simp at h
def Loc.set (loc:Loc) (t:Nat) (li:LI):Loc:=fun u=>if u=t then ah0 li else loc u
theorem Loc.ez (loc:Loc) (t:Nat) (li:LI):loc.set t li t=ah0 li:=by simp [Loc.set]
theorem Loc.vL {loc:Loc} {t:Nat} (li:LI) (h:loc t=Option.none):kT loc (loc.set t li):=by
 intro u l hu;unfold Loc.set;split
 · rename_i e;subst e;rw [h] at hu;cases hu
 exact hu
theorem rD.new (hk:iG im loc az w r) {k:jc} {o:Obj} {w':World} (li:LI) (hn:r.news=[k]) (hw:r.wr=[])
 (hh:w'.heap=w.heap.push o) (ho:w'.os=w.os) (ht:w'.tape=w.tape) (hp:w'.output=w.output) (hl:li.cX=w.heap.size)
 (hb:BR im (loc.set (agY az) li) w' li k) (hd:w.drawn<=w'.drawn:=by first|exact If _|exact Nat.le_succ _):rD im loc az w r im (loc.set (agY az) li) w' where
 fD:= .refl _
 dp:=Loc.vL li (by have:=hk.fresh 0 (by simp [hn]);simpa using this)
 bu:=fun b o h=>by
  have h1:=hk.bu b o h;have cY:b<w.heap.size:=by
   rcases ad0 b w.heap.size with h|h
   · exact h
   simp [aeC h] at h1
  rw [hh,aeS,sp (by omega)];exact h1
 dy:=fun _ _ h=> .inl h
 os:=ho
 tape:=⟨ht,hd⟩
 output:=hp
 size:=by rw [hh];simp
 frame:=fun b xX _=>by rw [hh,aeS,sp (by omega)]
 No:=fun t k h=>by rw [hw] at h;cases h
 wr:=fun t k li h=>by rw [hw] at h;cases h
 jO:=fun t l h=>by
  unfold Loc.set at h;split at h
  · rename_i e;subst e;exact .inr ⟨If _,by simp [hn]⟩
  exact .inl h
 news:=AX fun j k' h=>by
  rw [hn] at h;cases j with
  |zero=>
   simp at h;subst h;refine ⟨li,Loc.ez _ _ _,hb,fun _=>⟨?_,.inl (by omega)⟩⟩;cases hi:im li.cX with
   |none=>rfl
   |some o=>have:=hk.bu _ _ hi;rw [hl] at this;simp at this
  |succ j=>simp at h
 distinct:=fun i j ki kj li lj h1 h2 _ _ _ _ _=>by rw [hn] at h1 h2;cases i<;>cases j<;>simp at h1 h2<;>rfl
theorem rD.Pb (hk:iG im loc az w r) {esz:Nat} (hn:r.news=[.arr esz []]) (hw:r.wr=[]):rD im loc az w r im (loc.set (agY az) ⟨0,0,esz,0,0⟩) w where
 fD:= .refl _
 dp:=Loc.vL _ (by have:=hk.fresh 0 (by simp [hn]);simpa using this)
 bu:=hk.bu
 dy:=fun _ _ h=> .inl h
 os:=rfl
 tape:= .refl _
 output:=rfl
 size:=If _
 frame:=fun _ _ _=>rfl
 No:=fun t k h=>by rw [hw] at h;cases h
 wr:=fun t k li h=>by rw [hw] at h;cases h
 jO:=fun t l h=>by
  unfold Loc.set at h;split at h
  · rename_i e;subst e;exact .inr ⟨If _,by simp [hn]⟩
  exact .inl h
 news:=AX fun j k' h=>by
  rw [hn] at h;cases j with
  |zero=>simp at h;subst h;exact ⟨_,Loc.ez _ _ _,⟨rfl,rfl,fun dC=>absurd rfl dC⟩,fun hs=>by cases hs⟩
  |succ j=>simp at h
 distinct:=fun i j ki kj li lj h1 h2 _ _ _ _ _=>by rw [hn] at h1 h2;cases i<;>cases j<;>simp at h1 h2<;>rfl
theorem rD.write (hk:iG im loc az w r) {t:Nat} {k k0:jc} {o:Obj} {w':World} {li:LI} (hn:r.news=[]) (hw:r.wr=[(t,k)])
 (hl:loc t=ah0 li) (h0:az[t]? =ah0 k0) (hs:k0.bA=ah5)
 (hh:w'.heap=w.heap.setIfInBounds li.cX o) (ho:w'.os=w.os) (ht:w'.tape=w.tape) (hp:w'.output=w.output)
 (hb:BR im loc w' li k) (hd:w.drawn<=w'.drawn:=by first|exact If _|exact Nat.le_succ _):rD im loc az w r im loc w' where
 fD:= .refl _
 dp:= .refl _
 bu:=fun b o' h=>by
  have h1:=hk.bu b o' h;have pG:=hk.free t k (by simp [hw]) li k0 hl h0 hs;have dC:li.cX≠b:=fun e=>by rw [e,h] at pG;cases pG
  rw [hh,ad4,sp dC];exact h1
 dy:=fun _ _ h=> .inl h
 os:=ho
 tape:=⟨ht,hd⟩
 output:=hp
 size:=by rw [hh];simp
 frame:=fun b _ h=>by have dC:=h t k li k0 (by simp [hw]) hl h0 hs;rw [hh,ad4,sp dC]
 No:=fun t' k' hm _=>by rw [hw] at hm;simp at hm;exact ⟨k0,by rw [hm.1];exact h0,hs⟩
 wr:=fun t' k' li' h h'=>by rw [hw] at h;simp at h;obtain ⟨rfl,rfl⟩:=h;rw [hl] at h';injection h' with h';subst h';exact hb
 jO:=fun _ _ h=> .inl h
 news:=fun j k li h=>by rw [hn] at h;simp at h
 distinct:=fun i j ki kj li lj h=>by rw [hn] at h;simp at h
end
end Go.Vm
/- Operation by operation, second part: addresses, reads, new blocks. -/
namespace Go.Vm
section
variable {P : Program} {im : Im} {loc : Loc} {az : bS} {w : World}
theorem pH (b o n:Nat):(⟨b,o,ah4⟩:Addr).add n=⟨b,o+n,ah4⟩:=by
 unfold Addr.add;split
 · rename_i h;subst h;rfl
 rfl
theorem VR.xf {t e r o:Nat} {v:Value} (h:VR im loc (.ptr t e r o) v):
 ∃li,loc t=ah0 li/\li.esz=e/\r<li.n/\v= .pointer (ah0 ⟨li.cX,li.sh+r*e+o,ah4⟩):=by
 cases h with|ptr _ _ _ _ li h1 h2 h3=>exact ⟨li,h1,h2,h3,rfl⟩
theorem VR.vM {cs:List PV} {off:Nat} {v:Value} (h:VR im loc (.bw cs off) v):
 ∃b o vs,eo im loc cs vs/\(∀(j:Nat) (v:Value),vs[j]? =ah0 v->kV im b (o+j)=ah0 v)/\v= .pointer (ah0 ⟨b,o+off,ah4⟩):=by
 cases h with|bw _ _ b o vs h1 h2=>exact ⟨b,o,vs,h1,h2,rfl⟩
theorem jF {b o:Nat} {cs:Array Value} {el:TypeId} {fr:Nat×Nat} {v:Value} (h:w.heap[b]? =ah0 (.cells cs el fr)) (hc:cs[o]? =ah0 v):
 w.cell? ⟨b,o,ah4⟩=ah0 v:=by simp [World.cell?,h,hc]
theorem rF (hk: ∀b o,im b=ah0 o->w.heap[b]? =ah0 o) {b o:Nat} {v:Value} (h:kV im b o=ah0 v):w.cell? ⟨b,o,ah4⟩=ah0 v:=by
 unfold kV at h;cases hb:im b with
 |none=>rw [hb] at h;cases h
 |some x=>rw [hb] at h;cases x<;>first|exact jF (hk b _ hb) h|cases h
def aY (r:Row):List Value:=r.map fun c=>(gB c).getD Go.undef
theorem rG {get:Nat->Option Value} {sh esz:Nat} {rows:List Row} (h:bz get sh esz rows) {i:Nat} {r:Row} (hr:rows[i]? =ah0 r):
 eo im loc r (aY r)/\ ∀(j:Nat) (v:Value),(aY r)[j]? =ah0 v->get (sh+i*esz+j)=ah0 v:=by
 obtain ⟨_,hc⟩:=h i r hr;constructor
 · refine eo.of _ _ (by simp [aY]) fun j x v hx hv=>?_
   obtain ⟨u,hu,_⟩:=hc j x hx;simp [aY,hx,hu] at hv;subst hv;exact VR.zy hu
 intro j v hv
 cases hx:r[j]? with
 |none=>simp [aY,hx] at hv
 |some x=>obtain ⟨u,hu,hg⟩:=hc j x hx;simp [aY,hx,hu] at hv;subst hv;exact hg
theorem H3 {agg:Option Nat} {t:TypeId} {p:PV} {u:Value} {r:mC} (hp:VR im loc p u) (ha:zx P t agg=ah5) (h:nH az agg p=ah0 r)
 (hk:iG im loc az w r): ∃v,(Instr.loadAt t u).run P w= .ok v w/\VR im loc r.v v/\r.news=[]/\r.wr=[]:=by
 unfold nH at h;split at h
 · rename_i tk e row off
   obtain ⟨li,hl,he,hn,rfl⟩:=hp.xf;split at h
   · rename_i e' rows hs
     split at h
     · rename_i cs pO
       rw [AC] at h;obtain ⟨x,hx,rfl⟩:=h;obtain ⟨k,gR,hb⟩:=hk.tok tk (.inl (by simp)) li hl;rw [hs] at gR;injection gR with gR;subst gR;have dC:rows≠[]:=by intro e;subst e;simp at pO
       obtain ⟨h1,h2,h3⟩:=hb;obtain ⟨arr,el,rH,_,_,jT⟩:=h3 dC;obtain ⟨hv,hg⟩:=rG (im:=im) (loc:=loc) jT pO;have Ko:e'=e:=by rw [<- h1,he]
       subst Ko;obtain ⟨v,bG,nE⟩:=tN (P:=P) (w:=w) (b:=li.cX) (o:=li.sh+row*e') ha hv
        (fun j v hj=>jF rH (hg j v hj)) hx
       exact ⟨v,by simp only [Instr.loadAt,Instr.sureAddr,Do,EQ,ww,bG],nE,rfl,rfl⟩
     cases h
   · rename_i cs hs
     split at h
     · rename_i k8
       have k8:row=0:=by simpa using k8
       subst k8;rw [AC] at h;obtain ⟨x,hx,rfl⟩:=h;obtain ⟨k,gR,hb⟩:=hk.tok tk (.inl (by simp)) li hl;rw [hs] at gR;injection gR with gR;subst gR;obtain ⟨h1,h2,h3,vs,el,h4,h5,h6⟩:=hb;obtain ⟨v,bG,nE⟩:=tN (P:=P) (w:=w) (b:=li.cX) (o:=li.sh+0*e) ha h6
        (fun j v hj=>jF h4 (by simpa [h3] using hj)) hx
       exact ⟨v,by simp only [Instr.loadAt,Instr.sureAddr,Do,EQ,ww,bG],nE,rfl,rfl⟩
     cases h
   cases h
 · rename_i cs off
   obtain ⟨b,o,vs,h1,h2,rfl⟩:=hp.vM;rw [AC] at h;obtain ⟨x,hx,rfl⟩:=h;obtain ⟨v,bG,nE⟩:=tN (P:=P) (w:=w) (b:=b) (o:=o) ha h1 (fun j v hj=>rF hk.bu (h2 j v hj)) hx;exact ⟨v,by simp only [Instr.loadAt,Instr.sureAddr,Do,EQ,ww,bG],nE,rfl,rfl⟩
 cases h
theorem Db {cs:List PV} {vs:List Value} {el:TypeId} {r:mC} (h:eo im loc cs vs) (hr:r={v:= .ptr (agY az) (agY cs) 0 0,news:=[.box cs]}) (hk:iG im loc az w r):
 ∃ba,VR im ba r.v (.pointer (ah0 ⟨w.heap.size,0,ah4⟩))/\rD im loc az w r im ba {w with heap:=w.heap.push (.cells ⟨vs⟩ el)}:=by
 subst hr
 let li:LI:=⟨w.heap.size,0,agY cs,1,agY vs⟩
 refine ⟨loc.set (agY az) li,?_,?_⟩
 · have:=VR.ptr (im:=im) (loc:=loc.set (agY az) li) (agY az) (agY cs) 0 0 li (Loc.ez _ _ _) rfl (Nat.zero_lt_one)
   simpa [li] using this
 refine rD.new hk li rfl rfl rfl rfl rfl rfl rfl ⟨.inl ⟨rfl,rfl⟩,trivial,rfl,vs,el,?_,rfl,h.mono (.refl _) (Loc.vL li (by have:=hk.fresh 0 (by simp);simpa using this))⟩
 simp [li]
theorem H4 {x y:PV} {u v:Value} {el:TypeId} {r:mC} (hx:VR im loc x u) (hy:VR im loc y v) (hr:r={v:= .own (agY az) 1 0 2 2 ah5,news:=[.box [x,y]]}) (hk:iG im loc az w r):
 ∃ba,VR im ba r.v (.slice (ah0 ⟨w.heap.size,0,ah4⟩) 2 2)/\rD im loc az w r im ba {w with heap:=w.heap.push (.cells #[u,v] el)}:=by
 subst hr
 let li:LI:=⟨w.heap.size,0,1,2,2⟩
 refine ⟨loc.set (agY az) li,?_,?_⟩
 · exact .own (agY az) 1 0 2 2 ah5 li _ 2 (Loc.ez _ _ _) rfl (If _) (If _) (If _) (fun _=>rfl) (.inr ⟨by simp [li],by simp [li],by simp [li]⟩)
 refine rD.new hk li rfl rfl rfl rfl rfl rfl rfl ⟨.inr ⟨rfl,rfl⟩,trivial,rfl,[u,v],el,?_,rfl,(eo.cons _ _ _ _ hx (.cons _ _ _ _ hy .nil)).mono (.refl _) (Loc.vL li (by have:=hk.fresh 0 (by simp);simpa using this))⟩
 simp [li]
theorem Pc {off:Nat} {t:TypeId} {f:Nat} {fs:Array Field} {g:Field} {i:TypeInfo} {p z:PV} {u:Value} (hp:VR im loc p u)
 (hu:P.underlying t=ah0 (.struct fs)) (hf:fs[f]? =ah0 g) (ho:g.offset=off) (hi:P.info? g.type=ah0 i) (hz:i.size≠0)
 (h:(match (generalizing:=false) p with| .ptr t s r o=>some (PV.ptr t s r (o+off))| .bw c o=>some (PV.bw c (o+off))|_=>none)=some z):
 ∃v,(Instr.fieldAt t u f).run P w= .ok v w/\VR im loc z v:=by
 have nJ:(sizeOf g.type).run P w= .ok i.size w:=by simp [sizeOf,typeInfo,hi]
 cases p with
 |ptr tk s r o=>injection h with h;subst h;obtain ⟨li,hl,he,hn,rfl⟩:=hp.xf;refine ⟨_,?_,.ptr tk s r (o+off) li hl he hn⟩;simp [Instr.fieldAt,run_underlying hu,hf,Instr.sureAddr,fieldPlace,nJ,hz,pH,ho,adZ]
 |bw cs o=>injection h with h;subst h;obtain ⟨b,o',vs,h1,h2,rfl⟩:=hp.vM;refine ⟨_,?_,.bw cs (o+off) b o' vs h1 h2⟩;simp [Instr.fieldAt,run_underlying hu,hf,Instr.sureAddr,fieldPlace,nJ,hz,pH,ho,adZ]
 |_=>cases h
theorem nL {x:PV} {n:Nat} {u:Value} (hx:VR im loc x u) (h:jd x=ah0 n): ∃k,u= .int k (n:Int):=by
 unfold jd at h;split at h
 · rename_i k m
   obtain rfl:=hx.eF;split at h
   · rename_i m';injection h with h;subst h;exact ⟨k,rfl⟩
   cases h
 cases h
theorem Np {n esz j:Nat} {t e:TypeId} {p z:PV} {u:Value} {k:IntKind} (hp:VR im loc p u)
 (hu:P.underlying t=ah0 (.array n e)) (hs:nD P e esz=ah5) (hj:j<n)
 (h:(match (generalizing:=false) p with| .ptr t s r o=>some (PV.ptr t s r (o+j*esz))| .bw c o=>some (PV.bw c (o+j*esz))|_=>none)=some z):
 ∃v,(Instr.indexAt t u (.int k j)).run P w= .ok v w/\VR im loc z v:=by
 have nJ:=jx (P:=P) (w:=w) hs;cases p with
 |ptr tk s r o=>injection h with h;subst h;obtain ⟨li,hl,he,hn,rfl⟩:=hp.xf;refine ⟨_,?_,.ptr tk s r (o+j*esz) li hl he hn⟩;simp [Instr.indexAt,asIntOf,run_underlying hu,Instr.sureAddr,nJ,pH,adZ];intro h;omega
 |bw cs o=>injection h with h;subst h;obtain ⟨b,o',vs,h1,h2,rfl⟩:=hp.vM;refine ⟨_,?_,.bw cs (o+j*esz) b o' vs h1 h2⟩;simp [Instr.indexAt,asIntOf,run_underlying hu,Instr.sureAddr,nJ,pH,adZ];intro h;omega
 |_=>cases h
theorem VR.nM {esz:Nat} {pD:Bool} {rows:List Row} {v:Value} (h:VR im loc (.sl esz pD rows) v):
 ∃a cap,v= .slice a (agY rows) cap/\agY rows<=cap/\(pD=ah5->cap=agY rows)/\(rows≠[]-> ∃b o,a=ah0 ⟨b,o,ah4⟩/\bz (kV im b) o esz rows):=by
 cases h with|sl _ _ _ a cap hc hk h=>exact ⟨a,cap,rfl,hc,hk,h⟩
theorem VR.gO {t esz off len cap:Nat} {ex:Bool} {v:Value} (h:VR im loc (.own t esz off len cap ex) v):
 ∃li a cw,v= .slice a len cw/\loc t=ah0 li/\li.esz=esz/\off+cap<=li.n/\len<=cap/\cap<=cw/\(ex=ah5->cw=cap)/\
  (cw=0\/(li.n≠0/\a=ah0 ⟨li.cX,li.sh+off*esz,ah4⟩/\li.sh+(off+cw)*esz<=li.sz)):=by
 cases h with|own _ _ _ _ _ _ li a cw h1 h2 h3 h4 h5 h6 h7=>exact ⟨li,a,cw,rfl,h1,h2,h3,h4,h5,h6,h7⟩
theorem run_indexAt_slice {t e:TypeId} {esz j len cap b o:Nat} {k:IntKind} (hu:P.underlying t=ah0 (.slice e)) (hs:nD P e esz=ah5) (hj:j<len):
 (Instr.indexAt t (.slice (ah0 ⟨b,o,ah4⟩) len cap) (.int k j)).run P w= .ok (.pointer (ah0 ⟨b,o+j*esz,ah4⟩)) w:=by
 have nJ:=jx (P:=P) (w:=w) hs;have cY: ¬(len<=j):=by omega
 simp [Instr.indexAt,asIntOf,run_underlying hu,nJ,pH];intro h;exact absurd h cY
theorem Pd {esz n:Nat} {t e:TypeId} {x z:PV} {u:Value} {k:IntKind} (hx:VR im loc x u)
 (hu:P.underlying t=ah0 (.slice e)) (hs:nD P e esz=ah5)
 (h:(match (generalizing:=false) x with
  | .sl s _ rows=>match rows[n]? with
   |some cs=>if IR s esz then ah0 (PV.bw cs 0) else ah4
   |none=>ah4
  | .own t s off len _ _=>if aeb n len&&IR s esz then ah0 (PV.ptr t s (off+n) 0) else ah4
  |_=>ah4)=ah0 z):
 ∃v,(Instr.indexAt t u (.int k n)).run P w= .ok v w/\VR im loc z v:=by
 cases x with
 |sl s pD rows=>
  dsimp only at h;cases pO:rows[n]? with
  |none=>rw [pO] at h;cases h
  |some cs=>
   rw [pO] at h;dsimp only at h;split at h
   · rename_i SL
     have SL:s=esz:=by simpa using SL
     subst SL;injection h with h;subst h;obtain ⟨a,cap,rfl,_,_,hr⟩:=hx.nM;have dC:rows≠[]:=by intro e;subst e;simp at pO
     obtain ⟨b,o,rfl,jT⟩:=hr dC;have hn:n<(agY rows):=by
      rcases ad0 n (agY rows) with h|h
      · exact h
      rw [NE h] at pO;cases pO
     refine ⟨_,run_indexAt_slice hu hs hn,?_⟩;obtain ⟨hv,hg⟩:=rG (im:=im) (loc:=loc) jT pO;have:=VR.bw (im:=im) (loc:=loc) cs 0 b (o+n*s) (aY cs) hv hg;simpa using this
   cases h
 |own tk s off len cap ex=>
  dsimp only at h;split at h
  · rename_i hc
    simp only [ut] at hc;have hn:n<len:=by simpa using hc.1
    have SL:s=esz:=by simpa using hc.2
    subst SL;injection h with h;subst h;obtain ⟨li,a,cw,rfl,hl,he,Cn,bU,xQ,_,hd⟩:=hx.gO;rcases hd with hd|⟨dC,rfl,_⟩
    · omega
    refine ⟨_,run_indexAt_slice hu hs hn,?_⟩
    have:=VR.ptr (im:=im) (loc:=loc) tk s (off+n) 0 li hl he (by omega);rw [show li.sh+(off+n)*s+0=li.sh+off*s+n*s by rw [UV];omega] at this;exact this
  cases h
 |_=>cases h
theorem run_sliceBound {x k:Nat} {kd:IntKind} {code:BoundsCode} (h:x<=k):(Instr.sliceBound (.int kd x) k code).run P w= .ok x w:=by
 have:(0:Int)<=(x:Int)/\(x:Int)<=(k:Int):=by omega
 simp [Instr.sliceBound,asIntOf,this]
def yz (v:Option Value) (n:Option Nat):Prop:=
 match v,n with
 |none,ah4=>True
 |some v,ah0 n=> ∃k,v= .int k (n:Int)
 |_,_=>False
theorem lx {len cap:Nat} {lo hi mx:Option Nat} {vl vh vm:Option Value} (h1:yz vl lo) (h2:yz vh hi) (h3:yz vm mx)
 (hm:mx.isSome=ah5->hi.isSome=ah5) (jZ:lo.getD 0<=hi.getD len) (Xj:hi.isSome=ah5->hi.getD len<=mx.getD cap) (hmc:mx.getD cap<=cap):
 (Instr.sliceBounds ah5 len cap vl vh vm).run P w= .ok (lo.getD 0,hi.getD len,mx.getD cap) w:=by
 cases mx with
 |none=>
  cases vm with
  |some v=>exact h3.elim
  |none=>
   cases hi with
   |none=>
    cases vh with
    |some v=>exact h2.elim
    |none=>
     cases lo with
     |none=>
      cases vl with
      |some v=>exact h1.elim
      |none=>simp [Instr.sliceBounds]
     |some l=>
      cases vl with
      |none=>exact h1.elim
      |some v=>obtain ⟨k,rfl⟩:=h1;simp only [ad6,aed] at jZ;simp [Instr.sliceBounds,run_sliceBound jZ]
   |some hh=>
    cases vh with
    |none=>exact h2.elim
    |some v=>
     obtain ⟨k,rfl⟩:=h2;simp only [ad6,aed,aeU,true_implies] at jZ Xj;cases lo with
     |none=>
      cases vl with
      |some v=>exact h1.elim
      |none=>simp [Instr.sliceBounds,run_sliceBound Xj]
     |some l=>
      cases vl with
      |none=>exact h1.elim
      |some v=>obtain ⟨k,rfl⟩:=h1;simp only [ad6] at jZ;simp [Instr.sliceBounds,run_sliceBound Xj,run_sliceBound jZ]
 |some m=>
  cases vm with
  |none=>exact h3.elim
  |some v=>
   obtain ⟨k,rfl⟩:=h3;cases hi with
   |none=>simp at hm
   |some hh=>
    cases vh with
    |none=>exact h2.elim
    |some v=>
     obtain ⟨k,rfl⟩:=h2;simp only [ad6,aeU,true_implies] at jZ Xj hmc;cases lo with
     |none=>
      cases vl with
      |some v=>exact h1.elim
      |none=>simp [Instr.sliceBounds,run_sliceBound Xj,run_sliceBound hmc]
     |some l=>
      cases vl with
      |none=>exact h1.elim
      |some v=>obtain ⟨k,rfl⟩:=h1;simp only [ad6] at jZ;simp [Instr.sliceBounds,run_sliceBound Xj,run_sliceBound jZ,run_sliceBound hmc]
end
end Go.Vm
/- Operation by operation, third part: stores, aggregates. -/
namespace Go.Vm
def tO {α:Type} (off:Nat) (new old:List α):List α:=old.take off++new++old.drop (off+agY new)
theorem mG {α:Type} (off:Nat) (new old:List α) (h:off+agY new<=agY old) (j:Nat):
 (tO off new old)[j]? =if off<=j/\j<off+(agY new) then new[j-off]? else old[j]?:=by
 unfold tO;have hl:(old.take off).length=off:=by simp;omega
 by_cases h1:j<off
 · rw [sp (by omega),afa,ad1 (by omega),adY h1]
 by_cases h2:j<off+agY new
 · rw [rc ⟨by omega,h2⟩,afa,acl (by omega),hl,ad1 (by omega)]
 rw [sp (by omega),acl (by simp;omega),aeh]
 congr 1
 simp;omega
theorem fL {α:Type} (off:Nat) (new old:List α) (h:off+agY new<=agY old):(tO off new old).length=(agY old):=by unfold tO;simp;omega
theorem eo.tO {im:Im} {loc:Loc} {off:Nat} {xs ys:List PV} {vs us:List Value} (h:eo im loc xs vs) (k:eo im loc ys us):
 eo im loc (Vm.tO off xs ys) (Vm.tO off vs us):=by
 unfold Vm.tO;rw [<- h.lG];exact ((k.take off).append h).append (k.drop _)
theorem eo.Fw {im:Im} {loc:Loc}: ∀{xs:List PV} {vs:List Value},eo im loc xs vs->(∀c∈xs,c.plain=ah5)->
 ∀(j:Nat) (c:PV),xs[j]? =ah0 c-> ∃v,gB c=ah0 v/\vs[j]? =ah0 v:=by
 intro xs vs h hp j c hc;obtain ⟨v,hv,hr⟩:=h.get j c hc;exact ⟨v,hr.plain (hp c (aee hc)),hv⟩
theorem Nq {i row esz j off n sh:Nat} (dC:i≠row) (hj:j<esz) (hn:off+n<=esz):
 ¬(sh+row*esz+off<=sh+i*esz+j/\sh+i*esz+j<sh+row*esz+off+n):=by
 rcases Nat.lt_or_gt_of_ne dC with h|h
 · have:=ac6 esz (show i+1<=row from h)
   rw [UV] at this;omega
 have:=ac6 esz (show row+1<=i from h)
 rw [UV] at this;omega
theorem bz.store {get get':Nat->Option Value} {sh esz row off:Nat} {rows:List Row} {cs ws:List PV} {vs:List Value}
 (h:bz get sh esz rows) (hr:rows[row]? =ah0 cs) (jZ:off+agY ws<=agY cs)
 (hw: ∀(j:Nat) (c:PV),ws[j]? =ah0 c-> ∃v,gB c=ah0 v/\vs[j]? =ah0 v) (hl:(agY vs)=agY ws)
 (hg: ∀k,get' k=if sh+row*esz+off<=k/\k<sh+row*esz+off+(agY vs) then vs[k- (sh+row*esz+off)]? else get k):
 bz get' sh esz (rows.set row (tO off ws cs)):=by
 intro i r hi;rw [List.getElem?_set] at hi;have k8:row<(agY rows):=by
  rcases ad0 row (agY rows) with h|h
  · exact h
  rw [NE h] at hr;cases hr
 obtain ⟨Fx,L4⟩:=h row cs hr;split at hi
 · rename_i e
   subst e;injection hi with hi;subst hi;refine ⟨by rw [fL _ _ _ jZ];exact Fx,fun j c hc=>?_⟩;rw [mG _ _ _ jZ] at hc;rw [hg];split at hc
   · rename_i hj
     obtain ⟨v,hv,Kq⟩:=hw _ _ hc;refine ⟨v,hv,?_⟩;rw [rc ⟨by omega,by omega⟩,<- Kq]
     congr 1
     omega
   rename_i hj
   obtain ⟨v,hv,Kq⟩:=L4 j c hc;refine ⟨v,hv,?_⟩;rw [sp (by omega)];exact Kq
 rename_i dC
 obtain ⟨H5,hrc⟩:=h i r hi;refine ⟨H5,fun j c hc=>?_⟩;obtain ⟨v,hv,Kq⟩:=hrc j c hc;refine ⟨v,hv,?_⟩;have hj:j<esz:=by
  rcases ad0 j (agY r) with h|h
  · omega
  rw [NE h] at hc;cases hc
 rw [hg,sp (Nq (fun e=>dC e.symm) hj (by omega))];exact Kq
section
variable {P : Program} {im : Im} {loc : Loc} {az : bS} {fz : List Nat} {w : World}
theorem eQ {g:Nat} {cur cs:Array Value} {t:TypeId} (hg:w.heap[g]? =ah0 (.cells cur t (0,0))):
 (w.setRow g cs).heap=w.heap.setIfInBounds g (.cells cs t (0,0)):=by
 have cY:g<w.heap.size:=(M2.1 hg).1;have hv:w.heap[g]= .cells cur t (0,0):=(M2.1 hg).2;unfold World.setRow;apply Array.ext
 · simp
 intro k h1 h2
 rw [Array.getElem_setIfInBounds];simp only [Array.getElem_modify];split
 · rename_i hk;subst hk;simp [hv]
 rfl
theorem H6 {v:Value} (h:(∀us,v≠ .agg us)/\ ∀us,v≠ .tuple us):v.oneCell'=ah5:=by cases v<;>first|rfl|exact absurd rfl (h.1 _)|exact absurd rfl (h.2 _)
theorem eo.one: ∀{xs:List PV} {vs:List Value},eo im loc xs vs->(∀c∈xs,c.oP=ah5)-> ∀v∈vs,v.oneCell'=ah5
 |_,_,.nil,_,_,hv=>by cases hv
 |_,_,.cons x u xs vs h hs,ho,v,hv=>by
  cases hv with
  |head=>exact H6 (h.Gy (ho x (by simp)))
  |tail _ hm=>exact eo.one hs (fun c hc=>ho c (by simp [hc])) v hm
theorem vN {c:PV} (h:c.plain=ah5):c.oP=ah5:=by cases c<;>first|rfl|cases h
theorem yA {v:PV} {ws:List PV} (h:v.stored=ah0 ws):ws=v.cells/\ ∀c∈v.cells,c.oP=ah5:=by
 unfold PV.stored at h;split at h
 · rename_i ha;injection h with h;exact ⟨h.symm,by simpa using ha⟩
 cases h
theorem ly {v:PV} {ws:List PV} (h:v.bW=ah0 ws):ws=v.cells/\ ∀c∈v.cells,c.plain=ah5:=by
 unfold PV.bW at h;split at h
 · rename_i ha;injection h with h;exact ⟨h.symm,by simpa using ha⟩
 cases h
theorem BS {t el:TypeId} {sz b o:Nat} {x:Value} {cur:Array Value} (hs:nD P t sz=ah5) (hb:w.heap[b]? =ah0 (.cells cur el (0,0)))
 (hx:x.cells.size=sz) (jZ:o+sz<=cur.size) (h1: ∀v∈x.cells.toList,v.oneCell'=ah5):
 (Instr.storeAt t (.pointer (ah0 ⟨b,o,ah4⟩)) x).run P w= .ok () (w.setRow b (tO o x.cells.toList cur.toList).toArray):=by
 have:=run_storeCells_at P b o el x.cells.toList 0 cur w hb (by simp;omega) h1;simp only [Instr.storeAt,Instr.sureAddr,Do,EQ,ww,storeVar,jx hs,hx,ne_eq,not_true_eq_false,if_false];simpa [tO] using this
theorem Nr {t:TypeId} {sz:Nat} {p v:PV} {u x:Value} {r:mC} (hp:VR im loc p u) (hv:VR im loc v x) (hs:nD P t sz=ah5)
 (h:qB az fz sz v p=ah0 r) (hk:iG im loc az w r):
 ∃w',(Instr.storeAt t u x).run P w= .ok () w'/\rD im loc az w r im loc w'/\r.v= .undef:=by
 unfold qB at h;cases p with
 |ptr tk e row off=>
  dsimp only at h;obtain ⟨li,hl,he,hn,rfl⟩:=hp.xf;cases oU:az[tk]? with
  |none=>rw [oU] at h;cases h
  |some cX=>
   rw [oU] at h;cases cX with
   |arr e' rows=>
    dsimp only at h;cases pO:rows[row]? with
    |none=>rw [pO] at h;cases h
    |some cs=>
     cases hw:v.bW with
     |none=>rw [pO,hw] at h;cases h
     |some ws=>
      rw [pO,hw] at h;dsimp only at h;split at h
      · rename_i hc
        simp only [ut,ads,adX] at hc;obtain ⟨⟨bU,jZ⟩,Pe⟩:=hc;obtain ⟨rfl,Kg⟩:=ly hw;injection h with h;subst h;obtain ⟨k,gR,hb⟩:=hk.tok tk (.inr ⟨_,ad5.2 rfl⟩) li hl;rw [oU] at gR;injection gR with gR;subst gR;have dC:rows≠[]:=by intro e;subst e;simp at pO
        obtain ⟨h1,h2,h3⟩:=hb;obtain ⟨arr,el,rH,GA,HL,jT⟩:=h3 dC;have Ko:e'=e:=by rw [<- h1,he]
        subst Ko;have Fx:(agY cs)=e':=(jT row cs pO).1;have L5:=hv.cells (fun c hc=>vN (Kg c hc));have Ns:x.cells.size=sz:=by have:=L5.lG;simp only [adG] at this;omega
        have H5:row<(agY rows):=by
         rcases ad0 row (agY rows) with h|h
         · exact h
         rw [NE h] at pO;cases pO
        have Fa:=ac6 e' (show row+1<=(agY rows) from H5);rw [UV] at Fa;have tP:li.sh+row*e'+off+sz<=arr.size:=by omega
        have bG:=BS (P:=P) (w:=w) (t:=t) (b:=li.cX) (o:=li.sh+row*e'+off) hs rH Ns tP (L5.one (fun c hc=>vN (Kg c hc)));refine ⟨_,bG,?_,rfl⟩;refine rD.write hk (t:=tk) (k0:= .arr e' rows) (li:=li) rfl rfl hl oU (by cases rows with|nil=>exact absurd rfl dC|cons _ _=>rfl) (eQ rH) rfl rfl rfl ?_;refine ⟨h1,by simpa using h2,fun _=>⟨(tO (li.sh+row*e'+off) x.cells.toList arr.toList).toArray,el,?_,?_,by simpa using HL,?_⟩⟩
        · rw [eQ rH]
          have cY:=(M2.1 rH).1;simp [cY]
        · rw [<- GA]
          simp only [adW];rw [fL _ _ _ (by simp;omega)];simp
        refine jT.store pO (by omega) (L5.Fw Kg) L5.lG.symm (fun k=>?_)
        simp only [adu];rw [mG _ _ _ (by simp;omega)];simp
      cases h
   |box cs=>
    dsimp only at h;cases hw:v.stored with
    |none=>rw [hw] at h;cases h
    |some ws=>
     rw [hw] at h;dsimp only at h;split at h
     · rename_i hc
       simp only [ut,ads,adX] at hc;obtain ⟨⟨⟨k8,bU⟩,jZ⟩,Pe⟩:=hc;subst k8;obtain ⟨rfl,zB⟩:=yA hw;injection h with h;subst h;obtain ⟨k,gR,hb⟩:=hk.tok tk (.inr ⟨_,ad5.2 rfl⟩) li hl;rw [oU] at gR;injection gR with gR;subst gR;obtain ⟨h1,h2,h3,vs,el,h4,h5,h6⟩:=hb;have L5:=hv.cells zB;have Ns:x.cells.size=sz:=by have:=L5.lG;simp only [adG] at this;omega
       have hcv:=h6.lG;have bG:=BS (P:=P) (w:=w) (t:=t) (b:=li.cX) (o:=li.sh+0*e+off) hs h4 Ns (by simp [h3];omega) (L5.one zB);refine ⟨_,bG,?_,rfl⟩;refine rD.write hk (t:=tk) (k0:= .box cs) (li:=li) rfl rfl hl oU rfl (eQ h4) rfl rfl rfl ?_;refine ⟨by rw [show (mB off v.cells cs).length=(agY cs) by have:=fL off v.cells cs (by omega);unfold tO at this;simpa [mB] using this];exact h1,h2,h3,tO off x.cells.toList vs,el,?_,?_,?_⟩
       · rw [eQ h4]
         have cY:=(M2.1 h4).1;simp [cY,h3]
       · rw [fL _ _ _ (by simp;omega)];exact h5
       exact eo.tO L5 h6
     cases h
   |_=>cases h
 |_=>cases h
end
end Go.Vm
/- Operation by operation, fourth part: aggregates, rows, slices. -/
namespace Go.Vm
theorem bz.tail {get:Nat->Option Value} {sh esz:Nat} {r:Row} {rs:List Row} (h:bz get sh esz (r::rs)):bz get (sh+esz) esz rs:=by intro i x hx;obtain ⟨h1,h2⟩:=h (i+1) x (by simpa using hx);refine ⟨h1,fun j c hc=>?_⟩;obtain ⟨v,hv,hg⟩:=h2 j c hc;refine ⟨v,hv,?_⟩;rw [<- hg];congr 1;rw [UV];omega
theorem bz.drop {get:Nat->Option Value} {sh esz:Nat} {rows:List Row} (h:bz get sh esz rows) (n:Nat):bz get (sh+n*esz) esz (rows.drop n):=by intro i x hx;rw [aeh] at hx;obtain ⟨h1,h2⟩:=h (n+i) x hx;refine ⟨h1,fun j c hc=>?_⟩;obtain ⟨v,hv,hg⟩:=h2 j c hc;refine ⟨v,hv,?_⟩;rw [<- hg];congr 1;rw [UV];omega
theorem bz.take {get:Nat->Option Value} {sh esz:Nat} {rows:List Row} (h:bz get sh esz rows) (n:Nat):bz get sh esz (rows.take n):=by
 intro i x hx;have hi:i<n:=by
  rcases ad0 i n with h|h
  · exact h
  rw [NE (by simp;omega)] at hx;cases hx
 rw [adY hi] at hx;exact h i x hx
theorem bz.append {get:Nat->Option Value} {sh esz:Nat} {xs ys:List Row} (h:bz get sh esz xs) (k:bz get (sh+agY xs*esz) esz ys):bz get sh esz (xs++ys):=by
 intro i r hr;rcases ad0 i (agY xs) with hi|hi
 · rw [ad1 hi] at hr;exact h i r hr
 rw [acl hi] at hr
 obtain ⟨h1,h2⟩:=k _ r hr;refine ⟨h1,fun j c hc=>?_⟩;obtain ⟨v,hv,hg⟩:=h2 j c hc;refine ⟨v,hv,?_⟩;rw [<- hg];congr 1;have:i*esz=agY xs*esz+(i-(agY xs))*esz:=by rw [<- UV];congr 1;omega
 omega
theorem bz.mH {get:Nat->Option Value} {sh esz:Nat} {rows:List Row} (h:bz get sh esz rows): ∀r∈rows,agY r=esz:=by intro r hr;obtain ⟨i,hi,rfl⟩:=aef.1 hr;exact (h i _ (PP hi)).1
theorem j7 (r:Row):(aY r).length=(agY r):=by simp [aY]
theorem dt {esz:Nat}: ∀{rows:List Row},(∀r∈rows,agY r=esz)->(rows.flatMap aY).length=agY rows*esz
 | [],_=>by simp
 |r::rs,h=>by have ih:=dt (esz:=esz) (rows:=rs) (fun x hx=>h x (by simp [hx]));simp only [adA,adV,ih,j7,h r (by simp),adU,UV];omega
theorem bz.flat {get:Nat->Option Value} {esz:Nat}: ∀{rows:List Row} {sh:Nat},bz get sh esz rows-> ∀(j:Nat) (v:Value),(rows.flatMap aY)[j]? =ah0 v->get (sh+j)=ah0 v
 | [],_,_,j,v,h=>by simp at h
 |r::rs,sh,hr,j,v,h=>by
  rw [adA] at h;have hl:(aY r).length=esz:=by rw [j7];exact hr.mH r (by simp)
  rcases ad0 j esz with hj|hj
  · rw [ad1 (by omega)] at h
    have:=(rG (im:=fun _=>ah4) (loc:=fun _=>ah4) hr (i:=0) rfl).2 j v h;simpa using this
  rw [acl (by omega),hl] at h
  have:=bz.flat hr.tail (j-esz) v h;rw [show sh+esz+(j-esz)=sh+j by omega] at this;exact this
theorem bz.AY {esz:Nat}: ∀{rows:List Row} {get:Nat->Option Value} {sh:Nat},(∀r∈rows,agY r=esz)->(∀r∈rows,∀c∈r,c.plain=ah5)->
 (∀(j:Nat) (v:Value),(rows.flatMap aY)[j]? =ah0 v->get (sh+j)=ah0 v)->bz get sh esz rows
 | [],_,_,_,_,_=>by intro i r h;simp at h
 |r::rs,get,sh,hl,hp,hg=>by
  have H5:(aY r).length=esz:=by rw [j7];exact hl r (by simp)
  have h1:bz get sh esz [r]:=by
   intro i x hx;cases i with
   |succ i=>simp at hx
   |zero=>
    simp at hx;subst hx;refine ⟨hl r (by simp),fun j c hc=>?_⟩;have hcp:=hp r (by simp) c (aee hc);obtain ⟨v,hv⟩: ∃v,gB c=ah0 v:=by cases c<;>first|exact ⟨_,rfl⟩|cases hcp
    refine ⟨v,hv,?_⟩;have hj:j<esz:=by
     rcases ad0 j (agY r) with h|h
     · have:=hl r (by simp);omega
     rw [NE h] at hc;cases hc
    have:=hg j v (by rw [adA,ad1 (by omega)];simp [aY,hc,hv]);simpa using this
  have h2:bz get (sh+esz) esz rs:=bz.AY (fun x hx=>hl x (by simp [hx])) (fun x hx=>hp x (by simp [hx])) (fun j v hj=>by
   have:=hg (esz+j) v (by rw [adA,acl (by omega),H5,show esz+j-esz=j by omega];exact hj)
   rwa [<- adZ] at this)
  have:=h1.append (ys:=rs) (by simpa using h2);simpa using this
theorem bz.plain {get:Nat->Option Value} {sh esz:Nat} {rows:List Row} (h:bz get sh esz rows): ∀r∈rows,∀c∈r,c.plain=ah5:=by intro r hr c hc;obtain ⟨i,hi,rfl⟩:=aef.1 hr;obtain ⟨j,hj,rfl⟩:=aef.1 hc;obtain ⟨v,hv,_⟩:=(h i _ (PP hi)).2 j _ (PP hj);cases hh:rows[i][j]<;>rw [hh] at hv<;>first|rfl|cases hv
theorem qF {rows:List Row} (hp: ∀r∈rows,∀c∈r,c.plain=ah5): ∀u∈rows.flatMap aY,u.oneCell'=ah5:=by intro u hu;obtain ⟨r,hr,hu⟩:=List.mem_flatMap.1 hu;obtain ⟨c,hc,rfl⟩:=List.mem_map.1 hu;have:=hp r hr c hc;cases c<;>first|rfl|cases this
section
variable {P : Program} {im : Im} {loc : Loc} {az : bS} {fz : List Nat} {w : World}
theorem AZ {esz:Nat} {y:PV} {u:Value} {new:List Row} {tx e':TypeId} (hy:VR im loc y u) (hr:rowsOf az esz y=ah0 new) (hx:P.underlying tx=ah0 (.slice e'))
 (bu: ∀b o,im b=ah0 o->w.heap[b]? =ah0 o) (tok: ∀t,t∈hG y-> ∀li,loc t=ah0 li-> ∃k,az[t]? =ah0 k/\BR im loc w li k):
 Src P esz tx u (agY new) (new.flatMap aY) w/\(∀r∈new,agY r=esz)/\(∀r∈new,∀c∈r,c.plain=ah5):=by
 unfold rowsOf at hr;cases y with
 |sl e pD rows=>
  obtain ⟨a,cap,rfl,_,_,jT⟩:=hy.nM;cases rows with
  |nil=>
   simp at hr;subst hr;refine ⟨?_,by simp,by simp⟩;cases a with
   |none=>exact Src.ofNil w hx cap
   |some a=>exact Src.ofSlice w hx a 0 cap [] (by simp) (by simp) (by simp)
  |cons r rs=>
   dsimp only at hr;split at hr
   · rename_i he
     have he:e=esz:=by simpa using he
     subst he;injection hr with hr;subst hr;obtain ⟨b,o,rfl,cC⟩:=jT (by simp);refine ⟨Src.ofSlice w hx ⟨b,o,ah4⟩ _ cap _ (dt cC.mH) (fun j v hj=>?_) (qF cC.plain),cC.mH,cC.plain⟩;rw [pH];exact rF bu (cC.flat j v hj)
   cases hr
 |own t e off len cap ex=>
  dsimp only at hr;split at hr
  · rename_i he
    have he:e=esz:=by simpa using he
    subst he;obtain ⟨li,a,cw,rfl,hl,h2,h3,h4,h5,h6,h7⟩:=hy.gO;obtain ⟨k,gR,hb⟩:=tok t (by simp [hG]) li hl;rw [gR] at hr;cases k with
    |arr e' rows=>
     simp only [v6] at hr;subst hr;obtain ⟨b1,b2,b3⟩:=hb;have bU:((rows.drop off).take len).length=len:=by simp;omega
     have Ko:e'=e:=by rw [<- b1,h2]
     subst Ko;cases rows with
     |nil=>
      have:len=0:=by simp at b2;omega
      subst this;refine ⟨?_,by simp,by simp⟩;simp;cases a with
      |none=>exact Src.ofNil w hx cw
      |some a=>exact Src.ofSlice w hx a 0 cw [] (by simp) (by simp) (by simp)
     |cons r rs=>
      obtain ⟨arr,el,rH,GA,HL,cC⟩:=b3 (by simp);have tQ:=(cC.drop off).take len;rcases h7 with h7|⟨h7,rfl,h9⟩
      · have:len=0:=by omega
        subst this;refine ⟨?_,by simp,by simp⟩;simp;cases a with
        |none=>exact Src.ofNil w hx cw
        |some a=>exact Src.ofSlice w hx a 0 cw [] (by simp) (by simp) (by simp)
      rw [bU]
      refine ⟨Src.ofSlice w hx ⟨li.cX,li.sh+off*e',ah4⟩ len cw _ (by rw [dt tQ.mH,bU]) (fun j v hj=>?_) (qF tQ.plain),tQ.mH,tQ.plain⟩;rw [pH];exact jF rH (tQ.flat j v hj)
    |_=>cases hr
  cases hr
 |_=>cases hr
end
end Go.Vm
/- Operation by operation, fifth part: append. -/
namespace Go.Vm
theorem vO: ∀(new:List Row) (i:Nat) (rows:List Row),i+agY new<=agY rows->jS i new rows=tO i new rows
 | [],i,rows,h=>by simp [jS,tO]
 |r::rs,i,rows,h=>by
  simp only [adU] at h;rw [jS,vO rs (i+1) (rows.set i r) (by simp;omega)];apply aem;intro j;rw [mG _ _ _ (by simp;omega),mG _ _ _ (by simp;omega)];simp only [adU]
  by_cases h1:i+1<=j/\j<i+1+agY rs
  · rw [rc h1,rc ⟨by omega,by omega⟩]
    obtain ⟨k,hk⟩: ∃k,j-i=k+1:=⟨j-i-1,by omega⟩;rw [hk,show j- (i+1)=k by omega];simp
  rw [sp h1]
  by_cases h2:j=i
  · subst h2
    rw [rc ⟨If _,by omega⟩,aeD (by omega)];simp
  rw [sp (by omega),aeR (by omega)]
theorem bz.tO {get get':Nat->Option Value} {sh esz i:Nat} {new rows:List Row} (h:bz get sh esz rows) (jZ:i+agY new<=agY rows)
 (hl: ∀r∈new,agY r=esz) (hp: ∀r∈new,∀c∈r,c.plain=ah5)
 (hg: ∀k,get' k=if sh+i*esz<=k/\k<sh+i*esz+agY new*esz then (new.flatMap aY)[k- (sh+i*esz)]? else get k):
 bz get' sh esz (tO i new rows):=by
 have Nt:=dt hl;have old: ∀k r,rows[k]? =ah0 r->(k<i\/i+agY new<=k)->agY r=esz/\ ∀(j:Nat) (c:PV),r[j]? =ah0 c-> ∃v,gB c=ah0 v/\get' (sh+k*esz+j)=ah0 v:=by
  intro k r hk hor;obtain ⟨h1,h2⟩:=h k r hk;refine ⟨h1,fun j c hc=>?_⟩;obtain ⟨v,hv,Kq⟩:=h2 j c hc;refine ⟨v,hv,?_⟩;have hj:j<esz:=by
   rcases ad0 j (agY r) with h|h
   · omega
   rw [NE h] at hc;cases hc
  rw [hg,sp]
  · exact Kq
  rcases hor with hor|hor
  · have:=ac6 esz (show k+1<=i from hor)
    rw [UV] at this;omega
  have:=ac6 esz hor
  rw [UV] at this;omega
 have zC:bz get' (sh+i*esz) esz new:=bz.AY hl hp fun j v hj=>by
  have Kr:j<agY new*esz:=by
   rcases ad0 j (agY new*esz) with h|h
   · exact h
   rw [NE (by omega)] at hj;cases hj
  rw [hg,rc ⟨by omega,by omega⟩,<- hj];congr 1;omega
 intro k r hk;rw [mG _ _ _ jZ] at hk;split at hk
 · rename_i hc
   obtain ⟨h1,h2⟩:=zC _ r hk;refine ⟨h1,fun j c zD=>?_⟩;obtain ⟨v,hv,Kq⟩:=h2 j c zD;refine ⟨v,hv,?_⟩;rw [<- Kq];congr 1;have:k*esz=i*esz+(k-i)*esz:=by rw [<- UV];congr 1;omega
   omega
 rename_i hc
 exact old k r hk (by omega)
theorem grownCap_ge (w:World) (Kt old:Nat) (e:TypeId):Kt<=grownCap w Kt old e:=by unfold grownCap;simp [Question.cut]
theorem Pf {Kt old bytes:Nat} (h:old<Kt) (hn:Kt<=1048576) (hb:bytes<=1048576):Builtin.nextslicecap Kt old*bytes<=281474976710656:=by
 have h1:=nextslicecap_le h;have h2:Builtin.nextslicecap Kt old<=2097152:=by omega
 have:=afK h2 hb;omega
theorem vP (z:Array Value) (n:Nat):(Builtin.zeroCells z n).size=n*z.size:=by simp [Builtin.zeroCells]
section
variable {P : Program} {im : Im} {loc : Loc} {az : bS} {fz : List Nat} {w : World}
theorem pP (t tx ty e:TypeId) (i:TypeInfo) (ht:P.underlying t=ah0 (.slice e)) (hi:P.info? e=ah0 i) (b off vQ sCap:Nat) (x:Value) (n:Nat) (news:List Value) (hs:Src P i.size tx x n news w)
 (vR:vQ+n<=sCap) {cur:Array Value} {el:TypeId} (hb:w.heap[b]? =ah0 (.cells cur el (0,0))) (jZ:off+vQ*i.size+agY news<=cur.size):
 (Builtin.append_ #[t,tx] ty #[.slice (ah0 ⟨b,off,ah4⟩) vQ sCap,x]).run P w=
  .ok (.slice (ah0 ⟨b,off,ah4⟩) (vQ+n) sCap) (w.setRow b (tO (off+vQ*i.size) news cur.toList).toArray):=by
 have bK:=run_storeCells_at P b (off+vQ*i.size) el news 0 cur w hb (by simpa using jZ) hs.one;simp only [agQ] at bK;rcases hs.kind with ⟨e',hk⟩|hk<;>simp [Builtin.append_,run_underlying ht,run_underlying hk,sizeOf,typeInfo,hi,hs.len,vR,hs.cells,Addr.add_lit,bK,tO]
theorem A0 {esz:Nat} {olds new:List Row} {rest:Array Value} {el:TypeId} {r:mC} {w':World} {nc:Nat} (hr:r.v= .own (agY az) esz 0 (agY olds+agY new) (agY olds+agY new) ah8)
 (hn:r.news=[.arr esz (olds++new)]) (hk:iG im loc az w r) (dC:new≠[])
 (hh:w'.heap=w.heap.push (.cells (((olds.flatMap aY)++(new.flatMap aY)).toArray++rest) el))
 (L6: ∀r∈olds,agY r=esz) (Xk: ∀r∈olds,∀c∈r,c.plain=ah5) (Fy: ∀r∈new,agY r=esz) (hp2: ∀r∈new,∀c∈r,c.plain=ah5)
 (Xl:(agY olds)+agY new<=nc) (SM:rest.size=(nc- (agY olds+agY new))*esz):
 ∃li:LI,li.cX=w.heap.size/\VR im (loc.set (agY az) li) r.v (.slice (ah0 ⟨w.heap.size,0,ah4⟩) (agY olds+agY new) nc)/\
  BR im (loc.set (agY az) li) w' li (.arr esz (olds++new))/\kT loc (loc.set (agY az) li):=by
 have ahW:=dt L6;have ahX:=dt Fy;have nJ:(((olds.flatMap aY)++(new.flatMap aY)).toArray++rest).size=nc*esz:=by simp only [Array.size_append,adW,adV,ahW,ahX,SM];rw [<- UV,<- UV];congr 1;omega
 let li:LI:=⟨w.heap.size,0,esz,(olds++new).length,nc*esz⟩
 refine ⟨li,rfl,?_,⟨rfl,rfl,fun _=>⟨_,el,by rw [hh];simp [li],nJ,?_,?_⟩⟩,Loc.vL li (by have:=hk.fresh 0 (by simp [hn]);simpa using this)⟩
 · rw [hr]
   have:=VR.own (im:=im) (loc:=loc.set (agY az) li) (agY az) esz 0 (agY olds+agY new) (agY olds+agY new) ah8 li (ah0 ⟨w.heap.size,0,ah4⟩) nc
    (Loc.ez _ _ _) rfl (by simp [li]) (If _) Xl (by simp)
    (.inr ⟨by simp [li];intro _;exact dC,by simp [li],by simp [li]⟩)
   exact this
 · simp only [li]
   have:=ac6 esz Xl;simp only [adV];omega
 refine bz.AY (fun r hr=>?_) (fun r hr=>?_) (fun j v hj=>?_)
 · rcases adz.1 hr with h|h
   · exact L6 r h
   exact Fy r h
 · rcases adz.1 hr with h|h
   · exact Xk r h
   exact hp2 r h
 rw [aeT] at hj
 simp only [li,aeE];rw [Array.getElem?_append_left (by have:=(ad8.1 hj).1;simpa using this)];simpa using hj
end
end Go.Vm
/- Operation by operation, sixth part: append, whole. -/
namespace Go.Vm
section
variable {P : Program} {im : Im} {loc : Loc} {az : bS} {fz : List Nat} {w : World}
theorem Dc {t tx ty e:TypeId} {i:TypeInfo} {z:Value} {esz:Nat} (ht:P.underlying t=ah0 (.slice e)) (hi:P.info? e=ah0 i) (hz:i.zero=ah0 z) (SN:z.cells.size=esz)
 (Ku:i.bytes<=1048576) {nF:Option Addr} {vQ sCap:Nat} {olds:List Row} {new:List Row} {x:Value}
 (yB:(Builtin.firstCells i.size vQ (.slice nF vQ sCap)).run P w.drew= .ok (olds.flatMap aY).toArray w.drew)
 (hs:Src P i.size tx x (agY new) (new.flatMap aY) w) (hg:sCap<vQ+agY new) (hm:vQ+agY new<=1048576):
 ∃(nc:Nat) (rest:Array Value),vQ+agY new<=nc/\rest.size=(nc- (vQ+agY new))*esz/\
  (Builtin.append_ #[t,tx] ty #[.slice nF vQ sCap,x]).run P w= .ok (.slice (ah0 ⟨w.heap.size,0,ah4⟩) (vQ+agY new) nc)
   (w.drew.alloc (.cells (((olds.flatMap aY)++(new.flatMap aY)).toArray++rest) e)):=by
 refine ⟨_,_,grownCap_ge w (vQ+agY new) sCap e,by rw [vP,SN],
  run_append_grow_src w t tx ty e i z ht hi hz nF vQ sCap _ yB x _ _ hs hg (by omega) (Pf hg hm Ku)⟩
theorem Dd {t tx ty e e' : TypeId} {i : TypeInfo} {z : Value} {esz : Nat} (ht : P.underlying t = ah0 (.slice e)) (Xm : P.underlying tx = ah0 (.slice e')) (hi : P.info? e = ah0 i) (nJ : i.size = esz)
    (hz : i.zero = ah0 z) (SN : z.cells.size = esz) (Ku : i.bytes <= 1048576)
    {x y : PV} {u v : Value} {r : mC} (hx : VR im loc x u) (hy : VR im loc y v) (h : hJ az fz esz x y = ah0 r) (hk : iG im loc az w r) :
    ∃ v' w' ba, (Builtin.append_ #[t, tx] ty #[u, v]).run P w = .ok v' w' /\ VR im ba r.v v' /\ rD im loc az w r im ba w' := by
  unfold hJ at h
  cases xY : rowsOf az esz y with
  | none => rw [xY] at h; cases h
  | some new =>
    rw [xY] at h
    dsimp only at h
    cases new with
    | nil =>
      dsimp only at h
      have key : ∀ (a : Option Addr) (n cap : Nat), u = .slice a n cap -> n <= cap -> ah0 ({ v := x, rd := hG y } : mC) = ah0 r ->
          ∃ v' w' ba, (Builtin.append_ #[t, tx] ty #[u, v]).run P w = .ok v' w' /\ VR im ba r.v v' /\ rD im loc az w r im ba w' := by
        intro a n cap hu jZ hr
        injection hr with hr; subst hr
        obtain ⟨hs, _, _⟩ := AZ (P := P) (w := w) hy xY Xm hk.bu (fun t ht => hk.tok t (.inl ht))
        simp only [aev, aeI] at hs
        subst hu
        rw [<- nJ] at hs
        exact ⟨_, _, loc, run_append_nothing w t tx ty e i ht hi a n cap jZ _ hs, hx, rD.none hk rfl rfl⟩
      have fresh : ∀ (a : Option Addr) (rd : List Nat), u = .slice a 0 0 -> (∀ t ∈ hG y, t ∈ rd) -> ah0 ({ v := .own (agY az) esz 0 0 0 ah8, news := [.arr esz []], rd := rd } : mC) = ah0 r ->
          ∃ v' w' ba, (Builtin.append_ #[t, tx] ty #[u, v]).run P w = .ok v' w' /\ VR im ba r.v v' /\ rD im loc az w r im ba w' := by
        intro a rd hu Fb hr
        injection hr with hr; subst hr
        obtain ⟨hs, _, _⟩ := AZ (P := P) (w := w) hy xY Xm hk.bu (fun t ht => hk.tok t (.inl (Fb t ht)))
        simp only [aev, aeI] at hs
        subst hu
        rw [<- nJ] at hs
        exact ⟨_, _, _, run_append_nothing w t tx ty e i ht hi a 0 0 (If _) _ hs, .own _ esz 0 0 0 ah8 ⟨0, 0, esz, 0, 0⟩ a 0 (Loc.ez _ _ _) rfl (If _) (If _) (If _) (by simp) (.inl rfl), rD.Pb hk rfl rfl⟩
      cases x with
      | sl e pD rows =>
        obtain ⟨a, cap, hu, jZ, Fx, _⟩ := hx.nM
        dsimp only at h
        split at h
        · rename_i hc
          simp only [ut, afb] at hc
          obtain ⟨hc, rfl⟩ := hc
          have := Fx hc
          simp at this
          subst this
          exact fresh a _ (by simpa using hu) (fun _ h => h) h
        exact key a _ cap hu jZ h
      | own tk e off len cap ex =>
        obtain ⟨li, a, cw, hu, h1, h2, h3, h4, h5, h6, _⟩ := hx.gO
        dsimp only at h
        split at h
        · rename_i hc
          simp only [ut, ads] at hc
          obtain ⟨⟨rfl, rfl⟩, hc⟩ := hc
          have := h6 hc
          subst this
          exact fresh a _ hu (fun _ h => aeg _ h) h
        exact key a _ cw hu (by omega) h
      | _ => cases h
    | cons n0 ns =>
      dsimp only at h
      generalize zC : n0 :: ns = new at h xY
      have dC : new ≠ [] := by rw [<- zC]; simp
      have yC : 0 < (agY new) := by rw [<- zC]; simp
      cases x with
      | sl e1 pD rows =>
        dsimp only at h
        split at h
        · rename_i hc
          simp only [ut, aeJ, ads, adX] at hc
          obtain ⟨⟨aep, Co⟩, j8⟩ := hc
          injection h with h
          obtain ⟨a, cap, rfl, xQ, OX, jT⟩ := hx.nM
          have ahY := OX aep
          have vd : iG im loc az w { v := .own (agY az) esz 0 ((agY rows) + (agY new)) ((agY rows) + (agY new)) ah8, news := [.arr esz (rows ++ new)], rd := hG y } := by rw [h]; exact hk
          obtain ⟨hs, Fc, OY⟩ := AZ (P := P) (w := w) hy xY Xm vd.bu (fun t ht => vd.tok t (.inl ht))
          rw [<- nJ] at hs
          have yB : (Builtin.firstCells i.size (agY rows) (.slice a (agY rows) cap)).run P w.drew = .ok (rows.flatMap aY).toArray w.drew /\ (∀ r ∈ rows, (agY r) = esz) /\ (∀ r ∈ rows, ∀ c ∈ r, c.plain = ah5) := by
            cases hrw : rows with
            | nil =>
              refine ⟨?_, by simp, by simp⟩
              cases a with
              | none => simpa using run_firstCells_none w.drew i.size 0 0 cap
              | some a => exact run_firstCells_some w.drew i.size 0 a 0 cap [] (by simp) (by simp)
            | cons r0 rs =>
              rw [<- hrw]
              have Nu : rows ≠ [] := by rw [hrw]; simp
              obtain ⟨b, o, rfl, cC⟩ := jT Nu
              have Ss : e1 = esz := by
                rcases Co with h | h
                · exact h
                rw [hrw] at h; simp at h
              subst Ss
              refine ⟨run_firstCells_some w.drew i.size (agY rows) ⟨b, o, ah4⟩ (agY rows) cap _ (by rw [nJ]; exact dt cC.mH) (fun j v hj => ?_), cC.mH, cC.plain⟩
              rw [pH]
              exact rF vd.bu (cC.flat j v hj)
          obtain ⟨yB, Yg, eA⟩ := yB
          obtain ⟨nc, rest, Xl, SM, bG⟩ := Dc (P := P) (w := w) (tx := tx) (ty := ty) ht hi hz SN Ku (sCap := cap) yB hs (by omega) (by simpa [kI] using j8)
          obtain ⟨li, Yh, nE, rj, jZ⟩ := A0 (im := im) (loc := loc) (r := { v := .own (agY az) esz 0 ((agY rows) + (agY new)) ((agY rows) + (agY new)) ah8, news := [.arr esz (rows ++ new)], rd := hG y })
            (w' := w.drew.alloc (.cells (((rows.flatMap aY) ++ (new.flatMap aY)).toArray ++ rest) e)) rfl rfl vd dC rfl Yg eA Fc OY Xl SM
          subst h
          exact ⟨_, _, _, bG, nE, rD.new vd li rfl rfl rfl rfl rfl rfl Yh rj⟩
        cases h
      | own tk e1 off len cap ex =>
        dsimp only at h
        obtain ⟨li, a, cw, rfl, hl, he, Cn, bU, xQ, hex, Cp⟩ := hx.gO
        cases bK : az[tk]? with
        | none => rw [bK] at h; cases h
        | some cX =>
          rw [bK] at h
          cases cX with
          | arr e2 rows =>
            dsimp only at h
            split at h
            · cases h
            rename_i Ko
            have Ko : e1 = esz := by simpa using Ko
            subst Ko
            split at h
            ·
              rename_i vR
              have vR : len + (agY new) <= cap := by simpa using vR
              split at h
              · cases h
              rename_i Pe
              injection h with h
              subst h
              obtain ⟨hs, Fc, OY⟩ := AZ (P := P) (w := w) hy xY Xm hk.bu (fun t ht => hk.tok t (.inl ht))
              rw [<- nJ] at hs
              obtain ⟨k, gR, hb⟩ := hk.tok tk (.inr ⟨_, ad5.2 rfl⟩) li hl
              rw [bK] at gR; injection gR with gR; subst gR
              obtain ⟨b1, b2, b3⟩ := hb
              have mI : rows ≠ [] := by intro e; subst e; simp at b2; omega
              have vC : e2 = e1 := by rw [<- b1, he]
              subst vC
              obtain ⟨arr, el, rH, GA, HL, cC⟩ := b3 mI
              rcases Cp with h0 | ⟨_, rfl, tP⟩
              · omega
              have Fe := dt Fc
              have Fa := ac6 e2 (show off + (len + (agY new)) <= (agY rows) by omega)
              have Kv : (off + (len + (agY new))) * e2 = off * e2 + len * e2 + (agY new) * e2 := by rw [UV, UV]; omega
              have De : li.sh + off * e2 + len * i.size + (new.flatMap aY).length <= arr.size := by rw [nJ, Fe]; omega
              have bG := pP (P := P) (w := w) t tx ty e i ht hi li.cX (li.sh + off * e2) len cw v (agY new) (new.flatMap aY) hs (by omega) rH De
              refine ⟨_, _, loc, bG, ?_, ?_⟩
              · exact .own tk e2 off (len + (agY new)) cap ex li _ cw hl he Cn vR xQ hex (.inr ⟨by omega, rfl, tP⟩)
              refine rD.write hk (t := tk) (k0 := .arr e2 rows) (li := li) rfl rfl hl bK (by cases rows with | nil => exact absurd rfl mI | cons _ _ => rfl) (eQ rH) rfl rfl rfl ?_
              rw [vO _ _ _ (by omega)]
              refine ⟨b1, by rw [fL _ _ _ (by omega)]; exact b2, fun _ => ⟨(tO (li.sh + off * e2 + len * i.size) (new.flatMap aY) arr.toList).toArray, el, ?_, ?_, ?_, ?_⟩⟩
              · rw [eQ rH]
                have cY := (M2.1 rH).1
                simp [cY]
              · rw [<- GA]
                simp only [adW]
                rw [fL _ _ _ (by simpa using De)]; simp
              · rw [fL _ _ _ (by omega)]; exact HL
              refine cC.tO (by omega) Fc OY (fun k => ?_)
              simp only [adu]
              rw [mG _ _ _ (by simpa using De), Fe]
              have : li.sh + off * e2 + len * i.size = li.sh + (off + len) * e2 := by rw [nJ, UV]; omega
              rw [this]
              simp
            rename_i vR
            have vR : ¬ (len + (agY new) <= cap) := by simpa using vR
            split at h
            · cases h
            rename_i j8
            have j8 : len + (agY new) <= 1048576 := by simpa [kI] using j8
            have old : ∀ (rd : List Nat) (wr : List (Nat × jc)), (tk ∈ rd \/ ∃ k, (tk, k) ∈ wr) ->
                iG im loc az w { v := .own (agY az) e1 0 (len + (agY new)) (len + (agY new)) ah8, news := [.arr e1 ((rows.drop off).take len ++ new)], wr := wr, rd := rd } ->
                (Builtin.firstCells i.size len (.slice a len cw)).run P w.drew = .ok (((rows.drop off).take len).flatMap aY).toArray w.drew /\ ((rows.drop off).take len).length = len /\
                  (∀ r ∈ (rows.drop off).take len, (agY r) = e1) /\ (∀ r ∈ (rows.drop off).take len, ∀ c ∈ r, c.plain = ah5) := by
              intro rd wr xR vd
              obtain ⟨k, gR, hb⟩ := vd.tok tk xR li hl
              rw [bK] at gR; injection gR with gR; subst gR
              obtain ⟨b1, b2, b3⟩ := hb
              have vC : e2 = e1 := by rw [<- b1, he]
              subst vC
              have yD : ((rows.drop off).take len).length = len := by simp; omega
              by_cases HM : len = 0
              · subst HM
                refine ⟨?_, yD, by simp, by simp⟩
                simp only [List.take_zero, aev]
                cases a with
                | none => exact run_firstCells_none w.drew i.size 0 0 cw
                | some a => exact run_firstCells_some w.drew i.size 0 a 0 cw [] (by simp) (by simp)
              have mI : rows ≠ [] := by intro e; subst e; simp at yD; omega
              obtain ⟨arr, el, rH, GA, HL, cC⟩ := b3 mI
              have tQ := (cC.drop off).take len
              rcases Cp with h0 | ⟨_, rfl, _⟩
              · omega
              refine ⟨run_firstCells_some w.drew i.size len _ len cw _ (by rw [nJ, dt tQ.mH, yD]) (fun j v hj => ?_), yD, tQ.mH, tQ.plain⟩
              rw [pH]
              exact jF (w := w) rH (tQ.flat j v hj)
            split at h
            ·
              rename_i aeq
              injection h with h
              have vd : iG im loc az w { v := .own (agY az) e1 0 (len + (agY new)) (len + (agY new)) ah8, news := [.arr e1 ((rows.drop off).take len ++ new)], wr := [], rd := tk :: hG y } := by rw [h]; exact hk
              obtain ⟨yB, yD, Yg, eA⟩ := old (tk :: hG y) [] (.inl (by simp)) vd
              obtain ⟨hs, Fc, OY⟩ := AZ (P := P) (w := w) hy xY Xm vd.bu (fun t ht => vd.tok t (.inl (aeg _ ht)))
              rw [<- nJ] at hs
              have hce := hex aeq
              obtain ⟨nc, rest, Xl, SM, bG⟩ := Dc (P := P) (w := w) (tx := tx) (ty := ty) ht hi hz SN Ku (sCap := cw) yB hs (by omega) j8
              obtain ⟨lj, Yh, nE, rj, jZ⟩ := A0 (im := im) (loc := loc) (olds := (rows.drop off).take len) (new := new) (r := { v := .own (agY az) e1 0 (len + (agY new)) (len + (agY new)) ah8, news := [.arr e1 ((rows.drop off).take len ++ new)], wr := [], rd := tk :: hG y })
                (w' := w.drew.alloc (.cells (((((rows.drop off).take len).flatMap aY) ++ (new.flatMap aY)).toArray ++ rest) e)) (by rw [yD]) rfl vd dC rfl Yg eA Fc OY (by rw [yD]; exact Xl) (by rw [yD]; exact SM)
              subst h
              rw [yD] at nE
              exact ⟨_, _, _, bG, nE, rD.new vd lj rfl rfl rfl rfl rfl rfl Yh rj⟩
            rename_i aeq
            split at h
            · cases h
            rename_i Pe
            injection h with h
            have vd : iG im loc az w { v := .own (agY az) e1 0 (len + (agY new)) (len + (agY new)) ah8, news := [.arr e1 ((rows.drop off).take len ++ new)], wr := [(tk, .dead)], rd := hG y } := by rw [h]; exact hk
            obtain ⟨yB, yD, Yg, eA⟩ := old (hG y) [(tk, .dead)] (.inr ⟨_, ad5.2 rfl⟩) vd
            obtain ⟨hs, Fc, OY⟩ := AZ (P := P) (w := w) hy xY Xm vd.bu (fun t ht => vd.tok t (.inl ht))
            have s6 := hs
            rw [<- nJ] at hs
            subst h
            rcases ad0 cw (len + (agY new)) with hg | hg
            ·
              obtain ⟨nc, rest, Xl, SM, bG⟩ := Dc (P := P) (w := w) (tx := tx) (ty := ty) ht hi hz SN Ku (sCap := cw) yB hs hg j8
              obtain ⟨lj, Yh, nE, rj, jZ⟩ := A0 (im := im) (loc := loc) (olds := (rows.drop off).take len) (new := new) (r := { v := .own (agY az) e1 0 (len + (agY new)) (len + (agY new)) ah8, news := [.arr e1 ((rows.drop off).take len ++ new)], wr := [(tk, .dead)], rd := hG y })
                (w' := w.drew.alloc (.cells (((((rows.drop off).take len).flatMap aY) ++ (new.flatMap aY)).toArray ++ rest) e)) (by rw [yD]) rfl vd dC rfl Yg eA Fc OY (by rw [yD]; exact Xl) (by rw [yD]; exact SM)
              rw [yD] at nE
              refine ⟨_, _, _, bG, nE, ?_⟩
              have nF := rD.new (r := { v := .own (agY az) e1 0 (len + (agY new)) (len + (agY new)) ah8, news := [.arr e1 ((rows.drop off).take len ++ new)], wr := [], rd := hG y })
                (w' := w.drew.alloc (.cells (((((rows.drop off).take len).flatMap aY) ++ (new.flatMap aY)).toArray ++ rest) e))
                ⟨vd.bu, fun t ht => vd.tok t (by rcases ht with ht | ⟨k, ht⟩; exact .inl ht; cases ht), fun t k h => absurd h (by simp), vd.fresh, fun t u li lj k k' h1 h2 => vd.gQ t u li lj k k' (by rcases h1 with h | ⟨k, h⟩; exact .inl h; cases h) (by rcases h2 with h | ⟨k, h⟩; exact .inl h; cases h)⟩ lj rfl rfl rfl rfl rfl rfl Yh rj
              exact { fD := nF.fD, dp := nF.dp, bu := nF.bu, dy := nF.dy, os := nF.os, tape := nF.tape, output := nF.output, size := nF.size,
                      frame := fun b hb _ => nF.frame b hb (fun t k li k0 h => absurd h (by simp)),
                      No := (fun t k hm hs => by
                        obtain ⟨rfl, rfl⟩ : t = tk /\ k = .dead := by simpa using hm
                        cases hs),
                      wr := fun t k li hm jU => by
                        obtain ⟨rfl, rfl⟩ : t = tk /\ k = .dead := by simpa using hm
                        trivial,
                      jO := nF.jO,
                      news := fun j k li hj hl => by
                        obtain ⟨h2, h3⟩ := nF.news j k li hj hl
                        refine ⟨h2, fun hs => ⟨(h3 hs).1, ?_⟩⟩
                        rcases (h3 hs).2 with h | ⟨t, lt, k0, hm, _⟩
                        · exact .inl h
                        exact absurd hm (by simp),
                      distinct := nF.distinct }
            ·
              obtain ⟨k, gR, hb⟩ := vd.tok tk (.inr ⟨_, ad5.2 rfl⟩) li hl
              rw [bK] at gR; injection gR with gR; subst gR
              obtain ⟨b1, b2, b3⟩ := hb
              have vC : e2 = e1 := by rw [<- b1, he]
              subst vC
              rcases Cp with h0 | ⟨OZ, rfl, tP⟩
              · omega
              have mI : rows ≠ [] := by intro e; subst e; simp at b2; omega
              obtain ⟨arr, el, rH, GA, HL, cC⟩ := b3 mI
              have tQ := (cC.drop off).take len
              have Fe := dt Fc
              have aer := dt Yg
              rw [yD] at aer
              have Fa := ac6 e2 (show off + (len + (agY new)) <= off + cw by omega)
              have Kv : (off + (len + (agY new))) * e2 = off * e2 + len * e2 + (agY new) * e2 := by rw [UV, UV]; omega
              have De : li.sh + off * e2 + len * i.size + (new.flatMap aY).length <= arr.size := by rw [nJ, Fe]; omega
              have bG := pP (P := P) (w := w) t tx ty e i ht hi li.cX (li.sh + off * e2) len cw v (agY new) (new.flatMap aY) hs hg rH De
              have L7 := eQ (cs := (tO (li.sh + off * e2 + len * i.size) (new.flatMap aY) arr.toList).toArray) rH
              have cY := (M2.1 rH).1
              have yE : (jc.arr e2 rows).bA = ah5 := by cases rows with | nil => exact absurd rfl mI | cons _ _ => rfl
              have zF := vd.free tk .dead (ad5.2 rfl) li (.arr e2 rows) hl bK yE
              let lj : LI := ⟨li.cX, li.sh + off * e2, e2, ((rows.drop off).take len ++ new).length, li.sz⟩
              have Pg : loc (agY az) = ah4 := by have := vd.fresh 0 (by simp); simpa using this
              have hlj : lj.n = len + (agY new) := by simp only [lj, adV, yD]
              refine ⟨_, _, loc.set (agY az) lj, bG, ?_, ?_⟩
              · exact .own (agY az) e2 0 (len + (agY new)) (len + (agY new)) ah8 lj _ cw (Loc.ez _ _ _) rfl (by omega) (If _) hg (by simp)
                  (.inr ⟨by omega, by simp [lj], by simp only [lj, aeE]; rw [UV] at tP; omega⟩)
              have rj : BR im (loc.set (agY az) lj) (w.setRow li.cX (tO (li.sh + off * e2 + len * i.size) (new.flatMap aY) arr.toList).toArray) lj (.arr e2 ((rows.drop off).take len ++ new)) := by
                refine ⟨rfl, rfl, fun _ => ⟨(tO (li.sh + off * e2 + len * i.size) (new.flatMap aY) arr.toList).toArray, el, by rw [L7]; simp [lj, cY], ?_, ?_, ?_⟩⟩
                · simp only [lj, adW]
                  rw [fL _ _ _ (by simpa using De)]; simpa using GA
                · simp only [lj, adV, yD]
                  rw [UV]; rw [Kv] at Fa; omega
                refine bz.AY (fun r hr => ?_) (fun r hr => ?_) (fun j u hj => ?_)
                · rcases adz.1 hr with h | h
                  · exact Yg r h
                  exact Fc r h
                · rcases adz.1 hr with h | h
                  · exact eA r h
                  exact OY r h
                rw [aeT] at hj
                simp only [lj, adu]
                rw [mG _ _ _ (by simpa using De), Fe, nJ]
                rcases ad0 j (len * e2) with Kr | Kr
                · rw [ad1 (by omega)] at hj
                  rw [sp (by omega)]
                  have := tQ.flat j u hj
                  simpa using this
                rw [acl (by omega), aer] at hj
                have hjb := (ad8.1 hj).1
                rw [rc ⟨by omega, by omega⟩, <- hj]
                congr 1
                omega
              exact { fD := .refl _, dp := Loc.vL lj Pg,
                      bu := fun b o hb => by
                        have h1 := vd.bu b o hb
                        have GB : li.cX ≠ b := fun e => by rw [e, hb] at zF; cases zF
                        rw [L7, ad4, sp GB]; exact h1,
                      dy := fun _ _ h => .inl h, os := rfl, tape := ⟨rfl, If _⟩, output := rfl,
                      size := by rw [L7]; simp,
                      No := (fun t k hm hs => by
                        obtain ⟨rfl, rfl⟩ : t = tk /\ k = .dead := by simpa using hm
                        cases hs),
                      frame := fun b _ hb => by
                        have GB := hb tk .dead li _ (ad5.2 rfl) hl bK yE
                        rw [L7, ad4, sp GB],
                      wr := fun t k li hm jU => by
                        obtain ⟨rfl, rfl⟩ : t = tk /\ k = .dead := by simpa using hm
                        trivial,
                      jO := fun t l h => by
                        unfold Loc.set at h
                        split at h
                        · rename_i e; subst e; exact .inr ⟨If _, by simp⟩
                        exact .inl h,
                      news := AX (fun j k hj => by
                        cases j with
                        | zero =>
                          simp at hj; subst hj
                          exact ⟨lj, Loc.ez _ _ _, rj, fun _ => ⟨zF, .inr ⟨tk, li, _, ad5.2 rfl, hl, bK, yE, rfl⟩⟩⟩
                        | succ j => simp at hj),
                      distinct := fun i j ki kj li lj h1 h2 _ _ _ _ _ => by
                        cases i <;> cases j <;> simp at h1 h2 <;> rfl }
          | _ => cases h
      | _ => cases h
end
end Go.Vm
/- Operation by operation, seventh part: aggregates and rows that are built, slices that are cut. -/
namespace Go.Vm
section
variable {P : Program} {im : Im} {loc : Loc} {az : bS} {fz : List Nat} {w : World}
theorem s7 {α β:Type} (f:α->Sem β) (g:α->β):
 ∀(xs:List α),(∀a∈xs,(f a).run P w= .ok (g a) w)-> ∀(acc:Array β),(xs.foldlM (fun bs a=>bs.push<$>f a) acc).run P w= .ok (acc++(xs.map g).toArray) w
 | [],_,acc=>by simp
 |x::xs,h,acc=>by
  simp only [afd,Do,Sem.run_map,h x (by simp),ww,s7 f g xs (fun a ha=>h a (by simp [ha]))]
  congr 1
  apply ad9;simp
theorem Nv {α β:Type} (f:α->Sem β) (g:α->β) (xs:Array α) (h: ∀a∈xs,(f a).run P w= .ok (g a) w):(xs.mapM f).run P w= .ok (xs.map g) w:=by
 rw [Array.mapM_eq_foldlM,<- Array.foldlM_toList,s7 f g xs.toList (fun a ha=>h a (by simpa using ha))]
 congr 1
 apply ad9;simp
theorem Fz (off:Nat): ∀(xs:List Value) (k:Nat) (cells:Array Value),off+k+agY xs<=cells.size->
 ((xs.zipIdx k).foldl (fun (cs:Array Value) (p:Value×Nat)=>cs.setIfInBounds (off+p.2) p.1) cells).toList=tO (off+k) xs cells.toList
 | [],k,cells,_=>by simp [tO]
 |x::xs,k,cells,h=>by
  simp only [adU] at h;rw [List.zipIdx_cons,ae9,Fz off xs (k+1) _ (by simp;omega)];apply aem;intro j;rw [mG _ _ _ (by simp;omega),mG _ _ _ (by simp;omega)];simp only [adU,Array.toList_setIfInBounds]
  by_cases h1:off+(k+1)<=j/\j<off+(k+1)+agY xs
  · rw [rc h1,rc ⟨by omega,by omega⟩]
    obtain ⟨m,hm⟩: ∃m,j- (off+k)=m+1:=⟨j- (off+k) -1,by omega⟩;rw [hm,show j- (off+(k+1))=m by omega];simp
  rw [sp h1]
  by_cases h2:j=off+k
  · subst h2
    rw [rc ⟨If _,by omega⟩,aeD (by simp;omega)];simp
  rw [sp (by omega),aeR (by omega)]
theorem xg {place:Nat->Option (Nat×Nat)} {i off size:Nat} {v:Value} {rest:List (Nat×Value)} {cells:Array Value} (hp:place i=ah0 (off,size)) (hs:v.cells.size=size)
 (hf:off+size<=cells.size):Instr.fill place cells ((i,v)::rest)=Instr.fill place ⟨tO off v.cells.toList cells.toList⟩ rest:=by
 have he:(v.cells.zipIdx.foldl (fun cs (c,j)=>cs.setIfInBounds (off+j) c) cells)=⟨tO off v.cells.toList cells.toList⟩:=by apply ad9;rw [<- Array.foldl_toList,Array.toList_zipIdx];have:=Fz off v.cells.toList 0 cells (by simp;omega);simpa using this
 simp only [Instr.fill,hp];rw [sp (by simp [hs];omega),he]
inductive s8 (im:Im) (loc:Loc) (place:Nat->Option (Nat×Nat)):List (Nat×Nat×PV)->List (Nat×Value)->Prop
 |nil:s8 im loc place [] []
 |cons (off sz i:Nat) (x:PV) (v:Value) (r:List (Nat×Nat×PV)) (s:List (Nat×Value)) (hp:place i=ah0 (off,sz)) (hv:VR im loc x v) (h:s8 im loc place r s):
  s8 im loc place ((off,sz,x)::r) ((i,v)::s)
theorem H7 {place:Nat->Option (Nat×Nat)}: ∀{ps:List (Nat×Nat×PV)} {qs:List (Nat×Value)},s8 im loc place ps qs-> ∀{cs Fu:List PV} {vs:Array Value},
 eo im loc cs vs.toList->lS ps cs=ah0 Fu-> ∃Kh,Instr.fill place vs qs=ah0 Kh/\eo im loc Fu Kh.toList
 |_,_,.nil,cs,Fu,vs,h,hf=>by simp only [lS,v6] at hf;subst hf;exact ⟨vs,rfl,h⟩
 |_,_,.cons off sz i x v r s hp hv hr,cs,Fu,vs,h,hf=>by
  simp only [lS] at hf;cases bK:x.stored with
  |none=>rw [bK] at hf;cases hf
  |some ws=>
   rw [bK] at hf;dsimp only at hf;split at hf
   · rename_i hc
     simp only [ut,ads,adX] at hc;obtain ⟨rfl,zB⟩:=yA bK;have L5:=hv.cells zB;have hl:=L5.lG;have Fx:=h.lG;simp only [adG] at hl Fx;rw [xg hp (by omega) (by omega)];exact H7 hr (eo.tO L5 h) hf
   cases hf
theorem Df {t:TypeId} {fs:Array Field} (hu:P.underlying t=ah0 (.struct fs)) (hf: ∀f∈fs,(P.info? f.type).isSome=ah5):
 (fs.mapM fun f=>do pure (f.offset,<- sizeOf f.type):Sem (Array (Nat×Nat))).run P w= .ok (fs.map fun f=>(f.offset,P.cellsOf f.type)) w/\
 (fun i=>(fs.map fun f=>(f.offset,P.cellsOf f.type))[i]?)=placeOf P t:=by
 constructor
 · refine Nv _ _ _ fun f hm=>?_
   obtain ⟨i,hi⟩:=adB.1 (hf f hm);simp [sizeOf,typeInfo,hi,Program.cellsOf]
 funext i
 unfold placeOf;rw [hu];cases hfi:fs[i]? with
 |none=>simp [hfi]
 |some f=>obtain ⟨j,hj⟩:=adB.1 (hf f (Array.mem_of_getElem? hfi));simp [hfi,hj,Program.cellsOf]
theorem Nw {t:TypeId} {zero cs:List PV} {ps:List (Nat×Nat×PV)} {qs:Array (Nat×Value)} (hz:sy P t zero=ah5)
 (mA:(match P.underlying t with|some (.struct fs)=>fs.all fun f=>(P.info? f.type).isSome|some (.array _ e)=>(P.info? e).isSome|_=>ah8)=ah5)
 (hr:s8 im loc (placeOf P t) ps qs.toList) (hf:lS ps zero=ah0 cs): ∃v,(Instr.build t qs).run P w= .ok v w/\VR im loc (.agg cs) v:=by
 unfold sy at hz;cases hi:P.info? t with
 |none=>rw [hi] at hz;cases hz
 |some i=>
  rw [hi] at hz;cases GC:i.zero with
  |none=>simp [GC] at hz
  |some z=>
   simp [GC] at hz;have Ki:(zeroValue t).run P w= .ok z w:=by simp [zeroValue,typeInfo,hi,GC]
   obtain ⟨Kh,h1,h2⟩:=H7 hr (vK hz) hf;refine ⟨.agg Kh,?_,.agg cs Kh.toList h2⟩;cases hu:P.underlying t with
   |none=>rw [hu] at mA;cases mA
   |some d=>
    rw [hu] at mA;cases d<;>first|cases mA|skip
    case array n e=>
     obtain ⟨j,hj⟩:=adB.1 mA;have hp:(fun i=>ah0 (i*j.size,j.size))=placeOf P t:=by funext i;unfold placeOf;rw [hu];simp [hj]
     have nJ:(sizeOf e).run P w= .ok j.size w:=by simp [sizeOf,typeInfo,hj]
     simp only [Instr.build,Do,Ki,run_underlying hu,ww,nJ,hp,h1,EQ]
    case struct fs=>
     have p4: ∀f∈fs,(P.info? f.type).isSome=ah5:=by intro f hf;have:=Array.all_eq_true.1 mA;obtain ⟨k,hk,rfl⟩:=Array.mem_iff_getElem.1 hf;exact this k hk
     obtain ⟨hm,hp⟩:=Df (P:=P) (w:=w) hu p4;simp only [Instr.build,Do,Ki,run_underlying hu,ww,hm,hp,h1,EQ]
theorem A1 {zero:Row} {zs:Array Value} (h: ∀(j:Nat) (c:PV),zero[j]? =ah0 c-> ∃v,gB c=ah0 v/\zs[j]? =ah0 v) (hl:(agY zero)=zs.size) (n:Nat):
 bz (fun k=>((aen (n*zs.size)).map (zs[· %zs.size]!))[k]?) 0 zs.size (adc n zero):=by
 intro i r hr;have hi:i<n:=by
  rcases ad0 i n with h|h
  · exact h
  rw [NE (by simpa using h)] at hr;cases hr
 rw [List.getElem?_replicate,rc hi] at hr;injection hr with hr;subst hr;refine ⟨hl,fun j c hc=>?_⟩;obtain ⟨v,hv,hz⟩:=h j c hc;refine ⟨v,hv,?_⟩;have hj:j<zs.size:=(M2.1 hz).1;have cY:i*zs.size+j<n*zs.size:=by have:=ac6 zs.size (show i+1<=n from hi);rw [UV] at this;omega
 have ah1:(i*zs.size+j)%zs.size=j:=by rw [Nat.mul_comm,Nat.mul_add_mod];exact Nat.mod_eq_of_lt hj
 simp only [aeE];rw [Array.getElem?_map,Array.getElem?_range,rc cY];simp only [aft,ah1];rw [getElem!_pos zs j hj];have:=(M2.1 hz).2;rw [this]
inductive vS (im:Im) (loc:Loc):List (Nat×PV)->List (Nat×Value)->Prop
 |nil:vS im loc [] []
 |cons (i:Nat) (x:PV) (v:Value) (r:List (Nat×PV)) (s:List (Nat×Value)) (hv:VR im loc x v) (h:vS im loc r s):vS im loc ((i,x)::r) ((i,v)::s)
theorem zG {esz n : Nat} : ∀ {ps : List (Nat × PV)} {qs : List (Nat × Value)}, vS im loc ps qs -> ∀ {rows pQ : List Row} {vs : Array Value},
    bz (fun k => vs[k]?) 0 esz rows -> vs.size = n * esz -> (agY rows) = n -> oQ ps rows esz = ah0 pQ ->
    ∃ Kh, Instr.fill (fun i => ah0 (i * esz, esz)) vs qs = ah0 Kh /\ bz (fun k => Kh[k]?) 0 esz pQ /\ Kh.size = n * esz /\ (agY pQ) = n
  | _, _, .nil, rows, pQ, vs, h, hs, hn, hf => by
    simp only [oQ, v6] at hf
    subst hf
    exact ⟨vs, rfl, h, hs, hn⟩
  | _, _, .cons i x v r s hv hr, rows, pQ, vs, h, hs, hn, hf => by
    simp only [oQ] at hf
    cases bK : x.bW with
    | none => rw [bK] at hf; cases hf
    | some ws =>
      rw [bK] at hf
      dsimp only at hf
      split at hf
      · rename_i hc
        have zn : (agY ws) = esz := by simp only [ut, ads] at hc; exact hc.1
        have E5 : i < (agY rows) := by simp only [ut] at hc; simpa using hc.2
        obtain ⟨rfl, Kg⟩ := ly bK
        have L5 := hv.cells (fun c hc => vN (Kg c hc))
        have hl := L5.lG
        simp only [adG] at hl
        have Fa := ac6 esz (show i + 1 <= n by omega)
        rw [UV] at Fa
        rw [xg (place := fun i => ah0 (i * esz, esz)) rfl (by omega) (by omega)]
        have hgi : rows[i]? = ah0 rows[i] := PP E5
        have hil := (h i _ hgi).1
        have aet := h.store (get' := fun k => (⟨tO (i * esz) v.cells.toList vs.toList⟩ : Array Value)[k]?) (off := 0) (ws := x.cells) (vs := v.cells.toList) hgi (by omega) (L5.Fw Kg) (by simp; omega) (fun k => by
          simp only [adu]
          rw [mG _ _ _ (by simp; omega)]
          simp)
        have ah2 : tO 0 x.cells rows[i] = x.cells := by
          unfold tO; rw [aec (by omega)]; simp
        rw [ah2] at aet
        exact zG hr aet (by simp only [adW]; rw [fL _ _ _ (by simp; omega)]; simpa using hs) (by simpa using hn) hf
      cases hf
end
end Go.Vm
/- Operation by operation, last part: all of them. -/
namespace Go.Vm
def jL.eB:jL->List eL
 | .OV x| .un _ x| .conv _ x| .len x| .box x| .load _ x| .HQ x| .HR _ x| .iq _ _ x| .ext _ x=>[x]
 | .pick a b c=>[a,b,c]
 | .bin _ x y| .HP _ x y| .Xc _ _ x y| .store _ x y| .HS _ x y| .BN _ _ x y| .idx _ _ _ x y| .HT x y| .Xd _ _ x y| .append _ x y| .copy _ x y=>[x,y]
 | .build _ ps=>ps.map (·.2.2)
 | .zt _ _ _ ps=>ps.map (·.2)
 | .BM x y=>[x,y]
 | .Nk _ x a b c=>x::(a.toList++b.toList++c.toList)
 | .Xe _ a b=>a++b
 | .lookup _ _ _ m k=>[m,k]
 | .Gt _ m k v=>[m,k,v]
 | .clear _ _ x=>[x]
 | .mm _ x xs=>x::xs
 | .call _ _ as=>as
 | .u4 x as=>x::as
 | .Kn _| .alloc _| .Xf _| .bad=>[]
section
variable {P : Program} {im : Im} {loc : Loc} {az : bS} {fz : List Nat} {w : World} {e : Env} {ρ : Operand -> Value}
theorem lV: ∀{xs:List eL} {os:List Operand},(∀x∈xs,∀o,bn x o=ah5->VR im loc (x.ev e) (ρ o))->ef xs os=ah5->eo im loc (C3 e xs) (os.map ρ)
 | [],[],_,_=> .nil
 |x::xs,o::os,h,hc=>by simp only [ef,ut] at hc;exact .cons _ _ _ _ (h x (by simp) o hc.1) (lV (fun y hy=>h y (by simp [hy])) hc.2)
 | [],_::_,_,hc=>by simp [ef] at hc
 |_::_,[],_,hc=>by simp [ef] at hc
theorem zH {place:Nat->Option (Nat×Nat)}: ∀{ps:List (Nat×Nat×eL)} {qs:List (Nat×Operand)},(∀x∈ps.map (·.2.2),∀o,bn x o=ah5->VR im loc (x.ev e) (ρ o))->s5 place ps qs=ah5->
 s8 im loc place (ps.map fun p=>(p.1,p.2.1,p.2.2.ev e)) (qs.map fun (i,x)=>(i,ρ x))
 | [],[],_,_=> .nil
 |(off,sz,x)::r,(i,o)::s,h,hc=>by
  simp only [s5,ut] at hc;obtain ⟨⟨h1,h2⟩,h3⟩:=hc;refine .cons off sz i _ _ _ _ ?_ (h x (by simp) o h2) (zH (fun y hy=>h y (by simp only [agB,ae6];exact .inr hy)) h3);cases hp:place i with
  |none=>rw [hp] at h1;cases h1
  |some q=>rw [hp] at h1;simp only [ut,beq_iff_eq] at h1;obtain ⟨rfl,rfl⟩:=h1;rfl
 | [],_::_,_,hc=>by simp [s5] at hc
 |_::_,[],_,hc=>by simp [s5] at hc
theorem ve: ∀{ps:List (Nat×eL)} {qs:List (Nat×Operand)},(∀x∈ps.map (·.2),∀o,bn x o=ah5->VR im loc (x.ev e) (ρ o))->lU ps qs=ah5->
 vS im loc (ps.map fun p=>(p.1,p.2.ev e)) (qs.map fun (i,x)=>(i,ρ x))
 | [],[],_,_=> .nil
 |(i,x)::r,(j,o)::s,h,hc=>by simp only [lU,ut,beq_iff_eq] at hc;obtain ⟨⟨rfl,h2⟩,h3⟩:=hc;exact .cons i _ _ _ _ (h x (by simp) o h2) (ve (fun y hy=>h y (by simp only [agB,ae6];exact .inr hy)) h3)
 | [],_::_,_,hc=>by simp [lU] at hc
 |_::_,[],_,hc=>by simp [lU] at hc
theorem Dg {t:TypeId} {zero:Row} (h:sy P t zero=ah5) (hp:zero.all PV.plain=ah5):
 ∃i z,P.info? t=ah0 i/\i.zero=ah0 z/\agY zero=z.cells.size/\ ∀(j:Nat) (c:PV),zero[j]? =ah0 c-> ∃v,gB c=ah0 v/\z.cells[j]? =ah0 v:=by
 unfold sy at h;cases hi:P.info? t with
 |none=>rw [hi] at h;cases h
 |some i=>
  rw [hi] at h;cases hz:i.zero with
  |none=>simp [hz] at h
  |some z=>simp [hz] at h;have hr:eo (fun _=>ah4) (fun _=>ah4) zero z.cells.toList:=vK h;refine ⟨i,z,rfl,hz,by simpa using hr.lG,fun j c hc=>?_⟩;obtain ⟨v,hv,Kq⟩:=hr.get j c hc;refine ⟨v,Kq.plain ?_,by simpa using hv⟩;have:=afq.1 hp c (aee hc);exact this
theorem BT {esz n len cap:Nat} {rows:List Row} {vs:Array Value} {el:TypeId} {r:mC} (hr:r={v:= .own (agY az) esz 0 len cap ah5,news:=[.arr esz rows]}) (hk:iG im loc az w r)
 (cC:bz (fun k=>vs[k]?) 0 esz rows) (hs:vs.size=n*esz) (hn:(agY rows)=n) (hc:cap=n) (hl:len<=cap):
 ∃ba,VR im ba r.v (.slice (ah0 ⟨w.heap.size,0,ah4⟩) len cap)/\rD im loc az w r im ba {w with heap:=w.heap.push (.cells vs el)}:=by
 subst hr hc
 let li:LI:=⟨w.heap.size,0,esz,cap,vs.size⟩
 refine ⟨loc.set (agY az) li,?_,?_⟩
 · refine .own (agY az) esz 0 len cap ah5 li _ cap (Loc.ez _ _ _) rfl (by simp [li]) hl (If _) (fun _=>rfl) ?_
   rcases aeV cap with h|h
   · exact .inl h
   exact .inr ⟨by simp [li];omega,by simp [li],by simp [li,hs]⟩
 exact rD.new hk li rfl rfl rfl rfl rfl rfl rfl ⟨rfl,hn.symm,fun _=>⟨vs,el,by simp [li],rfl,by simp [li,hs,hn],cC⟩⟩
theorem L8 {isMax:Bool} {k:IntKind}: ∀{ys:List PV} {us:List Value},eo im loc ys us-> ∀{a:Int} {z:PV},Yb isMax k a ys=ah0 z->
 ∃b,z= .int k b/\(us.foldlM (if isMax then Builtin.max2 else Builtin.min2) (.int k a)).run P w= .ok (.int k b) w
 |_,_,.nil,a,z,h=>by simp only [Yb,v6] at h;exact ⟨a,h.symm,rfl⟩
 |_,_,.cons y u ys us hy hs,a,z,h=>by
  unfold Yb at h;cases y with
  |int l c=>
   obtain rfl:=hy.eF;dsimp only at h;cases O0:eG k l with
   |false=>rw [O0] at h;cases h
   |true=>
    have:=eu.1 O0;subst this;rw [O0,rc rfl] at h;obtain ⟨b,hz,ih⟩:=L8 (isMax:=isMax) hs h;refine ⟨b,hz,?_⟩;rw [afd,Do];cases isMax with
    |true=>simp only [if_true] at ih ⊢;simp only [Builtin.max2,EQ,ww];exact ih
    |false=>simp only [ad2,if_false] at ih ⊢;simp only [Builtin.min2,EQ,ww];exact ih
  |_=>cases h
end
end Go.Vm
/- Operation by operation: all that call nothing. -/
namespace Go.Vm
def Ph (P:Program) (ρ:Operand->Value) (o:Oper) (im:Im) (loc:Loc) (az:bS) (w:World) (r:mC):Prop:=
 ∃nx w' ba,(execOp ρ o).run P w= .ok nx w'/\((nx= .skip/\r.v= .undef)\/ ∃v,nx= .value v/\VR im ba r.v v)/\rD im loc az w r im ba w'
section
variable {P : Program} {im : Im} {loc : Loc} {az : bS} {fz : List Nat} {w : World} {e : Env} {ρ : Operand -> Value}
theorem Ph.pure {o:Oper} {r:mC} {v:Value} (hk:iG im loc az w r) (hn:r.news=[]) (hw:r.wr=[]) (h:(execOp ρ o).run P w= .ok (.value v) w) (hv:VR im loc r.v v):
 Ph P ρ o im loc az w r:=⟨_,w,loc,h,.inr ⟨v,rfl,hv⟩,rD.none hk hn hw⟩
theorem GD {t:TypeId} (h:(P.underlying t matches ah0 .bool)=ah5):P.underlying t=ah0 .bool:=by
 split at h
 · assumption
 cases h
theorem tR {x:Option eL} {o:Option Operand} {n:Option Nat} (nB: ∀y∈x.toList,∀o,bn y o=ah5->VR im loc (y.ev e) (ρ o)) (hc:Gx x o=ah5)
 (h:(match (generalizing:=false) x with|none=>some none|some a=>(jd (a.ev e)).map some)=some n):yz (o.map ρ) n:=by
 cases x with
 |none=>
  cases o with
  |none=>injection h with h;subst h;trivial
  |some o=>cases hc
 |some a=>
  cases o with
  |none=>cases hc
  |some o=>simp only [AC] at h;obtain ⟨m,hm,rfl⟩:=h;exact nL (nB a (by simp) o hc) hm
theorem rI {t el:TypeId} {esz:Nat} {a:Option Addr} {len cap l h m:Nat} {vl vh vm:Option Value} (hu:P.underlying t=ah0 (.slice el)) (hs:nD P el esz=ah5)
 (hb:(Instr.sliceBounds ah5 len cap vl vh vm).run P w= .ok (l,h,m) w):
 (Instr.sliceAt t (.slice a len cap) vl vh vm).run P w= .ok (.slice (if m=l then a else a.map (·.add (l*esz))) (h-l) (m-l)) w:=by
 simp only [Instr.sliceAt,Do,run_underlying hu,ww,Instr.slice,hb,jx hs,EQ]
theorem Nx {t el:TypeId} {esz:Nat} {x z:PV} {u:Value} {lo hi mx:Option Nat} {vl vh vm:Option Value} (hx:VR im loc x u) (hu:P.underlying t=ah0 (.slice el)) (hs:nD P el esz=ah5)
 (h1:yz vl lo) (h2:yz vh hi) (h3:yz vm mx) (hm:mx.isSome=ah5->hi.isSome=ah5) (Co: ∀e c r,x= .sl e c r->r=[]\/e=esz) (aeu: ∀tk e o l c ex,x= .own tk e o l c ex->e=esz)
 (h:pF x lo hi mx=ah0 z): ∃v,(Instr.sliceAt t u vl vh vm).run P w= .ok v w/\VR im loc z v:=by
 unfold pF at h;cases x with
 |sl e pD rows=>
  obtain ⟨a,cap,rfl,xQ,OX,jT⟩:=hx.nM;dsimp only at h;have sub: ∀(l h m:Nat) (L9:Bool),l<=h->h<=agY rows->h<=m->m<=cap->(L9=ah5->m=h)->
   VR im loc (.sl e L9 ((rows.drop l).take (h-l))) (.slice (if m=l then a else a.map (·.add (l*esz))) (h-l) (m-l)):=by
   intro l h m L9 hlh hhr Xj hmc Fx;have bU:((rows.drop l).take (h-l)).length=h-l:=by simp;omega
   have:=VR.sl (im:=im) (loc:=loc) e L9 ((rows.drop l).take (h-l)) (if m=l then a else a.map (·.add (l*esz))) (m-l) (by omega) (fun hc=>by have:=Fx hc;omega) (fun dC=>by
    have cY:l<h:=by
     rcases ad0 l h with h'|h'
     · exact h'
     exfalso;apply dC;rw [show h-l=0 by omega];simp
    have mI:rows≠[]:=by intro e;subst e;simp at hhr;omega
    obtain ⟨b,o,rfl,cC⟩:=jT mI;have he:e=esz:=(Co e pD rows rfl).resolve_left mI;subst he;refine ⟨b,o+l*e,?_,(cC.drop l).take _⟩;rw [sp (by omega)];simp [pH])
   rwa [bU] at this
  cases mx with
  |none=>
   dsimp only at h;split at h
   · rename_i hc
     simp only [ut,adX] at hc;injection h with h;subst h;have hb:=lx (P:=P) (w:=w) (len:=agY rows) (cap:=cap) h1 h2 h3 hm hc.1 (fun _=>by simp;omega) (by simp);simp only [aed] at hb;refine ⟨_,rI hu hs hb,sub _ _ cap _ hc.1 hc.2 (by omega) (If _) (fun Fx=>?_)⟩;simp only [ut,ads] at Fx;have:=OX Fx.1;omega
   cases h
  |some m=>
   dsimp only at h;split at h
   · rename_i hc
     simp only [ut,adX] at hc;injection h with h;subst h;have hb:=lx (P:=P) (w:=w) (len:=agY rows) (cap:=cap) h1 h2 h3 hm hc.1.1 (fun _=>hc.1.2) (by simp;omega);simp only [ad6] at hb;refine ⟨_,rI hu hs hb,sub _ _ m _ hc.1.1 (by omega) hc.1.2 (by omega) (fun Fx=>?_)⟩;simp only [ads] at Fx;exact Fx.symm
   cases h
 |own tk e off len cap ex=>
  obtain ⟨li,a,cw,rfl,hl,he,Cn,bU,xQ,hex,Cp⟩:=hx.gO;have Ko:=aeu tk e off len cap ex rfl;subst Ko;dsimp only at h;have sub: ∀(l h c m m':Nat) (ex':Bool),l<=h->h<=m->m<=cap->m<=m'->m'<=cw->(ex'=ah5->m'=m)->
   VR im loc (.own tk e (off+l) (h-l) (m-l) ex') (.slice (if m'=l then a else a.map (·.add (l*e))) (h-l) (m'-l)):=by
   intro l h c m m' ex' hlh Xj hmc hmm an0 ah3;refine .own tk e (off+l) (h-l) (m-l) ex' li _ (m'-l) hl he (by omega) (by omega) (by omega) (fun hx=>by have:=ah3 hx;omega) ?_
   by_cases xS:m'=l
   · exact .inl (by omega)
   rw [sp xS]
   rcases Cp with h0|⟨OZ,rfl,tP⟩
   · exact .inl (by omega)
   refine .inr ⟨OZ,?_,?_⟩
   · simp only [aft,pH];congr 2;rw [UV];omega
   have:=ac6 e (show off+l+(m'-l)<=off+cw by omega)
   omega
  cases mx with
  |none=>
   dsimp only at h;split at h
   · rename_i hc
     simp only [ut,adX] at hc;injection h with h;subst h;have hb:=lx (P:=P) (w:=w) (len:=len) (cap:=cw) h1 h2 h3 hm hc.1 (fun _=>by simp;omega) (by simp);simp only [aed] at hb;exact ⟨_,rI hu hs hb,sub _ _ 0 cap cw ex hc.1 hc.2 (If _) xQ (If _) hex⟩
   cases h
  |some m=>
   dsimp only at h;split at h
   · rename_i hc
     simp only [ut,adX] at hc;injection h with h;subst h;have hb:=lx (P:=P) (w:=w) (len:=len) (cap:=cw) h1 h2 h3 hm hc.1.1 (fun _=>hc.1.2) (by simp;omega);simp only [ad6] at hb;exact ⟨_,rI hu hs hb,sub _ _ 0 m m ah5 hc.1.1 hc.1.2 hc.2 (If _) (by omega) (fun _=>rfl)⟩
   cases h
 |_=>cases h
end
end Go.Vm
/- Two aggregates of plain cells are compared cell by cell. -/
namespace Go.Vm
theorem vT: ∀(a b c d:List PV),agY a=agY b->cU (a++c) (b++d)=match cU a b with|some ah5=>cU c d|x=>x
 | [],[],c,d,_=>by simp [cU]
 |x::xs,y::ys,c,d,h=>by
  simp only [List.cons_append,cU];cases pE x y with
  |none=>rfl
  |some r=>
   cases r with
   |false=>rfl
   |true=>exact vT xs ys c d (by simpa using h)
 | [],_::_,_,_,h=>by simp at h
 |_::_,[],_,_,h=>by simp at h
section
variable {P : Program} {im : Im} {loc : Loc} {w : World}
def whole (P:Program) (t:TypeId) (us:List Value):Value:=if fZ P t then .agg ⟨us⟩ else us.getD 0 Go.undef
def hM (P:Program) (d:Nat) (r:Option Nat) (f:Field):Option Nat:=
 match r with
 |some n=>if f.offset==n&&f.name != "_" then (match flat P d f.type with
  |some m=>if nD P f.type m then ah0 (n+m) else ah4
  |none=>ah4) else ah4
 |none=>ah4
theorem ov {d:Nat}: ∀(fs:List Field),fs.foldl (hM P d) ah4=ah4
 | []=>rfl
 |f::fs=>by rw [ae9];exact ov fs
theorem GF {d:Nat} {t:TypeId} {n:Nat} (h:flat P d t=ah0 n) (hr:fZ P t=ah8):n=1:=by
 cases d with
 |zero=>cases h
 |succ d=>
  simp only [flat] at h;split at h
  · split at h
    · injection h with h;exact h.symm
    cases h
  · rename_i fs hu
    unfold fZ at hr;rw [hu] at hr;cases hr
  cases h
theorem yF {d:Nat} {t:TypeId} {m k:Nat} {us:List Value} (h:flat P d t=ah0 m) (hs:nD P t m=ah5) (hk:k+m<=agY us) (L':(P.underlying t).isSome=ah5):
 (Go.part t ⟨us⟩ k).run P w= .ok (whole P t ((us.drop k).take m)) w:=by
 unfold whole;cases hr:fZ P t with
 |true=>
  simp only [Go.part,Do,AV hr,ww,if_true,jx hs,EQ]
  congr 2
  apply ad9;simp [ael]
 |false=>
  have h1:=GF h hr;subst h1;simp only [Go.part,Do,AW L' hr,ww,ad2,if_false];have cY:k<(agY us):=by omega
  have:(⟨us⟩:Array Value)[k]? =ah0 us[k]:=by simp [cY]
  rw [this];simp [agO,cY]
theorem FA {d:Nat} {t:TypeId} {n:Nat} (h:flat P d t=ah0 n):(P.underlying t).isSome=ah5:=by
 cases d with
 |zero=>cases h
 |succ d=>
  simp only [flat] at h;cases hu:P.underlying t with
  |none=>rw [hu] at h;cases h
  |some _=>rfl
theorem Dh {d:Nat}: ∀{fs:List Field} {k n:Nat},fs.foldl (hM P d) (ah0 k)=ah0 n->k<=n
 | [],k,n,h=>by simp at h;omega
 |f::fs,k,n,h=>by
  rw [ae9] at h;cases hs:hM P d (ah0 k) f with
  |none=>rw [hs,ov] at h;cases h
  |some k'=>
   rw [hs] at h;have:=Dh h;unfold hM at hs;dsimp only at hs;split at hs
   · split at hs
     · split at hs
       · injection hs with hs;omega
       cases hs
     cases hs
   cases hs
theorem GG: ∀(d:Nat) (t:TypeId) (n:Nat),flat P d t=ah0 n-> ∀(D:Nat),d<=D-> ∀(xs ys:List PV) (us vs:List Value) (b:Bool),eo im loc xs us->eo im loc ys vs->agY xs=n->agY ys=n->
 cU xs ys=ah0 b->(Op.equalIn D t (whole P t us) (whole P t vs)).run P w= .ok b w
 |0,t,n,h,_,_,_,_,_,_,_,_,_,_,_,_=>by cases h
 |d+1,t,n,h,0,hD,_,_,_,_,_,_,_,_,_,_=>by omega
 |d+1,t,n,h,D+1,hD,xs,ys,us,vs,b,hx,hy,hxn,hyn,he=>by
  have SP:fZ P t=ah8->n=1-> ∃x y u v,xs=[x]/\ys=[y]/\us=[u]/\vs=[v]/\VR im loc x u/\VR im loc y v/\pE x y=ah0 b:=by
   intro hr h1;subst h1
   match xs,us,ys,vs,hx,hy,hxn,hyn,he with
   | [x],[u],[y],[v],.cons _ _ _ _ h1 _,.cons _ _ _ _ h2 _,_,_,he=>
    refine ⟨x,y,u,v,rfl,rfl,rfl,rfl,h1,h2,?_⟩;simp only [cU] at he;cases hc:pE x y with
    |none=>rw [hc] at he;cases he
    |some r=>rw [hc] at he;cases r<;>simpa using he
  simp only [flat] at h;split at h
  · rename_i k hu
    have hr:fZ P t=ah8:=by unfold fZ;rw [hu]
    split at h
    · injection h with h
      obtain ⟨x,y,u,v,rfl,rfl,rfl,rfl,h1,h2,h3⟩:=SP hr h.symm;simp only [whole,hr,ad2,if_false,agO,aew,ad6];unfold pE at h3;split at h3
      · split at h3
        · rename_i hk
          have:=eu.1 hk;subst this;injection h3 with h3;subst h3;rw [h1.eF,h2.eF];exact run_equalIn_int w D t _ _ _ _ hu
        cases h3
      cases h3
    cases h
  · rename_i fs hu
    have hr:fZ P t=ah5:=by unfold fZ;rw [hu]
    split at h
    · cases h
    rename_i bK
    have hf:P.fieldsOf t=fs:=by simp [Program.fieldsOf,hu]
    have bK:P.stoodInHeld t=ah8:=by simpa using bK
    have hxl:=hx.lG;have hyl:=hy.lG;simp only [whole,hr,if_true];rw [run_equalIn_agg w D t _ _ (by rw [hf];exact hu) bK,hf];change (match fs.toList.foldl (hM P d) (ah0 0) with|some n=>if nD P t n then ah0 n else ah4|none=>ah4)=ah0 n at h;cases Xn:fs.toList.foldl (hM P d) (ah0 0) with
    |none=>rw [Xn] at h;cases h
    |some n'=>
     rw [Xn] at h;dsimp only at h;split at h
     · injection h with h
       subst h;have key: ∀(l:List Field) (k:Nat),l.foldl (hM P d) (ah0 k)=ah0 n'-> ∀(b':Bool),cU (xs.drop k) (ys.drop k)=ah0 b'->
        (Op.eqFields D ⟨us⟩ ⟨vs⟩ l).run P w= .ok b' w:=by
        intro l
        induction l with
        |nil=>intro k hk b' xX;simp only [List.foldl_nil,v6] at hk;subst hk;rw [aec (by omega),aec (by omega)] at xX;simp only [cU,v6] at xX;subst xX;simp [Op.eqFields]
        |cons f l ih=>
         intro k hk b' xX;rw [ae9] at hk;cases hs:hM P d (ah0 k) f with
         |none=>rw [hs,ov] at hk;cases hk
         |some k'=>
          rw [hs] at hk;have Xo:=Dh hk;unfold hM at hs;dsimp only at hs;split at hs
          · rename_i hc
            simp only [ut,beq_iff_eq,bne_iff_ne,ne_eq] at hc;split at hs
            · rename_i m hm
              split at hs
              · rename_i nJ
                injection hs with hs;subst hs;have L':=FA hm;have e1:xs.drop k=(xs.drop k).take m++xs.drop (k+m):=by rw [<- agd,aeK]
                have e2:ys.drop k=(ys.drop k).take m++ys.drop (k+m):=by rw [<- agd,aeK]
                rw [e1,e2,vT _ _ _ _ (by simp;omega)] at xX;have dC:f.name≠ "_" :=hc.2;simp only [Op.eqFields,Do,dC,ne_eq,not_false_eq_true,if_true,hc.1];rw [yF (w:=w) hm nJ (by omega) L'];simp only [ww];rw [yF (w:=w) hm nJ (by omega) L'];simp only [ww];cases hq:cU ((xs.drop k).take m) ((ys.drop k).take m) with
                |none=>rw [hq] at xX;cases xX
                |some r=>
                 have tT:=GG d f.type m hm D (by omega) _ _ _ _ r ((hx.drop k).take m) ((hy.drop k).take m) (by simp;omega) (by simp;omega) hq;rw [tT];simp only [ww];rw [hq] at xX;cases r with
                 |false=>simp only [v6] at xX;subst xX;simp
                 |true=>dsimp only at xX;have:=ih (k+m) hk b' xX;simpa using this
              cases hs
            cases hs
          cases hs
       exact key fs.toList 0 Xn b (by simpa using he)
     cases h
  cases h
end
end Go.Vm
/- Maps; copy and clear. -/
namespace Go.Vm
theorem VR.vU {im:Im} {loc:Loc} {x:PV} {v:Value} (h:valOf x=ah0 v):VR im loc x v:=by
 cases x with
 |agg cs=>
  simp only [valOf,AC] at h;obtain ⟨vs,Su,rfl⟩:=h;refine .agg cs vs ?_
  induction cs generalizing vs with
  |nil=>simp at Su;subst Su;exact .nil
  |cons c cs ih=>rw [ags] at Su;simp only [Option.bind_eq_bind,Option.bind_eq_some_iff,Option.pure_def,v6] at Su;obtain ⟨v,hv,us,xh,rfl⟩:=Su;exact .cons _ _ _ _ (.zy hv) (ih us xh)
 |_=>exact .zy h
theorem H8 {im:Im} {loc:Loc} {x:PV} {v:Value} (h:VR im loc x v) (hp: ∀c∈x.cells,c.plain=ah5):valOf x=ah0 v:=by
 cases x with
 |agg cs=>
  obtain ⟨vs,rfl,hr⟩:=h.ou;simp only [valOf,AC];refine ⟨vs,?_,rfl⟩;simp only [PV.cells] at hp;clear h
  induction cs generalizing vs with
  |nil=>cases hr;rfl
  |cons c cs ih=>
   cases hr with
   |cons _ v _ us h1 h2=>rw [ags];simp [h1.plain (hp c (by simp)),ih (fun d hd=>hp d (by simp [hd])) us h2]
 |_=>exact h.plain (hp _ (by simp [PV.cells]))
section
variable {P : Program} {im : Im} {loc : Loc} {az : bS} {fz : List Nat} {w : World}
theorem tU: ∀{xs ys:List PV} {us vs:List Value},cU xs ys=ah0 ah5->eo im loc xs us->eo im loc ys vs->us=vs/\ ∀u∈us,∃k n,u= .int k n
 | [],[],_,_,_,.nil,.nil=>⟨rfl,by simp⟩
 |x::xs,y::ys,_,_,h,.cons _ u _ us h1 h2,.cons _ v _ vs h3 h4=>by
  simp only [cU] at h;split at h
  · rename_i SQ
    obtain ⟨rfl,p4⟩:=tU h h2 h4;unfold pE at SQ;split at SQ
    · rename_i k a l b
      split at SQ
      · rename_i O0
        have:=eu.1 O0;subst this;have Ny:a=b:=by simpa using SQ
        subst Ny;rw [h1.eF,h3.eF];exact ⟨rfl,by
         intro u hu;rcases ae6.1 hu with rfl|hu
         · exact ⟨_,_,rfl⟩
         exact p4 u hu⟩
      cases SQ
    cases SQ
  · cases h
  cases h
 | [],_::_,_,_,h,_,_=>by simp [cU] at h
 |_::_,[],_,_,h,_,_=>by simp [cU] at h
theorem xZ: ∀(us:List Value) (n:Nat),(∀u∈us,∃k m,u= .int k m)->(us.zip us).all (fun (x,y)=>Instr.sameBits n x y)=ah5
 | [],_,_=>rfl
 |u::us,n,h=>by obtain ⟨k,m,rfl⟩:=h u (by simp);simp only [List.zip_cons_cons,List.all_cons,ut];exact ⟨by cases n<;>simp [Instr.sameBits],xZ us n fun u hu=>h u (by simp [hu])⟩
theorem je {n:Option Nat} {x:PV} {u:Value} (h:iP n x=ah5) (hv:VR im loc x u):(n=ah4/\ ∃k m,x= .int k m/\u= .int k m)\/(∃m cs us,n=ah0 m/\x= .agg cs/\agY cs=m/\u= .agg ⟨us⟩/\eo im loc cs us):=by
 unfold iP at h;split at h
 · exact .inl ⟨rfl,_,_,rfl,hv.eF⟩
 · rename_i m cs
   obtain ⟨us,rfl,hr⟩:=hv.ou;exact .inr ⟨m,cs,us,rfl,rfl,by simpa using h,rfl,hr⟩
 cases h
theorem Pj {n:Option Nat} {x y:PV} {u v:Value} (hx:iP n x=ah5) (hy:iP n y=ah5) (h:cU x.cells y.cells=ah0 ah5) (hu:VR im loc x u) (hv:VR im loc y v):
 u=v/\Instr.sameBits 10000 u u=ah5:=by
 rcases je hx hu with ⟨rfl,k,m,rfl,rfl⟩|⟨m,cs,us,rfl,rfl,_,rfl,hr⟩
 · rcases je hy hv with ⟨_,l,m',rfl,rfl⟩|⟨_,_,_,h',_⟩
   · obtain ⟨h1,_⟩:=tU (im:=im) (loc:=loc) h (.cons _ _ _ _ (.int k m) .nil) (.cons _ _ _ _ (.int l m') .nil)
     injection h1 with h1;exact ⟨h1,by simp [Instr.sameBits]⟩
   cases h'
 rcases je hy hv with ⟨h',_⟩|⟨_,ds,vs,_,rfl,_,rfl,hs⟩
 · cases h'
 obtain ⟨rfl,h2⟩:=tU h hr hs
 refine ⟨rfl,?_⟩;simp only [Instr.sameBits,beq_self_eq_true,agy];exact xZ us 9999 h2
theorem eO.get: ∀{es:List (PV×PV)} {jN:List MapEntry},eO es jN-> ∀{i:Nat} {p:PV×PV},es[i]? =ah0 p-> ∃e,jN[i]? =ah0 e/\valOf p.1=ah0 e.key/\valOf p.2=ah0 e.val
 |(k,v)::r,e::r',h,0,p,hp=>by simp at hp;subst hp;exact ⟨e,rfl,h.1,h.2.1⟩
 |(k,v)::r,e::r',h,i+1,p,hp=>by obtain ⟨e',h1,h2⟩:=eO.get h.2.2 (i:=i) (p:=p) (by simpa using hp);exact ⟨e',by simpa using h1,h2⟩
 | [],[],h,i,p,hp=>by simp at hp
 | [],_::_,h,_,_,_=>by simp [eO] at h
 |_::_,[],h,_,_,_=>by simp [eO] at h
theorem H9 {q:IntKind} {k:PV} {u:Value} (hu:VR im loc k u) (hk:iP ah4 k=ah5): ∀{es:List (PV×PV)} {jN:List MapEntry} {i:Nat} {r:Option Nat},eO es jN->eE ah4 k es i=ah0 r->
 ∃r',Instr.findNow (.int q) u jN i=ah0 r'/\match r with|none=>r'=ah4|some j=>i<=j/\ ∃p e,es[j-i]? =ah0 p/\jN[j-i]? =ah0 e/\r'=ah0 (j,e.val)/\iP ah4 p.1=ah5/\cU k.cells p.1.cells=ah0 ah5
 | [],[],i,r,_,h=>by simp only [eE,v6] at h;subst h;exact ⟨ah4,rfl,rfl⟩
 |(a,v)::es,e::jN,i,r,hm,h=>by
  simp only [eE] at h;split at h
  case isFalse=>cases h
  rename_i hka;obtain ⟨h1,h2,h3⟩:=hm;obtain ⟨_,kk,kn,rfl,rfl⟩:_/\ ∃kk kn,k= .int kk kn/\u= .int kk kn:=by
   rcases je hk hu with ⟨_,kk,kn,e1,e2⟩|⟨_,_,_,e1,_⟩
   · exact ⟨trivial,kk,kn,e1,e2⟩
   cases e1
  obtain ⟨ak,an,rfl,hae⟩: ∃ak an,a= .int ak an/\e.key= .int ak an:=by
   rcases je (im:=im) (loc:=loc) hka (VR.vU h1) with ⟨_,kk,kn,e1,e2⟩|⟨_,_,_,e1,_⟩
   · exact ⟨kk,kn,e1,e2⟩
   cases e1
  simp only [PV.cells,cU,pE] at h;cases vd:eG kk ak with
  |false=>rw [vd] at h;simp at h
  |true=>
   have:=eu.1 vd;subst this;rw [vd] at h;simp only [if_true] at h;simp only [Instr.findNow,hae,Instr.sameNow,if_true];cases hb:(kn==an) with
   |true=>rw [hb] at h;simp only [v6] at h;subst h;refine ⟨_,rfl,If _,(.int kk an,v),e,by simp,by simp,rfl,hka,?_⟩;simp [PV.cells,cU,pE,vd,hb]
   |false=>
    rw [hb] at h;simp only at h;obtain ⟨r',g1,g2⟩:=H9 (q:=q) (k:= .int kk kn) (.int kk kn) hk h3 h;refine ⟨r',g1,?_⟩;cases r with
    |none=>exact g2
    |some j=>
     obtain ⟨q1,p,e',q2,q3,q4,q5,q6⟩:=g2;refine ⟨by omega,p,e',?_,?_,q4,q5,q6⟩
     · rw [show j-i=(j- (i+1))+1 by omega];simpa using q2
     rw [show j-i=(j- (i+1))+1 by omega];simpa using q3
 | [],_::_,i,r,hm,h=>by simp [eO] at hm
 |_::_,[],i,r,hm,h=>by simp [eO] at hm
theorem Ia {n:Nat} {kt:TypeId} (k8:fZ P kt=ah5) (Nt:flat P 100 kt=ah0 n) {k:PV} {u:Value} (hu:VR im loc k u) (hk:iP (ah0 n) k=ah5): ∀{es:List (PV×PV)} {jN:List MapEntry} {i:Nat} {r:Option Nat},eO es jN->eE (ah0 n) k es i=ah0 r->
 ∃r',(Instr.findAsking kt u jN i).run P w= .ok r' w/\match r with|none=>r'=ah4|some j=>i<=j/\ ∃p e,es[j-i]? =ah0 p/\jN[j-i]? =ah0 e/\r'=ah0 (j,e.val)/\iP (ah0 n) p.1=ah5/\cU k.cells p.1.cells=ah0 ah5
 | [],[],i,r,_,h=>by simp only [eE,v6] at h;subst h;exact ⟨ah4,rfl,rfl⟩
 |(a,v)::es,e::jN,i,r,hm,h=>by
  simp only [eE] at h;split at h
  case isFalse=>cases h
  rename_i hka;obtain ⟨h1,h2,h3⟩:=hm;have hva:VR im loc a e.key:=VR.vU h1;have Yi: ∀b,cU k.cells a.cells=ah0 b->(Op.equal kt u e.key).run P w= .ok b w:=by
   intro b hb;rcases je hk hu with ⟨h',_⟩|⟨m,cs,us,h',rfl,hl,rfl,hr⟩
   · cases h'
   injection h' with h';subst h'
   rcases je hka hva with ⟨h',_⟩|⟨m,ds,vs,h',rfl,jU,he,hs⟩
   · cases h'
   injection h' with h';subst h'
   rw [he];have:=GG (P:=P) (w:=w) 100 kt n Nt Op.maxDepth (by decide) cs ds us vs b hr hs hl jU hb;simp only [whole,k8,if_true] at this;exact this
  cases hb:cU k.cells a.cells with
  |none=>rw [hb] at h;cases h
  |some b=>
   rw [hb] at h;have bG:=Yi b hb;cases b with
   |true=>simp only [v6] at h;subst h;refine ⟨ah0 (i,e.val),by simp [Instr.findAsking,bG],If _,(a,v),e,by simp,by simp,rfl,hka,hb⟩
   |false=>
    simp only at h;obtain ⟨r',g1,g2⟩:=Ia k8 Nt hu hk h3 h;refine ⟨r',by simp [Instr.findAsking,bG,g1],?_⟩;cases r with
    |none=>exact g2
    |some j=>
     obtain ⟨q1,p,e',q2,q3,q4,q5,q6⟩:=g2;refine ⟨by omega,p,e',?_,?_,q4,q5,q6⟩
     · rw [show j-i=(j- (i+1))+1 by omega];simpa using q2
     rw [show j-i=(j- (i+1))+1 by omega];simpa using q3
 | [],_::_,i,r,hm,h=>by simp [eO] at hm
 |_::_,[],i,r,hm,h=>by simp [eO] at hm
theorem Di: ∀(d:Nat) (t:TypeId) (n:Nat),flat P d t=ah0 n-> ∀(D:Nat),d<=D-> ∀(em:Bool) (xs:List PV) (us:List Value),eo im loc xs us->agY us=n->
 (Instr.checkKey em D t (whole P t us)).run P w= .ok () w
 |0,t,n,h,_,_,_,_,_,_,_=>by cases h
 |d+1,t,n,h,0,hD,_,_,_,_,_=>by omega
 |d+1,t,n,h,D+1,hD,em,xs,us,hx,hun=>by
  simp only [flat] at h;split at h
  · rename_i k hu
    have hr:fZ P t=ah8:=by unfold fZ;rw [hu]
    split at h
    · injection h with h;subst h
      match us,xs,hx,hun with
      | [u],[x],.cons _ _ _ _ h1 _,_=>simp only [whole,hr,ad2,if_false,agO,aew,ad6,Instr.checkKey,Do,run_underlying hu,ww];cases u<;>simp
    cases h
  · rename_i fs hu
    have hr:fZ P t=ah5:=by unfold fZ;rw [hu]
    split at h
    · cases h
    change (match fs.toList.foldl (hM P d) (ah0 0) with|some n=>if nD P t n then ah0 n else ah4|none=>ah4)=ah0 n at h
    cases Xn:fs.toList.foldl (hM P d) (ah0 0) with
    |none=>rw [Xn] at h;cases h
    |some n'=>
     rw [Xn] at h;dsimp only at h;split at h
     · injection h with h;subst h
       simp only [whole,hr,if_true,Instr.checkKey,Do,run_underlying hu,ww];rw [<- Array.forIn_toList];have hk: ∃k,fs.toList.foldl (hM P d) (ah0 k)=ah0 n':=⟨0,Xn⟩;clear Xn;obtain ⟨k,hk⟩:=hk;generalize fs.toList=L at hk
       induction L generalizing k with
       |nil=>simp
       |cons f l ih=>
        rw [ae9] at hk;cases hs:hM P d (ah0 k) f with
        |none=>rw [hs,ov] at hk;cases hk
        |some k'=>
         rw [hs] at hk;have Xo:=Dh hk;unfold hM at hs;dsimp only at hs;split at hs
         · rename_i hc
           simp only [ut,beq_iff_eq,bne_iff_ne,ne_eq] at hc;split at hs
           · rename_i m hm
             split at hs
             · rename_i nJ
               injection hs with hs;subst hs;have p1:=yF (w:=w) (us:=us) hm nJ (k:=k) (by omega) (FA hm);have p2:=Di d f.type m hm D (by omega) em ((xs.drop k).take m) ((us.drop k).take m) ((hx.drop k).take m) (by simp;omega);simp only [List.forIn_cons,Do,hc.2,ne_eq,not_false_eq_true,if_true,hc.1,p1,p2,ww,EQ];exact ih _ hk
             cases hs
           cases hs
         cases hs
     cases h
  cases h
theorem Nz {kt:TypeId} {q:IntKind} (hq:P.underlying kt=ah0 (.int q)) (em:Bool) (n:Nat) (k:IntKind) (m:Int):(Instr.checkKey em (n+1) kt (.int k m)).run P w= .ok () w:=by simp [Instr.checkKey,run_underlying hq]
theorem tV {r:Nat} {es:Array MapEntry} {clock:Nat} (hb:w.heap[r]? =ah0 (.map es clock)):(getObj r).run P w= .ok (.map es clock) w:=by simp [getObj,Sem.run,hb]
theorem Dj {r:Nat} {es:Array MapEntry} {clock:Nat} (o:Obj) (hb:w.heap[r]? =ah0 (.map es clock)):(setObj r o).run P w= .ok () {w with heap:=w.heap.setIfInBounds r o}:=by simp [setObj,Sem.run,hb]
theorem Ib {kt:TypeId} {d:TypeDesc} {k:Value} {l:List MapEntry} {a:Option (Nat×Value)} (hd:P.underlying kt=ah0 d) (h:Instr.findNow d k l 0=ah0 a):(Instr.findKey kt k l).run P w= .ok a w:=by simp [Instr.findKey,run_underlying hd,h]
theorem BU {kt:TypeId} {n:Option Nat} (h:vJ P kt n=ah5) {k:PV} {u:Value} (hu:VR im loc k u) (hk:iP n k=ah5) (em:Bool):(Instr.checkKey em 10000 kt u).run P w= .ok () w:=by
 rcases je hk hu with ⟨rfl,kk,m,rfl,rfl⟩|⟨m,cs,us,rfl,rfl,hl,rfl,hr⟩
 · simp only [vJ] at h
   split at h
   · rename_i q hq
     exact Nz hq em 9999 kk m
   cases h
 simp only [vJ,ut,beq_iff_eq] at h
 have:=Di (P:=P) (w:=w) 100 kt m h.2 10000 (by decide) em cs us hr (by rw [<- hr.lG];exact hl);simp only [whole,h.1,if_true] at this;exact this
theorem Dk {kt:TypeId} {n:Option Nat} (h:vJ P kt n=ah5) {k:PV} {u:Value} (hu:VR im loc k u) (hk:iP n k=ah5) {es:List (PV×PV)} {jN:List MapEntry} {r:Option Nat} (hm:eO es jN) (hf:eE n k es 0=ah0 r):
 ∃r',(Instr.findKey kt u jN).run P w= .ok r' w/\match r with|none=>r'=ah4|some j=> ∃p e,es[j]? =ah0 p/\jN[j]? =ah0 e/\r'=ah0 (j,e.val)/\iP n p.1=ah5/\cU k.cells p.1.cells=ah0 ah5:=by
 cases n with
 |none=>
  simp only [vJ] at h;split at h
  · rename_i q hq
    obtain ⟨r',h1,h2⟩:=H9 (q:=q) hu hk hm hf;refine ⟨r',Ib hq h1,?_⟩;cases r with
    |none=>exact h2
    |some j=>exact h2.2
  cases h
 |some m=>
  simp only [vJ,ut,beq_iff_eq] at h;obtain ⟨r',h1,h2⟩:=Ia (P:=P) (w:=w) h.1 h.2 hu hk hm hf;refine ⟨r',?_,?_⟩
  · rw [run_findKey_eq w ?_ u jN]
    · exact h1
    have:=h.1
    unfold fZ at this
    revert this
    cases P.underlying kt with
    |none=>exact id
    |some d=>cases d<;>exact id
  cases r with
  |none=>exact h2
  |some j=>exact h2.2
theorem VR.Pk {t:Nat} {v:Value} (h:VR im loc (.mp t) v): ∃li,loc t=ah0 li/\v= .map (ah0 li.cX):=by cases h with|mp _ li h=>exact ⟨li,h,rfl⟩
theorem Kw {t kt et:TypeId} {n:Option Nat} {zero m k:PV} {ok:Bool} {um uk:Value} {r:mC} (ht:P.underlying t=ah0 (.map kt et)) (Yj:vJ P kt n=ah5)
 (hz: ∃i z,P.info? et=ah0 i/\i.zero=ah0 z/\VR im loc zero z) (hm:VR im loc m um) (hk:VR im loc k uk)
 (h:rB az n zero ok m k=ah0 r) (hkn:iG im loc az w r):
 ∃v,(Instr.lookup t um uk ok).run P w= .ok v w/\VR im loc r.v v/\r.news=[]/\r.wr=[]:=by
 unfold rB at h;cases m with
 |mp tk=>
  dsimp only at h;obtain ⟨li,hl,rfl⟩:=hm.Pk;cases hs:az[tk]? with
  |none=>rw [hs] at h;cases h
  |some b=>
   rw [hs] at h;cases b with
   |map es=>
    dsimp only at h;split at h
    case isFalse=>cases h
    rename_i NA;cases hf:eE n k es 0 with
    |none=>rw [hf] at h;cases h
    |some q=>
     rw [hf] at h;have Fb:tk∈r.rd:=by
      revert h
      cases q with
      |none=>intro h;simp only [v6] at h;subst h;simp
      |some j=>
       dsimp only;cases es[j]? with
       |none=>intro h;cases h
       |some p=>intro h;simp only [v6] at h;subst h;simp
     obtain ⟨b',zo,rj⟩:=hkn.tok tk (.inl Fb) li hl;rw [hs] at zo;injection zo with zo;subst zo;obtain ⟨jN,clock,hw,hrel⟩:=rj;obtain ⟨r',pG,Ff⟩:=Dk (P:=P) (w:=w) Yj hk NA hrel hf;have OX:=BU (P:=P) (w:=w) Yj hk NA (jN.isEmpty);obtain ⟨i,z,hi,hiz,hvz⟩:=hz;have Ki:(zeroValue et).run P w= .ok z w:=by simp [zeroValue,typeInfo,hi,hiz]
     cases q with
     |none=>
      dsimp only at h Ff;subst Ff;injection h with h;subst h;refine ⟨if ok then .tuple #[z,.bool ah8] else z,?_,?_,rfl,rfl⟩
      · simp only [Instr.lookup,Do,run_underlying ht,ww,tV hw,EQ,OX,pG,Ki]
      cases ok with
      |true=>exact .bT _ _ (.cons _ _ _ _ hvz (.cons _ _ _ _ (.bool ah8) .nil))
      |false=>exact hvz
     |some j=>
      dsimp only at h Ff;obtain ⟨p,e,h1,h2,rfl,h4,h5⟩:=Ff;rw [h1] at h;simp only [v6] at h;subst h;obtain ⟨e',AM,NB,Pm⟩:=eO.get hrel h1;rw [h2] at AM;injection AM with AM;subst AM;refine ⟨if ok then .tuple #[e.val,.bool ah5] else e.val,?_,?_,rfl,rfl⟩
      · simp only [Instr.lookup,Do,run_underlying ht,ww,tV hw,EQ,OX,pG]
      cases ok with
      |true=>exact .bT _ _ (.cons _ _ _ _ (.vU Pm) (.cons _ _ _ _ (.bool ah5) .nil))
      |false=>exact .vU Pm
   |_=>cases h
 |_=>cases h
theorem eO.snoc: ∀{es:List (PV×PV)} {jN:List MapEntry} {p:PV×PV} {e:MapEntry},eO es jN->valOf p.1=ah0 e.key->valOf p.2=ah0 e.val->eO (es++[p]) (jN++[e])
 | [],[],p,e,_,h1,h2=>⟨h1,h2,trivial⟩
 |(k,v)::r,e::r',p,e',h,h1,h2=>⟨h.1,h.2.1,eO.snoc h.2.2 h1 h2⟩
 | [],_::_,_,_,h,_,_=>by simp [eO] at h
 |_::_,[],_,_,h,_,_=>by simp [eO] at h
theorem eO.set: ∀{es:List (PV×PV)} {jN:List MapEntry} {i:Nat} {p:PV×PV} {f:MapEntry->MapEntry},eO es jN->(∀e,valOf p.1=ah0 (f e).key/\valOf p.2=ah0 (f e).val)->eO (es.set i p) (jN.modify i f)
 | [],[],i,p,f,h,_=>by simp [eO]
 |(k,v)::r,e::r',0,p,f,h,h1=>⟨(h1 e).1,(h1 e).2,h.2.2⟩
 |(k,v)::r,e::r',i+1,p,f,h,h1=>by simp only [List.set_cons_succ,List.modify_succ_cons];exact ⟨h.1,h.2.1,eO.set h.2.2 h1⟩
 | [],_::_,_,_,_,h,_=>by simp [eO] at h
 |_::_,[],_,_,_,h,_=>by simp [eO] at h
theorem Ic {t kt et:TypeId} {n:Option Nat} {m k x:PV} {um uk ux:Value} {r:mC} (ht:P.underlying t=ah0 (.map kt et)) (Yj:vJ P kt n=ah5)
 (hm:VR im loc m um) (hk:VR im loc k uk) (hx:VR im loc x ux)
 (h:BP az fz n m k x=ah0 r) (hkn:iG im loc az w r):
 ∃w',(Instr.mapUpdate t um uk ux).run P w= .ok () w'/\rD im loc az w r im loc w'/\r.v= .undef:=by
 unfold BP at h;cases m with
 |mp tk=>
  dsimp only at h;obtain ⟨li,hl,rfl⟩:=hm.Pk;cases hs:az[tk]? with
  |none=>rw [hs] at h;cases h
  |some b=>
   rw [hs] at h;cases b with
   |map es=>
    dsimp only at h;split at h
    case isFalse=>cases h
    rename_i NA;simp only [ut,ad7] at NA;obtain ⟨NA,hnf⟩:=NA;cases Xp:k.bW with
    |none=>rw [Xp] at h;cases h
    |some kc=>
     cases hxp:x.bW with
     |none=>rw [Xp,hxp] at h;cases h
     |some xc=>
      rw [Xp,hxp] at h;dsimp only at h;obtain ⟨_,ah6⟩:=ly Xp;obtain ⟨_,ah7⟩:=ly hxp;have vk:=H8 hk ah6;have vx:=H8 hx ah7;cases hf:eE n k es 0 with
      |none=>rw [hf] at h;cases h
      |some q=>
       rw [hf] at h;have Yk: ∃bb,r={v:= .undef,wr:=[(tk,bb)]}:=by
        revert h
        cases q with
        |none=>intro h;simp only [v6] at h;exact ⟨_,h.symm⟩
        |some j=>intro h;simp only [v6] at h;exact ⟨_,h.symm⟩
       obtain ⟨bb,hr⟩:=Yk;obtain ⟨b',zo,rj⟩:=hkn.tok tk (.inr ⟨bb,by rw [hr];simp⟩) li hl;rw [hs] at zo;injection zo with zo;subst zo;obtain ⟨jN,clock,hw,hrel⟩:=rj;obtain ⟨r',pG,Ff⟩:=Dk (P:=P) (w:=w) Yj hk NA hrel hf;have OX:=BU (P:=P) (w:=w) Yj hk NA ah8;have cY:=(M2.1 hw).1;cases q with
       |none=>
        dsimp only at h Ff;subst Ff;injection h with h;refine ⟨{w with heap:=w.heap.setIfInBounds li.cX (.map (jN.push {key:=uk,val:=ux,born:=clock}) (clock+1))},?_,rD.write hkn (t:=tk) (k0:= .map es) (o:= .map (jN.push {key:=uk,val:=ux,born:=clock}) (clock+1)) (li:=li) (by rw [<- h]) (by rw [<- h]) hl hs rfl rfl rfl rfl rfl ?_,by rw [<- h]⟩
        · simp only [Instr.mapUpdate,Do,run_underlying ht,ww,tV hw,OX,pG]
          exact Dj _ hw
        refine ⟨jN.push {key:=uk,val:=ux,born:=clock},clock+1,by simp [cY],?_⟩
        rw [Array.toList_push];exact hrel.snoc vk vx
       |some j=>
        dsimp only at h Ff;obtain ⟨p,e,h1,h2,rfl,h4,h5⟩:=Ff;injection h with h;obtain ⟨e',AM,NB,Pm⟩:=eO.get hrel h1;rw [h2] at AM;injection AM with AM;subst AM;obtain ⟨Pn,aex⟩:=Pj (im:=im) (loc:=loc) NA h4 h5 hk (.vU NB);have aey:((jN[j]?).map (·.key)).getD uk=uk:=by
         have:jN[j]? =ah0 e:=by simpa using h2
         rw [this];exact Pn.symm
        refine ⟨{w with heap:=w.heap.setIfInBounds li.cX (.map (jN.modify j fun e=>{e with key:=uk,val:=ux}) clock)},?_,rD.write hkn (t:=tk) (k0:= .map es) (o:= .map (jN.modify j fun e=>{e with key:=uk,val:=ux}) clock) (li:=li) (by rw [<- h]) (by rw [<- h]) hl hs rfl rfl rfl rfl rfl ?_,by rw [<- h]⟩
        · simp only [Instr.mapUpdate,Do,run_underlying ht,ww,tV hw,OX,pG,aey,Instr.keyThatStays,aex,if_true,EQ]
          exact Dj _ hw
        refine ⟨jN.modify j fun e=>{e with key:=uk,val:=ux},clock,by simp [cY],?_⟩
        rw [Array.toList_modify];exact hrel.set fun e=>⟨vk,vx⟩
   |_=>cases h
 |_=>cases h
theorem Kx {esz:Nat} {y:PV} {u:Value} {new:List Row} (hy:VR im loc y u) (hr:rowsOf az esz y=ah0 new) (n:Nat) (hn:n<=agY new)
 (bu: ∀b o,im b=ah0 o->w.heap[b]? =ah0 o) (tok: ∀t,t∈hG y-> ∀li,loc t=ah0 li-> ∃k,az[t]? =ah0 k/\BR im loc w li k):
 (Builtin.lenOf u).run P w= .ok (agY new) w/\(Builtin.firstCells esz n u).run P w= .ok ((new.take n).flatMap aY).toArray w/\(∀r∈new,agY r=esz)/\(∀r∈new,∀c∈r,c.plain=ah5):=by
 have Po: ∀(a:Option Addr) (l c:Nat),(Builtin.firstCells esz 0 (.slice a l c)).run P w= .ok #[] w:=by
  intro a l c;cases a with
  |none=>simp [Builtin.firstCells]
  |some a=>have:=run_loadCells_list (P:=P) w a [] (by simp);simpa [Builtin.firstCells] using this
 have get: ∀(rows:List Row) (b o l c:Nat) (g:Nat->Option Value),bz g o esz rows->(∀k v,g k=ah0 v->w.cell? ⟨b,k,ah4⟩=ah0 v)->n<=agY rows->
  (Builtin.firstCells esz n (.slice (ah0 ⟨b,o,ah4⟩) l c)).run P w= .ok ((rows.take n).flatMap aY).toArray w:=by
  intro rows b o l c g cC hg Fc;have h1:=cC.take n;have Nt:=dt h1.mH;have:=run_loadCells_list (P:=P) w ⟨b,o,ah4⟩ ((rows.take n).flatMap aY) (fun j v hj=>by rw [pH];exact hg _ _ (h1.flat j v hj));simp only [Builtin.firstCells];rw [show n*esz=((rows.take n).flatMap aY).length by rw [Nt,aez,afB Fc]];exact this
 unfold rowsOf at hr;cases y with
 |sl e pD rows=>
  obtain ⟨a,cap,rfl,_,_,jT⟩:=hy.nM;cases rows with
  |nil=>
   simp at hr;subst hr;have:n=0:=by simpa using hn
   subst this;exact ⟨rfl,by simpa using Po a 0 cap,by simp,by simp⟩
  |cons r rs=>
   dsimp only at hr;split at hr
   · rename_i he
     have he:e=esz:=by simpa using he
     subst he;injection hr with hr;subst hr;obtain ⟨b,o,rfl,cC⟩:=jT (by simp);exact ⟨rfl,get (r::rs) b o _ cap _ cC (fun k v hk=>rF bu hk) hn,cC.mH,cC.plain⟩
   cases hr
 |own t e off len cap ex=>
  dsimp only at hr;split at hr
  · rename_i he
    have he:e=esz:=by simpa using he
    subst he;obtain ⟨li,a,cw,rfl,hl,h2,h3,h4,h5,h6,h7⟩:=hy.gO;obtain ⟨k,gR,hb⟩:=tok t (by simp [hG]) li hl;rw [gR] at hr;cases k with
    |arr e' rows=>
     simp only [v6] at hr;subst hr;obtain ⟨b1,b2,b3⟩:=hb;have bU:((rows.drop off).take len).length=len:=by simp;omega
     have Ko:e'=e:=by rw [<- b1,h2]
     subst Ko;rw [bU] at hn ⊢;cases rows with
     |nil=>
      have:len=0:=by simp at b2;omega
      subst this;have:n=0:=by omega
      subst this;exact ⟨rfl,by simpa using Po a 0 cw,by simp,by simp⟩
     |cons r rs=>
      obtain ⟨arr,el,rH,GA,HL,cC⟩:=b3 (by simp);have tQ:=(cC.drop off).take len;refine ⟨rfl,?_,tQ.mH,tQ.plain⟩;rcases aeV n with h0|h0
      · subst h0;simpa using Po a len cw
      rcases h7 with h7|⟨h7,rfl,h9⟩
      · omega
      exact get _ li.cX (li.sh+off*e') len cw _ tQ (fun k v hk=>jF rH hk) (by rw [bU];exact hn)
    |_=>cases hr
  cases hr
 |_=>cases hr
theorem Ie {esz:Nat} {t off len cap:Nat} {ex:Bool} {u:Value} {rows new:List Row} {r:mC} {d:List Nat} {v:PV} (hx:VR im loc (.own t esz off len cap ex) u) (hs:az[t]? =ah0 (.arr esz rows)) (hn:new≠[]) (hl:(agY new)<=len)
 (H5: ∀r∈new,agY r=esz) (SS: ∀r∈new,∀c∈r,c.plain=ah5) (hr:r={v:=v,wr:=[(t,.arr esz (jS off new rows))],rd:=d}) (hk:iG im loc az w r):
 ∃b o c w',u= .slice (ah0 ⟨b,o,ah4⟩) len c/\(storeCells ⟨b,o,ah4⟩ (new.flatMap aY)).run P w= .ok () w'/\rD im loc az w r im loc w':=by
 obtain ⟨li,a,cw,rfl,jU,he,Cn,xQ,hex,hxk,Cp⟩:=hx.gO;obtain ⟨k,gR,hb⟩:=hk.tok t (.inr ⟨_,by rw [hr];simp;rfl⟩) li jU;rw [hs] at gR;injection gR with gR;subst gR;obtain ⟨b1,b2,b3⟩:=hb;have Fc:0<(agY new):=List.length_pos_iff.2 hn;have mI:rows≠[]:=by intro e;subst e;simp at b2;omega
 obtain ⟨arr,el,rH,GA,HL,cC⟩:=b3 mI;rcases Cp with h0|⟨_,rfl,tP⟩
 · omega
 have Fe:=dt H5
 have Fa:=ac6 esz (show off+agY new<=(agY rows) by omega);rw [UV] at Fa;have De:li.sh+off*esz+(new.flatMap aY).length<=arr.size:=by rw [Fe];omega
 have bG:=run_storeCells_at P li.cX (li.sh+off*esz) el (new.flatMap aY) 0 arr w rH (by simpa using De) (qF SS);refine ⟨li.cX,li.sh+off*esz,cw,_,rfl,bG,?_⟩;refine rD.write hk (t:=t) (k0:= .arr esz rows) (li:=li) (by rw [hr]) (by rw [hr]) jU hs (by cases rows with|nil=>exact absurd rfl mI|cons _ _=>rfl) (eQ rH) rfl rfl rfl ?_;rw [vO _ _ _ (by omega)];refine ⟨b1,by rw [fL _ _ _ (by omega)];exact b2,fun _=>⟨(arr.toList.take (li.sh+off*esz+0)++new.flatMap aY++arr.toList.drop (li.sh+off*esz+0+(new.flatMap aY).length)).toArray,el,?_,?_,?_,?_⟩⟩
 · rw [eQ rH]
   have cY:=(M2.1 rH).1;simp [cY]
 · rw [<- GA]
   have:=fL (li.sh+off*esz) (new.flatMap aY) arr.toList (by simpa using De);simp only [tO] at this;simpa using this
 · rw [fL _ _ _ (by omega)];exact HL
 refine cC.tO (by omega) H5 SS (fun k=>?_)
 have:=mG (li.sh+off*esz) (new.flatMap aY) arr.toList (by simpa using De) k;simp only [tO] at this;simp only [adu,agQ];rw [this,Fe];simp
end
end Go.Vm
/- Operation by operation: the theorem. -/
namespace Go.Vm
section
variable {P : Program} {im : Im} {loc : Loc} {az : bS} {fz : List Nat} {w : World} {e : Env} {ρ : Operand -> Value}
theorem Pp {esz:Nat} {x:PV} (h:sX esz x=ah5):(∀e c r,x= .sl e c r->r=[]\/e=esz)/\(∀tk e o l c ex,x= .own tk e o l c ex->e=esz):=by
 constructor
 · rintro e c r rfl
   simp only [sX,aeJ,ads,afb] at h;exact h.symm
 rintro tk e o l c ex rfl
 simpa [sX] using h
theorem dZ {x:Sem Value} {v:Value} (h:x.run P w= .ok v w):(do pure (Next.value (<- x)):Sem Next).run P w= .ok (.value v) w:=by simp only [Do,h,ww,EQ]
theorem Ig {x y:eL} {l:List Operand} (h:ef [x,y] l=ah5): ∃a b,l=[a,b]/\bn x a=ah5/\bn y b=ah5:=by
 match l,h with
 | [],h=>simp [ef] at h
 | [_],h=>simp [ef] at h
 | [a,b],h=>simp only [ef,ut,agK] at h;exact ⟨a,b,rfl,h.1,h.2⟩
 |_::_::_::_,h=>simp [ef] at h
theorem Ih {x:eL} {l:List Operand} (h:ef [x] l=ah5): ∃a,l=[a]/\bn x a=ah5:=by
 match l,h with
 | [],h=>simp [ef] at h
 | [a],h=>simp only [ef,agK] at h;exact ⟨a,rfl,h⟩
 |_::_::_,h=>simp [ef] at h
theorem Pq {prims:FuncId->Bool} {x:jL} {o:Oper} {r:mC} (hc:u9 P prims o.type x o.op=ah5) (nB: ∀y∈x.eB,∀o',bn y o'=ah5->VR im loc (y.ev e) (ρ o'))
 (h:bq e az fz x=ah0 r) (hk:iG im loc az w r):Ph P ρ o im loc az w r:=by
 unfold u9 at hc;split at hc
 case h_1 x o' eA=>injection h with h;subst h;exact .pure hk rfl rfl (by simp [execOp,eA]) (nB x (by simp [jL.eB]) o' hc)
 case h_2 x o' eA=>injection h with h;subst h;exact .pure hk rfl rfl (by simp [execOp,eA]) (nB x (by simp [jL.eB]) o' hc)
 case h_3 c a b d e' f eA=>
  simp only [ut] at hc;have h1:=nB c (by simp [jL.eB]) d hc.1.1;simp only [bq] at h;split at h
  · rename_i hb;rw [hb] at h1;have h1:=h1.iR
    injection h with h;subst h;exact .pure hk rfl rfl (by simp [execOp,eA,h1,asBool]) (nB a (by simp [jL.eB]) _ hc.1.2)
  · rename_i hb;rw [hb] at h1;have h1:=h1.iR
    injection h with h;subst h;exact .pure hk rfl rfl (by simp [execOp,eA,h1,asBool]) (nB b (by simp [jL.eB]) _ hc.2)
  cases h
 case h_4 op x y op' t a b u eA=>simp only [ut,beq_iff_eq] at hc;obtain ⟨⟨rfl,h1⟩,h2⟩:=hc;simp only [bq,AC] at h;obtain ⟨z,hz,rfl⟩:=h;obtain ⟨v,bG,hv⟩:=SK (P:=P) (w:=w) (t:=t) (a:=a) (b:=b) (nB x (by simp [jL.eB]) a h1) (nB y (by simp [jL.eB]) b h2) hz;exact .pure hk rfl rfl (by simp only [execOp,eA];exact dZ bG) hv
 case h_5 neg x y op t a b u eA=>
  simp only [ut] at hc;obtain ⟨⟨⟨h0,ht⟩,h1⟩,h2⟩:=hc;have hx:=nB x (by simp [jL.eB]) a h1;have hy:=nB y (by simp [jL.eB]) b h2;simp only [bq] at h;split at h
  · rename_i p q hp hq
    rw [hp] at hx;rw [hq] at hy;injection h with h;subst h;have ho:op=if neg then .neq else .eql:=by cases neg<;>simpa using h0
    refine .pure (v:= .bool (if neg then !(p==q) else p==q)) hk rfl rfl ?_ (.bool _);simp only [execOp,eA,hx.iR,hy.iR];exact dZ (O' ho (GD ht))
  cases h
 case h_6 n neg x y op t a b u eA=>
  simp only [ut,ad7,beq_iff_eq] at hc;obtain ⟨⟨⟨⟨⟨h0,hr⟩,hn⟩,hg⟩,h1⟩,h2⟩:=hc;have hx:=nB x (by simp [jL.eB]) a h1;have hy:=nB y (by simp [jL.eB]) b h2;simp only [bq] at h;split at h
  · rename_i p q hp hq
    rw [hp] at hx;rw [hq] at hy;obtain ⟨us,hu1,hu2⟩:=hx.ou;obtain ⟨vs,NB,Pm⟩:=hy.ou;split at h
    case isFalse=>cases h
    rename_i bU;simp only [ut,ads] at bU;rw [AC] at h;obtain ⟨c,L4,rfl⟩:=h;have ho:op=if neg then .neq else .eql:=by cases neg<;>simpa using h0
    have hq2:=GG (P:=P) (w:=w) 100 t n hn 10000 (by omega) p q us vs c hu2 Pm bU.1 bU.2 L4;simp only [whole,hr,if_true] at hq2;refine .pure (v:= .bool (if neg then !c else c)) hk rfl rfl ?_ (.bool _);simp only [execOp,eA,hu1,NB];refine dZ ?_;simp only [Do,run_eqGuard_agg w op t a b ⟨us⟩ ⟨vs⟩ hg,ww];cases neg with
    |true=>simp only [if_true] at ho ⊢;subst ho;rw [run_neq_struct,hq2];rfl
    |false=>simp only [ad2,if_false] at ho ⊢;subst ho;rw [run_eql_struct,hq2];rfl
  cases h
 case h_7 op x op' t a eA=>simp only [ut,beq_iff_eq] at hc;obtain ⟨rfl,h1⟩:=hc;simp only [bq,AC] at h;obtain ⟨z,hz,rfl⟩:=h;obtain ⟨v,bG,hv⟩:=Ye (P:=P) (w:=w) (nB x (by simp [jL.eB]) a h1) hz;exact .pure hk rfl rfl (by simp only [execOp,eA];exact dZ bG) hv
 case h_8 k x s d a eA=>
  simp only [ut] at hc;obtain ⟨⟨hs,hd⟩,h1⟩:=hc;have hx:=nB x (by simp [jL.eB]) a h1;obtain ⟨ds,SU⟩:=adB.1 hs;simp only [bq] at h;split at h
  · rename_i k' n hp
    rw [hp] at hx;injection h with h;subst h;split at hd
    · rename_i l hl
      have:=eu.1 hd;subst this;refine .pure hk rfl rfl ?_ (.int _ _);simp only [execOp,eA,hx.eF];exact dZ (Pa SU hl)
    cases hd
  cases h
 case h_9 x args argTypes eA=>
  simp only [ut] at hc;obtain ⟨ht,h1⟩:=hc;obtain ⟨a,ha,h1a⟩:=Ih h1;have jV:args= #[a]:=ad9 (by simpa using ha);subst jV;have hx:=nB x (by simp [jL.eB]) a h1a;split at ht
  · rename_i t ht0
    unfold qD at ht;split at ht
    · rename_i el hu
      have bG: ∀{v:Value},(Builtin.len_ argTypes o.type #[ρ a]).run P w= .ok v w->(execOp ρ o).run P w= .ok (.value v) w:=by intro v hv;simp only [execOp,eA,resolve,Do,EQ,ww,invoke,builtin];rw [show aea ρ #[a]= #[ρ a] by simp,hv];rfl
      simp only [bq] at h;split at h
      · rename_i e' c rows hp
        rw [hp] at hx;obtain ⟨ad,cap,hv,_⟩:=hx.nM;injection h with h;subst h;exact .pure hk rfl rfl (bG (by simp [Builtin.len_,ht0,run_underlying hu,hv,goInt])) (.int _ _)
      · rename_i tk e' off len cap ex hp
        rw [hp] at hx;obtain ⟨li,ad,cw,hv,_⟩:=hx.gO;injection h with h;subst h;exact .pure hk rfl rfl (bG (by simp [Builtin.len_,ht0,run_underlying hu,hv,goInt])) (.int _ _)
      cases h
    cases ht
  cases ht
 case h_10 n args argTypes eA=>
  simp only [ut] at hc;obtain ⟨h0,ht⟩:=hc;have dC:args.size≠0:=by intro hz;have:args= #[]:=Array.eq_empty_of_size_eq_zero hz;subst this;simp at h0
  have ha0:(aea ρ args)[0]? =ah0 (ρ args[0]):=by simp [show 0<args.size by omega]
  simp only [bq,v6] at h;subst h;have bG: ∀{v:Value},(Builtin.len_ argTypes o.type (aea ρ args)).run P w= .ok v w->(execOp ρ o).run P w= .ok (.value v) w:=by intro v hv;simp only [execOp,eA,resolve,Do,EQ,ww,invoke,builtin,hv]
  refine .pure hk rfl rfl (bG ?_) (.int _ _);split at ht
  · rename_i t ht0
    split at ht
    · rename_i m el hu
      have hm:m=n:=by simpa using ht
      subst hm;simp only [Builtin.len_,ht0,ha0,Do,run_underlying hu,ww,goInt];cases ρ args[0]<;>rfl
    · rename_i el hu
      split at ht
      · rename_i m el2 hu2
        have hm:m=n:=by simpa using ht
        subst hm;simp only [Builtin.len_,ht0,ha0,Do,run_underlying hu,ww,goInt];cases ρ args[0]<;>simp [run_underlying hu2]
      cases ht
    cases ht
  cases ht
 case h_11 x el a eA=>
  have hx:=nB x (by simp [jL.eB]) a hc;simp only [bq] at h;cases bK:(x.ev e).stored with
  |none=>rw [bK] at h;cases h
  |some cs=>rw [bK] at h;injection h with h;obtain ⟨rfl,zB⟩:=yA bK;obtain ⟨ba,hv,he⟩:=Db (el:=el) (hx.cells zB) h.symm hk;refine ⟨_,_,ba,?_,.inr ⟨_,rfl,hv⟩,he⟩;simp [execOp,eA,Instr.box,newVar,newRow]
 case h_12 cells t eA=>
  simp only [bq,v6] at h;unfold sy at hc;cases hi:P.info? t with
  |none=>rw [hi] at hc;cases hc
  |some i=>
   rw [hi] at hc;cases hz:i.zero with
   |none=>simp [hz] at hc
   |some z=>simp [hz] at hc;obtain ⟨ba,hv,he⟩:=Db (el:=t) (vK (im:=im) (loc:=loc) hc) h.symm hk;refine ⟨_,_,ba,?_,.inr ⟨_,rfl,hv⟩,he⟩;simp [execOp,eA,Instr.alloc,newVar,newRow,zeroValue,typeInfo,hi,hz]
 case h_13 zero parts t ps eA=>simp only [ut] at hc;obtain ⟨⟨⟨hz,_⟩,hp⟩,mA⟩:=hc;simp only [bq,AC] at h;obtain ⟨cs,pO,rfl⟩:=h;have hrel:=zH (im:=im) (loc:=loc) (e:=e) (ρ:=ρ) (fun y hy=>nB y (by simpa [jL.eB] using hy)) hp;obtain ⟨v,bG,hv⟩:=Nw (P:=P) (w:=w) (qs:=ps.map fun (i,x)=>(i,ρ x)) hz mA (by simpa using hrel) pO;exact .pure hk rfl rfl (by simp only [execOp,eA];exact dZ bG) hv
 case h_14 esz n zero parts t m ps eA=>
  simp only [ut,beq_iff_eq] at hc;obtain ⟨⟨⟨⟨rfl,mA⟩,jZ⟩,Kg⟩,hp⟩:=hc;split at mA
  · rename_i el hu
    simp only [ut,beq_iff_eq,ad7] at mA;obtain ⟨⟨⟨hs,hz⟩,hzl⟩,hnz⟩:=mA;simp only [bq,AC] at h;obtain ⟨rows,jT,h⟩:=h;obtain ⟨i,z,hi,GC,bU,Ii⟩:=Dg hz Kg;have Co:z.cells.size=esz:=by omega
    have cC:=A1 Ii bU n;rw [Co] at cC
    obtain ⟨Kh,h1,h2,h3,h4⟩:=zG (n:=n) (esz:=esz) (ve (im:=im) (loc:=loc) (e:=e) (ρ:=ρ) (fun y hy=>nB y (by simpa [jL.eB] using hy)) hp) cC (by simp) (by simp) jT;obtain ⟨ba,hv,he⟩:=BT (el:=el) h.symm hk h2 h3 h4 rfl (If _);refine ⟨_,_,ba,?_,.inr ⟨_,rfl,hv⟩,he⟩;have Ki:(zeroValue el).run P w= .ok z w:=by simp [zeroValue,typeInfo,hi,GC]
    have jZ:n*esz<=1048576:=by simpa using jZ
    have ah9: ¬(n*esz>2^24):=by omega
    simp only [execOp,eA,Instr.buildSlice,Do,run_underlying hu,ww,jx hs,ah9,if_false]
    by_cases h0:n*esz=0
    · have OZ:n=0:=by
       rcases afC.1 h0 with h|h
       · exact h
       rw [h] at hnz;simp at hnz
      subst OZ;simp only [agT] at h1;simp only [agT,if_true,Do,EQ,ww,aeA];have e0:(aea (fun x=>(#[]:Array Value)[x%(#[]:Array Value).size]!) (aen 0))=(aea (fun x=>z.cells[x%esz]!) (aen 0)):=by simp
      rw [e0,h1];simp [newRow]
    simp only [h0,if_false,Do,Ki,ww,EQ]
    simp only [Co,aeA,h1];simp [newRow]
  cases mA
 case h_15 agg p t a eA=>simp only [ut] at hc;have hx:=nB p (by simp [jL.eB]) a hc.2;simp only [bq] at h;obtain ⟨v,bG,hv,hn,hw⟩:=H3 (P:=P) hx hc.1 h hk;exact .pure hk hn hw (by simp only [execOp,eA];exact dZ bG) hv
 case h_16 sz p v t a b eA=>simp only [ut] at hc;simp only [bq] at h;obtain ⟨w',bG,vu,hu⟩:=Nr (P:=P) (nB p (by simp [jL.eB]) a hc.1.2) (nB v (by simp [jL.eB]) b hc.2) hc.1.1 h hk;exact ⟨.skip,w',loc,by simp only [execOp,eA,Do,bG,ww,EQ],.inl ⟨rfl,hu⟩,vu⟩
 case h_17 x a eA=>
  have hx:=nB x (by simp [jL.eB]) a hc;simp only [bq] at h;split at h
  · rename_i t s r' o' hp
    rw [hp] at hx;injection h with h;subst h;obtain ⟨li,h1,h2,h3,hv⟩:=hx.xf;exact .pure hk rfl rfl (by simp only [execOp,eA,hv];rfl) (by rw [<- hv];exact hx)
  · rename_i c o' hp
    rw [hp] at hx;injection h with h;subst h;obtain ⟨b,o2,vs,h1,h2,hv⟩:=hx.vM;exact .pure hk rfl rfl (by simp only [execOp,eA,hv];rfl) (by rw [<- hv];exact hx)
  · rename_i f a' b' hp
    rw [hp] at hx;injection h with h;subst h;generalize hg:ρ a=g at hx;cases hx with
    |ed fn a b as bs ha hb=>exact .pure hk rfl rfl (by simp only [execOp,eA,hg];rfl) (.ed _ _ _ _ _ ha hb)
  cases h
 case h_18 off p t a f eA=>
  simp only [ut] at hc;obtain ⟨hc,h1⟩:=hc;have hx:=nB p (by simp [jL.eB]) a h1;split at hc
  · rename_i fs hu
    split at hc
    · rename_i g hg
      simp only [ut,beq_iff_eq] at hc;obtain ⟨Cn,hi⟩:=hc;cases Pr:P.info? g.type with
      |none=>rw [Pr] at hi;cases hi
      |some i=>
       rw [Pr] at hi;have hz:i.size≠0:=by simpa using hi
       simp only [bq] at h;have: ∃z,(match p.ev e with| .ptr t s r o=>ah0 (PV.ptr t s r (o+off))| .bw c o=>ah0 (PV.bw c (o+off))|_=>ah4)=ah0 z/\r={v:=z}:=by
        revert h
        cases p.ev e<;>intro h<;>first|(injection h with h;exact ⟨_,rfl,h.symm⟩)|cases h
       obtain ⟨z,hz',rfl⟩:=this;obtain ⟨v,bG,hv⟩:=Pc (P:=P) (w:=w) hx hu hg Cn Pr hz hz';exact .pure hk rfl rfl (by simp only [execOp,eA];exact dZ bG) hv
    cases hc
  cases hc
 case h_19 agg off x t a f eA=>
  simp only [ut] at hc;obtain ⟨hc,h1⟩:=hc;have hx:=nB x (by simp [jL.eB]) a h1;split at hc
  · rename_i fs hu
    split at hc
    · rename_i g hg
      simp only [ut,beq_iff_eq] at hc;obtain ⟨Cn,hag⟩:=hc;simp only [bq] at h;split at h
      · rename_i cs hp
        rw [hp] at hx;obtain ⟨vs,hv,nE⟩:=hx.ou;rw [AC] at h;obtain ⟨z,hz,rfl⟩:=h;rw [<- Cn] at hz;obtain ⟨v,bG,Kq⟩:=H0 (P:=P) (w:=w) hag nE hz;refine .pure hk rfl rfl ?_ Kq;simp only [execOp,eA];exact dZ (by simp only [Instr.field,Do,run_underlying hu,ww,hg,hv,asAgg,EQ,bG])
      cases h
    cases hc
  cases hc
 case h_20 esz x i t a j eA=>
  simp only [ut] at hc;obtain ⟨⟨hs,h1⟩,h2⟩:=hc;have hx:=nB x (by simp [jL.eB]) a h1;have hi:=nB i (by simp [jL.eB]) j h2;simp only [bq] at h;cases hn:jd (i.ev e) with
  |none=>rw [hn] at h;cases h
  |some n=>
   rw [hn] at h;dsimp only at h;obtain ⟨k,A2⟩:=nL hi hn;unfold xb at hs;split at hs
   · rename_i el hu
     have: ∃z,(match x.ev e with
      | .sl s _ rows=>match rows[n]? with
       |some cs=>if IR s esz then ah0 (PV.bw cs 0) else ah4
       |none=>ah4
      | .own t s off len _ _=>if aeb n len&&IR s esz then ah0 (PV.ptr t s (off+n) 0) else ah4
      |_=>ah4)=ah0 z/\r={v:=z}:=by
      revert h
      cases x.ev e with
      |sl s c rows=>
       dsimp only;cases rows[n]? with
       |none=>intro h;cases h
       |some cs=>
        dsimp only;split
        · intro h;injection h with h;exact ⟨_,rfl,h.symm⟩
        intro h;cases h
      |own t s off len cap ex=>
       dsimp only;split
       · intro h;injection h with h;exact ⟨_,rfl,h.symm⟩
       intro h;cases h
      |_=>intro h;cases h
     obtain ⟨z,hz,rfl⟩:=this;obtain ⟨v,bG,hv⟩:=Pd (P:=P) (w:=w) (k:=k) hx hu hs hz;exact .pure hk rfl rfl (by simp only [execOp,eA,A2];exact dZ bG) hv
   cases hs
 case h_21 n esz p i t a j eA=>
  simp only [ut] at hc;obtain ⟨⟨hs,h1⟩,h2⟩:=hc;have hx:=nB p (by simp [jL.eB]) a h1;have hi:=nB i (by simp [jL.eB]) j h2;simp only [bq] at h;cases hn:jd (i.ev e) with
  |none=>rw [hn] at h;cases h
  |some m=>
   rw [hn] at h;dsimp only at h;split at h
   · rename_i cY
     have cY:m<n:=by simpa using cY
     obtain ⟨k,A2⟩:=nL hi hn;unfold L3 at hs;split at hs
     · rename_i m' el hu
       simp only [ut,beq_iff_eq] at hs;obtain ⟨rfl,hs⟩:=hs;have: ∃z,(match p.ev e with| .ptr t s r o=>ah0 (PV.ptr t s r (o+m*esz))| .bw c o=>ah0 (PV.bw c (o+m*esz))|_=>ah4)=ah0 z/\r={v:=z}:=by
        revert h
        cases p.ev e<;>intro h<;>first|(injection h with h;exact ⟨_,rfl,h.symm⟩)|cases h
       obtain ⟨z,hz,rfl⟩:=this;obtain ⟨v,bG,hv⟩:=Np (P:=P) (w:=w) (k:=k) hx hu hs cY hz;exact .pure hk rfl rfl (by simp only [execOp,eA,A2];exact dZ bG) hv
     cases hs
   cases h
 case h_22 n esz agg x i t a j eA=>
  simp only [ut] at hc;obtain ⟨⟨hs,h1⟩,h2⟩:=hc;have hx:=nB x (by simp [jL.eB]) a h1;have hi:=nB i (by simp [jL.eB]) j h2;simp only [bq] at h;cases hn:jd (i.ev e) with
  |none=>rw [hn] at h;cases h
  |some m=>
   rw [hn] at h;dsimp only at h;split at h
   · rename_i cY
     have cY:m<n:=by simpa using cY
     obtain ⟨k,A2⟩:=nL hi hn;split at hs
     · rename_i m' el hu
       simp only [ut,beq_iff_eq] at hs;obtain ⟨⟨rfl,hs⟩,hag⟩:=hs;split at h
       · rename_i cs hp
         rw [hp] at hx;obtain ⟨vs,hv,nE⟩:=hx.ou;rw [AC] at h;obtain ⟨z,hz,rfl⟩:=h;obtain ⟨v,bG,Kq⟩:=H0 (P:=P) (w:=w) hag nE hz;refine .pure hk rfl rfl ?_ Kq;have aia:(0:Int)<=(m:Int)/\(m:Int)<(m':Int):=by omega
         simp only [execOp,eA];exact dZ (by simp only [Instr.index,A2,asIntOf,Do,EQ,run_underlying hu,ww,hv,aia,and_self,if_true,jx hs,aeo,bG])
       cases h
     cases hs
   cases h
 case h_23 x i t a j eA=>
  simp only [ut] at hc;obtain ⟨⟨hs,h1⟩,h2⟩:=hc;have hx:=nB x (by simp [jL.eB]) a h1;have hi:=nB i (by simp [jL.eB]) j h2;have hu:P.underlying t=ah0 .string:=by
   split at hs
   · assumption
   cases hs
  simp only [bq] at h;split at h
  · rename_i n s hn hp
    rw [hp] at hx;obtain ⟨k,A2⟩:=nL hi hn;split at h
    · rename_i b hb
      injection h with h;subst h;refine .pure hk rfl rfl ?_ (.int _ _);have h0:(0:Int)<=(n:Int):=by omega
      simp only [execOp,eA];exact dZ (by simp only [Instr.index,A2,asIntOf,Do,EQ,run_underlying hu,ww,hx.CH,h0,if_true,aeo,hb])
    cases h
  cases h
 case h_24 esz x l hh m t a b c d eA=>
  simp only [ut] at hc;obtain ⟨⟨⟨⟨⟨h0,hs⟩,h1⟩,h2⟩,h3⟩,h4⟩:=hc;have hx:=nB x (by simp [jL.eB]) a h1;simp only [bq] at h;split at h
  · cases h
  rename_i he
  have he:sX esz (x.ev e)=ah5:=by simpa using he
  obtain ⟨Ss,vC⟩:=Pp he;split at h
  · rename_i lo hi mx NC hhi hmx
    rw [AC] at h;obtain ⟨z,hz,rfl⟩:=h;unfold xb at hs;split at hs
    · rename_i el hu
      have b1:=tR (im:=im) (loc:=loc) (e:=e) (ρ:=ρ) (fun y hy=>nB y (by simp only [jL.eB,ae6,adz];exact .inr (.inl (.inl hy)))) h2 NC;have b2:=tR (im:=im) (loc:=loc) (e:=e) (ρ:=ρ) (fun y hy=>nB y (by simp only [jL.eB,ae6,adz];exact .inr (.inl (.inr hy)))) h3 hhi;have b3:=tR (im:=im) (loc:=loc) (e:=e) (ρ:=ρ) (fun y hy=>nB y (by simp only [jL.eB,ae6,adz];exact .inr (.inr hy))) h4 hmx;have Ps:mx.isSome=ah5->hi.isSome=ah5:=by
       intro hmm;cases m with
       |none=>simp at hmx;subst hmx;cases hmm
       |some mo=>
        cases hh with
        |none=>simp at h0
        |some ho=>simp only [AC] at hhi;obtain ⟨q,_,rfl⟩:=hhi;rfl
      obtain ⟨v,bG,hv⟩:=Nx (P:=P) (w:=w) hx hu hs b1 b2 b3 Ps Ss vC hz;exact .pure hk rfl rfl (by simp only [execOp,eA];exact dZ bG) hv
    cases hs
  cases h
 case h_25 esz zero l c t a b eA=>
  simp only [ut] at hc;obtain ⟨⟨⟨mA,Kg⟩,h1⟩,h2⟩:=hc;have hx:=nB l (by simp [jL.eB]) a h1;have hy:=nB c (by simp [jL.eB]) b h2;split at mA
  · rename_i el hu
    simp only [ut,beq_iff_eq,ad7] at mA;obtain ⟨⟨⟨⟨hs,hz⟩,hzl⟩,Ku⟩,hnz⟩:=mA;simp only [bq] at h;split at h
    · rename_i n m hn hm
      obtain ⟨k1,gR⟩:=nL hx hn;obtain ⟨k2,A2⟩:=nL hy hm;split at h
      · rename_i jZ
        simp only [ut,adX] at jZ;injection h with h;obtain ⟨i,z,hi,GC,bU,Ii⟩:=Dg hz Kg;have Co:z.cells.size=esz:=by omega
        have cC:=A1 Ii bU m;rw [Co] at cC
        have j8:m<=1048576:=by simpa [kI] using jZ.2
        obtain ⟨ba,hv,he⟩:=BT (el:=el) h.symm hk cC (by simp) (by simp) rfl jZ.1;refine ⟨_,_,ba,?_,.inr ⟨_,rfl,hv⟩,he⟩;have Ki:(zeroValue el).run P w= .ok z w:=by simp [zeroValue,typeInfo,hi,GC]
        have hti:(typeInfo el).run P w= .ok i w:=by simp [typeInfo,hi]
        have Ij:i.bytes<=1048576:=by unfold CF at Ku;rw [hi] at Ku;simpa using Ku
        have hw1:IntKind.i64.wrap (n:Int)=n:=CG (by omega) (by omega);have SX:IntKind.i64.wrap (m:Int)=m:=CG (by omega) (by omega);have amr:i.bytes*m<=1099511627776:=by have:=afK Ij j8;omega
        have zn: ¬((i.bytes:Int)*(m:Int)>2^48):=by
         have:((i.bytes*m:Nat):Int)=(i.bytes:Int)*(m:Int):=by simp
         omega
        have Ky:(sizeOf el).run P w= .ok esz w:=jx hs;simp only [execOp,eA,gR,A2,Instr.makeSlice,asInt,asIntOf,Do,run_underlying hu,ww,EQ,hti,hw1,SX];have Ma:((ahd ((m:Int)<0)||ahd ((i.bytes:Int)*(m:Int)>2^48))||ahd ((n:Int)<0)||ahd ((n:Int)>(m:Int)))=ah8:=by simp only [Bool.or_eq_false_iff,decide_eq_false_iff_not];refine ⟨⟨⟨by omega,zn⟩,by omega⟩,by omega⟩
        rw [Ma];simp only [ad2,if_false,Do,run_askRoom,ww,Ky,aeo]
        by_cases h0:m*esz=0
        · have hm0:m=0:=by
           rcases afC.1 h0 with h|h
           · exact h
           rw [h] at hnz;simp at hnz
          subst hm0;simp [newRow]
          congr 2
          apply Array.ext<;>simp
        simp only [h0,if_false,Do,Ki,ww,EQ,Co]
        simp [newRow]
      cases h
    cases h
  cases mA
 case h_26 fn a b g c d eA=>
  simp only [ut,beq_iff_eq] at hc;obtain ⟨⟨rfl,h1⟩,h2⟩:=hc;simp only [bq,v6] at h;subst h;have r1:=lV (im:=im) (loc:=loc) (e:=e) (ρ:=ρ) (fun y hy=>nB y (by simp [jL.eB,hy])) h1;have r2:=lV (im:=im) (loc:=loc) (e:=e) (ρ:=ρ) (fun y hy=>nB y (by simp [jL.eB,hy])) h2;refine .pure (v:= .func (.func fn) (c.map ρ) (d.map ρ)) hk rfl rfl (by simp only [execOp,eA];exact dZ rfl) ?_;have:=VR.ed (im:=im) (loc:=loc) fn _ _ _ _ r1 r2;have e1:(⟨c.toList.map ρ⟩:Array Value)=c.map ρ:=ad9 (by simp);have e2:(⟨d.toList.map ρ⟩:Array Value)=d.map ρ:=ad9 (by simp);rw [e1,e2] at this;exact this
 case h_27 t eA=>
  simp only [bq,v6] at h
  let li:LI:=⟨w.heap.size,0,0,0,0⟩
  refine ⟨.value (.map (ah0 w.heap.size)),{w with heap:=w.heap.push (.map #[] 0)},loc.set (agY az) li,?_,.inr ⟨_,rfl,?_⟩,?_⟩
  · simp [execOp,eA,Instr.makeMap]
  · subst h;exact .mp (agY az) li (Loc.ez _ _ _)
  refine rD.new hk (k:= .map []) (o:= .map #[] 0) li (by rw [<- h]) (by rw [<- h]) rfl rfl rfl rfl rfl ⟨#[],0,by simp [li],trivial⟩
 case h_28 i x a j eA=>
  simp only [ut,beq_iff_eq] at hc;obtain ⟨rfl,h1⟩:=hc;have hx:=nB x (by simp [jL.eB]) a h1;simp only [bq] at h;split at h
  · rename_i vs hp
    rw [hp] at hx;obtain ⟨us,hv,nE⟩:=hx.zA;rw [AC] at h;obtain ⟨z,hz,rfl⟩:=h;obtain ⟨u,hu,hur⟩:=nE.get i z hz;have AN:(⟨us⟩:Array Value)[i]? =ah0 u:=by simpa using hu
    exact .pure hk rfl rfl (by simp only [execOp,eA];exact dZ (by simp [Instr.extract,hv,AN])) hur
  cases h
 case h_29 esz x y args argTypes eA=>
  simp only [ut] at hc;obtain ⟨mA,h1⟩:=hc;obtain ⟨a,b,Ny,h1a,h1b⟩:=Ig h1;have jV:args= #[a,b]:=ad9 (by simpa using Ny);subst jV;have hx:=nB x (by simp [jL.eB]) a h1a;have hy:=nB y (by simp [jL.eB]) b h1b;split at mA
  · rename_i t tx cC
    have Dl:argTypes= #[t,tx]:=ad9 (by simpa using cC);subst Dl;simp only [ut] at mA;obtain ⟨mA,Sv⟩:=mA;unfold qD at Sv;split at Sv
    · rename_i e' Xm
      split at mA
      · rename_i el hu
        simp only [ut] at mA;obtain ⟨⟨⟨hs,Ku⟩,hnz⟩,hz⟩:=mA;cases hi:P.info? el with
        |none=>rw [hi] at hz;cases hz
        |some i=>
         rw [hi] at hz;cases GC:i.zero with
         |none=>simp [GC] at hz
         |some z=>
          have SN:z.cells.size=esz:=by rw [afE,GC,afE] at hz;simpa using hz
          have nJ:i.size=esz:=by unfold nD at hs;rw [hi] at hs;simpa using hs
          have Ij:i.bytes<=1048576:=by unfold CF at Ku;rw [hi] at Ku;simpa using Ku
          simp only [bq] at h;obtain ⟨v',w',ba,bG,hv,vu⟩:=Dd (P:=P) (ty:=o.type) hu Xm hi nJ GC SN Ij hx hy h hk;refine ⟨.value v',w',ba,?_,.inr ⟨v',rfl,hv⟩,vu⟩;simp only [execOp,eA,resolve,Do,EQ,ww,invoke,builtin];rw [show aea ρ #[a,b]= #[ρ a,ρ b] by simp,bG];rfl
      cases mA
    cases Sv
  cases mA
 case h_30 n zero ok m k t a b ok' eA=>
  simp only [ut,beq_iff_eq] at hc;obtain ⟨⟨⟨rfl,mA⟩,h1⟩,h2⟩:=hc;have hm:=nB m (by simp [jL.eB]) a h1;have vd:=nB k (by simp [jL.eB]) b h2;split at mA
  · rename_i kt et ht
    simp only [ut] at mA;obtain ⟨Yj,hz⟩:=mA;have hz': ∃i z,P.info? et=ah0 i/\i.zero=ah0 z/\VR im loc zero z:=by
     cases hi:P.info? et with
     |none=>rw [hi] at hz;cases hz
     |some i=>
      cases GC:i.zero with
      |none=>rw [hi] at hz;simp [GC] at hz
      |some z=>rw [hi] at hz;simp [GC] at hz;exact ⟨i,z,rfl,GC,Gz hz⟩
    simp only [bq] at h;obtain ⟨v,bG,hv,hn,hw⟩:=Kw (P:=P) ht Yj hz' hm vd h hk;exact .pure hk hn hw (by simp only [execOp,eA];exact dZ bG) hv
  cases mA
 case h_31 n m k v t a b c eA=>
  simp only [ut] at hc;obtain ⟨⟨⟨mA,h1⟩,h2⟩,h3⟩:=hc;split at mA
  · rename_i kt et ht
    simp only [bq] at h;obtain ⟨w',bG,vu,hu⟩:=Ic (P:=P) ht mA (nB m (by simp [jL.eB]) a h1) (nB k (by simp [jL.eB]) b h2) (nB v (by simp [jL.eB]) c h3) h hk;exact ⟨.skip,w',loc,by simp only [execOp,eA,Do,bG,ww,EQ],.inl ⟨rfl,hu⟩,vu⟩
  cases mA
 case h_32 esz x y args argTypes eA=>
  simp only [ut] at hc;obtain ⟨mA,h1⟩:=hc;obtain ⟨a,b,Ny,h1a,h1b⟩:=Ig h1;have jV:args= #[a,b]:=ad9 (by simpa using Ny);subst jV;have hx:=nB x (by simp [jL.eB]) a h1a;have hy:=nB y (by simp [jL.eB]) b h1b;split at mA
  · rename_i t tx cC
    have Dl:argTypes= #[t,tx]:=ad9 (by simpa using cC);subst Dl;simp only [ut] at mA;obtain ⟨Sv,_⟩:=mA;unfold xb at Sv;split at Sv
    · rename_i el hu
      have ND: ∀{v:Value} {w':World},(Builtin.copy_ #[t,tx] o.type #[ρ a,ρ b]).run P w= .ok v w'->(execOp ρ o).run P w= .ok (.value v) w':=by intro v w' hv;simp only [execOp,eA,resolve,Do,EQ,ww,invoke,builtin];rw [show aea ρ #[a,b]= #[ρ a,ρ b] by simp,hv];rfl
      simp only [bq] at h;split at h
      · rename_i src tk s off len cap ex xY Sw
        rw [Sw] at hx;have Yl:Nat.min (agY src) len=min (agY src) len:=rfl;have Fb:r.rd=hG (y.ev e):=by
         split at h
         · injection h with h;rw [<- h]
         split at h
         · split at h
           · injection h with h;rw [<- h]
           cases h
         cases h
        obtain ⟨g1,g2,g3,g4⟩:=Kx (P:=P) (w:=w) hy xY (min (agY src) len) (Nat.min_le_left _ _) hk.bu (fun t ht=>hk.tok t (.inl (by rw [Fb];exact ht)));have zp:(src.take (min (agY src) len))=src.take len:=by
         rcases Nat.le_total (agY src) len with h'|h'
         · rw [afB h',aeG (If _),aeG h']
         rw [Nat.min_eq_right h']
        rw [zp] at g2;have Ky:(sizeOf el).run P w= .ok esz w:=jx Sv;split at h
        · rename_i vV
          injection h with h;subst h;rw [vV] at g2;have h0:min (agY src) len=0:=by have:=congrArg agU vV;simp only [aez,aeI] at this;omega
          obtain ⟨li,ad,cw,hv,_⟩:=hx.gO;refine .pure (v:= .int .i64 0) hk rfl rfl (ND ?_) (.int _ _);have Xq:(Builtin.firstCells esz 0 (ρ b)).run P w= .ok #[] w:=by rw [h0] at g2;simpa using g2
          simp only [Builtin.copy_,hv];cases ad with
          |none=>simp [run_underlying hu,g1,Yl,h0,Ky,Xq,goInt]
          |some ad=>simp [run_underlying hu,g1,Yl,h0,Ky,Xq,goInt,storeCells]
        rename_i r1 rs Pu
        split at h
        · rename_i s' rows bK
          split at h
          · rename_i L4
            simp only [ut,ads,ad7] at L4;obtain ⟨rfl,hnf⟩:=L4;injection h with h;have SL:s'=s:=by obtain ⟨li,ad,cw,hv,hl,he,_⟩:=hx.gO;obtain ⟨k,gR,hb⟩:=hk.tok tk (.inr ⟨_,by rw [<- h];simp;rfl⟩) li hl;rw [bK] at gR;injection gR with gR;subst gR;rw [<- hb.1,he]
            subst SL;have tQ: ∀q,q∈r1::rs->q∈src:=fun q hq=>by rw [<- Pu] at hq;exact List.mem_of_mem_take hq
            have Xr:min (agY src) len=agY rs+1:=by have:=congrArg agU Pu;simp only [aez,adU] at this;omega
            rw [Pu] at g2;obtain ⟨b',o',c',w',hv,bG,vu⟩:=Ie (P:=P) (new:=r1::rs) hx bK (by simp) (by simp;omega) (fun q hq=>g3 q (tQ q hq)) (fun q hq=>g4 q (tQ q hq)) h.symm hk;refine ⟨.value (.int .i64 (Int.ofNat (agY rs+1))),w',loc,ND ?_,.inr ⟨_,rfl,by rw [<- h];exact .int _ _⟩,vu⟩;rw [Xr] at g2;simp only [Builtin.copy_,hv];simp [run_underlying hu,g1,Yl,Xr,Ky,g2,goInt,-adA];rw [bG];rfl
          cases h
        cases h
      cases h
    cases Sv
  cases mA
 case h_33 esz zero x args argTypes eA=>
  simp only [ut] at hc;obtain ⟨mA,h1⟩:=hc;obtain ⟨a,ha,h1a⟩:=Ih h1;have jV:args= #[a]:=ad9 (by simpa using ha);subst jV;have hx:=nB x (by simp [jL.eB]) a h1a;split at mA
  · rename_i t cC
    have Dl:argTypes= #[t]:=ad9 (by simpa using cC);subst Dl;split at mA
    · rename_i el hu
      simp only [ut,beq_iff_eq] at mA;obtain ⟨⟨⟨hs,hz⟩,hzl⟩,Kg⟩:=mA;have ND: ∀{v:Value} {w':World},(Builtin.clear_ #[t] o.type #[ρ a]).run P w= .ok v w'->(execOp ρ o).run P w= .ok (.value v) w':=by intro v w' hv;simp only [execOp,eA,resolve,Do,EQ,ww,invoke,builtin];rw [show aea ρ #[a]= #[ρ a] by simp,hv];rfl
      simp only [bq] at h;split at h
      · rename_i tk s off len cap ex Sw
        rw [Sw] at hx;split at h
        · injection h with h;subst h
          obtain ⟨li,ad,cw,hv,_⟩:=hx.gO;refine .pure (v:= .tuple #[]) hk rfl rfl (ND ?_) (.undef _);simp only [Builtin.clear_,hv];cases ad<;>simp [run_underlying hu]
        rename_i len
        split at h
        · rename_i s' rows bK
          split at h
          · rename_i L4
            simp only [ut,ads,ad7] at L4;obtain ⟨rfl,hnf⟩:=L4;injection h with h;have SL:s'=s:=by obtain ⟨li,ad,cw,hv,hl,he,_⟩:=hx.gO;obtain ⟨k,gR,hb⟩:=hk.tok tk (.inr ⟨_,by rw [<- h];simp;rfl⟩) li hl;rw [bK] at gR;injection gR with gR;subst gR;rw [<- hb.1,he]
            subst SL;obtain ⟨i,z,hi,GC,bU,Ii⟩:=Dg hz Kg;have H5: ∀q∈adc (len+1) zero,agY q=s':=fun q hq=>by rw [(aeW.1 hq).2];exact hzl
            have SS: ∀q∈adc (len+1) zero,∀c∈q,c.plain=ah5:=fun q hq c hc=>by rw [(aeW.1 hq).2] at hc;exact afq.1 Kg c hc
            obtain ⟨b',o',c',w',hv,bG,vu⟩:=Ie (P:=P) (new:=adc (len+1) zero) hx bK (by simp) (by simp) H5 SS h.symm hk;refine ⟨.value (.tuple #[]),w',loc,ND ?_,.inr ⟨_,rfl,by rw [<- h];exact .undef _⟩,vu⟩;have Ki:(zeroValue el).run P w= .ok z w:=by simp [zeroValue,typeInfo,hi,GC]
            have hzc:(Builtin.zeroCells z.cells (len+1)).toList=(adc (len+1) zero).flatMap aY:=by
             have cC:=A1 Ii bU (len+1);have Nt:=dt H5;have nJ:=vP z.cells (len+1);apply aem;intro j;rcases ad0 j ((adc (len+1) zero).flatMap aY).length with hj|hj
             · have hfj:=cC.flat j _ (PP hj)
               rw [PP hj,<- hfj];simp only [Builtin.zeroCells,aeE,Array.getElem?_toList]
             rw [NE hj,NE]
             simp only [adG,nJ];rw [Nt] at hj;simp only [List.length_replicate] at hj;rw [<- bU,hzl];exact hj
            simp only [Builtin.clear_,hv];simp [run_underlying hu,Ki,hzc,-adA];rw [bG];rfl
          cases h
        cases h
      · rename_i e1 c1 Sw
        rw [Sw] at hx;injection h with h;subst h;obtain ⟨ad,cw,hv,_⟩:=hx.nM;refine .pure (v:= .tuple #[]) hk rfl rfl (ND ?_) (.undef _);simp only [Builtin.clear_,hv];cases ad<;>simp [run_underlying hu]
      cases h
    cases mA
  cases mA
 case h_34 isMax x xs b args Sx eA=>
  simp only [ut] at hc;obtain ⟨hb,h1⟩:=hc;simp only [bq] at h;have hrel:=lV (im:=im) (loc:=loc) (e:=e) (ρ:=ρ) (fun y hy=>nB y (by simpa [jL.eB] using hy)) h1;split at h
  · rename_i k a hp
    rw [AC] at h;obtain ⟨z,hz,rfl⟩:=h;have fT:C3 e (x::xs)= .int k a::C3 e xs:=by simp [C3,hp]
    rw [fT] at hrel;generalize hl:args.toList.map ρ=l at hrel;cases hrel with
    |cons _ u _ us h1 h2=>
     obtain rfl:=h1.eF;obtain ⟨c,rfl,bG⟩:=L8 (P:=P) (w:=w) (isMax:=isMax) h2 hz;refine .pure hk rfl rfl ?_ (.int k c);have jU:(args.map ρ).toList= .int k a::us:=by simpa using hl
     have Ij:b=if isMax then .max else .min:=by cases isMax<;>simpa using hb
     subst Ij;cases isMax with
     |true=>simp only [if_true] at eA bG;simp only [execOp,eA,resolve,Do,EQ,ww,invoke,builtin,Builtin.max_,jU,bG]
     |false=>simp only [ad2,if_false] at eA bG;simp only [execOp,eA,resolve,Do,EQ,ww,invoke,builtin,Builtin.min_,jU,bG]
  cases h
 case h_37 x y t m ps eA=>
  simp only [ut,beq_iff_eq] at hc;obtain ⟨⟨rfl,mA⟩,hp⟩:=hc;split at mA
  · rename_i el hu
    simp only [ut] at mA;obtain ⟨hs,hz⟩:=mA;split at hp
    · rename_i i a j b hps
      simp only [ut,beq_iff_eq] at hp;obtain ⟨⟨⟨rfl,rfl⟩,h1⟩,h2⟩:=hp;simp only [bq] at h;split at h
      · rename_i zB
        simp only [ut] at zB;injection h with h;have hx:=nB x (by simp [jL.eB]) a h1;have hy:=nB y (by simp [jL.eB]) b h2;obtain ⟨ba,hv,he⟩:=H4 (el:=el) hx hy h.symm hk;refine ⟨_,_,ba,?_,.inr ⟨_,rfl,hv⟩,he⟩;have GC: ∃i z,P.info? el=ah0 i/\i.zero=ah0 z/\z.cells.size=1:=by
         cases hi:P.info? el with
         |none=>rw [hi] at hz;cases hz
         |some i=>
          cases hq:i.zero with
          |none=>rw [hi] at hz;simp [hq] at hz
          |some z=>rw [hi] at hz;simp [hq] at hz;exact ⟨i,z,rfl,hq,hz⟩
        obtain ⟨i,z,hi,hq,nJ⟩:=GC;have Ki:(zeroValue el).run P w= .ok z w:=by simp [zeroValue,typeInfo,hi,hq]
        have c1:(ρ a).cells= #[ρ a]:=by obtain ⟨q1,q2⟩:=hx.Gy zB.1;cases NB:ρ a<;>first|rfl|exact absurd NB (q1 _)|exact absurd NB (q2 _)
        have c2:(ρ b).cells= #[ρ b]:=by obtain ⟨q1,q2⟩:=hy.Gy zB.2;cases NB:ρ b<;>first|rfl|exact absurd NB (q1 _)|exact absurd NB (q2 _)
        have fl: ∀q:Value,Instr.fill (fun i=>ah0 (i*1,1)) #[q,q] [(0,ρ a),(1,ρ b)]=ah0 #[ρ a,ρ b]:=fun q=>by
         have s1:(⟨tO (0*1) (ρ a).cells.toList (#[q,q]:Array Value).toList⟩:Array Value)= #[ρ a,q]:=by rw [c1];rfl
         have s2:(⟨tO (1*1) (ρ b).cells.toList (#[ρ a,q]:Array Value).toList⟩:Array Value)= #[ρ a,ρ b]:=by rw [c2];rfl
         rw [xg (place:=fun i=>ah0 (i*1,1)) rfl (by rw [c1];rfl) (by simp),s1,xg (place:=fun i=>ah0 (i*1,1)) rfl (by rw [c2];rfl) (by simp),s2];rfl
        simp only [execOp,eA,Instr.buildSlice,Do,run_underlying hu,ww,jx hs];have e0:(aea (fun x=>z.cells[x%z.cells.size]!) (aen (2*1)))= #[z.cells[0]!,z.cells[0]!]:=by rw [nJ,show aen (2*1)= #[0,1] from by decide];simp [Nat.mod_one]
        have big: ¬(2*1>2^24):=by decide
        have nz: ¬(2*1=0):=by decide
        have ml:(ps.map fun (i,x)=>(i,ρ x)).toList=[(0,ρ a),(1,ρ b)]:=by rw [aeA,hps];rfl
        simp only [big,nz,if_false,Do,Ki,ww,EQ];rw [e0,ml,fl];simp [newRow]
      cases h
    cases hp
  cases mA
 case h_38 n m k v t a b c eA=>
  simp only [ut] at hc;obtain ⟨⟨⟨mA,h1⟩,h2⟩,h3⟩:=hc;split at mA
  · rename_i kt et ht
    simp only [bq] at h;obtain ⟨w',bG,vu,hu⟩:=Ic (P:=P) ht mA (nB m (by simp [jL.eB]) a h1) (nB k (by simp [jL.eB]) b h2) (nB v (by simp [jL.eB]) c h3) h hk;exact ⟨.skip,w',loc,by simp only [execOp,eA,Do,bG,ww,EQ],.inl ⟨rfl,hu⟩,vu⟩
  cases mA
 all_goals first|(simp only [bq] at h;cases h;done)|(simp at hc;done)
end
end Go.Vm
/- What goes over the border of a pure call, and what comes back. -/
namespace Go.Vm
def eZ:Loc:=fun _=>ah4
def grow (im:Im) (w:World) (bs:List Nat):Im:=fun b=>match im b with
 |some o=>ah0 o
 |none=>if bs.contains b then w.heap[b]? else ah4
theorem GH (im:Im) (w:World) (bs:List Nat):mF im (grow im w bs):=fun b o h=>by unfold grow;rw [h]
theorem Mb {im:Im} {w:World} {bs:List Nat} (h: ∀b o,im b=ah0 o->w.heap[b]? =ah0 o): ∀b o,grow im w bs b=ah0 o->w.heap[b]? =ah0 o:=by
 intro b o hb;unfold grow at hb;split at hb
 · rename_i o' ho;injection hb with hb;subst hb;exact h b _ ho
 split at hb
 · exact hb
 cases hb
theorem SY {im:Im} {w:World} {bs:List Nat} (h: ∀b o,im b=ah0 o->w.heap[b]? =ah0 o) {b:Nat} (hb:b∈bs):grow im w bs b=w.heap[b]?:=by
 unfold grow;split
 · rename_i o ho;exact (h b o ho).symm
 rw [rc (by simpa using hb)]
theorem Pv {im:Im} {w:World} {bs:List Nat} {b:Nat} {o:Obj} (h:grow im w bs b=ah0 o):im b=ah0 o\/b∈bs:=by
 unfold grow at h;split at h
 · rename_i o' ho;injection h with h;subst h;exact .inl ho
 split at h
 · rename_i hc;exact .inr (by simpa using hc)
 cases h
def yG (loc:Loc) (az:bS) (tk:List Nat):List Nat:=tk.filterMap fun t=>if (az[t]?).any jc.bA then (loc t).map (·.cX) else ah4
theorem yH {loc:Loc} {az:bS} {tk:List Nat} {b:Nat}:b∈yG loc az tk↔ ∃t li k,t∈tk/\loc t=ah0 li/\az[t]? =ah0 k/\k.bA=ah5/\li.cX=b:=by
 unfold yG;rw [List.mem_filterMap];constructor
 · rintro ⟨t,ht,h⟩
   split at h
   · rename_i hs
     rw [AC] at h;obtain ⟨li,hl,rfl⟩:=h;cases hk:az[t]? with
     |none=>rw [hk] at hs;cases hs
     |some k=>rw [hk] at hs;exact ⟨t,li,k,ht,hl,hk,hs,rfl⟩
   cases h
 rintro ⟨t,li,k,ht,hl,hk,hs,rfl⟩
 exact ⟨t,ht,by rw [hk,hl];simp [hs]⟩
theorem lW {e:Nat} {rows:List Row} (h:rows≠[]):(jc.arr e rows).bA=ah5:=by
 cases rows with
 |nil=>exact absurd rfl h
 |cons _ _=>rfl
section
variable {im dK : Im} {loc : Loc} {az : bS} {w : World}
def Over (im dK:Im) (loc:Loc) (az:bS) (w:World) (t:Nat):Prop:=
 ∀li,loc t=ah0 li-> ∃k,az[t]? =ah0 k/\BR im loc w li k/\(k.bA=ah5->dK li.cX=w.heap[li.cX]?)
def Ym (dK:Im) (loc:Loc) (bx:Nat->Option (List PV)) (t:Nat):Prop:=
 ∀li cs,loc t=ah0 li->bx t=ah0 cs-> ∃vs,eo dK eZ cs vs/\ ∀(j:Nat) (v:Value),vs[j]? =ah0 v->kV dK li.cX (li.sh+j)=ah0 v
theorem xi {b o:Nat} {cs:Array Value} {el:TypeId} {fr:Nat×Nat} (h:im b=ah0 (.cells cs el fr)):kV im b o=cs[o]?:=by unfold kV;rw [h]
theorem bz.Ik {get:Nat->Option Value} {sh esz off len:Nat} {rows:List Row} (h:bz get sh esz rows):bz get (sh+off*esz) esz ((rows.drop off).take len):=(h.drop off).take len
mutual
theorem Yn (hi:mF im dK) {bx:Nat->Option (List PV)} {tb:Nat->List Nat} (hb: ∀t,(∀u,u∈tb t->Over im dK loc az w u)->Over im dK loc az w t->Ym dK loc bx t):
 ∀{x y:PV} {v:Value},(∀t,t∈iu tb x->Over im dK loc az w t)->VR im loc x v->AR az bx x=ah0 y->VR dK eZ y v
 | .undef,y,v,_,_,h=>by simp [AR] at h
 | .iI,y,v,_,_,h=>by simp [AR] at h
 | .int k n,y,v,_,hv,h=>by simp only [AR,v6] at h;subst h;rw [hv.eF];exact .int _ _
 | .bool b,y,v,_,hv,h=>by simp only [AR,v6] at h;subst h;rw [hv.iR];exact .bool _
 | .str b,y,v,_,hv,h=>by simp only [AR,v6] at h;subst h;rw [hv.CH];exact .str _
 | .agg cs,y,v,ht,hv,h=>by simp only [AR,AC] at h;obtain ⟨ys,NF,rfl⟩:=h;obtain ⟨vs,rfl,nE⟩:=hv.ou;exact .agg _ _ (vW hi hb (fun t h=>ht t (by simpa [iu] using h)) nE NF)
 | .bT cs,y,v,ht,hv,h=>by simp only [AR,AC] at h;obtain ⟨ys,NF,rfl⟩:=h;obtain ⟨vs,rfl,nE⟩:=hv.zA;exact .bT _ _ (vW hi hb (fun t h=>ht t (by simpa [iu] using h)) nE NF)
 | .sl e c rows,y,v,_,hv,h=>by simp only [AR,v6] at h;subst h;obtain ⟨a,cap,rfl,h1,h2,h3⟩:=hv.nM;exact .sl e ah8 rows a cap h1 (by simp) fun dC=>let ⟨b,o,ha,hr⟩:=h3 dC;⟨b,o,ha,hr.mono fun _ _ e=>hi.cell e⟩
 | .own t e off len cap ex,y,v,ht,hv,h=>by
  obtain ⟨li,a,cw,rfl,hl,h2,h3,h4,h5,h6,h7⟩:=hv.gO;obtain ⟨k,hk,rj,SZ⟩:=ht t (by simp [iu]) li hl;simp only [AR,hk] at h;cases k with
  |arr e' rows=>
   simp only [v6] at h;subst h;obtain ⟨b1,b2,b3⟩:=rj;have bU:((rows.drop off).take len).length=len:=by simp;omega
   have he:e'=e:=by rw [<- b1,h2]
   subst he;have:=VR.sl (im:=dK) (loc:=eZ) e' ah8 ((rows.drop off).take len) a cw (by omega) (by simp) (fun dC=>by
    have mI:rows≠[]:=by intro e;subst e;simp at dC
    obtain ⟨arr,el,rH,GA,HL,cC⟩:=b3 mI;rcases h7 with h7|⟨_,rfl,_⟩
    · exfalso;apply dC;apply aeB.1;omega
    refine ⟨_,_,rfl,cC.Ik.mono fun k v hkv=>?_⟩
    rw [xi (by rw [SZ (lW mI)];exact rH)];exact hkv)
   rwa [bU] at this
  |_=>cases h
 | .ptr t e row off,y,v,ht,hv,h=>by
  obtain ⟨li,hl,he,hn,rfl⟩:=hv.xf;obtain ⟨k,hk,rj,SZ⟩:=ht t (by simp [iu]) li hl;simp only [AR,hk] at h;cases k with
  |arr e' rows=>
   simp only [AC] at h;obtain ⟨r,hr,rfl⟩:=h;obtain ⟨b1,b2,b3⟩:=rj;have mI:rows≠[]:=by intro e;subst e;simp at hr
   obtain ⟨arr,el,rH,GA,HL,cC⟩:=b3 mI;have Ko:e'=e:=by rw [<- b1,he]
   subst Ko;obtain ⟨h1,h2⟩:=rG (im:=dK) (loc:=eZ) cC hr;exact .bw r off li.cX (li.sh+row*e') _ h1 fun j v hj=>by rw [xi (by rw [SZ (lW mI)];exact rH)];exact h2 j v hj
  |box cs=>
   dsimp only at h;split at h
   · rename_i k8
     have k8:row=0:=by simpa using k8
     subst k8;rw [AC] at h;obtain ⟨ys,NF,rfl⟩:=h;obtain ⟨vs,h1,h2⟩:=hb t (fun u hu=>ht u (by simp [iu,hu])) (ht t (by simp [iu])) li ys hl NF;exact .bw ys off li.cX (li.sh+0*e) vs h1 fun j v hj=>by simpa using h2 j v hj
   cases h
  |_=>cases h
 | .bw cs off,y,v,ht,hv,h=>by simp only [AR,AC] at h;obtain ⟨ys,NF,rfl⟩:=h;obtain ⟨b,o,vs,h1,h2,rfl⟩:=hv.vM;exact .bw ys off b o vs (vW hi hb (fun t h=>ht t (by simpa [iu] using h)) h1 NF) fun j v hj=>hi.cell (h2 j v hj)
 | .mp t,y,v,_,_,h=>by simp [AR] at h
 | .ed fn a b,y,v,ht,hv,h=>by
  simp only [AR] at h;cases ha:AL az bx a with
  |none=>rw [ha] at h;cases h
  |some a'=>
   cases xX:AL az bx b with
   |none=>rw [ha,xX] at h;cases h
   |some b'=>
    rw [ha,xX] at h;simp only [v6] at h;subst h;cases hv with
    |ed _ _ _ as bs h1 h2=>exact .ed fn a' b' as bs (vW hi hb (fun t h=>ht t (by simp [iu,h])) h1 ha) (vW hi hb (fun t h=>ht t (by simp [iu,h])) h2 xX)
 | .dv,y,v,_,hv,h=>by simp only [AR,v6] at h;subst h;cases hv;exact .dv
theorem vW (hi:mF im dK) {bx:Nat->Option (List PV)} {tb:Nat->List Nat} (hb: ∀t,(∀u,u∈tb t->Over im dK loc az w u)->Over im dK loc az w t->Ym dK loc bx t):
 ∀{x y:List PV} {v:List Value},(∀t,t∈cQ tb x->Over im dK loc az w t)->eo im loc x v->AL az bx x=ah0 y->eo dK eZ y v
 | [],y,v,_,hv,h=>by simp only [AL,v6] at h;subst h;cases hv;exact .nil
 |x::xs,y,v,ht,hv,h=>by
  simp only [AL] at h;cases hx:AR az bx x with
  |none=>rw [hx] at h;cases h
  |some x'=>
   cases Ns:AL az bx xs with
   |none=>rw [hx,Ns] at h;cases h
   |some xs'=>
    rw [hx,Ns] at h;simp only [v6] at h;subst h;cases hv with
    |cons _ u _ us h1 h2=>exact .cons _ _ _ _ (Yn hi hb (fun t h=>ht t (by simp [cQ,h])) h1 hx) (vW hi hb (fun t h=>ht t (by simp [cQ,h])) h2 Ns)
end
theorem Mc (hi:mF im dK): ∀(n:Nat) (t:Nat),(∀u,u∈cD az n t->Over im dK loc az w u)->Over im dK loc az w t->Ym dK loc (vt az n) t
 |0,t,_,_=>by intro li cs _ h;cases h
 |n+1,t,ht,hto=>by
  intro li cs hl h;obtain ⟨k,hk,rj,SZ⟩:=hto li hl;simp only [vt,hk] at h;cases k with
  |box cells=>dsimp only at h;obtain ⟨b1,b2,b3,vs,el,h4,h5,h6⟩:=rj;refine ⟨vs,vW hi (fun t'=>Mc hi n t') (tb:=cD az n) (fun u hu=>ht u (by simp [cD,hk,hu])) h6 h,fun j v hj=>?_⟩;rw [xi (by rw [SZ rfl];exact h4),b3];simpa using hj
  |_=>cases h
end
end Go.Vm
/- A pure call: what comes back. -/
namespace Go.Vm
section
variable {im dK : Im} {loc ba : Loc} {az : bS} {w : World}
mutual
theorem Il: ∀{x:PV} {v:Value},x.iQ=ah5->VR im loc x v->VR dK ba x v
 | .int k n,v,_,h=>by rw [h.eF];exact .int _ _
 | .bool b,v,_,h=>by rw [h.iR];exact .bool _
 | .str s,v,_,h=>by rw [h.CH];exact .str _
 | .agg cs,v,hn,h=>by obtain ⟨vs,rfl,hr⟩:=h.ou;exact .agg _ _ (A3 (by simpa [PV.iQ] using hn) hr)
 | .bT cs,v,hn,h=>by obtain ⟨vs,rfl,hr⟩:=h.zA;exact .bT _ _ (A3 (by simpa [PV.iQ] using hn) hr)
 | .undef,_,hn,_=>by simp [PV.iQ] at hn
 | .iI,_,hn,_=>by simp [PV.iQ] at hn
 | .sl ..,_,hn,_=>by simp [PV.iQ] at hn
 | .own ..,_,hn,_=>by simp [PV.iQ] at hn
 | .ptr ..,_,hn,_=>by simp [PV.iQ] at hn
 | .bw ..,_,hn,_=>by simp [PV.iQ] at hn
 | .mp ..,_,hn,_=>by simp [PV.iQ] at hn
 | .ed ..,_,hn,_=>by simp [PV.iQ] at hn
 | .dv,_,hn,_=>by simp [PV.iQ] at hn
theorem A3: ∀{x:List PV} {v:List Value},qC x=ah5->eo im loc x v->eo dK ba x v
 | [],_,_,h=>by cases h;exact .nil
 |x::xs,_,hn,h=>by
  simp only [qC,ut] at hn;cases h with
  |cons _ u _ us h1 h2=>exact .cons _ _ _ _ (Il hn.1 h1) (A3 hn.2 h2)
end
mutual
theorem Pw (hi:mF im dK): ∀{x y:PV} {v:Value},(∀t,t∈iu rh x->Over im dK loc az w t)->VR im loc x v->vB az x=ah0 y->VR dK ba y v
 | .int k n,y,v,_,hv,h=>by simp only [vB,v6] at h;subst h;rw [hv.eF];exact .int _ _
 | .bool b,y,v,_,hv,h=>by simp only [vB,v6] at h;subst h;rw [hv.iR];exact .bool _
 | .str b,y,v,_,hv,h=>by simp only [vB,v6] at h;subst h;rw [hv.CH];exact .str _
 | .agg cs,y,v,ht,hv,h=>by simp only [vB,AC] at h;obtain ⟨ys,NF,rfl⟩:=h;obtain ⟨vs,rfl,nE⟩:=hv.ou;exact .agg _ _ (GI hi (fun t h=>ht t (by simpa [iu] using h)) nE NF)
 | .bT cs,y,v,ht,hv,h=>by simp only [vB,AC] at h;obtain ⟨ys,NF,rfl⟩:=h;obtain ⟨vs,rfl,nE⟩:=hv.zA;exact .bT _ _ (GI hi (fun t h=>ht t (by simpa [iu] using h)) nE NF)
 | .sl e c rows,y,v,_,hv,h=>by simp only [vB,v6] at h;subst h;obtain ⟨a,cap,rfl,h1,h2,h3⟩:=hv.nM;exact .sl e ah8 rows a cap h1 (by simp) fun dC=>let ⟨b,o,ha,hr⟩:=h3 dC;⟨b,o,ha,hr.mono fun _ _ e=>hi.cell e⟩
 | .own t e off len cap ex,y,v,ht,hv,h=>by
  obtain ⟨li,a,cw,rfl,hl,h2,h3,h4,h5,h6,h7⟩:=hv.gO;obtain ⟨k,hk,rj,SZ⟩:=ht t (by simp [iu]) li hl;simp only [vB,hk] at h;cases k with
  |arr e' rows=>
   simp only [v6] at h;subst h;obtain ⟨b1,b2,b3⟩:=rj;have bU:((rows.drop off).take len).length=len:=by simp;omega
   have he:e'=e:=by rw [<- b1,h2]
   subst he;have:=VR.sl (im:=dK) (loc:=ba) e' ah8 ((rows.drop off).take len) a cw (by omega) (by simp) (fun dC=>by
    have mI:rows≠[]:=by intro e;subst e;simp at dC
    obtain ⟨arr,el,rH,GA,HL,cC⟩:=b3 mI;rcases h7 with h7|⟨_,rfl,_⟩
    · exfalso;apply dC;apply aeB.1;omega
    refine ⟨_,_,rfl,cC.Ik.mono fun k v hkv=>?_⟩
    rw [xi (by rw [SZ (lW mI)];exact rH)];exact hkv)
   rwa [bU] at this
  |_=>cases h
 | .undef,_,_,_,_,h=>by simp [vB] at h
 | .iI,_,_,_,_,h=>by simp [vB] at h
 | .ptr ..,_,_,_,_,h=>by simp [vB] at h
 | .bw ..,_,_,_,_,h=>by simp [vB] at h
 | .mp ..,_,_,_,_,h=>by simp [vB] at h
 | .ed ..,_,_,_,_,h=>by simp [vB] at h
 | .dv,_,_,_,_,h=>by simp [vB] at h
theorem GI (hi:mF im dK): ∀{x y:List PV} {v:List Value},(∀t,t∈cQ rh x->Over im dK loc az w t)->eo im loc x v->C4 az x=ah0 y->eo dK ba y v
 | [],y,v,_,hv,h=>by simp only [C4,v6] at h;subst h;cases hv;exact .nil
 |x::xs,y,v,ht,hv,h=>by
  simp only [C4] at h;cases hx:vB az x with
  |none=>rw [hx] at h;cases h
  |some x'=>
   cases Ns:C4 az xs with
   |none=>rw [hx,Ns] at h;cases h
   |some xs'=>
    rw [hx,Ns] at h;simp only [v6] at h;subst h;cases hv with
    |cons _ u _ us h1 h2=>exact .cons _ _ _ _ (Pw hi (fun t h=>ht t (by simp [cQ,h])) h1 hx) (GI hi (fun t h=>ht t (by simp [cQ,h])) h2 Ns)
end
theorem ox {l:List Nat} {t:Nat}:has l t=ah5↔t∈l:=by
 unfold has;rw [List.any_eq_true];constructor
 · rintro ⟨x,hx,h⟩
   have:t=x:=by simpa using h
   subst this;exact hx
 intro h;exact ⟨t,h,by simp⟩
theorem iS {l:List Nat} {t:Nat}:has l t=ah8↔t∉l:=by rw [<- ox];simp
def aie:Im:=fun _=>ah4
structure Xs (cL:Loc) (mJ:bS) (E6:List Nat) (w:World) (seen seen':List Nat) (news:bS) (Io:List LI) (ts:List (Option Nat)):Prop where
 GJ:(agY Io)=agY news
 HX:(agY ts)=agY news
 br: ∀(j:Nat) (k:jc) (li:LI),news[j]? =ah0 k->Io[j]? =ah0 li->(∃e rows,k= .arr e rows)/\BR aie eZ w li k
 own: ∀(j:Nat) (k:jc) (li:LI) (t:Nat),news[j]? =ah0 k->Io[j]? =ah0 li->ts[j]? =ah0 (ah0 t)->cL t=ah0 li/\mJ[t]? =ah0 k/\t∉E6/\t∈seen'/\t∉seen
 dum: ∀(j:Nat) (k:jc),news[j]? =ah0 k->ts[j]? =ah0 ah4->k.bA=ah8
 inj: ∀(i j t:Nat),ts[i]? =ah0 (ah0 t)->ts[j]? =ah0 (ah0 t)->i=j
 sub: ∀t,t∈seen->t∈seen'
theorem Xs.none {cL:Loc} {mJ:bS} {E6:List Nat} {seen:List Nat}:Xs cL mJ E6 w seen seen [] [] [] where
 GJ:=rfl
 HX:=rfl
 br:=fun j k li h=>by simp at h
 own:=fun j k li t h=>by simp at h
 dum:=fun j k h=>by simp at h
 inj:=fun i j t h=>by simp at h
 sub:=fun _ h=>h
theorem fF {α:Type} {a b:List α} {j:Nat} {x:α} (h:(a++b)[j]? =ah0 x):(j<agY a/\a[j]? =ah0 x)\/(agY a<=j/\b[j-(agY a)]? =ah0 x):=by
 rcases ad0 j (agY a) with hj|hj
 · rw [ad1 hj] at h;exact .inl ⟨hj,h⟩
 rw [acl hj] at h;exact .inr ⟨hj,h⟩
theorem Xs.append {cL:Loc} {mJ:bS} {E6 s0 s1 s2:List Nat} {n1 n2:bS} {l1 l2:List LI} {t1 t2:List (Option Nat)} (h:Xs cL mJ E6 w s0 s1 n1 l1 t1) (k:Xs cL mJ E6 w s1 s2 n2 l2 t2):
 Xs cL mJ E6 w s0 s2 (n1++n2) (l1++l2) (t1++t2):=by
 have e1:=h.GJ;have e2:=h.HX;have Px: ∀(j t:Nat),t1[j]? =ah0 (ah0 t)->t∈s1:=by intro j t ht;have hj:=(ad8.1 ht).1;exact (h.own j n1[j] l1[j] t (PP (by omega)) (PP (by omega)) ht).2.2.2.1
 have Md: ∀(j t:Nat),t2[j]? =ah0 (ah0 t)->t∉s1:=by intro j t ht;have hj:=(ad8.1 ht).1;have:=k.GJ;have:=k.HX;exact (k.own j n2[j] l2[j] t (PP (by omega)) (PP (by omega)) ht).2.2.2.2
 refine ⟨by simp [e1,k.GJ],by simp [e2,k.HX],fun j b li hb hl=>?_,fun j b li t hb hl ht=>?_,fun j b hb ht=>?_,fun i j t hi hj=>?_,fun t ht=>k.sub t (h.sub t ht)⟩
 · rcases fF hb with ⟨h1,hb⟩|⟨h1,hb⟩
   · rcases fF hl with ⟨h2,hl⟩|⟨h2,hl⟩
     · exact h.br j b li hb hl
     omega
   rcases fF hl with ⟨h2,hl⟩|⟨h2,hl⟩
   · omega
   rw [e1] at hl;exact k.br _ b li hb hl
 · rcases fF hb with ⟨h1,hb⟩|⟨h1,hb⟩
   · rcases fF hl with ⟨h2,hl⟩|⟨h2,hl⟩
     · rcases fF ht with ⟨h3,ht⟩|⟨h3,ht⟩
       · obtain ⟨a1,a2,a3,a4,a5⟩:=h.own j b li t hb hl ht
         exact ⟨a1,a2,a3,k.sub t a4,a5⟩
       omega
     omega
   rcases fF hl with ⟨h2,hl⟩|⟨h2,hl⟩
   · omega
   rcases fF ht with ⟨h3,ht⟩|⟨h3,ht⟩
   · omega
   rw [e1] at hl;rw [e2] at ht
   obtain ⟨a1,a2,a3,a4,a5⟩:=k.own _ b li t hb hl ht;exact ⟨a1,a2,a3,a4,fun hs=>a5 (h.sub t hs)⟩
 · rcases fF hb with ⟨h1,hb⟩|⟨h1,hb⟩
   · rcases fF ht with ⟨h3,ht⟩|⟨h3,ht⟩
     · exact h.dum j b hb ht
     omega
   rcases fF ht with ⟨h3,ht⟩|⟨h3,ht⟩
   · omega
   rw [e2] at ht;exact k.dum _ b hb ht
 rcases fF hi with ⟨h1,hi⟩|⟨h1,hi⟩
 · rcases fF hj with ⟨h2,hj⟩|⟨h2,hj⟩
   · exact h.inj i j t hi hj
   exact absurd (Px i t hi) (Md _ t hj)
 rcases fF hj with ⟨h2,hj⟩|⟨h2,hj⟩
 · exact absurd (Px j t hj) (Md _ t hi)
 have:=k.inj _ _ t hi hj;omega
def Xt (cL:Loc) (mJ:bS) (CI:Im) (w:World):Prop:= ∀t li,cL t=ah0 li-> ∃k,mJ[t]? =ah0 k/\BR CI cL w li k
mutual
theorem Py {CI:Im} {cL:Loc} {mJ:bS} {E6:List Nat} (hk:Xt cL mJ CI w): ∀{x y:PV} {v:Value} {nx:Nat} {seen seen':List Nat} {news:bS},
 VR CI cL x v->xO mJ E6 nx seen x=ah0 (y,news,seen')->
 ∃Io ts,Xs cL mJ E6 w seen seen' news Io ts/\ ∀(CJ:Im) (pI:Loc),(∀(j:Nat) (li:LI),Io[j]? =ah0 li->pI (nx+j)=ah0 li)->VR CJ pI y v
 | .int k n,y,v,nx,seen,seen',news,hv,h=>by simp only [xO,v6,adD] at h;obtain ⟨rfl,rfl,rfl⟩:=h;exact ⟨[],[],.none,fun _ _ _=>by rw [hv.eF];exact .int _ _⟩
 | .bool k,y,v,nx,seen,seen',news,hv,h=>by simp only [xO,v6,adD] at h;obtain ⟨rfl,rfl,rfl⟩:=h;exact ⟨[],[],.none,fun _ _ _=>by rw [hv.iR];exact .bool _⟩
 | .agg cs,y,v,nx,seen,seen',news,hv,h=>by simp only [xO,AC,adD] at h;obtain ⟨⟨ys,n2,s2⟩,hr,rfl,rfl,rfl⟩:=h;obtain ⟨vs,rfl,nE⟩:=hv.ou;obtain ⟨Io,ts,h1,h2⟩:=GK hk nE hr;exact ⟨Io,ts,h1,fun CJ pI hl=> .agg _ _ (h2 CJ pI hl)⟩
 | .bT cs,y,v,nx,seen,seen',news,hv,h=>by simp only [xO,AC,adD] at h;obtain ⟨⟨ys,n2,s2⟩,hr,rfl,rfl,rfl⟩:=h;obtain ⟨vs,rfl,nE⟩:=hv.zA;obtain ⟨Io,ts,h1,h2⟩:=GK hk nE hr;exact ⟨Io,ts,h1,fun CJ pI hl=> .bT _ _ (h2 CJ pI hl)⟩
 | .sl e c rows,y,v,nx,seen,seen',news,hv,h=>by
  obtain ⟨a,cap,rfl,h1,h2,h3⟩:=hv.nM;cases c with
  |false=>simp [xO] at h
  |true=>
   cases rows with
   |cons r rs=>simp [xO] at h
   |nil=>
    simp only [xO,v6,adD] at h;obtain ⟨rfl,rfl,rfl⟩:=h;have xQ:cap=0:=h2 rfl;subst xQ;refine ⟨[⟨0,0,e,0,0⟩],[ah4],⟨rfl,rfl,fun j k li hj hl=>?_,fun j k li t hj hl ht=>?_,fun j k hj ht=>?_,fun i j t hi hj=>?_,fun _ h=>h⟩,fun CJ pI hl=>?_⟩
    · cases j with
      |zero=>simp at hj hl;subst hj hl;exact ⟨⟨_,_,rfl⟩,rfl,rfl,fun dC=>absurd rfl dC⟩
      |succ j=>simp at hj
    · cases j<;>simp at ht
    · cases j with
      |zero=>simp at hj;subst hj;rfl
      |succ j=>simp at hj
    · cases i<;>simp at hi
    exact .own nx e 0 0 0 ah8 ⟨0,0,e,0,0⟩ a 0 (hl 0 _ rfl) rfl (If _) (If _) (If _) (by simp) (.inl rfl)
 | .own t e off len cap ex,y,v,nx,seen,seen',news,hv,h=>by
  obtain ⟨li,a,cw,rfl,hl,h2,h3,h4,h5,h6,h7⟩:=hv.gO;obtain ⟨k,vd,rj⟩:=hk t li hl;simp only [xO,vd] at h;cases k with
  |arr e' rows=>
   dsimp only at h;split at h
   · cases h
   rename_i hs
   simp only [aeJ,not_or,Bool.not_eq_true] at hs;simp only [v6,adD] at h;obtain ⟨rfl,rfl,rfl⟩:=h;refine ⟨[li],[ah0 t],⟨rfl,rfl,fun j k li' hj jU=>?_,fun j k li' t' hj jU ht=>?_,fun j k hj ht=>?_,fun i j t hi hj=>?_,fun _ h=>aeg _ h⟩,fun CJ pI Fy=>?_⟩
   · cases j with
     |zero=>simp at hj jU;subst hj jU;exact ⟨⟨_,_,rfl⟩,rj⟩
     |succ j=>simp at hj
   · cases j with
     |zero=>simp at hj jU ht;subst hj jU ht;exact ⟨hl,vd,iS.1 hs.2,by simp,iS.1 hs.1⟩
     |succ j=>simp at hj
   · cases j<;>simp at ht
   · cases i with
     |zero=>
      cases j with
      |zero=>rfl
      |succ j=>simp at hj
     |succ i=>simp at hi
   exact .own nx e off len cap ah8 li a cw (Fy 0 _ rfl) h2 h3 h4 h5 (fun h=>by cases h) h7
  |_=>cases h
 | .str s,y,v,nx,seen,seen',news,hv,h=>by simp [xO] at h
 | .undef,y,v,nx,seen,seen',news,hv,h=>by simp [xO] at h
 | .iI,y,v,nx,seen,seen',news,hv,h=>by simp [xO] at h
 | .ptr ..,y,v,nx,seen,seen',news,hv,h=>by simp [xO] at h
 | .bw ..,y,v,nx,seen,seen',news,hv,h=>by simp [xO] at h
 | .mp ..,y,v,nx,seen,seen',news,hv,h=>by simp [xO] at h
 | .ed ..,y,v,nx,seen,seen',news,hv,h=>by simp [xO] at h
 | .dv,y,v,nx,seen,seen',news,hv,h=>by simp [xO] at h
theorem GK {CI:Im} {cL:Loc} {mJ:bS} {E6:List Nat} (hk:Xt cL mJ CI w): ∀{x y:List PV} {v:List Value} {nx:Nat} {seen seen':List Nat} {news:bS},
 eo CI cL x v->Gu mJ E6 nx seen x=ah0 (y,news,seen')->
 ∃Io ts,Xs cL mJ E6 w seen seen' news Io ts/\ ∀(CJ:Im) (pI:Loc),(∀(j:Nat) (li:LI),Io[j]? =ah0 li->pI (nx+j)=ah0 li)->eo CJ pI y v
 | [],y,v,nx,seen,seen',news,hv,h=>by simp only [Gu,v6,adD] at h;obtain ⟨rfl,rfl,rfl⟩:=h;cases hv;exact ⟨[],[],.none,fun _ _ _=> .nil⟩
 |x::xs,y,v,nx,seen,seen',news,hv,h=>by
  simp only [Gu] at h;cases h1:xO mJ E6 nx seen x with
  |none=>rw [h1] at h;cases h
  |some r1=>
   obtain ⟨y1,n1,s1⟩:=r1;rw [h1] at h;dsimp only at h;cases h2:Gu mJ E6 (nx+agY n1) s1 xs with
   |none=>rw [h2] at h;cases h
   |some r2=>
    obtain ⟨y2,n2,s2⟩:=r2;rw [h2] at h;simp only [v6,adD] at h;obtain ⟨rfl,rfl,rfl⟩:=h;cases hv with
    |cons _ u _ us hx Ns=>
     obtain ⟨l1,t1,a1,b1⟩:=Py hk hx h1;obtain ⟨l2,t2,a2,b2⟩:=GK hk Ns h2;refine ⟨l1++l2,t1++t2,a1.append a2,fun CJ pI hl=> .cons _ _ _ _ (b1 CJ pI fun j li hj=>?_) (b2 CJ pI fun j li hj=>?_)⟩
     · have:=(ad8.1 hj).1
       exact hl j li (by rw [ad1 this];exact hj)
     have:=hl (agY n1+j) li (by rw [acl (by rw [a1.GJ];omega),a1.GJ,show (agY n1)+j-(agY n1)=j by omega];exact hj)
     rwa [<- adZ] at this
end
end
end Go.Vm
