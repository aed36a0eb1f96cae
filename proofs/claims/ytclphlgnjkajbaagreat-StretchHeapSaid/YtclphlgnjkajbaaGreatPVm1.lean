/- The logical machine, part 1: VmDef, VmWp, VmChk, VmRel, VmRen, VmOps1, VmEff, VmOps2, VmOps3, VmOps4, VmOps5, VmOps6, VmOps7, VmOps8, VmOps9, VmEq, VmMap, VmOpsA, VmCall, VmCall2. -/
import GoSem.Dispatch
import Derived.Laws.StructEq
import Derived.Calls
import Derived.Below
import Derived.Laws.CopyRow
import Derived.Deep.AppendSrc
import Derived.Deep.Upon
import Derived.WideKeyRuns
open Bool renaming and_eq_true->v4,false_eq_true->adT,not_eq_true'->ae2,or_eq_true->afl,true_and->age,and_true->agV,true->ah8,false->ah9
open Option.some renaming injEq->v6
open Go.Result renaming andThen_ok->ww
open Option renaming map_eq_some_iff->AC,getD_some->ae1,isSome_iff_exists->aeq,getD_none->aeE,isSome_some->afA,map_some->afR,any_some->ag8,some->ah6,none->ah7
open Go.Sem renaming run_bind->Do,run_pure->EQ
open Nat renaming le_refl->If,beq->IR,add_mul->UV,mul_le_mul_right->acl,lt_or_ge->adM,ble->adV,beq_eq->ae8,ble_eq->aew,add_assoc->aey,blt->aeC,le_max_right->aeQ,zero_add->afb,le_max_left->afd,eq_zero_or_pos->afC,min_eq_left->afZ,mul_eq_zero->ag3,mul_le_mul->aga,add_zero->ah1,zero_mul->ah3
open Array renaming getElem?_eq_some_iff->M2,getElem?_setIfInBounds->adZ,ext'->ae6,length_toList->aes,map->aeB,range->aeL,toList_map->aeV,getElem?_eq_none->af3,getElem?_push->afo
open List renaming getElem?_eq_none->NE,getElem?_eq_getElem->PP,getElem?_append_right->adc,getElem?_append_left->adR,mem_singleton->ae0,getElem?_eq_some_iff->ae5,replicate->ae7,getElem?_toArray->aen,mem_append->aeo,flatMap_cons->aep,length_cons->aet,length_append->aeu,size_toArray->aev,getElem?_take_of_lt->aex,mem_cons->aez,foldl_cons->aeA,drop_eq_nil_of_le->aeD,mem_of_getElem?->aeF,mem_iff_getElem->aeG,mem_cons_of_mem->aeH,getElem?_drop->aeI,extract_eq_take_drop->aeJ,ext_getElem?->aeK,flatMap_nil->aeR,getElem?_cons_zero->aeS,length_take->aeT,length_eq_zero_iff->af2,getElem?_set_self->afa,take_of_length_le->afc,length_nil->afk,take_append_drop->afm,getElem?_set_ne->afn,flatMap_append->afp,mem_replicate->afF,append_assoc->afG,isEmpty_iff->afI,foldlM_cons->afK,all_eq_true->afL,drop_drop->agb,mapM_cons->agd,map_cons->agn,getD->ah0,length->ah4,length->ah5
open Prod.mk renaming injEq->aer
open Int renaming toNat_natCast->aeM
open Decidable renaming decide->ahd
/- Definitions of a logical machine over pure values: what it computes is tied to the model's runs in VmSound. -/
namespace Go.Vm
universe u
theorem pi{α:Sort u}{a b:α}:cond ah8 a b=a:=rfl
theorem pp{α:Sort u}{a b:α}:cond ah9 a b=b:=rfl
theorem rc{c:Prop}{h:Decidable c}(p:c){α:Sort u}{t e:α}:ite c t e=t:=if_pos p
theorem ut{c:Prop}{h:Decidable c}(p:¬c){α:Sort u}{t e:α}:ite c t e=e:=if_neg p
inductive PV where
 |undef
 |iB
 |int (k:IntKind) (n:Int)
 |bool (b:Bool)
 |str (s:ByteArray)
 |agg (cs:List PV)
 |cj (cs:List PV)
 |sl (esz:Nat) (pf:Bool) (rows:List (List PV))
 |own (t esz off len cap:Nat) (ex:Bool)
 |ptr (t esz row off:Nat)
 |bw (cells:List PV) (off:Nat)
 |mp (t:Nat)
 |ef (fn:FuncId) (fst cap:List PV)
 |dw
instance:Inhabited PV:=⟨.undef⟩
abbrev Row:=List PV
inductive iZ where
 |arr (esz:Nat) (rows:List Row)
 |box (cells:List PV)
 |map (es:List (PV×PV))
 |dead
abbrev bY:=List iZ
abbrev Env:=List (Nat×PV)
inductive eI where
 |t (n:Nat)
 |c (v:PV)
inductive CM where
 |Rp|own|shr|fp
inductive jL where
 |Oi (x:eI)
 |pick (c a b:eI)
 |bin (op:BinOp) (x y:eI)
 |Hc (neg:Bool) (x y:eI)
 |Yb (n:Nat) (neg:Bool) (x y:eI)
 |un (op:UnOp) (x:eI)
 |conv (k:IntKind) (x:eI)
 |len (x:eI)
 |JI (n:Nat)
 |box (x:eI)
 |alloc (cells:List PV)
 |build (zero:List PV) (parts:List (Nat×Nat×eI))
 |zf (esz n:Nat) (zero:Row) (parts:List (Nat×eI))
 |Bm (x y:eI)
 |load (agg:Option Nat) (p:eI)
 |store (sz:Nat) (p v:eI)
 |Hd (x:eI)
 |He (off:Nat) (p:eI)
 |jT (agg:Option Nat) (off:Nat) (x:eI)
 |Hf (esz:Nat) (x i:eI)
 |Bn (n esz:Nat) (p i:eI)
 |idx (n esz:Nat) (agg:Option Nat) (x i:eI)
 |Hg (x i:eI)
 |MT (esz:Nat) (x:eI) (lo hi mx:Option eI)
 |Yc (esz:Nat) (zero:Row) (len cap:eI)
 |Yd (fn:FuncId) (fst cap:List eI)
 |Ye (z:Option PV)
 |lookup (n:Option Nat) (zero:PV) (ok:Bool) (m k:eI)
 |FT (n:Option Nat) (m k v:eI)
 |ext (i:Nat) (x:eI)
 |append (esz:Nat) (x y:eI)
 |copy (esz:Nat) (x y:eI)
 |clear (esz:Nat) (zero:Row) (x:eI)
 |mm (isMax:Bool) (x:eI) (xs:List eI)
 |call (m:CM) (f:FuncId) (args:List eI)
 |uS (x:eI) (args:List eI)
 |bad
structure bI where
 dst:Option Nat
 op:jL
 guard:Option (Nat×Bool)
inductive ij where
 |skip
 |region (draw:Option (List Nat)) (ops:List bI) (fh:List Nat)
 |seq (a b:ij)
 |cond (c:eI) (a b:ij)
 |block (id:Nat) (b:ij)
 |loop (live:List (Nat×Option Nat)) (b:ij)
 |exit (id:Nat)
 |ret
inductive RV where
 |tmp (t:Nat)
 |cell (t:Nat) (agg:Option Nat)
structure aL where
 Bo:Nat
 code:ij
 res:List RV
inductive Yf where
 |code (x:aL)
 |jf (Lu:Bool) (f:List PV->Option (PV×bY))
 |MU (f:List PV->bY->List Nat->Option (PV×bY×List Nat))
abbrev kW:=FuncId->Option Yf
structure St where
 env:Env
 aD:bY
 fz:List Nat
 kn:Nat
inductive gb where
 |normal
 |exit (id:Nat)
 |ret
def lk (t:Nat):Env->PV
 | []=> .undef
 |(s,v)::r=>if IR s t then v else lk t r
def eI.ev (e:Env):eI->PV
 | .t n=>lk n e
 | .c v=>v
def PV.oE:PV->Bool
 | .undef| .iB| .agg _| .cj _=>ah9
 |_=>ah8
def PV.plain:PV->Bool
 | .int _ _| .bool _| .str _=>ah8
 |_=>ah9
def PV.cells:PV->List PV
 | .agg cs=>cs
 |v=>[v]
def PV.stored (v:PV):Option (List PV):=if v.cells.all PV.oE then ah6 v.cells else ah7
def PV.bZ (v:PV):Option (List PV):=if v.cells.all PV.plain then ah6 v.cells else ah7
def part (agg:Option Nat) (off:Nat) (cs:List PV):Option PV:=
 match agg with
 |some s=>if off+s<=(ah5 cs) then ah6 (.agg ((cs.drop off).take s)) else ah7
 |none=>cs[off]?
def mg (off:Nat) (new old:List PV):List PV:=old.take off++new++old.drop (off+ah5 new)
def ai (k:IntKind) (n:Int):Int:=
 match k,n with
 | .i64,.ofNat m=>if aeC m 9223372036854775808 then .ofNat m else IntKind.wrap .i64 n
 | .i64,.negSucc m=>if aeC m 9223372036854775808 then .negSucc m else IntKind.wrap .i64 n
 | .u64,.ofNat m=> .ofNat (Nat.mod m 18446744073709551616)
 |k,n=>IntKind.wrap k n
def arith (op:BinOp) (k:IntKind) (a b:Int):Option PV:=
 match op with
 | .add=>ah6 (.int k (ai k (a+b)))
 | .sub=>ah6 (.int k (ai k (a-b)))
 | .mul=>ah6 (.int k (ai k (a*b)))
 | .quo=>if b=0 then ah7 else ah6 (.int k (ai k (a.tdiv b)))
 | .rem=>if b=0 then ah7 else ah6 (.int k (a.tmod b))
 | .and=>ah6 (.int k (k.wrap (BitVec.ofInt k.bits a&&&BitVec.ofInt k.bits b).toNat))
 | .or=>ah6 (.int k (k.wrap (BitVec.ofInt k.bits a|||BitVec.ofInt k.bits b).toNat))
 | .xor=>ah6 (.int k (k.wrap (BitVec.ofInt k.bits a^^^BitVec.ofInt k.bits b).toNat))
 | .andNot=>ah6 (.int k (k.wrap (BitVec.ofInt k.bits a&&& ~~~ BitVec.ofInt k.bits b).toNat))
 | .eql=>ah6 (.bool (a==b))
 | .neq=>ah6 (.bool (a !=b))
 | .lss=>ah6 (.bool (ahd (a<b)))
 | .leq=>ah6 (.bool (ahd (a<=b)))
 | .gtr=>ah6 (.bool (ahd (a>b)))
 | .geq=>ah6 (.bool (ahd (a>=b)))
 | .shl| .shr=>ah7
def Aq (op:BinOp) (k:IntKind) (a b:Int):Option PV:=
 if b<0 then ah7 else
 let n:=min b.toNat k.bits
 match op with
 | .shl=>ah6 (.int k (k.wrap (a*2^n)))
 | .shr=>ah6 (.int k (a.fdiv (2^n)))
 |_=>ah7
def eE:IntKind->IntKind->Bool
 | .i8,.i8| .i16,.i16| .i32,.i32| .i64,.i64| .u8,.u8| .u16,.u16| .u32,.u32| .u64,.u64=>ah8
 |_,_=>ah9
def MV (op:BinOp) (x y:PV):Option PV:=
 match x,y with
 | .int k a,.int l b=>
  match op with
  | .shl=>Aq .shl k a b
  | .shr=>Aq .shr k a b
  |op=>if eE k l then arith op k a b else ah7
 |_,_=>ah7
def pg:PV->PV->Option Bool
 | .int k a,.int l b=>if eE k l then ah6 (a==b) else ah7
 |_,_=>ah7
def dc:List PV->List PV->Option Bool
 | [],[]=>ah6 ah8
 |x::xs,y::ys=>
  match pg x y with
  |some ah8=>dc xs ys
  |some ah9=>ah6 ah9
  |none=>ah7
 |_,_=>ah7
def unE (op:UnOp) (x:PV):Option PV:=
 match op,x with
 | .neg,.int k n=>ah6 (.int k (ai k (0-n)))
 | .not,.bool b=>ah6 (.bool !b)
 |_,_=>ah7
def rowsOf (aD:bY) (esz:Nat):PV->Option (List Row)
 | .sl e _ rows=>match rows with
  | []=>ah6 []
  |_=>if IR e esz then ah6 rows else ah7
 | .own t e off len _ _=>if IR e esz then (match aD[t]? with
  |some (.arr _ rows)=>ah6 ((rows.drop off).take len)
  |_=>ah7) else ah7
 |_=>ah7
def gP:PV->List Nat
 | .own t _ _ _ _ _=>[t]
 |_=>[]
structure mh where
 v:PV
 news:bY:=[]
 wr:List (Nat×iZ):=[]
 rd:List Nat:=[]
 fr:List Nat:=[]
def lG:List (Nat×Nat×PV)->List PV->Option (List PV)
 | [],cs=>ah6 cs
 |(off,sz,v)::r,cs=>
  match v.stored with
  |some w=>if IR (ah5 w) sz&&adV (off+sz) (ah5 cs) then lG r (mg off w cs) else ah7
  |none=>ah7
def oF:List (Nat×PV)->List Row->Nat->Option (List Row)
 | [],rows,_=>ah6 rows
 |(i,v)::r,rows,esz=>
  match v.bZ with
  |some w=>if IR (ah5 w) esz&&aeC i (ah5 rows) then oF r (rows.set i w) esz else ah7
  |none=>ah7
def ja:PV->Option Nat
 | .int _ n=>match n with
  | .ofNat m=>ah6 m
  | .negSucc _=>ah7
 |_=>ah7
def iC (n:Option Nat) (k:PV):Bool:=
 match n,k with
 |none,.int _ _=>ah8
 |some n,.agg cs=>IR (ah5 cs) n
 |_,_=>ah9
def eD (n:Option Nat) (k:PV):List (PV×PV)->Nat->Option (Option Nat)
 | [],_=>ah6 ah7
 |(a,_)::r,i=>
  if iC n a then
   match dc k.cells a.cells with
   |some ah8=>ah6 (ah6 i)
   |some ah9=>eD n k r (i+1)
   |none=>ah7
  else ah7
def jU:Nat:=1048576
def nh (aD:bY) (agg:Option Nat):PV->Option mh
 | .ptr t _ row off=>match aD[t]? with
  |some (.arr _ rows)=>match rows[row]? with
   |some cs=>(part agg off cs).map fun v=>{v,rd:=[t]}
   |none=>ah7
  |some (.box cs)=>if IR row 0 then (part agg off cs).map fun v=>{v,rd:=[t]} else ah7
  |_=>ah7
 | .bw cs off=>(part agg off cs).map fun v=>{v}
 |_=>ah7
def has (l:List Nat) (t:Nat):Bool:=l.any (IR t)
def qi (aD:bY) (fz:List Nat) (sz:Nat) (v:PV):PV->Option mh
 | .ptr t _ row off=>match aD[t]? with
  |some (.arr e rows)=>match rows[row]?,v.bZ with
   |some cs,ah6 w=>if IR (ah5 w) sz&&adV (off+sz) (ah5 cs)&&!has fz t then
    ah6 {v:= .undef,wr:=[(t,.arr e (rows.set row (mg off w cs)))]} else ah7
   |_,_=>ah7
  |some (.box cs)=>match v.stored with
   |some w=>if IR row 0&&IR (ah5 w) sz&&adV (off+sz) (ah5 cs)&&!has fz t then
    ah6 {v:= .undef,wr:=[(t,.box (mg off w cs))]} else ah7
   |none=>ah7
  |_=>ah7
 |_=>ah7
def sG (esz:Nat):PV->Bool
 | .sl e _ rows=>IR e esz||rows.isEmpty
 | .own _ e _ _ _ _=>IR e esz
 |_=>ah9
def ph (x:PV) (lo hi mx:Option Nat):Option PV:=
 match x with
 | .sl e pf rows=>
  let l:=lo.getD 0
  let h:=hi.getD (ah5 rows)
  match mx with
  |none=>if adV l h&&adV h (ah5 rows) then ah6 (.sl e (pf&&IR h (ah5 rows)) ((rows.drop l).take (h-l))) else ah7
  |some m=>if adV l h&&adV h m&&adV m (ah5 rows) then ah6 (.sl e (IR h m) ((rows.drop l).take (h-l))) else ah7
 | .own t e off len cap ex=>
  let l:=lo.getD 0
  let h:=hi.getD len
  match mx with
  |none=>if adV l h&&adV h cap then ah6 (.own t e (off+l) (h-l) (cap-l) ex) else ah7
  |some m=>if adV l h&&adV h m&&adV m cap then ah6 (.own t e (off+l) (h-l) (m-l) ah8) else ah7
 |_=>ah7
def jO:Nat->List Row->List Row->List Row
 |_,[],rows=>rows
 |i,w::r,rows=>jO (i+1) r (rows.set i w)
def gQ (aD:bY) (fz:List Nat) (esz:Nat) (x y:PV):Option mh:=
 match rowsOf aD esz y with
 |none=>ah7
 |some new=>
  match new with
  | []=>match x with
   | .sl _ pf rows=>if pf&&rows.isEmpty then ah6 {v:= .own (ah5 aD) esz 0 0 0 ah9,news:=[.arr esz []],rd:=gP y} else ah6 {v:=x,rd:=gP y}
   | .own t _ _ len cap ex=>if IR len 0&&IR cap 0&&ex then ah6 {v:= .own (ah5 aD) esz 0 0 0 ah9,news:=[.arr esz []],rd:=t::gP y} else ah6 {v:=x,rd:=gP y}
   |_=>ah7
  |_=>
   let m:=ah5 new
   match x with
   | .sl e pf rows=>
    if pf&&(IR e esz||IR (ah5 rows) 0)&&adV (ah5 rows+m) jU then
     ah6 {v:= .own (ah5 aD) esz 0 (ah5 rows+m) (ah5 rows+m) ah9,news:=[.arr esz (rows++new)],rd:=gP y}
    else ah7
   | .own t e off len cap ex=>
    match aD[t]? with
    |some (.arr _ rows)=>
     if !Nat.beq e esz then ah7
     else if adV (len+m) cap then
      if has fz t then ah7 else ah6 {v:= .own t e off (len+m) cap ex,wr:=[(t,.arr e (jO (off+len) new rows))],rd:=gP y}
     else if !Nat.ble (len+m) jU then ah7
     else if ex then
      ah6 {v:= .own (ah5 aD) e 0 (len+m) (len+m) ah9,news:=[.arr e ((rows.drop off).take len++new)],rd:=t::gP y}
     else if has fz t then ah7
     else ah6 {v:= .own (ah5 aD) e 0 (len+m) (len+m) ah9,news:=[.arr e ((rows.drop off).take len++new)],wr:=[(t,.dead)],rd:=gP y}
    |_=>ah7
   |_=>ah7
def Y7 (isMax:Bool) (k:IntKind):Int->List PV->Option PV
 |a,[]=>ah6 (.int k a)
 |a,x::r=>match x with
  | .int l b=>if eE k l then Y7 isMax k (if isMax then (if b>a then b else a) else (if b<a then b else a)) r else ah7
  |_=>ah7
def Ct (e:Env) (l:List eI):List PV:=l.map (eI.ev e)
def qV (aD:bY) (n:Option Nat) (zero:PV) (ok:Bool) (m k:PV):Option mh:=
 match m with
 | .mp t=>match aD[t]? with
  |some (.map es)=>if iC n k then (match eD n k es 0 with
   |some (ah6 i)=>match es[i]? with
    |some p=>ah6 {v:=if ok then .cj [p.2,.bool ah8] else p.2,rd:=[t]}
    |none=>ah7
   |some ah7=>ah6 {v:=if ok then .cj [zero,.bool ah9] else zero,rd:=[t]}
   |none=>ah7) else ah7
  |_=>ah7
 |_=>ah7
def Bp (aD:bY) (fz:List Nat) (n:Option Nat) (m k v:PV):Option mh:=
 match m with
 | .mp t=>match aD[t]? with
  |some (.map es)=>if iC n k&&!has fz t then (match k.bZ,v.bZ with
   |some _,ah6 _=>match eD n k es 0 with
    |some (ah6 i)=>ah6 {v:= .undef,wr:=[(t,.map (es.set i (k,v)))]}
    |some ah7=>ah6 {v:= .undef,wr:=[(t,.map (es++[(k,v)]))]}
    |none=>ah7
   |_,_=>ah7) else ah7
  |_=>ah7
 |_=>ah7
def bq (e:Env) (aD:bY) (fz:List Nat):jL->Option mh
 | .Oi x=>ah6 {v:=x.ev e}
 | .pick c a b=>match c.ev e with
  | .bool ah8=>ah6 {v:=a.ev e}
  | .bool ah9=>ah6 {v:=b.ev e}
  |_=>ah7
 | .bin op x y=>(MV op (x.ev e) (y.ev e)).map fun v=>{v}
 | .Hc neg x y=>match x.ev e,y.ev e with
  | .bool a,.bool b=>ah6 {v:= .bool (if neg then !(a==b) else a==b)}
  |_,_=>ah7
 | .Yb n neg x y=>match x.ev e,y.ev e with
  | .agg xs,.agg ys=>if IR (ah5 xs) n&&IR (ah5 ys) n then (dc xs ys).map fun b=>{v:= .bool (if neg then !b else b)} else ah7
  |_,_=>ah7
 | .un op x=>(unE op (x.ev e)).map fun v=>{v}
 | .conv k x=>match x.ev e with
  | .int _ n=>ah6 {v:= .int k (ai k n)}
  |_=>ah7
 | .len x=>match x.ev e with
  | .sl _ _ rows=>ah6 {v:= .int .i64 (.ofNat (ah5 rows))}
  | .own _ _ _ len _ _=>ah6 {v:= .int .i64 (.ofNat len)}
  |_=>ah7
 | .JI n=>ah6 {v:= .int .i64 (.ofNat n)}
 | .box x=>match (x.ev e).stored with
  |some cs=>ah6 {v:= .ptr (ah5 aD) (ah5 cs) 0 0,news:=[.box cs]}
  |none=>ah7
 | .alloc cells=>ah6 {v:= .ptr (ah5 aD) (ah5 cells) 0 0,news:=[.box cells]}
 | .build zero parts=>(lG (parts.map fun p=>(p.1,p.2.1,p.2.2.ev e)) zero).map fun cs=>{v:= .agg cs}
 | .zf esz n zero parts=>(oF (parts.map fun p=>(p.1,p.2.ev e)) (ae7 n zero) esz).map fun rows=>
  {v:= .own (ah5 aD) esz 0 n n ah8,news:=[.arr esz rows]}
 | .Bm x y=>if (x.ev e).oE&&(y.ev e).oE then ah6 {v:= .own (ah5 aD) 1 0 2 2 ah8,news:=[.box [x.ev e,y.ev e]]} else ah7
 | .load agg p=>nh aD agg (p.ev e)
 | .store sz p v=>qi aD fz sz (v.ev e) (p.ev e)
 | .Hd x=>match x.ev e with
  | .ptr t s r o=>ah6 {v:= .ptr t s r o}
  | .bw c o=>ah6 {v:= .bw c o}
  | .ef f a b=>ah6 {v:= .ef f a b}
  |_=>ah7
 | .He off p=>match p.ev e with
  | .ptr t s r o=>ah6 {v:= .ptr t s r (o+off)}
  | .bw c o=>ah6 {v:= .bw c (o+off)}
  |_=>ah7
 | .jT agg off x=>match x.ev e with
  | .agg cs=>(part agg off cs).map fun v=>{v}
  |_=>ah7
 | .Hf esz x i=>match ja (i.ev e) with
  |none=>ah7
  |some n=>match x.ev e with
   | .sl s _ rows=>match rows[n]? with
    |some cs=>if IR s esz then ah6 {v:= .bw cs 0} else ah7
    |none=>ah7
   | .own t s off len _ _=>if aeC n len&&IR s esz then ah6 {v:= .ptr t s (off+n) 0} else ah7
   |_=>ah7
 | .Bn n esz p i=>match ja (i.ev e) with
  |none=>ah7
  |some j=>if aeC j n then (match p.ev e with
   | .ptr t s r o=>ah6 {v:= .ptr t s r (o+j*esz)}
   | .bw c o=>ah6 {v:= .bw c (o+j*esz)}
   |_=>ah7) else ah7
 | .idx n esz agg x i=>match ja (i.ev e) with
  |none=>ah7
  |some j=>if aeC j n then (match x.ev e with
   | .agg cs=>(part agg (j*esz) cs).map fun v=>{v}
   |_=>ah7) else ah7
 | .Hg x i=>match ja (i.ev e),x.ev e with
  |some j,.str s=>match s[j]? with
   |some b=>ah6 {v:= .int .u8 b.toNat}
   |none=>ah7
  |_,_=>ah7
 | .MT esz x lo hi mx=>
  if !sG esz (x.ev e) then ah7 else
  match (match lo with|none=>ah6 ah7|some a=>(ja (a.ev e)).map ah6),
   (match hi with|none=>ah6 ah7|some a=>(ja (a.ev e)).map ah6),
   (match mx with|none=>ah6 ah7|some a=>(ja (a.ev e)).map ah6) with
  |some l,ah6 h,ah6 m=>(ph (x.ev e) l h m).map fun v=>{v}
  |_,_,_=>ah7
 | .Yc esz zero l c=>match ja (l.ev e),ja (c.ev e) with
  |some n,ah6 m=>if adV n m&&adV m jU then
   ah6 {v:= .own (ah5 aD) esz 0 n m ah8,news:=[.arr esz (ae7 m zero)]} else ah7
  |_,_=>ah7
 | .Yd fn a b=>ah6 {v:= .ef fn (Ct e a) (Ct e b)}
 | .Ye _=>ah6 {v:= .mp (ah5 aD),news:=[.map []]}
 | .lookup n zero ok m k=>qV aD n zero ok (m.ev e) (k.ev e)
 | .FT n m k v=>Bp aD fz n (m.ev e) (k.ev e) (v.ev e)
 | .ext i x=>match x.ev e with
  | .cj vs=>vs[i]?.map fun v=>{v}
  |_=>ah7
 | .append esz x y=>gQ aD fz esz (x.ev e) (y.ev e)
 | .copy esz x y=>match rowsOf aD esz (y.ev e),x.ev e with
  |some src,.own t s off len _ _=>match src.take len with
   | []=>ah6 {v:= .int .i64 0,rd:=gP (y.ev e)}
   |r::rs=>match aD[t]? with
    |some (.arr s' rows)=>
     if IR s esz&&!has fz t then
      ah6 {v:= .int .i64 (.ofNat (ah5 rs+1)),wr:=[(t,.arr s' (jO off (r::rs) rows))],rd:=gP (y.ev e)}
     else ah7
    |_=>ah7
  |_,_=>ah7
 | .clear esz zero x=>match x.ev e with
  | .own t s off len _ _=>match len with
   |0=>ah6 {v:= .undef}
   |len+1=>match aD[t]? with
    |some (.arr s' rows)=>
     if IR s esz&&!has fz t then
      ah6 {v:= .undef,wr:=[(t,.arr s' (jO off (ae7 (len+1) zero) rows))]}
     else ah7
    |_=>ah7
  | .sl _ _ []=>ah6 {v:= .undef}
  |_=>ah7
 | .mm isMax x xs=>match x.ev e with
  | .int k a=>(Y7 isMax k a (Ct e xs)).map fun v=>{v}
  |_=>ah7
 | .call .. =>ah7
 | .uS .. =>ah7
 | .bad=>ah7
mutual
def Ar (aD:bY) (bx:Nat->Option (List PV)):PV->Option PV
 | .undef=>ah7
 | .iB=>ah7
 | .int k n=>ah6 (.int k n)
 | .bool b=>ah6 (.bool b)
 | .str s=>ah6 (.str s)
 | .agg cs=>(As aD bx cs).map .agg
 | .cj cs=>(As aD bx cs).map .cj
 | .sl e _ rows=>ah6 (.sl e ah9 rows)
 | .own t e off len _ _=>match aD[t]? with
  |some (.arr _ rows)=>ah6 (.sl e ah9 ((rows.drop off).take len))
  |_=>ah7
 | .ptr t _ row off=>match aD[t]? with
  |some (.box _)=>if IR row 0 then (bx t).map (.bw · off) else ah7
  |some (.arr _ rows)=>rows[row]?.map (.bw · off)
  |_=>ah7
 | .bw cs off=>(As aD bx cs).map (.bw · off)
 | .mp _=>ah7
 | .ef f a b=>match As aD bx a,As aD bx b with
  |some a',ah6 b'=>ah6 (.ef f a' b')
  |_,_=>ah7
 | .dw=>ah6 .dw
def As (aD:bY) (bx:Nat->Option (List PV)):List PV->Option (List PV)
 | []=>ah6 []
 |x::xs=>match Ar aD bx x,As aD bx xs with
  |some y,ah6 ys=>ah6 (y::ys)
  |_,_=>ah7
end
def vw (aD:bY):Nat->Nat->Option (List PV)
 |0,_=>ah7
 |n+1,t=>match aD[t]? with
  |some (.box cs)=>As aD (vw aD n) cs
  |_=>ah7
mutual
def hG (bx:Nat->List Nat):PV->List Nat
 | .agg cs=>dd bx cs
 | .cj cs=>dd bx cs
 | .own t _ _ _ _ _=>[t]
 | .ptr t _ _ _=>t::bx t
 | .bw cs _=>dd bx cs
 | .mp t=>[t]
 | .ef _ a b=>dd bx a++dd bx b
 | .undef| .iB| .int _ _| .bool _| .str _| .sl .. | .dw=>[]
def dd (bx:Nat->List Nat):List PV->List Nat
 | []=>[]
 |x::xs=>hG bx x++dd bx xs
end
def qO (_:Nat):List Nat:=[]
def cP (aD:bY):Nat->Nat->List Nat
 |0,_=>[]
 |n+1,t=>match aD[t]? with
  |some (.box cs)=>dd (cP aD n) cs
  |_=>[]
mutual
def PV.jx:PV->Bool
 | .int _ _| .bool _| .str _=>ah8
 | .agg cs=>tC cs
 | .cj cs=>tC cs
 |_=>ah9
def tC:List PV->Bool
 | []=>ah8
 |x::xs=>x.jx&&tC xs
end
mutual
def wT (aD:bY):PV->Option PV
 | .int k n=>ah6 (.int k n)
 | .bool b=>ah6 (.bool b)
 | .str s=>ah6 (.str s)
 | .agg cs=>(FU aD cs).map .agg
 | .cj cs=>(FU aD cs).map .cj
 | .sl e _ rows=>ah6 (.sl e ah9 rows)
 | .own t e off len _ _=>match aD[t]? with
  |some (.arr _ rows)=>ah6 (.sl e ah9 ((rows.drop off).take len))
  |_=>ah7
 |_=>ah7
def FU (aD:bY):List PV->Option (List PV)
 | []=>ah6 []
 |x::xs=>match wT aD x,FU aD xs with
  |some y,ah6 ys=>ah6 (y::ys)
  |_,_=>ah7
end
mutual
def xK (aD:bY) (fz:List Nat):Nat->List Nat->PV->Option (PV×bY×List Nat)
 |_,seen,.int k n=>ah6 (.int k n,[],seen)
 |_,seen,.bool b=>ah6 (.bool b,[],seen)
 |nx,seen,.agg cs=>(FV aD fz nx seen cs).map fun r=>(.agg r.1,r.2)
 |nx,seen,.cj cs=>(FV aD fz nx seen cs).map fun r=>(.cj r.1,r.2)
 |nx,seen,.sl e ah8 []=>ah6 (.own nx e 0 0 0 ah9,[.arr e []],seen)
 |nx,seen,.own t e off len cap _=>match aD[t]? with
  |some (.arr e' rows)=>if has seen t||has fz t then ah7 else ah6 (.own nx e off len cap ah9,[.arr e' rows],t::seen)
  |_=>ah7
 |_,_,_=>ah7
def FV (aD:bY) (fz:List Nat):Nat->List Nat->List PV->Option (List PV×bY×List Nat)
 |_,seen,[]=>ah6 ([],[],seen)
 |nx,seen,x::xs=>match xK aD fz nx seen x with
  |some (y,n1,aeN)=>match FV aD fz (nx+ah5 n1) aeN xs with
   |some (ys,n2,aeO)=>ah6 (y::ys,n1++n2,aeO)
   |none=>ah7
  |none=>ah7
end
def pH:iZ->List Nat
 | .box cs=>dd qO cs
 |_=>[]
def reach (aD:bY):Nat->List Nat->List Nat->Option (List Nat)
 |_,[],seen=>ah6 seen
 |0,_::_,_=>ah7
 |n+1,t::ts,seen=>
  if has seen t then reach aD n ts seen
  else match aD[t]? with
   |some b=>reach aD n (pH b++ts) (seen++[t])
   |none=>ah7
def oG (t:Nat):List Nat->Option Nat
 | []=>ah7
 |s::r=>if IR s t then ah6 0 else (oG t r).map (· +1)
mutual
def zg (m:List Nat):PV->Option PV
 | .agg cs=>(xD m cs).map .agg
 | .cj cs=>(xD m cs).map .cj
 | .own t e off len cap ex=>(oG t m).map fun u=> .own u e off len cap ex
 | .ptr t e row off=>(oG t m).map fun u=> .ptr u e row off
 | .bw cs off=>(xD m cs).map (.bw · off)
 | .mp t=>(oG t m).map .mp
 | .ef f a b=>match xD m a,xD m b with
  |some a',ah6 b'=>ah6 (.ef f a' b')
  |_,_=>ah7
 | .undef=>ah6 .undef
 | .iB=>ah6 .iB
 | .int k n=>ah6 (.int k n)
 | .bool b=>ah6 (.bool b)
 | .str s=>ah6 (.str s)
 | .sl e c rows=>ah6 (.sl e c rows)
 | .dw=>ah6 .dw
def xD (m:List Nat):List PV->Option (List PV)
 | []=>ah6 []
 |x::xs=>match zg m x,xD m xs with
  |some y,ah6 ys=>ah6 (y::ys)
  |_,_=>ah7
end
def mi (m:List Nat):iZ->Option iZ
 | .box cs=>(xD m cs).map .box
 | .arr e rows=>ah6 (.arr e rows)
 | .map es=>ah6 (.map es)
 | .dead=>ah6 .dead
def vz (aD:bY) (m:List Nat):List Nat->Option bY
 | []=>ah6 []
 |t::ts=>match aD[t]? with
  |some b=>match mi m b,vz aD m ts with
   |some b',ah6 r=>ah6 (b'::r)
   |_,_=>ah7
  |none=>ah7
def vA (fz:List Nat):Nat->List Nat->List Nat
 |_,[]=>[]
 |i,t::ts=>if has fz t then i::vA fz (i+1) ts else vA fz (i+1) ts
def ES:Option Nat->PV->PV
 |some _,.own t e off len cap _=> .own t e off len cap ah9
 |_,v=>v
def pI (e:Env) (m:List Nat):Nat->List (Nat×Option Nat)->Option (Env×bY)
 |_,[]=>ah6 ([],[])
 |nx,(s,k)::r=>
  match k,lk s e with
  |some esz,.sl _ ah8 []=>(pI e m (nx+1) r).map fun p=>((s,.own nx esz 0 0 0 ah9)::p.1,.arr esz []::p.2)
  |_,v=>match zg m v,pI e m nx r with
   |some v',ah6 p=>ah6 ((s,ES k v')::p.1,p.2)
   |_,_=>ah7
def sH:Nat->List Nat
 |0=>[]
 |n+1=>sH n++[n]
def pJ (st:St) (t c esz:Nat):St:=
 match st.aD[t]? with
 |some (.box cs)=>match cs[c]? with
  |some (.sl _ ah8 [])=>{st with aD:=st.aD.set t (.box (cs.set c (.own (ah5 st.aD) esz 0 0 0 ah9)))++[.arr esz []]}
  |_=>st
 |_=>st
def Cu:PV->Option Nat
 | .ptr t _ 0 0=>ah6 t
 |_=>ah7
def Hh:PV->Option Nat
 | .ef _ _ (x::_)=>Cu x
 |x=>Cu x
def jy:List (Nat×Option Nat)->St->St
 | [],st=>st
 |(s,k)::r,st=>match k with
  |some n=>if adV 1000 n then (match Hh (lk s st.env) with
   |some t=>jy r (pJ st t (n / 1000-1) (n%1000))
   |none=>jy r st) else jy r st
  |none=>jy r st
def Cv (live:List (Nat×Option Nat)) (st:St):Option St:=
 match reach st.aD 4096 ((st.aD.take st.kn).flatMap pH++live.flatMap fun p=>hG qO (lk p.1 st.env)) (sH st.kn) with
 |none=>ah7
 |some m=>match vz st.aD m m,pI st.env m (ah5 m) live with
  |some s1,ah6 (e1,s2)=>ah6 (jy live {env:=e1,aD:=s1++s2,fz:=vA st.fz 0 m,kn:=st.kn})
  |_,_=>ah7
def norm (live:List (Nat×Option Nat)) (st:St):Option St:=
 match Cv live st with
 |some s=>if live.any fun p=>p.2.isSome then Cv live s else ah6 s
 |none=>ah7
inductive Task where
 |func (f:FuncId) (args:List PV) (aD:bY) (fz:List Nat)
 |loop (live:List (Nat×Option Nat)) (b:ij) (st:St)
inductive Out where
 |func (v:PV) (aD:bY) (fz:List Nat)
 |code (e:gb) (st:St)
structure Tr where
 rd:List Nat
 wr:List Nat
 al:Bool
 Hi:Bool
 cl:Bool
 lo:Nat
 hi:Nat
inductive XR where
 |loc (r:mh)
 |shr (v:PV) (aD:bY) (fz:List Nat)
def fw:List (Nat×iZ)->bY->bY
 | [],s=>s
 |(t,b)::r,s=>fw r (s.set t b)
def Cw:PV->Bool
 | .ptr .. =>ah8
 | .own .. =>ah8
 | .mp _=>ah8
 |_=>ah9
def deep:Nat:=8
def cW (F:kW) (rec:Task->Option Out) (own:Bool) (f:FuncId) (args:List PV) (aD:bY) (fz:List Nat):Option mh:=
 match As aD (vw aD deep) args with
 |none=>ah7
 |some lH=>
  let tk:=dd (cP aD deep) args
  match F f with
  |some (.jf Lu p)=>match p lH with
   |some (v,news)=>match xK news [] (ah5 aD) [] v with
    |some (v',n2,_)=>
     if Lu then match args with
      | .own t _ _ _ _ _::r=>
       let tr:=dd (cP aD deep) r
       if has fz t||has tr t then ah7
       else ah6 {v:=v',news:=n2,wr:=[(t,.dead)],rd:=tr}
      |_=>ah7
     else ah6 {v:=v',news:=n2,rd:=tk}
    |none=>ah7
   |none=>ah7
  |_=>match rec (.func f lH [] []) with
   |some (.func v s1 z1)=>
    if own then match xK s1 z1 (ah5 aD) [] v with
     |some (v',n2,_)=>ah6 {v:=v',news:=n2,rd:=tk}
     |none=>ah7
    else if v.jx then ah6 {v,rd:=tk}
    else match wT s1 v with
     |some v'=>ah6 {v:=v',rd:=tk,fr:=tk}
     |none=>ah7
   |_=>ah7
def iZ.bC:iZ->Bool
 | .dead=>ah9
 | .arr _ []=>ah9
 |_=>ah8
def ni:List Nat->List Nat
 | []=>[]
 |t::r=>if has r t then ni r else t::ni r
mutual
def Au (g:Nat->Nat):PV->PV
 | .agg cs=> .agg (uT g cs)
 | .cj cs=> .cj (uT g cs)
 | .own t e off len cap ex=> .own (g t) e off len cap ex
 | .ptr t e row off=> .ptr (g t) e row off
 | .bw cs off=> .bw (uT g cs) off
 | .mp t=> .mp (g t)
 | .ef f a b=> .ef f (uT g a) (uT g b)
 | .undef=> .undef
 | .iB=> .iB
 | .int k n=> .int k n
 | .bool b=> .bool b
 | .str s=> .str s
 | .sl e c rows=> .sl e c rows
 | .dw=> .dw
def uT (g:Nat->Nat):List PV->List PV
 | []=>[]
 |x::xs=>Au g x::uT g xs
end
def xL (g:Nat->Nat):iZ->iZ
 | .box cs=> .box (uT g cs)
 |b=>b
def zh (g:Nat->Nat):bY->bY
 | []=>[]
 |b::r=>xL g b::zh g r
def jg (tk:List Nat) (n u:Nat):Nat:=
 match tk[u]? with
 |some t=>t
 |none=>n+(u-(ah5 tk))
def nk (g:Nat->Nat):List Nat->bY->List (Nat×iZ)
 |t::r,b::s=>(t,xL g b)::nk g r s
 |_,_=>[]
def tD:bY->bY->Bool
 | [],_=>ah8
 |b::r,c::q=>(match b.bC,c.bC with|true,ah8=>ah8|false,ah9=>ah8|_,_=>ah9)&&tD r q
 |_::_,[]=>ah9
def RC (args:List PV) (aD:bY) (fz:List Nat) (tk:List Nat):Option (List PV×bY):=
 if tk.all fun t=>!has fz t then
  match xD tk args,vz aD tk tk with
  |some a,ah6 s=>ah6 (a,s)
  |_,_=>ah7
 else ah7
def gu (k:Nat) (v:PV) (s:bY):Bool:=(hG qO v++(s.take k).flatMap pH).all fun t=>aeC t k
def Cx (tk:List Nat) (n:Nat) (s0:bY) (v:PV) (s:bY):Option mh:=
 if tD s0 s then ah6 {v:=Au (jg tk n) v,news:=if gu (ah5 tk) v s then [] else zh (jg tk n) (s.drop (ah5 tk)),wr:=nk (jg tk n) tk s} else ah7
def rQ (rec:Task->Option Out) (f:FuncId) (args:List PV) (aD:bY) (fz:List Nat):Option mh:=
 match RC args aD fz (ni (dd (cP aD deep) args)) with
 |none=>ah7
 |some (a,s0)=>match rec (.func f a s0 []) with
  |some (.func v s [])=>Cx (ni (dd (cP aD deep) args)) (ah5 aD) s0 v s
  |_=>ah7
def fj (rec:Task->Option Out) (f:FuncId) (args:List PV) (aD:bY) (fz:List Nat):Option XR:=
 match rec (.func f args aD fz) with
 |some (.func v s z)=>if adV (ah5 aD) (ah5 s)&&fz.all (has z) then ah6 (.shr v s z) else ah7
 |_=>ah7
def uU (F:kW) (rec:Task->Option Out) (e:Env) (aD:bY) (fz:List Nat):jL->Option XR
 | .call m f args=>match m with
  | .Rp=>(cW F rec ah9 f (Ct e args) aD fz).map .loc
  | .own=>(cW F rec ah8 f (Ct e args) aD fz).map .loc
  | .shr=>fj rec f (Ct e args) aD fz
  | .fp=>(rQ rec f (Ct e args) aD fz).map .loc
 | .uS x args=>match x.ev e with
  | .ef f a b=>
   if (Ct e args++b).any Cw then fj rec f (a++Ct e args++b) aD fz
   else (cW F rec ah9 f (a++Ct e args++b) aD fz).map .loc
  |_=>ah7
 |op=>(bq e aD fz op).map .loc
def gK (d:Option Nat) (v:PV) (e:Env):Env:=
 match d with
 |some t=>(t,v)::e
 |none=>e
def Hj (s:bY):List iZ->bY
 | []=>s
 |b::r=>s++b::r
theorem pK (s:bY) (l:List iZ):Hj s l=s++l:=by
 cases l
 · exact (List.append_nil s).symm
 rfl
def XR.next (d:Option Nat) (st:St):XR->St
 | .loc r=>{env:=gK d r.v st.env,aD:=Hj (fw r.wr st.aD) r.news,fz:=r.fr++st.fz,kn:=st.kn}
 | .shr v s z=>{env:=gK d v st.env,aD:=s,fz:=z,kn:=st.kn}
def XR.tr (nx:Nat):XR->Tr
 | .loc r=>⟨r.rd++r.fr,r.wr.map (·.1),!r.news.isEmpty,ah9,(r.rd++r.fr).all (aeC · nx)&&r.wr.all (fun p=>aeC p.1 nx),nx,nx+ah5 r.news⟩
 | .shr .. =>⟨[],[],ah8,ah8,ah8,0,0⟩
def tF:List (Nat×iZ)->Bool
 | []=>ah8
 |p::r=>(r.all fun q=>!Nat.beq q.1 p.1)&&tF r
def XR.ok (fz:List Nat):XR->Bool
 | .loc r=>(r.wr.all fun p=>!has fz p.1)&&tF r.wr
 | .shr .. =>ah8
def Tr.idle:Tr:=⟨[],[],ah9,ah9,ah8,0,0⟩
def wanted (g:Option (Nat×Bool)) (e:Env):Option Bool:=
 match g with
 |none=>ah6 ah8
 |some (s,want)=>match lk s e with
  | .bool b=>ah6 (b==want)
  | .iB=>ah6 ah9
  |_=>ah7
def kX (F:kW) (rec:Task->Option Out):List bI->St->List Tr->Option (St×List Tr)
 | [],st,tr=>ah6 (st,tr)
 |o::r,st,tr=>
  match wanted o.guard st.env with
  |some ah8=>match uU F rec st.env st.aD st.fz o.op with
   |some x=>if x.ok st.fz then kX F rec r (x.next o.dst st) (x.tr (ah5 st.aD)::tr) else ah7
   |none=>ah7
  |some ah9=>kX F rec r {st with env:=gK o.dst .iB st.env} (Tr.idle::tr)
  |none=>ah7
def meets (a b:List Nat):Bool:=a.any (has b)
def Tr.fZ (a:Tr):Bool:=!a.rd.isEmpty||!a.wr.isEmpty||a.al||a.Hi
def Tr.sI (a b:Tr):Bool:=
 (a.Hi&&b.fZ)||(b.Hi&&a.fZ)||meets a.wr b.rd||meets a.wr b.wr||meets a.rd b.wr||
  b.wr.any fun t=>adV a.lo t&&aeC t a.hi
def Av (rows:List Row):Bool:=rows.all fun r=>IR (ah5 r) 1&&r.all PV.plain
def Y8 (args:List PV) (aD:bY) (fz:List Nat):Option (PV×bY×List Nat):=
 match args with
 | [.own t e off len _ _]=>match aD[t]? with
  |some (.box [.sl e1 _ x,.sl e2 _ y])=>if IR e 1&&IR off 0&&IR len 2&&!has fz t&&Av x&&Av y&&adV 1 (ah5 x+ah5 y)&&adV (ah5 x+ah5 y) jU&&(IR e1 1||x.isEmpty)&&(IR e2 1||y.isEmpty) then
   ah6 (.own (ah5 aD) 1 0 (x++y).length (x++y).length ah9,aD.set t .dead++[.arr 1 (x++y)],fz)
   else ah7
  |_=>ah7
 |_=>ah7
def FW (i:Nat) (a:Tr):List (Tr×Nat)->Bool
 | []=>ah8
 |(b,bf)::r=>(!a.sI b||bf.testBit i)&&FW i a r
def pL:Nat->List (Tr×Nat)->Bool
 |_,[]=>ah8
 |i,(a,_)::r=>a.cl&&FW i a r&&pL (i+1) r
def jW (F:kW) (rec:Task->Option Out) (draw:Option (List Nat)) (ops:List bI) (fh:List Nat) (st:St):Option St:=
 match kX F rec ops st [] with
 |none=>ah7
 |some (jG,tr)=>
  let tz:St:={jG with env:=fh.map fun s=>(s,lk s jG.env)}
  match draw with
  |none=>ah6 tz
  |some bf=>if pL 0 (tr.reverse.zip bf) then ah6 tz else ah7
def qP (F:kW) (rec:Task->Option Out):ij->St->Option (gb×St)
 | .skip,st=>ah6 (.normal,st)
 | .region d ops fh,st=>(jW F rec d ops fh st).map fun s=>(.normal,s)
 | .seq a b,st=>match qP F rec a st with
  |some (.normal,jG)=>qP F rec b jG
  |r=>r
 | .cond c a b,st=>match c.ev st.env with
  | .bool ah8=>qP F rec a st
  | .bool ah9=>qP F rec b st
  |_=>ah7
 | .block id b,st=>match qP F rec b st with
  |some (.exit j,jG)=>if IR j id then ah6 (.normal,jG) else ah6 (.exit j,jG)
  |r=>r
 | .loop live b,st=>match rec (.loop live b st) with
  |some (.code e jG)=>ah6 (e,jG)
  |_=>ah7
 | .exit id,st=>ah6 (.exit id,st)
 | .ret,st=>ah6 (.ret,st)
def Cy (st:St):RV->Option PV
 | .tmp t=>ah6 (lk t st.env)
 | .cell t agg=>(nh st.aD agg (lk t st.env)).map (·.v)
def mj (st:St):List RV->Option (List PV)
 | []=>ah6 []
 |r::rs=>match Cy st r,mj st rs with
  |some v,ah6 vs=>ah6 (v::vs)
  |_,_=>ah7
def results1:List PV->PV
 | [v]=>v
 |vs=> .cj vs
def sJ:Nat->List PV->Env
 |_,[]=>[]
 |i,v::r=>(i,v)::sJ (i+1) r
def step (F:kW) (rec:Task->Option Out):Task->Option Out
 | .func f args aD fz=>match F f with
  |some (.code x)=>
   if IR (ah5 args) x.Bo then
    match qP F rec x.code {env:=sJ 0 args,aD,fz,kn:=ah5 aD} with
    |some (.normal,st)=>(mj st x.res).map fun vs=> .func (results1 vs) st.aD st.fz
    |some (.ret,st)=>(mj st x.res).map fun vs=> .func (results1 vs) st.aD st.fz
    |_=>ah7
   else ah7
  |some (.MU p)=>(p args aD fz).map fun r=> .func r.1 r.2.1 r.2.2
  |_=>ah7
 | .loop live b st=>match norm live st with
  |none=>ah7
  |some mn=>match qP F rec b mn with
   |some (.normal,tz)=>rec (.loop live b tz)
   |some (e,tz)=>ah6 (.code e tz)
   |none=>ah7
def eJ (esz:Nat):List PV->Option (PV×bY)
 | [.sl e _ rows]=>match rows with
  | []=>ah6 (.own 1 esz 0 0 0 ah9,[.arr esz [],.arr esz []])
  |r::rs=>if IR e esz&&adV (ah5 rs+1) jU then ah6 (.own 1 esz 0 (0+(ah5 rs+1)) (0+(ah5 rs+1)) ah9,[.arr esz [],.arr esz (r::rs)]) else ah7
 |_=>ah7
def Oy (esz:Nat) (args:List PV) (aD:bY) (fz:List Nat):Option (PV×bY×List Nat):=
 match args with
 | [.own t e off len _ _,.int .i64 i,.own u e2 aeP Hk _ _]=>
  match aD[t]?,aD[u]? with
  |some (.arr _ rows),ah6 (.arr _ new)=>
   if IR e esz&&IR e2 esz&&IR off 0&&IR aeP 0&&IR len (ah5 rows)&&IR Hk 1&&IR (ah5 new) 1&&!Nat.beq t u&&!has fz t&&ahd (0<=i)&&adV i.toNat len&&adV (len+1) jU then
    ah6 (.own (ah5 aD) esz 0 (len+1) (len+1) ah9,aD.set t .dead++[.arr esz (rows.take i.toNat++new++rows.drop i.toNat)],fz)
   else ah7
  |_,_=>ah7
 |_=>ah7
def yf:List PV->Option (PV×bY)
 | [.int .u64 (.ofNat a),.int .u64 (.ofNat b),.int .u64 (.ofNat c)]=>
  if adV c 1 then
   let s:=a+b+c
   ah6 (.cj [.int .u64 (.ofNat (s%18446744073709551616)),.int .u64 (.ofNat (s / 18446744073709551616))],[])
  else ah7
 |_=>ah7
noncomputable def run (F:kW) (n:Nat):Task->Option Out:=Nat.rec (fun _=>ah7) (fun _ ih=>step F ih) n
end Go.Vm
/- Rules for the logical machine: what more fuel keeps, and a calculus of its runs. -/
namespace Go.Vm
def Le (r s:Task->Option Out):Prop:= ∀t o,r t=ah6 o->s t=ah6 o
structure Yg (F G:kW) (r:Task->Option Out):Prop where
 yes: ∀f e,F f=ah6 e->G f=ah6 e
 no: ∀f,F f=ah7->G f=ah7\/ ∀a,r (.func f a [] [])=ah7
theorem Yg.refl (F:kW) (r:Task->Option Out):Yg F F r:=⟨fun _ _ h=>h,fun _ h=> .inl h⟩
theorem rR {F G:kW} {r s:Task->Option Out} (g:Yg F G r) (h:Le r s) {own:Bool} {f:FuncId} {args:List PV} {aD:bY} {fz:List Nat} {x:mh}
 (hx:cW F r own f args aD fz=ah6 x):cW G s own f args aD fz=ah6 x:=by
 cases ha:As aD (vw aD deep) args with
 |none=>simp [cW,ha] at hx
 |some a=>
  simp only [cW,ha] at hx ⊢;cases hp:F f with
  |none=>
   rw [hp] at hx;dsimp only at hx;cases hr:r (.func f a [] []) with
   |none=>rw [hr] at hx;cases hx
   |some o=>
    rw [hr] at hx;rcases g.no f hp with hq|hq
    · rw [hq];dsimp only;rw [h _ _ hr];exact hx
    rw [hq a] at hr;cases hr
  |some en=>
   rw [hp] at hx;rw [g.yes f _ hp];cases en with
   |jf k p=>exact hx
   |code x=>
    dsimp only at hx ⊢;cases hr:r (.func f a [] []) with
    |none=>rw [hr] at hx;cases hx
    |some o=>rw [hr] at hx;rw [h _ _ hr];exact hx
   |MU x=>
    dsimp only at hx ⊢;cases hr:r (.func f a [] []) with
    |none=>rw [hr] at hx;cases hx
    |some o=>rw [hr] at hx;rw [h _ _ hr];exact hx
theorem uV {r s:Task->Option Out} (h:Le r s) {f:FuncId} {args:List PV} {aD:bY} {fz:List Nat} {x:XR}
 (hx:fj r f args aD fz=ah6 x):fj s f args aD fz=ah6 x:=by
 unfold fj at hx ⊢;cases hr:r (.func f args aD fz) with
 |none=>rw [hr] at hx;cases hx
 |some o=>rw [hr] at hx;rw [h _ _ hr];exact hx
theorem Hl {r s:Task->Option Out} (h:Le r s) {f:FuncId} {args:List PV} {aD:bY} {fz:List Nat} {x:mh}
 (hx:rQ r f args aD fz=ah6 x):rQ s f args aD fz=ah6 x:=by
 unfold rQ at hx ⊢;cases hl:RC args aD fz (ni (dd (cP aD deep) args)) with
 |none=>rw [hl] at hx;cases hx
 |some p=>
  rw [hl] at hx;dsimp only at hx ⊢;cases hr:r (.func f p.1 p.2 []) with
  |none=>rw [hr] at hx;cases hx
  |some o=>rw [hr] at hx;rw [h _ _ hr];exact hx
theorem Hm {F G:kW} {r s:Task->Option Out} (g:Yg F G r) (h:Le r s) {e:Env} {aD:bY} {fz:List Nat} {op:jL} {x:XR}
 (hx:uU F r e aD fz op=ah6 x):uU G s e aD fz op=ah6 x:=by
 cases op with
 |call m f args=>
  cases m with
  |Rp=>simp only [uU,AC] at hx ⊢;obtain ⟨a,ha,rfl⟩:=hx;exact ⟨a,rR g h ha,rfl⟩
  |own=>simp only [uU,AC] at hx ⊢;obtain ⟨a,ha,rfl⟩:=hx;exact ⟨a,rR g h ha,rfl⟩
  |shr=>exact uV h hx
  |fp=>simp only [uU,AC] at hx ⊢;obtain ⟨a,ha,rfl⟩:=hx;exact ⟨a,Hl h ha,rfl⟩
 |uS c args=>
  simp only [uU] at hx ⊢;split at hx
  · split at hx
    · rename_i hc;simp only [hc,if_true];exact uV h hx
    rename_i hc
    rw [ut hc];rw [AC] at hx ⊢;obtain ⟨a,ha,rfl⟩:=hx;exact ⟨a,rR g h ha,rfl⟩
  cases hx
 |_=>exact hx
theorem Cz {F G:kW} {r s:Task->Option Out} (g:Yg F G r) (h:Le r s) (ops:List bI):
 ∀(st:St) (tr:List Tr) (x:St×List Tr),kX F r ops st tr=ah6 x->kX G s ops st tr=ah6 x:=by
 induction ops with
 |nil=>intro st tr x hx;exact hx
 |cons o l ih=>
  intro st tr x hx;simp only [kX] at hx ⊢;cases hw:wanted o.guard st.env with
  |none=>rw [hw] at hx;cases hx
  |some b=>
   rw [hw] at hx;cases b with
   |false=>exact ih _ _ _ hx
   |true=>
    dsimp only at hx ⊢;cases hy:uU F r st.env st.aD st.fz o.op with
    |none=>rw [hy] at hx;cases hx
    |some y=>
     rw [hy] at hx;rw [Hm g h hy];dsimp only at hx ⊢;split at hx
     · rename_i yg;rw [rc yg];exact ih _ _ _ hx
     cases hx
theorem EA {F G:kW} {r s:Task->Option Out} (g:Yg F G r) (h:Le r s) {d:Option (List Nat)} {ops:List bI} {fh:List Nat} {st jG:St}
 (hx:jW F r d ops fh st=ah6 jG):jW G s d ops fh st=ah6 jG:=by
 unfold jW at hx ⊢;cases hy:kX F r ops st [] with
 |none=>rw [hy] at hx;cases hx
 |some y=>rw [hy] at hx;rw [Cz g h _ _ _ _ hy];exact hx
theorem oH {F G:kW} {r s:Task->Option Out} (g:Yg F G r) (h:Le r s) (c:ij):
 ∀(st:St) (x:gb×St),qP F r c st=ah6 x->qP G s c st=ah6 x:=by
 induction c with
 |skip=>intro st x hx;exact hx
 |region d ops fh=>intro st x hx;simp only [qP,AC] at hx ⊢;obtain ⟨a,ha,rfl⟩:=hx;exact ⟨a,EA g h ha,rfl⟩
 |seq a b Yh RD=>
  intro st x hx;simp only [qP] at hx ⊢;cases hy:qP F r a st with
  |none=>rw [hy] at hx;cases hx
  |some y=>
   rw [hy] at hx;rw [Yh _ _ hy];obtain ⟨e,mn⟩:=y;cases e with
   |normal=>exact RD _ _ hx
   |exit i=>exact hx
   |ret=>exact hx
 |cond c a b Yh RD=>
  intro st x hx;simp only [qP] at hx ⊢;split at hx
  · exact Yh _ _ hx
  · exact RD _ _ hx
  cases hx
 |block id b ih=>
  intro st x hx;simp only [qP] at hx ⊢;cases hy:qP F r b st with
  |none=>rw [hy] at hx;cases hx
  |some y=>rw [hy] at hx;rw [ih _ _ hy];exact hx
 |loop live b _=>
  intro st x hx;simp only [qP] at hx ⊢;split at hx
  · rename_i e mn hr;rw [h _ _ hr];exact hx
  cases hx
 |exit id=>intro st x hx;exact hx
 |ret=>intro st x hx;exact hx
theorem MW {F G:kW} {r s:Task->Option Out} (g:Yg F G r) (h:Le r s):Le (step F r) (step G s):=by
 intro t o ho;cases t with
 |func f args aD fz=>
  simp only [step] at ho ⊢;split at ho
  · rename_i x hx
    rw [g.yes f _ hx];dsimp only;split at ho
    · rename_i hl
      simp only [hl,if_true];split at ho
      · rename_i mn hc;rw [oH g h _ _ _ hc];exact ho
      · rename_i mn hc;rw [oH g h _ _ _ hc];exact ho
      cases ho
    cases ho
  · rename_i p hx
    rw [g.yes f _ hx];exact ho
  cases ho
 |loop live b st=>
  simp only [step] at ho ⊢;split at ho
  · cases ho
  rename_i mn hn
  split at ho
  · rename_i tz hc;rw [oH g h _ _ _ hc];exact h _ _ ho
  · rename_i e tz dZ hc
    rw [oH g h _ _ _ hc];cases e with
    |normal=>exact absurd rfl (dZ ·)
    |exit i=>exact ho
    |ret=>exact ho
  cases ho
theorem jX (F:kW) (n:Nat):run F (n+1)=step F (run F n):=rfl
theorem Y9 (F:kW) (n:Nat):Le (run F n) (run F (n+1)):=by
 induction n with
 |zero=>intro t o h;cases h
 |succ n ih=>exact MW (.refl _ _) ih
theorem oI (F:kW) {n m:Nat} (h:n<=m):Le (run F n) (run F m):=by
 induction h with
 |refl=>intro t o h;exact h
 |step _ ih=>intro t o h;exact Y9 F _ _ _ (ih _ _ h)
def Fin (F:kW) (t:Task) (Q:Out->Prop):Prop:= ∃n o,run F n t=ah6 o/\Q o
def WP (F:kW) (c:ij) (st:St) (Q:gb->St->Prop):Prop:= ∃n e s,qP F (run F n) c st=ah6 (e,s)/\Q e s
def WO (F:kW) (ops:List bI) (st:St) (tr:List Tr) (Q:St->List Tr->Prop):Prop:=
 ∃n s t,kX F (run F n) ops st tr=ah6 (s,t)/\Q s t
variable {F : kW}
theorem Fin.mono {t:Task} {Q R:Out->Prop} (h:Fin F t Q) (hr: ∀o,Q o->R o):Fin F t R:=
 let ⟨n,o,e,q⟩:=h;⟨n,o,e,hr _ q⟩
theorem WP.mono {c:ij} {st:St} {Q R:gb->St->Prop} (h:WP F c st Q) (hr: ∀e s,Q e s->R e s):WP F c st R:=
 let ⟨n,e,s,x,q⟩:=h;⟨n,e,s,x,hr _ _ q⟩
theorem WP.skip {st:St} {Q:gb->St->Prop} (h:Q .normal st):WP F .skip st Q:=⟨0,_,_,rfl,h⟩
theorem WP.ret {st:St} {Q:gb->St->Prop} (h:Q .ret st):WP F .ret st Q:=⟨0,_,_,rfl,h⟩
theorem WP.exit {id:Nat} {st:St} {Q:gb->St->Prop} (h:Q (.exit id) st):WP F (.exit id) st Q:=⟨0,_,_,rfl,h⟩
def andThen (k:St->Prop) (Q:gb->St->Prop):gb->St->Prop
 | .normal,s=>k s
 |e,s=>Q e s
theorem WP.seq {a b:ij} {st:St} {Q:gb->St->Prop} (h:WP F a st (andThen (fun s=>WP F b s Q) Q)):WP F (.seq a b) st Q:=by
 obtain ⟨n,e,s,he,hq⟩:=h;cases e with
 |normal=>obtain ⟨m,e',s',Am,Oj⟩:=hq;refine ⟨max n m,e',s',?_,Oj⟩;simp only [qP];rw [oH (.refl _ _) (oI F (afd n m)) _ _ _ he];exact oH (.refl _ _) (oI F (aeQ n m)) _ _ _ Am
 |exit i=>exact ⟨n,_,s,by simp only [qP,he],hq⟩
 |ret=>exact ⟨n,_,s,by simp only [qP,he],hq⟩
theorem WP.Yi {c:eI} {a b:ij} {st:St} {Q:gb->St->Prop} (hc:c.ev st.env= .bool ah8) (h:WP F a st Q):WP F (.cond c a b) st Q:=by obtain ⟨n,e,s,he,hq⟩:=h;exact ⟨n,e,s,by simp only [qP,hc,he],hq⟩
theorem WP.Yj {c:eI} {a b:ij} {st:St} {Q:gb->St->Prop} (hc:c.ev st.env= .bool ah9) (h:WP F b st Q):WP F (.cond c a b) st Q:=by obtain ⟨n,e,s,he,hq⟩:=h;exact ⟨n,e,s,by simp only [qP,hc,he],hq⟩
theorem WP.cond {c:eI} {a b:ij} {st:St} {Q:gb->St->Prop} (t:Bool) (hc:c.ev st.env= .bool t)
 (ha:t=ah8->WP F a st Q) (hb:t=ah9->WP F b st Q):WP F (.cond c a b) st Q:=by
 cases t
 · exact WP.Yj hc (hb rfl)
 exact WP.Yi hc (ha rfl)
def inBlock (id:Nat) (Q:gb->St->Prop):gb->St->Prop
 | .exit j,s=>if j=id then Q .normal s else Q (.exit j) s
 |e,s=>Q e s
theorem WP.block {id:Nat} {b:ij} {st:St} {Q:gb->St->Prop} (h:WP F b st (inBlock id Q)):WP F (.block id b) st Q:=by
 obtain ⟨n,e,s,he,hq⟩:=h;cases e with
 |normal=>exact ⟨n,_,s,by simp only [qP,he],hq⟩
 |ret=>exact ⟨n,_,s,by simp only [qP,he],hq⟩
 |exit j=>
  by_cases hj:j=id
  · subst hj
    have Oj:Q .normal s:=by simpa [inBlock] using hq
    exact ⟨n,.normal,s,by simp [qP,he],Oj⟩
  have Oj:Q (.exit j) s:=by simpa [inBlock,hj] using hq
  exact ⟨n,.exit j,s,by simp [qP,he,hj],Oj⟩
def oJ (fh:List Nat) (s:St):St:={s with env:=fh.map fun t=>(t,lk t s.env)}
theorem WP.region {ops:List bI} {fh:List Nat} {st:St} {Q:gb->St->Prop}
 (h:WO F ops st [] (fun s _=>Q .normal (oJ fh s))):WP F (.region ah7 ops fh) st Q:=by
 obtain ⟨n,s,t,he,hq⟩:=h;exact ⟨n,.normal,_,by simp only [qP,jW,he];rfl,hq⟩
theorem WP.RE {bf:List Nat} {ops:List bI} {fh:List Nat} {st:St} {Q:gb->St->Prop}
 (h:WO F ops st [] (fun s t=>pL 0 (t.reverse.zip bf)=ah8/\Q .normal (oJ fh s))):WP F (.region (ah6 bf) ops fh) st Q:=by
 obtain ⟨n,s,t,he,ho,hq⟩:=h;exact ⟨n,.normal,oJ fh s,by simp [qP,jW,he,ho,oJ],hq⟩
theorem WO.nil {st:St} {tr:List Tr} {Q:St->List Tr->Prop} (h:Q st tr):WO F [] st tr Q:=⟨0,_,_,rfl,h⟩
theorem WO.op {o:bI} {r:List bI} {st:St} {tr:List Tr} {Q:St->List Tr->Prop} (x:mh)
 (hw:wanted o.guard st.env=ah6 ah8) (hx: ∀rec,uU F rec st.env st.aD st.fz o.op=ah6 (.loc x)) (yg:(XR.loc x).ok st.fz=ah8)
 (h:WO F r ((XR.loc x).next o.dst st) ((XR.loc x).tr (ah5 st.aD)::tr) Q):WO F (o::r) st tr Q:=by
 obtain ⟨n,s,t,he,hq⟩:=h;exact ⟨n,s,t,by simp only [kX,hw,hx,yg,if_true,he],hq⟩
theorem WO.skip {o:bI} {r:List bI} {st:St} {tr:List Tr} {Q:St->List Tr->Prop}
 (hw:wanted o.guard st.env=ah6 ah9)
 (h:WO F r {st with env:=gK o.dst .iB st.env} (Tr.idle::tr) Q):WO F (o::r) st tr Q:=by
 obtain ⟨n,s,t,he,hq⟩:=h;exact ⟨n,s,t,by simp only [kX,hw,he],hq⟩
theorem WO.call {o:bI} {r:List bI} {st:St} {tr:List Tr} {Q:St->List Tr->Prop} (x:XR)
 (hw:wanted o.guard st.env=ah6 ah8) (hx: ∃n,uU F (run F n) st.env st.aD st.fz o.op=ah6 x) (yg:x.ok st.fz=ah8)
 (h:WO F r (x.next o.dst st) (x.tr (ah5 st.aD)::tr) Q):WO F (o::r) st tr Q:=by
 obtain ⟨n,s,t,he,hq⟩:=h;obtain ⟨m,hx⟩:=hx;refine ⟨max n m,s,t,?_,hq⟩;simp only [kX,hw];rw [Hm (.refl _ _) (oI F (aeQ n m)) hx];dsimp only;rw [rc yg];exact Cz (.refl _ _) (oI F (afd n m)) _ _ _ _ he
theorem WP.loop {α:Type} {live:List (Nat×Option Nat)} {b:ij} {st:St} {Q:gb->St->Prop} (S:α->St) (I:α->Prop) (μ:α->Nat)
 (x:α) (h0:norm live st=ah6 (S x)) (hI:I x)
 (round: ∀x,I x->WP F b (S x) (andThen (fun s=> ∃y,norm live s=ah6 (S y)/\I y/\μ y<μ x) Q)):WP F (.loop live b) st Q:=by
 have key: ∀k x st,μ x=k->I x->norm live st=ah6 (S x)-> ∃n e s,run F n (.loop live b st)=ah6 (.code e s)/\Q e s:=by
  intro k
  induction k using Nat.strongRecOn with
  |_ k ih=>
   intro x st hk hI h0;obtain ⟨n,e,s,he,hq⟩:=round x hI;cases e with
   |normal=>obtain ⟨y,hy,hIy,dz⟩:=hq;obtain ⟨m,e',s',hr,Oj⟩:=ih (μ y) (hk▸dz) y s rfl hIy hy;refine ⟨max n m+1,e',s',?_,Oj⟩;rw [jX];simp only [step,h0];rw [oH (.refl _ _) (oI F (afd n m)) _ _ _ he];exact oI F (aeQ n m) _ _ hr
   |exit i=>exact ⟨n+1,_,s,by rw [jX];simp only [step,h0,he],hq⟩
   |ret=>exact ⟨n+1,_,s,by rw [jX];simp only [step,h0,he],hq⟩
 obtain ⟨n,e,s,hr,hq⟩:=key _ x st rfl hI h0;exact ⟨n,e,s,by simp only [qP,hr],hq⟩
def FX (x:aL) (R:PV->bY->List Nat->Prop):gb->St->Prop
 | .normal,s=> ∃vs,mj s x.res=ah6 vs/\R (results1 vs) s.aD s.fz
 | .ret,s=> ∃vs,mj s x.res=ah6 vs/\R (results1 vs) s.aD s.fz
 | .exit _,_=>False
def yh (F:kW) (f:FuncId) (args:List PV) (aD:bY) (fz:List Nat) (R:PV->bY->List Nat->Prop):Prop:=
 ∃n v s z,run F n (.func f args aD fz)=ah6 (.func v s z)/\R v s z
theorem yh.of {f:FuncId} {x:aL} {args:List PV} {aD:bY} {fz:List Nat} {R:PV->bY->List Nat->Prop}
 (hf:F f=ah6 (.code x)) (hn:IR (ah5 args) x.Bo=ah8)
 (h:WP F x.code {env:=sJ 0 args,aD,fz,kn:=ah5 aD} (FX x R)):yh F f args aD fz R:=by
 obtain ⟨n,e,s,he,hq⟩:=h;cases e with
 |normal=>obtain ⟨vs,hv,hr⟩:=hq;exact ⟨n+1,_,_,_,by rw [jX];simp only [step,hf,hn,he,hv,if_true];rfl,hr⟩
 |ret=>obtain ⟨vs,hv,hr⟩:=hq;exact ⟨n+1,_,_,_,by rw [jX];simp only [step,hf,hn,he,hv,if_true];rfl,hr⟩
 |exit i=>exact hq.elim
def Pure (F:kW) (f:FuncId) (args:List PV) (v:PV):Prop:=
 (∀k p,F f≠ah6 (.jf k p))/\yh F f args [] [] fun u _ _=>u.jx=ah8/\u=v
def Lv (F:kW) (f:FuncId) (args:List PV) (v:PV):Prop:=
 (∀k p,F f≠ah6 (.jf k p))/\yh F f args [] [] fun u s _=>u.jx=ah9/\wT s u=ah6 v
theorem Pure.of {f:FuncId} {x:aL} {args:List PV} {v:PV}
 (hf:F f=ah6 (.code x)) (hn:IR (ah5 args) x.Bo=ah8)
 (h:WP F x.code {env:=sJ 0 args,aD:=[],fz:=[],kn:=0} (FX x fun u _ _=>u.jx=ah8/\u=v)):
 Pure F f args v:=⟨fun k p e=>by (rw [hf] at e;cases e),yh.of hf hn h⟩
theorem Lv.of {f:FuncId} {x:aL} {args:List PV} {v:PV}
 (hf:F f=ah6 (.code x)) (hn:IR (ah5 args) x.Bo=ah8)
 (h:WP F x.code {env:=sJ 0 args,aD:=[],fz:=[],kn:=0} (FX x fun u s _=>u.jx=ah9/\wT s u=ah6 v)):
 Lv F f args v:=⟨fun k p e=>by (rw [hf] at e;cases e),yh.of hf hn h⟩
theorem Pure.cW {f:FuncId} {as args:List PV} {aD:bY} {fz:List Nat} {v:PV} (h:Pure F f args v)
 (ha:As aD (vw aD deep) as=ah6 args):
 ∃n,Vm.cW F (run F n) ah9 f as aD fz=ah6 {v,rd:=dd (cP aD deep) as}:=by
 obtain ⟨hp,n,u,s,z,hr,h1,h2⟩:=h;subst h2;refine ⟨n,?_⟩;simp only [Vm.cW,ha];cases hf:F f with
 |none=>simp [hr,h1]
 |some en=>
  cases en with
  |jf k p=>exact absurd hf (hp k p)
  |code x=>simp [hr,h1]
  |MU x=>simp [hr,h1]
theorem Lv.cW {f:FuncId} {as args:List PV} {aD:bY} {fz:List Nat} {v:PV} (h:Lv F f args v)
 (ha:As aD (vw aD deep) as=ah6 args):
 ∃n,Vm.cW F (run F n) ah9 f as aD fz=ah6 {v,rd:=dd (cP aD deep) as,fr:=dd (cP aD deep) as}:=by
 obtain ⟨hp,n,u,s,z,hr,h1,h2⟩:=h;refine ⟨n,?_⟩;simp only [Vm.cW,ha];cases hf:F f with
 |none=>simp [hr,h1,h2]
 |some en=>
  cases en with
  |jf k p=>exact absurd hf (hp k p)
  |code x=>simp [hr,h1,h2]
  |MU x=>simp [hr,h1,h2]
theorem WO.pure {d:Option Nat} {g:Option (Nat×Bool)} {f:FuncId} {as:List eI} {r:List bI} {st:St} {tr:List Tr} {Q:St->List Tr->Prop}
 {args:List PV} {v:PV} (h:Pure F f args v)
 (hw:wanted g st.env=ah6 ah8) (ha:As st.aD (vw st.aD deep) (Ct st.env as)=ah6 args)
 (k:WO F r ((XR.loc {v,rd:=dd (cP st.aD deep) (Ct st.env as)}).next d st) ((XR.loc {v,rd:=dd (cP st.aD deep) (Ct st.env as)}).tr (ah5 st.aD)::tr) Q):
 WO F (⟨d,.call .Rp f as,g⟩::r) st tr Q:=by
 obtain ⟨n,hn⟩:=h.cW (fz:=st.fz) ha;exact WO.call _ hw ⟨n,by simp only [uU,hn];rfl⟩ rfl k
end Go.Vm
/- The look at an operation of the model: is the logical machine's operation its own? -/
namespace Go.Vm
mutual
def rT:PV->Value->Bool
 | .int k n,.int l m=>eE k l&&n==m
 | .bool a,.bool b=>a==b
 | .sl _ _ [],.slice ah7 0 0=>ah8
 | .agg cs,.agg vs=>CA cs vs.toList
 | .dw,.nilFunc=>ah8
 | .str s,.string t=>s.data.toList==t.data.toList
 | .undef,_=>ah8
 |_,_=>ah9
def CA:List PV->List Value->Bool
 | [],[]=>ah8
 |x::xs,v::vs=>rT x v&&CA xs vs
 |_,_=>ah9
end
def bn:eI->Operand->Bool
 | .t n,.tmp m=>n==m
 | .c v,.const u=>rT v u
 | .c (.ef f [] []),.func g=>f==g
 | .c .undef,_=>ah8
 |_,_=>ah9
def ec:List eI->List Operand->Bool
 | [],[]=>ah8
 |x::xs,o::os=>bn x o&&ec xs os
 |_,_=>ah9
def FY:Option eI->Option Operand->Bool
 |none,ah7=>ah8
 |some x,ah6 o=>bn x o
 |_,_=>ah9
section
variable (P : Program)
def f' (t:TypeId):Bool:=
 match P.underlying t with
 |some (.struct _)|some (.array _ _)=>ah8
 |_=>ah9
def na (t:TypeId) (n:Nat):Bool:=(P.info? t).any fun i=>i.size==n
def B9 (t:TypeId):Bool:=(P.info? t).any fun i=>adV i.bytes 1048576
def zi (t:TypeId) (agg:Option Nat):Bool:=
 (P.underlying t).isSome&&match agg with
 |some n=>f' P t&&na P t n
 |none=>!f' P t&&na P t 1
def wU (t:TypeId) (esz:Nat):Bool:=
 match P.underlying t with
 |some (.slice e)=>na P e esz
 |_=>ah9
def qj (t:TypeId):Bool:=
 match P.underlying t with
 |some (.slice _)=>ah8
 |_=>ah9
def Lw (t:TypeId) (n esz:Nat):Bool:=
 match P.underlying t with
 |some (.array m e)=>m==n&&na P e esz
 |_=>ah9
def rU (t:TypeId) (cells:List PV):Bool:=
 match (P.info? t).bind (·.zero) with
 |some v=>CA cells v.cells.toList
 |none=>ah9
def flat:Nat->TypeId->Option Nat
 |0,_=>ah7
 |d+1,t=>
  match P.underlying t with
  |some (.int _)=>if na P t 1 then ah6 1 else ah7
  |some (.struct fs)=>
   if P.stoodInHeld t then ah7 else
   match fs.toList.foldl (fun r f=>match r with
    |some n=>if f.offset==n&&f.name != "_" then (match flat d f.type with
     |some m=>if na P f.type m then ah6 (n+m) else ah7
     |none=>ah7) else ah7
    |none=>ah7) (ah6 0) with
   |some n=>if na P t n then ah6 n else ah7
   |none=>ah7
  |_=>ah7
def sK (place:Nat->Option (Nat×Nat)):List (Nat×Nat×eI)->List (Nat×Operand)->Bool
 | [],[]=>ah8
 |(off,sz,x)::r,(i,o)::s=>(match place i with|some (a,b)=>a==off&&b==sz|none=>ah9)&&bn x o&&sK place r s
 |_,_=>ah9
def lI:List (Nat×eI)->List (Nat×Operand)->Bool
 | [],[]=>ah8
 |(i,x)::r,(j,o)::s=>i==j&&bn x o&&lI r s
 |_,_=>ah9
def placeOf (t:TypeId):Nat->Option (Nat×Nat):=
 match P.underlying t with
 |some (.struct fs)=>fun i=>(fs[i]?).bind fun f=>(P.info? f.type).map fun j=>(f.offset,j.size)
 |some (.array _ e)=>fun i=>(P.info? e).map fun j=>(i*j.size,j.size)
 |_=>fun _=>ah7
def vB (t:TypeId) (n:Option Nat):Bool:=
 match n with
 |none=>(match P.underlying t with|some (.int _)=>ah8|_=>ah9)
 |some n=>f' P t&&flat P 100 t==ah6 n
def RF (f:FuncId):Bool:=(P.funcs[f]?).any fun fn=>fn.body.isSome&&!(fn.name== "runtime.NumGoroutine")
def uW (prims:FuncId->Bool) (ty:TypeId):jL->Op->Bool
 | .Oi x,.move o=>bn x o
 | .Oi x,.assign o=>bn x o
 | .pick c a b,.pick d e f=>bn c d&&bn a e&&bn b f
 | .bin op x y,.binOp op' _ a b _=>op==op'&&bn x a&&bn y b
 | .Hc neg x y,.binOp op t a b _=>(if neg then op== .neq else op== .eql)&&P.underlying t matches ah6 .bool&&bn x a&&bn y b
 | .Yb n neg x y,.binOp op t a b _=>(if neg then op== .neq else op== .eql)&&f' P t&&flat P 100 t==ah6 n&&!P.eqGuardType P.depth t&&bn x a&&bn y b
 | .un op x,.unOp op' _ a=>op==op'&&bn x a
 | .conv k x,.convert s d a=>(P.underlying s).isSome&&(match P.underlying d with|some (.int l)=>eE k l|_=>ah9)&&bn x a
 | .len x,.call {callee:= .builtin .len,args,argTypes}=>(match argTypes[0]? with|some t=>qj P t|none=>ah9)&&ec [x] args.toList
 | .JI n,.call {callee:= .builtin .len,args,argTypes}=>!args.isEmpty&&(match argTypes[0]? with
  |some t=>(match P.underlying t with
   |some (.array m _)=>m==n
   |some (.pointer e)=>(match P.underlying e with|some (.array m _)=>m==n|_=>ah9)
   |_=>ah9)
  |none=>ah9)
 | .box x,.box _ a=>bn x a
 | .alloc cells,.alloc t=>rU P t cells
 | .build zero parts,.build t ps=>rU P t zero&&f' P t&&sK (placeOf P t) parts ps.toList
  &&(match P.underlying t with|some (.struct fs)=>fs.all fun f=>(P.info? f.type).isSome|some (.array _ e)=>(P.info? e).isSome|_=>ah9)
 | .zf esz n zero parts,.buildSlice t m ps=>n==m&&(match P.underlying t with|some (.slice e)=>na P e esz&&rU P e zero&&(ah5 zero)==esz&&!(esz==0)|_=>ah9)&&adV (n*esz) 1048576&&zero.all PV.plain&&lI parts ps.toList
 | .load agg p,.load t a=>zi P t agg&&bn p a
 | .store sz p v,.store t a b=>na P t sz&&bn p a&&bn v b
 | .Hd x,.nilCheck a=>bn x a
 | .He off p,.fieldAddr t a f=>(match P.underlying t with
  |some (.struct fs)=>(match fs[f]? with|some g=>g.offset==off&&(P.info? g.type).any fun i=>!(i.size==0)|none=>ah9)
  |_=>ah9)&&bn p a
 | .jT agg off x,.field t a f=>(match P.underlying t with
  |some (.struct fs)=>(match fs[f]? with|some g=>g.offset==off&&zi P g.type agg|none=>ah9)
  |_=>ah9)&&bn x a
 | .Hf esz x i,.indexAddr t a j=>wU P t esz&&bn x a&&bn i j
 | .Bn n esz p i,.indexAddr t a j=>Lw P t n esz&&bn p a&&bn i j
 | .idx n esz agg x i,.index t a j=>(match P.underlying t with|some (.array m e)=>m==n&&na P e esz&&zi P e agg|_=>ah9)&&bn x a&&bn i j
 | .Hg x i,.index t a j=>P.underlying t matches ah6 .string&&bn x a&&bn i j
 | .MT esz x l h m,.slice t a b c d=>(m.isNone||h.isSome)&&wU P t esz&&bn x a&&FY l b&&FY h c&&FY m d
 | .Yc esz zero l c,.makeSlice t a b=>(match P.underlying t with|some (.slice e)=>na P e esz&&rU P e zero&&(ah5 zero)==esz&&B9 P e&&!(esz==0)|_=>ah9)&&zero.all PV.plain&&bn l a&&bn c b
 | .Yd fn a b,.makeFunc (.func g) c d=>fn==g&&ec a c.toList&&ec b d.toList
 | .Ye _,.makeMap _ ah7=>ah8
 | .ext i x,.extract a j=>i==j&&bn x a
 | .append esz x y,.call {callee:= .builtin .append,args,argTypes}=>(match argTypes.toList with
  | [t,u]=>(match P.underlying t with|some (.slice e)=>na P e esz&&B9 P e&&!(esz==0)&&(P.info? e).any (fun i=>i.zero.any fun z=>z.cells.size==esz)|_=>ah9)&&qj P u
  |_=>ah9)&&ec [x,y] args.toList
 | .lookup n zero ok m k,.lookup t a b ok'=>ok==ok'&&(match P.underlying t with|some (.map kt et)=>vB P kt n&&(match (P.info? et).bind (·.zero) with|some v=>rT zero v|none=>ah9)|_=>ah9)&&bn m a&&bn k b
 | .FT n m k v,.mapUpdate t a b c=>(match P.underlying t with|some (.map kt _)=>vB P kt n|_=>ah9)&&bn m a&&bn k b&&bn v c
 | .copy esz x y,.call {callee:= .builtin .copy,args,argTypes}=>(match argTypes.toList with| [t,u]=>wU P t esz&&qj P u|_=>ah9)&&ec [x,y] args.toList
 | .clear esz zero x,.call {callee:= .builtin .clear,args,argTypes}=>(match argTypes.toList with
  | [t]=>(match P.underlying t with|some (.slice e)=>na P e esz&&rU P e zero&&(ah5 zero)==esz&&zero.all PV.plain|_=>ah9)
  |_=>ah9)&&ec [x] args.toList
 | .mm isMax x xs,.call {callee:= .builtin b,args,argTypes:=_}=>(if isMax then b== .max else b== .min)&&ec (x::xs) args.toList
 | .call _ f args,.call {callee:= .value (.func g),args:=as,argTypes:=_}=>f==g&&(prims f||RF P f)&&ec args as.toList
 | .uS x args,.call {callee:= .value (.tmp t),args:=as,argTypes:=_}=>bn x (.tmp t)&&ec args as.toList
 | .Bm x y,.buildSlice t m ps=>m==2&&(match P.underlying t with|some (.slice e)=>na P e 1&&(P.info? e).any (fun i=>i.zero.any fun z=>z.cells.size==1)|_=>ah9)&&(match ps.toList with| [(i,a),(j,b)]=>i==0&&j==1&&bn x a&&bn y b|_=>ah9)
 | .FT n m k v,.insert t a b c=>(match P.underlying t with|some (.map kt _)=>vB P kt n|_=>ah9)&&bn m a&&bn k b&&bn v c
 | .bad,_=>ah8
 |_,_=>ty==0&&ah9
end
end Go.Vm
/- What a pure value says of a value of the model, a block of the call's own of the memory. -/
namespace Go.Vm
structure Tape (w w':World):Prop where
 eq:w'.tape=w.tape
 dr:w.drawn<=w'.drawn
theorem Tape.refl (w:World):Tape w w:=⟨rfl,If _⟩
theorem Tape.trans {a b c:World} (h2:Tape b c) (h1:Tape a b):Tape a c:=⟨h2.eq.trans h1.eq,Nat.le_trans h1.dr h2.dr⟩
theorem Tape.same {w w':World} (h:w'.tape=w.tape) (k:w'.drawn=w.drawn):Tape w w':=⟨h,by rw [k];exact If _⟩
structure LI where
 cS:Nat
 sh:Nat
 esz:Nat
 n:Nat
 sz:Nat
abbrev Im:=Nat->Option Obj
abbrev Loc:=Nat->Option LI
def mq (im:Im) (b o:Nat):Option Value:=
 match im b with
 |some (.cells c _ _)=>c[o]?
 |_=>ah7
def iD:PV->Option Value
 | .int k n=>ah6 (.int k n)
 | .bool b=>ah6 (.bool b)
 | .str s=>ah6 (.string s)
 |_=>ah7
def bF (get:Nat->Option Value) (sh esz:Nat) (rows:List Row):Prop:=
 ∀(i:Nat) (r:Row),rows[i]? =ah6 r->ah5 r=esz/\ ∀(j:Nat) (c:PV),r[j]? =ah6 c-> ∃v,iD c=ah6 v/\get (sh+i*esz+j)=ah6 v
mutual
inductive VR (im:Im) (loc:Loc):PV->Value->Prop
 |undef (v:Value):VR im loc .undef v
 |iB:VR im loc .iB Go.undef
 |int (k:IntKind) (n:Int):VR im loc (.int k n) (.int k n)
 |bool (b:Bool):VR im loc (.bool b) (.bool b)
 |str (s:ByteArray):VR im loc (.str s) (.string s)
 |agg (cs:List PV) (vs:List Value) (h:eh im loc cs vs):VR im loc (.agg cs) (.agg ⟨vs⟩)
 |cj (cs:List PV) (vs:List Value) (h:eh im loc cs vs):VR im loc (.cj cs) (.tuple ⟨vs⟩)
 |sl (esz:Nat) (pf:Bool) (rows:List Row) (a:Option Addr) (cap:Nat) (hc:(ah5 rows)<=cap) (hk:pf=ah8->cap=ah5 rows)
  (h:rows≠[]-> ∃b o,a=ah6 ⟨b,o,ah7⟩/\bF (mq im b) o esz rows):VR im loc (.sl esz pf rows) (.slice a (ah5 rows) cap)
 |own (t esz off len cap:Nat) (ex:Bool) (li:LI) (a:Option Addr) (cI:Nat) (hl:loc t=ah6 li) (he:li.esz=esz) (hn:off+cap<=li.n) (hc:len<=cap)
  (hx:cap<=cI) (hk:ex=ah8->cI=cap)
  (h:cI=0\/(li.n≠0/\a=ah6 ⟨li.cS,li.sh+off*esz,ah7⟩/\li.sh+(off+cI)*esz<=li.sz)):VR im loc (.own t esz off len cap ex) (.slice a len cI)
 |ptr (t esz row off:Nat) (li:LI) (hl:loc t=ah6 li) (he:li.esz=esz) (hn:row<li.n):
  VR im loc (.ptr t esz row off) (.pointer (ah6 ⟨li.cS,li.sh+row*esz+off,ah7⟩))
 |bw (cs:List PV) (off b o:Nat) (vs:List Value) (h:eh im loc cs vs) (hv: ∀(j:Nat) (v:Value),vs[j]? =ah6 v->mq im b (o+j)=ah6 v):
  VR im loc (.bw cs off) (.pointer (ah6 ⟨b,o+off,ah7⟩))
 |mp (t:Nat) (li:LI) (hl:loc t=ah6 li):VR im loc (.mp t) (.map (ah6 li.cS))
 |ef (fn:FuncId) (a b:List PV) (as bs:List Value) (ha:eh im loc a as) (hb:eh im loc b bs):VR im loc (.ef fn a b) (.func (.func fn) ⟨as⟩ ⟨bs⟩)
 |dw:VR im loc .dw .nilFunc
inductive eh (im:Im) (loc:Loc):List PV->List Value->Prop
 |nil:eh im loc [] []
 |cons (x:PV) (v:Value) (xs:List PV) (vs:List Value) (h:VR im loc x v) (hs:eh im loc xs vs):eh im loc (x::xs) (v::vs)
end
def mu (im dJ:Im):Prop:= ∀b o,im b=ah6 o->dJ b=ah6 o
def kQ (loc bc:Loc):Prop:= ∀t li,loc t=ah6 li->bc t=ah6 li
theorem mu.refl (im:Im):mu im im:=fun _ _ h=>h
theorem mu.trans {a b c:Im} (h:mu a b) (k:mu b c):mu a c:=fun x o e=>k x o (h x o e)
theorem kQ.refl (loc:Loc):kQ loc loc:=fun _ _ h=>h
theorem kQ.trans {a b c:Loc} (h:kQ a b) (k:kQ b c):kQ a c:=fun x o e=>k x o (h x o e)
theorem mu.cell {im dJ:Im} (h:mu im dJ) {b o:Nat} {v:Value} (hc:mq im b o=ah6 v):mq dJ b o=ah6 v:=by
 unfold mq at hc ⊢;cases hb:im b with
 |none=>rw [hb] at hc;cases hc
 |some x=>rw [hb] at hc;rw [h b x hb];exact hc
theorem bF.mono {g g':Nat->Option Value} {sh esz:Nat} {rows:List Row} (h:bF g sh esz rows) (hg: ∀k v,g k=ah6 v->g' k=ah6 v):
 bF g' sh esz rows:=by
 intro i r hr;obtain ⟨h1,h2⟩:=h i r hr;exact ⟨h1,fun j c hc=>let ⟨v,hv,hw⟩:=h2 j c hc;⟨v,hv,hg _ _ hw⟩⟩
mutual
theorem VR.mono {im dJ:Im} {loc bc:Loc} (hi:mu im dJ) (hl:kQ loc bc): ∀{x:PV} {v:Value},VR im loc x v->VR dJ bc x v
 |_,_,.undef v=> .undef v
 |_,_,.iB=> .iB
 |_,_,.int k n=> .int k n
 |_,_,.bool b=> .bool b
 |_,_,.str s=> .str s
 |_,_,.agg cs vs h=> .agg cs vs (eh.mono hi hl h)
 |_,_,.cj cs vs h=> .cj cs vs (eh.mono hi hl h)
 |_,_,.sl esz pf rows a cap hc hk h=> .sl esz pf rows a cap hc hk fun dZ=>let ⟨b,o,ha,hr⟩:=h dZ;⟨b,o,ha,hr.mono fun _ _ e=>hi.cell e⟩
 |_,_,.own t esz off len cap ex li a cI h1 h2 h3 h4 h5 h6 h7=> .own t esz off len cap ex li a cI (hl _ _ h1) h2 h3 h4 h5 h6 h7
 |_,_,.ptr t esz row off li h1 h2 h3=> .ptr t esz row off li (hl _ _ h1) h2 h3
 |_,_,.bw cs off b o vs h hv=> .bw cs off b o vs (eh.mono hi hl h) fun j v e=>hi.cell (hv j v e)
 |_,_,.mp t li h=> .mp t li (hl _ _ h)
 |_,_,.ef fn a b as bs ha hb=> .ef fn a b as bs (eh.mono hi hl ha) (eh.mono hi hl hb)
 |_,_,.dw=> .dw
theorem eh.mono {im dJ:Im} {loc bc:Loc} (hi:mu im dJ) (hl:kQ loc bc): ∀{x:List PV} {v:List Value},eh im loc x v->eh dJ bc x v
 |_,_,.nil=> .nil
 |_,_,.cons x v xs vs h hs=> .cons x v xs vs (VR.mono hi hl h) (eh.mono hi hl hs)
end
theorem eh.ly {im:Im} {loc:Loc}: ∀{x:List PV} {v:List Value},eh im loc x v->ah5 x=ah5 v
 |_,_,.nil=>rfl
 |_,_,.cons _ _ _ _ _ hs=>by simp [hs.ly]
theorem eh.get {im:Im} {loc:Loc}: ∀{xs:List PV} {vs:List Value},eh im loc xs vs-> ∀(i:Nat) (x:PV),xs[i]? =ah6 x-> ∃v,vs[i]? =ah6 v/\VR im loc x v
 |_,_,.nil,i,x,h=>by simp at h
 |_,_,.cons y v xs vs h hs,0,x,e=>by simp at e;subst e;exact ⟨v,rfl,h⟩
 |_,_,.cons y v xs vs h hs,i+1,x,e=>by obtain ⟨u,hu,hr⟩:=hs.get i x (by simpa using e);exact ⟨u,by simpa using hu,hr⟩
theorem eh.append {im:Im} {loc:Loc}: ∀{xs:List PV} {vs:List Value},eh im loc xs vs-> ∀{ys:List PV} {us:List Value},eh im loc ys us->eh im loc (xs++ys) (vs++us)
 |_,_,.nil,_,_,k=>k
 |_,_,.cons y v xs vs h hs,_,_,k=> .cons _ _ _ _ h (hs.append k)
theorem eh.take {im:Im} {loc:Loc}: ∀{xs:List PV} {vs:List Value},eh im loc xs vs-> ∀n,eh im loc (xs.take n) (vs.take n)
 |_,_,.nil,n=>by simp;exact .nil
 |_,_,.cons y v xs vs h hs,0=> .nil
 |_,_,.cons y v xs vs h hs,n+1=> .cons _ _ _ _ h (hs.take n)
theorem eh.drop {im:Im} {loc:Loc}: ∀{xs:List PV} {vs:List Value},eh im loc xs vs-> ∀n,eh im loc (xs.drop n) (vs.drop n)
 |_,_,.nil,n=>by simp;exact .nil
 |_,_,.cons y v xs vs h hs,0=> .cons _ _ _ _ h hs
 |_,_,.cons y v xs vs h hs,n+1=>hs.drop n
theorem eh.of {im:Im} {loc:Loc}: ∀(xs:List PV) (vs:List Value),ah5 xs=ah5 vs->(∀(i:Nat) (x:PV) (v:Value),xs[i]? =ah6 x->vs[i]? =ah6 v->VR im loc x v)->eh im loc xs vs
 | [],[],_,_=> .nil
 |x::xs,v::vs,hl,h=> .cons x v xs vs (h 0 x v rfl rfl) (eh.of xs vs (by simpa using hl) fun i a b ha hb=>h (i+1) a b (by simpa using ha) (by simpa using hb))
theorem VR.plain {im:Im} {loc:Loc} {x:PV} {v:Value} (h:VR im loc x v) (hp:x.plain=ah8):iD x=ah6 v:=by cases h<;>first|rfl|cases hp
theorem VR.CB {im:Im} {loc:Loc} {x:PV} {v:Value} (h:iD x=ah6 v):VR im loc x v:=by cases x<;>simp only [iD,v6] at h<;>first|(subst h;constructor)|cases h
theorem VR.cells {im:Im} {loc:Loc} {x:PV} {v:Value} (h:VR im loc x v) (hs: ∀c∈x.cells,c.oE=ah8):eh im loc x.cells v.cells.toList:=by
 have one: ∀{y:PV} {u:Value},VR im loc y u->y.oE=ah8->(∀us,u≠ .agg us):=by intro y u hy ho us e;subst e;cases hy<;>cases ho
 cases h with
 |agg cs vs h=>exact h
 |undef v=>have:=hs .undef (by simp [PV.cells]);cases this
 |iB=>have:=hs .iB (by simp [PV.cells]);cases this
 |cj cs vs h=>have:=hs (.cj cs) (by simp [PV.cells]);cases this
 |int k n=>exact .cons _ _ _ _ (.int k n) .nil
 |bool b=>exact .cons _ _ _ _ (.bool b) .nil
 |str s=>exact .cons _ _ _ _ (.str s) .nil
 |sl esz pf rows a cap hc hk h=>exact .cons _ _ _ _ (.sl esz pf rows a cap hc hk h) .nil
 |own t esz off len cap ex li a cI h1 h2 h3 h4 h5 h6 h7=>exact .cons _ _ _ _ (.own t esz off len cap ex li a cI h1 h2 h3 h4 h5 h6 h7) .nil
 |ptr t esz row off li h1 h2 h3=>exact .cons _ _ _ _ (.ptr t esz row off li h1 h2 h3) .nil
 |bw cs off b o vs h hv=>exact .cons _ _ _ _ (.bw cs off b o vs h hv) .nil
 |mp t li h=>exact .cons _ _ _ _ (.mp t li h) .nil
 |ef fn a b as bs ha hb=>exact .cons _ _ _ _ (.ef fn a b as bs ha hb) .nil
 |dw=>exact .cons _ _ _ _ .dw .nil
theorem VR.FZ {im:Im} {loc:Loc} {x:PV} {v:Value} (h:VR im loc x v) (hs:x.oE=ah8):(∀us,v≠ .agg us)/\ ∀us,v≠ .tuple us:=by cases h<;>first|(simp [PV.oE] at hs;done)|simp
def uX:PV->Option Value
 | .agg cs=>(cs.mapM iD).map fun vs=> .agg ⟨vs⟩
 |x=>iD x
def eK:List (PV×PV)->List MapEntry->Prop
 | [],[]=>True
 |(k,v)::r,e::r'=>uX k=ah6 e.key/\uX v=ah6 e.val/\eK r r'
 |_,_=>False
def BR (im:Im) (loc:Loc) (w:World) (li:LI):iZ->Prop
 | .arr e rows=>li.esz=e/\li.n=ah5 rows/\(rows≠[]-> ∃cs el,w.heap[li.cS]? =ah6 (.cells cs el (0,0))/\cs.size=li.sz/\li.sh+ah5 rows*e<=li.sz/\bF (fun k=>cs[k]?) li.sh e rows)
 | .box cells=>(li.esz=ah5 cells/\li.n=1\/li.esz=1/\li.n=ah5 cells)/\True/\li.sh=0/\ ∃vs el,w.heap[li.cS]? =ah6 (.cells ⟨vs⟩ el (0,0))/\ah5 vs=li.sz/\eh im loc cells vs
 | .map es=> ∃jM clock,w.heap[li.cS]? =ah6 (.map jM clock)/\eK es jM.toList
 | .dead=>True
theorem BR.mono {im dJ:Im} {loc bc:Loc} {w w':World} {li:LI} {k:iZ} (h:BR im loc w li k) (hi:mu im dJ) (hl:kQ loc bc)
 (hw:w'.heap[li.cS]? =w.heap[li.cS]?):BR dJ bc w' li k:=by
 cases k with
 |arr e rows=>exact ⟨h.1,h.2.1,fun dZ=>let ⟨cs,el,h1,h2,h3⟩:=h.2.2 dZ;⟨cs,el,by rw [hw];exact h1,h2,h3⟩⟩
 |box cells=>obtain ⟨h1,h2,h3,vs,el,h4,h5,h6⟩:=h;exact ⟨h1,h2,h3,vs,el,by rw [hw];exact h4,h5,h6.mono hi hl⟩
 |map es=>obtain ⟨en,cl,h1,h2⟩:=h;exact ⟨en,cl,by rw [hw];exact h1,h2⟩
 |dead=>trivial
theorem BR.lt {im:Im} {loc:Loc} {w:World} {li:LI} {k:iZ} (h:BR im loc w li k) (hs:k.bC=ah8):li.cS<w.heap.size:=by
 have get: ∀{o:Obj},w.heap[li.cS]? =ah6 o->li.cS<w.heap.size:=fun e=>by
  rcases adM li.cS w.heap.size with h|h
  · exact h
  simp [af3 h] at e
 cases k with
 |arr e rows=>
  cases rows with
  |nil=>cases hs
  |cons r rs=>obtain ⟨cs,el,h1,_⟩:=h.2.2 (by simp);exact get h1
 |box cells=>obtain ⟨_,_,_,vs,el,h4,_⟩:=h;exact get h4
 |map es=>obtain ⟨en,cl,h1,h2⟩:=h;exact get h1
 |dead=>cases hs
structure SR (im:Im) (loc:Loc) (aD:bY) (fz:List Nat) (w:World):Prop where
 bA: ∀b o,im b=ah6 o->w.heap[b]? =ah6 o
 cS: ∀t li,loc t=ah6 li-> ∃k,aD[t]? =ah6 k/\BR im loc w li k
 gL: ∀t u li lj k k',loc t=ah6 li->loc u=ah6 lj->aD[t]? =ah6 k->aD[u]? =ah6 k'->k.bC=ah8->k'.bC=ah8->li.cS=lj.cS->t=u
 free: ∀t li k,loc t=ah6 li->aD[t]? =ah6 k->k.bC=ah8->has fz t=ah9->im li.cS=ah7
def ER (im:Im) (loc:Loc) (e:Env) (tmps:Array Value):Prop:= ∀t,VR im loc (lk t e) (tmps.getD t Go.undef)
theorem ER.mono {im dJ:Im} {loc bc:Loc} (hi:mu im dJ) (hl:kQ loc bc) {e:Env} {tmps:Array Value} (h:ER im loc e tmps):ER dJ bc e tmps:=
 fun t=>(h t).mono hi hl
theorem pM (t s:Nat) (v:PV) (e:Env):lk t ((s,v)::e)=if s=t then v else lk t e:=by
 simp only [lk]
 by_cases h:s=t<;>simp [h]
theorem ER.put {im:Im} {loc:Loc} {e:Env} {tmps:Array Value} (h:ER im loc e tmps) {d:Nat} {x:PV} {v:Value} (hd:d<tmps.size) (hv:VR im loc x v):
 ER im loc ((d,x)::e) (tmps.setIfInBounds d v):=by
 intro t;rw [pM]
 by_cases hdt:d=t
 · subst hdt
   simpa [hd] using hv
 rw [ut hdt]
 have:=h t;simpa [adZ,hdt] using this
end Go.Vm
/- Renaming the blocks. -/
namespace Go.Vm
theorem wV {t:Nat}: ∀{m:List Nat} {u:Nat},oG t m=ah6 u->m[u]? =ah6 t
 | [],u,h=>by simp [oG] at h
 |s::r,u,h=>by
  simp only [oG] at h;split at h
  · rename_i e
    injection h with h;subst h;have:s=t:=by simpa using e
    simp [this]
  rw [AC] at h
  obtain ⟨v,hv,rfl⟩:=h;simpa using wV hv
section
variable {im : Im} {loc cQ : Loc} {m : List Nat}
def Ren (m:List Nat) (loc cQ:Loc):Prop:= ∀(u t:Nat),m[u]? =ah6 t->cQ u=loc t
mutual
theorem Oz (hm:Ren m loc cQ): ∀{x y:PV} {v:Value},VR im loc x v->zg m x=ah6 y->VR im cQ y v
 | .undef,y,v,h,hr=>by simp only [zg,v6] at hr;subst hr;exact .undef _
 | .iB,y,v,h,hr=>by simp only [zg,v6] at hr;subst hr;cases h;exact .iB
 | .int k n,y,v,h,hr=>by simp only [zg,v6] at hr;subst hr;cases h;exact .int _ _
 | .bool b,y,v,h,hr=>by simp only [zg,v6] at hr;subst hr;cases h;exact .bool _
 | .str b,y,v,h,hr=>by simp only [zg,v6] at hr;subst hr;cases h;exact .str _
 | .dw,y,v,h,hr=>by simp only [zg,v6] at hr;subst hr;cases h;exact .dw
 | .agg cs,y,v,h,hr=>by simp only [zg,AC] at hr;obtain ⟨ET,h1,rfl⟩:=hr;cases h with|agg _ vs h=>exact .agg _ _ (qW hm h h1)
 | .cj cs,y,v,h,hr=>by simp only [zg,AC] at hr;obtain ⟨ET,h1,rfl⟩:=hr;cases h with|cj _ vs h=>exact .cj _ _ (qW hm h h1)
 | .sl e c rows,y,v,h,hr=>by simp only [zg,v6] at hr;subst hr;cases h with|sl _ _ _ a cap h1 h2 h3=>exact .sl _ _ _ a cap h1 h2 h3
 | .own t e off len cap ex,y,v,h,hr=>by simp only [zg,AC] at hr;obtain ⟨u,h1,rfl⟩:=hr;cases h with|own _ _ _ _ _ _ li a cI g1 g2 g3 g4 g5 g6 g7=>exact .own _ _ _ _ _ _ li a cI (by rw [hm u t (wV h1)];exact g1) g2 g3 g4 g5 g6 g7
 | .ptr t e row off,y,v,h,hr=>by simp only [zg,AC] at hr;obtain ⟨u,h1,rfl⟩:=hr;cases h with|ptr _ _ _ _ li g1 g2 g3=>exact .ptr _ _ _ _ li (by rw [hm u t (wV h1)];exact g1) g2 g3
 | .bw cs off,y,v,h,hr=>by simp only [zg,AC] at hr;obtain ⟨ET,h1,rfl⟩:=hr;cases h with|bw _ _ b o vs h hv=>exact .bw _ _ b o vs (qW hm h h1) hv
 | .mp t,y,v,h,hr=>by simp only [zg,AC] at hr;obtain ⟨u,h1,rfl⟩:=hr;cases h with|mp _ li g1=>exact .mp _ li (by rw [hm u t (wV h1)];exact g1)
 | .ef f a b,y,v,h,hr=>by
  simp only [zg] at hr;split at hr
  · rename_i a' b' ha hb
    injection hr with hr;subst hr;cases h with|ef _ _ _ as bs h1 h2=>exact .ef _ _ _ _ _ (qW hm h1 ha) (qW hm h2 hb)
  cases hr
theorem qW (hm:Ren m loc cQ): ∀{x y:List PV} {v:List Value},eh im loc x v->xD m x=ah6 y->eh im cQ y v
 | [],y,v,h,hr=>by simp only [xD,v6] at hr;subst hr;cases h;exact .nil
 |x::xs,y,v,h,hr=>by
  simp only [xD] at hr;split at hr
  · rename_i x' xs' h1 h2
    injection hr with hr;subst hr;cases h with|cons _ u _ us g1 g2=>exact .cons _ _ _ _ (Oz hm g1 h1) (qW hm g2 h2)
  cases hr
end
theorem Bq: ∀{x y:List PV},xD m x=ah6 y->ah5 y=ah5 x
 | [],y,h=>by simp only [xD,v6] at h;subst h;rfl
 |x::xs,y,h=>by
  simp only [xD] at h;split at h
  · rename_i x' xs' h1 h2
    injection h with h;subst h;simp [Bq h2]
  cases h
theorem EU {w:World} {li:LI} {k k':iZ} (hm:Ren m loc cQ) (hr:mi m k=ah6 k') (h:BR im loc w li k):BR im cQ w li k':=by
 cases k with
 |arr e rows=>simp only [mi,v6] at hr;subst hr;exact h
 |map es=>simp only [mi,v6] at hr;subst hr;exact h
 |dead=>simp only [mi,v6] at hr;subst hr;trivial
 |box cs=>simp only [mi,AC] at hr;obtain ⟨ET,h1,rfl⟩:=hr;obtain ⟨g1,g2,g3,vs,el,g4,g5,g6⟩:=h;exact ⟨by rw [Bq h1];exact g1,g2,g3,vs,el,g4,g5,qW hm g6 h1⟩
theorem zj {k k':iZ} (hr:mi m k=ah6 k'):k'.bC=k.bC:=by
 cases k with
 |arr e rows=>simp only [mi,v6] at hr;subst hr;rfl
 |map es=>simp only [mi,v6] at hr;subst hr;rfl
 |dead=>simp only [mi,v6] at hr;subst hr;rfl
 |box cs=>simp only [mi,AC] at hr;obtain ⟨ET,h1,rfl⟩:=hr;rfl
theorem Aw {aD:bY}: ∀{l:List Nat} {s1:bY},vz aD m l=ah6 s1->ah5 s1=ah5 l/\ ∀(u t:Nat),l[u]? =ah6 t-> ∃k k',aD[t]? =ah6 k/\mi m k=ah6 k'/\s1[u]? =ah6 k'
 | [],s1,h=>by simp only [vz,v6] at h;subst h;exact ⟨rfl,fun u t h=>by simp at h⟩
 |t::ts,s1,h=>by
  simp only [vz] at h;split at h
  · rename_i b hb
    split at h
    · rename_i b' r h1 h2
      injection h with h;subst h;obtain ⟨g1,g2⟩:=Aw h2;refine ⟨by simp [g1],fun u t' ht=>?_⟩;cases u with
      |zero=>simp at ht;subst ht;exact ⟨b,b',hb,h1,rfl⟩
      |succ u=>simpa using g2 u t' (by simpa using ht)
    cases h
  cases h
end
end Go.Vm
/- Operation by operation: the model's run gives what the logical machine says. First part: what reads no memory. -/
namespace Go.Vm
theorem ei {k l:IntKind}:eE k l=ah8↔k=l:=by cases k<;>cases l<;>simp [eE]
theorem B' {n:Int} (h1: -9223372036854775808<=n) (h2:n<9223372036854775808):IntKind.wrap .i64 n=n:=by
 simp only [IntKind.wrap,IntKind.bits,IntKind.signed,age];have e1:(2:Int)^64=18446744073709551616:=by decide
 have e2:(2:Int)^(64-1)=9223372036854775808:=by decide
 simp only [e1,e2,decide_eq_true_eq];split<;>omega
theorem qk (k:IntKind) (n:Int):ai k n=k.wrap n:=by
 unfold ai;split
 · rename_i m
   split
   · rename_i h
     have h:m<9223372036854775808:=by simpa using h
     have e:Int.ofNat m=(m:Int):=rfl;exact (B' (by rw [e];omega) (by rw [e];omega)).symm
   rfl
 · rename_i m
   split
   · rename_i h
     have h:m<9223372036854775808:=by simpa using h
     exact (B' (by omega) (by omega)).symm
   rfl
 · rename_i m
   simp only [IntKind.wrap,IntKind.bits,IntKind.signed,Bool.false_and];have e1:(2:Int)^64=18446744073709551616:=by decide
   simp only [e1];rfl
 rfl
section
variable {P : Program} {im : Im} {loc : Loc} {w : World}
theorem VR.fH {k:IntKind} {n:Int} {v:Value} (h:VR im loc (.int k n) v):v= .int k n:=by cases h;rfl
theorem VR.iE {b:Bool} {v:Value} (h:VR im loc (.bool b) v):v= .bool b:=by cases h;rfl
theorem VR.Ca {b:ByteArray} {v:Value} (h:VR im loc (.str b) v):v= .string b:=by cases h;rfl
theorem VR.nZ {cs:List PV} {v:Value} (h:VR im loc (.agg cs) v): ∃vs,v= .agg ⟨vs⟩/\eh im loc cs vs:=by cases h with|agg _ vs h=>exact ⟨vs,rfl,h⟩
theorem VR.zk {cs:List PV} {v:Value} (h:VR im loc (.cj cs) v): ∃vs,v= .tuple ⟨vs⟩/\eh im loc cs vs:=by cases h with|cj _ vs h=>exact ⟨vs,rfl,h⟩
mutual
theorem F0: ∀{x:PV} {v:Value},rT x v=ah8->VR im loc x v
 | .int k n,v,h=>by
  cases v<;>simp only [rT] at h<;>first|cases h|skip
  simp only [v4,beq_iff_eq,ei] at h;obtain ⟨rfl,rfl⟩:=h;exact .int _ _
 | .bool a,v,h=>by
  cases v<;>simp only [rT] at h<;>first|cases h|skip
  rename_i b;have:a=b:=by simpa using h
  subst this;exact .bool _
 | .str a,v,h=>by
  cases v<;>simp only [rT] at h<;>first|cases h|skip
  rename_i b;have h1:a.data.toList=b.data.toList:=by simpa using h
  obtain ⟨⟨x⟩⟩:=a;obtain ⟨⟨y⟩⟩:=b;have h2:x=y:=h1;subst h2;exact .str _
 | .sl e c [],v,h=>by
  cases v with
  |slice a n cap=>
   cases a with
   |none=>
    cases n with
    |zero=>
     cases cap with
     |zero=>exact .sl e c [] ah7 0 (Nat.zero_le _) (fun _=>rfl) (fun dZ=>absurd rfl dZ)
     |succ c=>simp [rT] at h
    |succ n=>simp [rT] at h
   |some a=>simp [rT] at h
  |_=>simp [rT] at h
 | .sl e c (_::_),v,h=>by simp [rT] at h
 | .agg cs,v,h=>by
  cases v<;>simp only [rT] at h<;>first|cases h|skip
  rename_i vs;exact .agg cs vs.toList (vC h)
 | .dw,v,h=>by
  cases v<;>simp only [rT] at h<;>first|cases h|skip
  exact .dw
 | .undef,v,_=> .undef v
 | .iB,v,h=>by simp [rT] at h
 | .cj _,v,h=>by simp [rT] at h
 | .own ..,v,h=>by simp [rT] at h
 | .ptr ..,v,h=>by simp [rT] at h
 | .bw ..,v,h=>by simp [rT] at h
 | .mp _,v,h=>by simp [rT] at h
 | .ef ..,v,h=>by simp [rT] at h
theorem vC: ∀{x:List PV} {v:List Value},CA x v=ah8->eh im loc x v
 | [],[],_=> .nil
 |x::xs,v::vs,h=>by simp only [CA,v4] at h;exact .cons _ _ _ _ (F0 h.1) (vC h.2)
 | [],_::_,h=>by simp [CA] at h
 |_::_,[],h=>by simp [CA] at h
end
theorem RG {op : BinOp} {t : TypeId} {a b : Operand} {x y : PV} {u v : Value} {z : PV} (hx : VR im loc x u) (hy : VR im loc y v) (h : MV op x y = ah6 z) :
    ∃ r, (do eqGuard op t a b u v; binOp op t u v : Sem Value).run P w = .ok r w /\ VR im loc z r := by
  unfold MV at h
  split at h
  · rename_i k a l b
    obtain rfl := hx.fH
    obtain rfl := hy.fH
    have hg : ∀ (k l : IntKind) (a b : Int) (o p : Operand), (eqGuard op t o p (.int k a) (.int l b)).run P w = .ok () w := by
      intros; unfold eqGuard; cases op <;> simp
    split at h
    · simp only [Aq] at h
      split at h
      · cases h
      rename_i hb
      injection h with h; subst h
      refine ⟨_, ?_, .int _ _⟩
      simp only [Do, hg, ww, binOp, Op.shift, hb, if_false]
      rfl
    · simp only [Aq] at h
      split at h
      · cases h
      rename_i hb
      injection h with h; subst h
      refine ⟨_, ?_, .int _ _⟩
      simp only [Do, hg, ww, binOp, Op.shift, hb, if_false]
      rfl
    split at h
    · rename_i anU anV hk
      have := ei.1 hk; subst this
      unfold arith at h
      split at h
      all_goals first
        | (injection h with h; subst h
           first
             | (refine ⟨_, ?_, .int _ _⟩
                simp only [Do, hg, ww, binOp, Op.intArith, Op.intBits, qk, ne_eq, not_true_eq_false, if_false]
                rfl)
             | (refine ⟨_, ?_, .bool _⟩
                simp only [Do, hg, ww, binOp, Op.intCmp, ne_eq, not_true_eq_false, if_false]
                rfl))
        | (split at h
           · cases h
           rename_i hb
           injection h with h; subst h
           refine ⟨_, ?_, .int _ _⟩
           simp only [Do, hg, ww, binOp, Op.intDiv, qk, ne_eq, not_true_eq_false, if_false, hb]
           rfl)
        | cases h
    cases h
  cases h
theorem OA {neg:Bool} {op:BinOp} {t:TypeId} {p q:Operand} {a b:Bool} (ho:op=if neg then .neq else .eql) (ht:P.underlying t=ah6 .bool):
 (do eqGuard op t p q (.bool a) (.bool b);binOp op t (.bool a) (.bool b):Sem Value).run P w= .ok (.bool (if neg then !(a==b) else a==b)) w:=by
 have h1:(Op.equal t (.bool a) (.bool b)).run P w= .ok (a==b) w:=run_equalIn_bool' w 9999 t a b ht;cases neg<;>simp only [adT,if_false,if_true] at ho<;>subst ho<;>simp [eqGuard,binOp,h1]
theorem Y' {op:UnOp} {x z:PV} {u:Value} (hx:VR im loc x u) (h:unE op x=ah6 z): ∃r,(Op.unary op u).run P w= .ok r w/\VR im loc z r:=by
 unfold unE at h;split at h
 · injection h with h;subst h
   obtain rfl:=hx.fH;exact ⟨_,rfl,by rw [qk];exact .int _ _⟩
 · injection h with h;subst h
   obtain rfl:=hx.iE;exact ⟨_,rfl,.bool _⟩
 cases h
theorem OB {s d:TypeId} {k k':IntKind} {n:Int} {ds:TypeDesc} (hs:P.underlying s=ah6 ds) (hd:P.underlying d=ah6 (.int k)):
 (convert s d (.int k' n)).run P w= .ok (.int k (ai k n)) w:=by
 simp only [convert,Do,run_underlying hs,run_underlying hd,ww,qk];cases ds<;>rfl
theorem Ax {t:TypeId} (h:f' P t=ah8):(isAgg t).run P w= .ok ah8 w:=by
 unfold f' at h;split at h
 · rename_i f hu;simp [isAgg,run_underlying hu]
 · rename_i n f hu;simp [isAgg,run_underlying hu]
 cases h
theorem Ay {t:TypeId} (hs:(P.underlying t).isSome=ah8) (h:f' P t=ah9):(isAgg t).run P w= .ok ah9 w:=by
 cases hu:P.underlying t with
 |none=>rw [hu] at hs;cases hs
 |some d=>unfold f' at h;rw [hu] at h;cases d<;>first|(simp [isAgg,run_underlying hu];done)|cases h
theorem jz {t:TypeId} {n:Nat} (h:na P t n=ah8):(sizeOf t).run P w= .ok n w:=by
 unfold na at h;cases hi:P.info? t with
 |none=>rw [hi] at h;cases h
 |some i=>
  rw [hi] at h;have:i.size=n:=by simpa using h
  simp [sizeOf,typeInfo,hi,this]
theorem Hn {agg:Option Nat} {t:TypeId} {off:Nat} {cs:List PV} {vs:List Value} {x:PV} (ha:zi P t agg=ah8) (h:eh im loc cs vs)
 (hp:part agg off cs=ah6 x): ∃v,(Go.part t ⟨vs⟩ off).run P w= .ok v w/\VR im loc x v:=by
 unfold zi at ha;simp only [v4] at ha;obtain ⟨hs,ha⟩:=ha;cases agg with
 |some n=>
  simp only [v4] at ha;simp only [part] at hp;split at hp
  · rename_i kC
    injection hp with hp;subst hp;refine ⟨.agg ⟨(vs.drop off).take n⟩,?_,.agg _ _ ((h.drop off).take n)⟩;simp only [Go.part,Do,Ax ha.1,ww,if_true,jz ha.2,EQ]
    congr 2
    apply ae6;simp [aeJ]
  cases hp
 |none=>
  simp only [v4,ae2] at ha;simp only [part] at hp;obtain ⟨v,hv,hr⟩:=h.get off x hp;refine ⟨v,?_,hr⟩;simp only [Go.part,Do,Ay hs ha.1,ww,adT,if_false];have:(⟨vs⟩:Array Value)[off]? =ah6 v:=by simpa using hv
  simp [this]
theorem tG {agg:Option Nat} {t:TypeId} {b o off:Nat} {cs:List PV} {vs:List Value} {x:PV} (ha:zi P t agg=ah8) (h:eh im loc cs vs)
 (hm: ∀(j:Nat) (v:Value),vs[j]? =ah6 v->w.cell? ⟨b,o+j,ah7⟩=ah6 v)
 (hp:part agg off cs=ah6 x): ∃v,(loadVar t ⟨b,o+off,ah7⟩).run P w= .ok v w/\VR im loc x v:=by
 unfold zi at ha;simp only [v4] at ha;obtain ⟨hs,ha⟩:=ha;have aiu: ∀k j:Nat,(⟨b,k,ah7⟩:Addr).add j=⟨b,k+j,ah7⟩:=by
  intro k j;unfold Addr.add;split
  · rename_i h;subst h;rfl
  rfl
 cases agg with
 |some n=>
  simp only [v4] at ha;simp only [part] at hp;split at hp
  · rename_i kC
    injection hp with hp;subst hp;refine ⟨.agg ⟨(vs.drop off).take n⟩,?_,.agg _ _ ((h.drop off).take n)⟩;have hl:((vs.drop off).take n).length=n:=by have:=h.ly;simp;omega
    have:=run_loadCells_list (P:=P) w ⟨b,o+off,ah7⟩ ((vs.drop off).take n) (by
     intro j v hj;rw [aiu];have hj':j<n:=by
      rcases adM j n with h|h
      · exact h
      rw [NE (by omega)] at hj;cases hj
     rw [aex hj',aeI] at hj;have:=hm _ _ hj
     rwa [show o+(off+j)=o+off+j by omega] at this)
    rw [hl] at this;simp only [loadVar,Do,Ax ha.1,ww,if_true,jz ha.2,this,EQ]
  cases hp
 |none=>simp only [v4,ae2] at ha;simp only [part] at hp;obtain ⟨v,hv,hr⟩:=h.get off x hp;refine ⟨v,?_,hr⟩;simp only [loadVar,Do,Ay hs ha.1,ww,adT,if_false];rw [run_load,hm off v hv]
end
end Go.Vm
/- What an operation does to the memory, and the shapes in which it does it. -/
namespace Go.Vm
structure qX (im:Im) (loc:Loc) (aD:bY) (w:World) (r:mh) (dJ:Im) (bc:Loc) (w':World):Prop where
 fO:mu im dJ
 dy:kQ loc bc
 bA: ∀b o,dJ b=ah6 o->w'.heap[b]? =ah6 o
 dC: ∀b o,dJ b=ah6 o->im b=ah6 o\/w.heap.size<=b\/ ∃t li k,has r.fr t=ah8/\loc t=ah6 li/\aD[t]? =ah6 k/\k.bC=ah8/\li.cS=b
 os:w'.os=w.os
 tape:Tape w w'
 output:w'.output=w.output
 size:w.heap.size<=w'.heap.size
 frame: ∀b,b<w.heap.size->(∀t k li k0,(t,k)∈r.wr->loc t=ah6 li->aD[t]? =ah6 k0->k0.bC=ah8->li.cS≠b)->w'.heap[b]? =w.heap[b]?
 MX: ∀t k,(t,k)∈r.wr->k.bC=ah8-> ∃k0,aD[t]? =ah6 k0/\k0.bC=ah8
 wr: ∀t k li,(t,k)∈r.wr->loc t=ah6 li->BR dJ bc w' li k
 jN: ∀t li,bc t=ah6 li->loc t=ah6 li\/(ah5 aD<=t/\t<ah5 aD+ah5 r.news)
 news: ∀(j:Nat) (k:iZ) (li:LI),r.news[j]? =ah6 k->bc (ah5 aD+j)=ah6 li->BR dJ bc w' li k/\
  (k.bC=ah8->dJ li.cS=ah7/\(w.heap.size<=li.cS\/ ∃t lt k0,(t,iZ.dead)∈r.wr/\loc t=ah6 lt/\aD[t]? =ah6 k0/\k0.bC=ah8/\lt.cS=li.cS))
 distinct: ∀(i j:Nat) (ki kj:iZ) (li lj:LI),r.news[i]? =ah6 ki->r.news[j]? =ah6 kj->ki.bC=ah8->kj.bC=ah8->
  bc (ah5 aD+i)=ah6 li->bc (ah5 aD+j)=ah6 lj->li.cS=lj.cS->i=j
theorem Az {α:Type} {n:Nat} {l:List α} {loc:Loc} {A:LI->α->Prop} (h: ∀(j:Nat) (k:α),l[j]? =ah6 k-> ∃li,loc (n+j)=ah6 li/\A li k):
 ∀(j:Nat) (k:α) (li:LI),l[j]? =ah6 k->loc (n+j)=ah6 li->A li k:=fun j k li hj hl=>by
 obtain ⟨li',h1,h2⟩:=h j k hj;rw [hl] at h1;injection h1 with h1;subst h1;exact h2
structure ik (im:Im) (loc:Loc) (aD:bY) (w:World) (r:mh):Prop where
 bA: ∀b o,im b=ah6 o->w.heap[b]? =ah6 o
 tok: ∀t,t∈r.rd\/(∃k,(t,k)∈r.wr)-> ∀li,loc t=ah6 li-> ∃k,aD[t]? =ah6 k/\BR im loc w li k
 free: ∀t k,(t,k)∈r.wr-> ∀li k',loc t=ah6 li->aD[t]? =ah6 k'->k'.bC=ah8->im li.cS=ah7
 fresh: ∀j,j<ah5 r.news->loc (ah5 aD+j)=ah7
 gL: ∀t u li lj k k',(t∈r.rd\/ ∃b,(t,b)∈r.wr)->(u∈r.rd\/ ∃b,(u,b)∈r.wr)->loc t=ah6 li->loc u=ah6 lj->aD[t]? =ah6 k->aD[u]? =ah6 k'->k.bC=ah8->k'.bC=ah8->li.cS=lj.cS->t=u
section
variable {im : Im} {loc : Loc} {aD : bY} {w : World} {r : mh}
theorem qX.none (hk:ik im loc aD w r) (hn:r.news=[]) (hw:r.wr=[]):qX im loc aD w r im loc w where
 fO:= .refl _
 dy:= .refl _
 bA:=hk.bA
 dC:=fun _ _ h=> .inl h
 os:=rfl
 tape:= .refl _
 output:=rfl
 size:=If _
 frame:=fun _ _ _=>rfl
 MX:=fun t k h=>by rw [hw] at h;cases h
 wr:=fun t k li h=>by rw [hw] at h;cases h
 jN:=fun _ _ h=> .inl h
 news:=fun j k li h=>by rw [hn] at h;simp at h
 distinct:=fun i j ki kj li lj h=>by rw [hn] at h;simp at h
def Loc.set (loc:Loc) (t:Nat) (li:LI):Loc:=fun u=>if u=t then ah6 li else loc u
theorem Loc.eo (loc:Loc) (t:Nat) (li:LI):loc.set t li t=ah6 li:=by simp [Loc.set]
theorem Loc.vD {loc:Loc} {t:Nat} (li:LI) (h:loc t=Option.none):kQ loc (loc.set t li):=by
 intro u l hu;unfold Loc.set;split
 · rename_i e;subst e;rw [h] at hu;cases hu
 exact hu
theorem qX.new (hk:ik im loc aD w r) {k:iZ} {o:Obj} {w':World} (li:LI) (hn:r.news=[k]) (hw:r.wr=[])
 (hh:w'.heap=w.heap.push o) (ho:w'.os=w.os) (ht:w'.tape=w.tape) (hp:w'.output=w.output) (hl:li.cS=w.heap.size)
 (hb:BR im (loc.set (ah5 aD) li) w' li k) (hd:w.drawn<=w'.drawn:=by first|exact If _|exact Nat.le_succ _):qX im loc aD w r im (loc.set (ah5 aD) li) w' where
 fO:= .refl _
 dy:=Loc.vD li (by have:=hk.fresh 0 (by simp [hn]);simpa using this)
 bA:=fun b o h=>by
  have h1:=hk.bA b o h;have dz:b<w.heap.size:=by
   rcases adM b w.heap.size with h|h
   · exact h
   simp [af3 h] at h1
  rw [hh,afo,ut (by omega)];exact h1
 dC:=fun _ _ h=> .inl h
 os:=ho
 tape:=⟨ht,hd⟩
 output:=hp
 size:=by rw [hh];simp
 frame:=fun b wW _=>by rw [hh,afo,ut (by omega)]
 MX:=fun t k h=>by rw [hw] at h;cases h
 wr:=fun t k li h=>by rw [hw] at h;cases h
 jN:=fun t l h=>by
  unfold Loc.set at h;split at h
  · rename_i e;subst e;exact .inr ⟨If _,by simp [hn]⟩
  exact .inl h
 news:=Az fun j k' h=>by
  rw [hn] at h;cases j with
  |zero=>
   simp at h;subst h;refine ⟨li,Loc.eo _ _ _,hb,fun _=>⟨?_,.inl (by omega)⟩⟩;cases hi:im li.cS with
   |none=>rfl
   |some o=>have:=hk.bA _ _ hi;rw [hl] at this;simp at this
  |succ j=>simp at h
 distinct:=fun i j ki kj li lj h1 h2 _ _ _ _ _=>by rw [hn] at h1 h2;cases i<;>cases j<;>simp at h1 h2<;>rfl
theorem qX.OC (hk:ik im loc aD w r) {esz:Nat} (hn:r.news=[.arr esz []]) (hw:r.wr=[]):qX im loc aD w r im (loc.set (ah5 aD) ⟨0,0,esz,0,0⟩) w where
 fO:= .refl _
 dy:=Loc.vD _ (by have:=hk.fresh 0 (by simp [hn]);simpa using this)
 bA:=hk.bA
 dC:=fun _ _ h=> .inl h
 os:=rfl
 tape:= .refl _
 output:=rfl
 size:=If _
 frame:=fun _ _ _=>rfl
 MX:=fun t k h=>by rw [hw] at h;cases h
 wr:=fun t k li h=>by rw [hw] at h;cases h
 jN:=fun t l h=>by
  unfold Loc.set at h;split at h
  · rename_i e;subst e;exact .inr ⟨If _,by simp [hn]⟩
  exact .inl h
 news:=Az fun j k' h=>by
  rw [hn] at h;cases j with
  |zero=>simp at h;subst h;exact ⟨_,Loc.eo _ _ _,⟨rfl,rfl,fun dZ=>absurd rfl dZ⟩,fun hs=>by cases hs⟩
  |succ j=>simp at h
 distinct:=fun i j ki kj li lj h1 h2 _ _ _ _ _=>by rw [hn] at h1 h2;cases i<;>cases j<;>simp at h1 h2<;>rfl
theorem qX.write (hk:ik im loc aD w r) {t:Nat} {k k0:iZ} {o:Obj} {w':World} {li:LI} (hn:r.news=[]) (hw:r.wr=[(t,k)])
 (hl:loc t=ah6 li) (h0:aD[t]? =ah6 k0) (hs:k0.bC=ah8)
 (hh:w'.heap=w.heap.setIfInBounds li.cS o) (ho:w'.os=w.os) (ht:w'.tape=w.tape) (hp:w'.output=w.output)
 (hb:BR im loc w' li k) (hd:w.drawn<=w'.drawn:=by first|exact If _|exact Nat.le_succ _):qX im loc aD w r im loc w' where
 fO:= .refl _
 dy:= .refl _
 bA:=fun b o' h=>by
  have h1:=hk.bA b o' h;have qm:=hk.free t k (by simp [hw]) li k0 hl h0 hs;have dZ:li.cS≠b:=fun e=>by rw [e,h] at qm;cases qm
  rw [hh,adZ,ut dZ];exact h1
 dC:=fun _ _ h=> .inl h
 os:=ho
 tape:=⟨ht,hd⟩
 output:=hp
 size:=by rw [hh];simp
 frame:=fun b _ h=>by have dZ:=h t k li k0 (by simp [hw]) hl h0 hs;rw [hh,adZ,ut dZ]
 MX:=fun t' k' hm _=>by rw [hw] at hm;simp at hm;exact ⟨k0,by rw [hm.1];exact h0,hs⟩
 wr:=fun t' k' li' h h'=>by rw [hw] at h;simp at h;obtain ⟨rfl,rfl⟩:=h;rw [hl] at h';injection h' with h';subst h';exact hb
 jN:=fun _ _ h=> .inl h
 news:=fun j k li h=>by rw [hn] at h;simp at h
 distinct:=fun i j ki kj li lj h=>by rw [hn] at h;simp at h
end
end Go.Vm
/- Operation by operation, second part: addresses, reads, new blocks. -/
namespace Go.Vm
section
variable {P : Program} {im : Im} {loc : Loc} {aD : bY} {w : World}
theorem pj (b o n:Nat):(⟨b,o,ah7⟩:Addr).add n=⟨b,o+n,ah7⟩:=by
 unfold Addr.add;split
 · rename_i h;subst h;rfl
 rfl
theorem VR.wX {t e r o:Nat} {v:Value} (h:VR im loc (.ptr t e r o) v):
 ∃li,loc t=ah6 li/\li.esz=e/\r<li.n/\v= .pointer (ah6 ⟨li.cS,li.sh+r*e+o,ah7⟩):=by
 cases h with|ptr _ _ _ _ li h1 h2 h3=>exact ⟨li,h1,h2,h3,rfl⟩
theorem VR.vE {cs:List PV} {off:Nat} {v:Value} (h:VR im loc (.bw cs off) v):
 ∃b o vs,eh im loc cs vs/\(∀(j:Nat) (v:Value),vs[j]? =ah6 v->mq im b (o+j)=ah6 v)/\v= .pointer (ah6 ⟨b,o+off,ah7⟩):=by
 cases h with|bw _ _ b o vs h1 h2=>exact ⟨b,o,vs,h1,h2,rfl⟩
theorem jH {b o:Nat} {cs:Array Value} {el:TypeId} {fr:Nat×Nat} {v:Value} (h:w.heap[b]? =ah6 (.cells cs el fr)) (hc:cs[o]? =ah6 v):
 w.cell? ⟨b,o,ah7⟩=ah6 v:=by simp [World.cell?,h,hc]
theorem qY (hk: ∀b o,im b=ah6 o->w.heap[b]? =ah6 o) {b o:Nat} {v:Value} (h:mq im b o=ah6 v):w.cell? ⟨b,o,ah7⟩=ah6 v:=by
 unfold mq at h;cases hb:im b with
 |none=>rw [hb] at h;cases h
 |some x=>rw [hb] at h;cases x<;>first|exact jH (hk b _ hb) h|cases h
def aZ (r:Row):List Value:=r.map fun c=>(iD c).getD Go.undef
theorem qZ {get:Nat->Option Value} {sh esz:Nat} {rows:List Row} (h:bF get sh esz rows) {i:Nat} {r:Row} (hr:rows[i]? =ah6 r):
 eh im loc r (aZ r)/\ ∀(j:Nat) (v:Value),(aZ r)[j]? =ah6 v->get (sh+i*esz+j)=ah6 v:=by
 obtain ⟨_,hc⟩:=h i r hr;constructor
 · refine eh.of _ _ (by simp [aZ]) fun j x v hx hv=>?_
   obtain ⟨u,hu,_⟩:=hc j x hx;simp [aZ,hx,hu] at hv;subst hv;exact VR.CB hu
 intro j v hv
 cases hx:r[j]? with
 |none=>simp [aZ,hx] at hv
 |some x=>obtain ⟨u,hu,hg⟩:=hc j x hx;simp [aZ,hx,hu] at hv;subst hv;exact hg
theorem Ho {agg:Option Nat} {t:TypeId} {p:PV} {u:Value} {r:mh} (hp:VR im loc p u) (ha:zi P t agg=ah8) (h:nh aD agg p=ah6 r)
 (hk:ik im loc aD w r): ∃v,(Instr.loadAt t u).run P w= .ok v w/\VR im loc r.v v/\r.news=[]/\r.wr=[]:=by
 unfold nh at h;split at h
 · rename_i tk e row off
   obtain ⟨li,hl,he,hn,rfl⟩:=hp.wX;split at h
   · rename_i e' rows hs
     split at h
     · rename_i cs p8
       rw [AC] at h;obtain ⟨x,hx,rfl⟩:=h;obtain ⟨k,gI,hb⟩:=hk.tok tk (.inl (by simp)) li hl;rw [hs] at gI;injection gI with gI;subst gI;have dZ:rows≠[]:=by intro e;subst e;simp at p8
       obtain ⟨h1,h2,h3⟩:=hb;obtain ⟨arr,el,q8,_,_,kY⟩:=h3 dZ;obtain ⟨hv,hg⟩:=qZ (im:=im) (loc:=loc) kY p8;have JJ:e'=e:=by rw [<- h1,he]
       subst JJ;obtain ⟨v,bQ,nb⟩:=tG (P:=P) (w:=w) (b:=li.cS) (o:=li.sh+row*e') ha hv
        (fun j v hj=>jH q8 (hg j v hj)) hx
       exact ⟨v,by simp only [Instr.loadAt,Instr.sureAddr,Do,EQ,ww,bQ],nb,rfl,rfl⟩
     cases h
   · rename_i cs hs
     split at h
     · rename_i sL
       have sL:row=0:=by simpa using sL
       subst sL;rw [AC] at h;obtain ⟨x,hx,rfl⟩:=h;obtain ⟨k,gI,hb⟩:=hk.tok tk (.inl (by simp)) li hl;rw [hs] at gI;injection gI with gI;subst gI;obtain ⟨h1,h2,h3,vs,el,h4,h5,h6⟩:=hb;obtain ⟨v,bQ,nb⟩:=tG (P:=P) (w:=w) (b:=li.cS) (o:=li.sh+0*e) ha h6
        (fun j v hj=>jH h4 (by simpa [h3] using hj)) hx
       exact ⟨v,by simp only [Instr.loadAt,Instr.sureAddr,Do,EQ,ww,bQ],nb,rfl,rfl⟩
     cases h
   cases h
 · rename_i cs off
   obtain ⟨b,o,vs,h1,h2,rfl⟩:=hp.vE;rw [AC] at h;obtain ⟨x,hx,rfl⟩:=h;obtain ⟨v,bQ,nb⟩:=tG (P:=P) (w:=w) (b:=b) (o:=o) ha h1 (fun j v hj=>qY hk.bA (h2 j v hj)) hx;exact ⟨v,by simp only [Instr.loadAt,Instr.sureAddr,Do,EQ,ww,bQ],nb,rfl,rfl⟩
 cases h
theorem CC {cs:List PV} {vs:List Value} {el:TypeId} {r:mh} (h:eh im loc cs vs) (hr:r={v:= .ptr (ah5 aD) (ah5 cs) 0 0,news:=[.box cs]}) (hk:ik im loc aD w r):
 ∃bc,VR im bc r.v (.pointer (ah6 ⟨w.heap.size,0,ah7⟩))/\qX im loc aD w r im bc {w with heap:=w.heap.push (.cells ⟨vs⟩ el)}:=by
 subst hr
 let li:LI:=⟨w.heap.size,0,ah5 cs,1,ah5 vs⟩
 refine ⟨loc.set (ah5 aD) li,?_,?_⟩
 · have:=VR.ptr (im:=im) (loc:=loc.set (ah5 aD) li) (ah5 aD) (ah5 cs) 0 0 li (Loc.eo _ _ _) rfl (Nat.zero_lt_one)
   simpa [li] using this
 refine qX.new hk li rfl rfl rfl rfl rfl rfl rfl ⟨.inl ⟨rfl,rfl⟩,trivial,rfl,vs,el,?_,rfl,h.mono (.refl _) (Loc.vD li (by have:=hk.fresh 0 (by simp);simpa using this))⟩
 simp [li]
theorem Hp {x y:PV} {u v:Value} {el:TypeId} {r:mh} (hx:VR im loc x u) (hy:VR im loc y v) (hr:r={v:= .own (ah5 aD) 1 0 2 2 ah8,news:=[.box [x,y]]}) (hk:ik im loc aD w r):
 ∃bc,VR im bc r.v (.slice (ah6 ⟨w.heap.size,0,ah7⟩) 2 2)/\qX im loc aD w r im bc {w with heap:=w.heap.push (.cells #[u,v] el)}:=by
 subst hr
 let li:LI:=⟨w.heap.size,0,1,2,2⟩
 refine ⟨loc.set (ah5 aD) li,?_,?_⟩
 · exact .own (ah5 aD) 1 0 2 2 ah8 li _ 2 (Loc.eo _ _ _) rfl (If _) (If _) (If _) (fun _=>rfl) (.inr ⟨by simp [li],by simp [li],by simp [li]⟩)
 refine qX.new hk li rfl rfl rfl rfl rfl rfl rfl ⟨.inr ⟨rfl,rfl⟩,trivial,rfl,[u,v],el,?_,rfl,(eh.cons _ _ _ _ hx (.cons _ _ _ _ hy .nil)).mono (.refl _) (Loc.vD li (by have:=hk.fresh 0 (by simp);simpa using this))⟩
 simp [li]
theorem OD {off:Nat} {t:TypeId} {f:Nat} {fs:Array Field} {g:Field} {i:TypeInfo} {p z:PV} {u:Value} (hp:VR im loc p u)
 (hu:P.underlying t=ah6 (.struct fs)) (hf:fs[f]? =ah6 g) (ho:g.offset=off) (hi:P.info? g.type=ah6 i) (hz:i.size≠0)
 (h:(match (generalizing:=false) p with| .ptr t s r o=>some (PV.ptr t s r (o+off))| .bw c o=>some (PV.bw c (o+off))|_=>none)=some z):
 ∃v,(Instr.fieldAt t u f).run P w= .ok v w/\VR im loc z v:=by
 have o9:(sizeOf g.type).run P w= .ok i.size w:=by simp [sizeOf,typeInfo,hi]
 cases p with
 |ptr tk s r o=>injection h with h;subst h;obtain ⟨li,hl,he,hn,rfl⟩:=hp.wX;refine ⟨_,?_,.ptr tk s r (o+off) li hl he hn⟩;simp [Instr.fieldAt,run_underlying hu,hf,Instr.sureAddr,fieldPlace,o9,hz,pj,ho,aey]
 |bw cs o=>injection h with h;subst h;obtain ⟨b,o',vs,h1,h2,rfl⟩:=hp.vE;refine ⟨_,?_,.bw cs (o+off) b o' vs h1 h2⟩;simp [Instr.fieldAt,run_underlying hu,hf,Instr.sureAddr,fieldPlace,o9,hz,pj,ho,aey]
 |_=>cases h
theorem nm {x:PV} {n:Nat} {u:Value} (hx:VR im loc x u) (h:ja x=ah6 n): ∃k,u= .int k (n:Int):=by
 unfold ja at h;split at h
 · rename_i k m
   obtain rfl:=hx.fH;split at h
   · rename_i m';injection h with h;subst h;exact ⟨k,rfl⟩
   cases h
 cases h
theorem MY {n esz j:Nat} {t e:TypeId} {p z:PV} {u:Value} {k:IntKind} (hp:VR im loc p u)
 (hu:P.underlying t=ah6 (.array n e)) (hs:na P e esz=ah8) (hj:j<n)
 (h:(match (generalizing:=false) p with| .ptr t s r o=>some (PV.ptr t s r (o+j*esz))| .bw c o=>some (PV.bw c (o+j*esz))|_=>none)=some z):
 ∃v,(Instr.indexAt t u (.int k j)).run P w= .ok v w/\VR im loc z v:=by
 have o9:=jz (P:=P) (w:=w) hs;cases p with
 |ptr tk s r o=>injection h with h;subst h;obtain ⟨li,hl,he,hn,rfl⟩:=hp.wX;refine ⟨_,?_,.ptr tk s r (o+j*esz) li hl he hn⟩;simp [Instr.indexAt,asIntOf,run_underlying hu,Instr.sureAddr,o9,pj,aey];intro h;omega
 |bw cs o=>injection h with h;subst h;obtain ⟨b,o',vs,h1,h2,rfl⟩:=hp.vE;refine ⟨_,?_,.bw cs (o+j*esz) b o' vs h1 h2⟩;simp [Instr.indexAt,asIntOf,run_underlying hu,Instr.sureAddr,o9,pj,aey];intro h;omega
 |_=>cases h
theorem VR.np {esz:Nat} {pf:Bool} {rows:List Row} {v:Value} (h:VR im loc (.sl esz pf rows) v):
 ∃a cap,v= .slice a (ah5 rows) cap/\ah5 rows<=cap/\(pf=ah8->cap=ah5 rows)/\(rows≠[]-> ∃b o,a=ah6 ⟨b,o,ah7⟩/\bF (mq im b) o esz rows):=by
 cases h with|sl _ _ _ a cap hc hk h=>exact ⟨a,cap,rfl,hc,hk,h⟩
theorem VR.gG {t esz off len cap:Nat} {ex:Bool} {v:Value} (h:VR im loc (.own t esz off len cap ex) v):
 ∃li a cI,v= .slice a len cI/\loc t=ah6 li/\li.esz=esz/\off+cap<=li.n/\len<=cap/\cap<=cI/\(ex=ah8->cI=cap)/\
  (cI=0\/(li.n≠0/\a=ah6 ⟨li.cS,li.sh+off*esz,ah7⟩/\li.sh+(off+cI)*esz<=li.sz)):=by
 cases h with|own _ _ _ _ _ _ li a cI h1 h2 h3 h4 h5 h6 h7=>exact ⟨li,a,cI,rfl,h1,h2,h3,h4,h5,h6,h7⟩
theorem run_indexAt_slice {t e:TypeId} {esz j len cap b o:Nat} {k:IntKind} (hu:P.underlying t=ah6 (.slice e)) (hs:na P e esz=ah8) (hj:j<len):
 (Instr.indexAt t (.slice (ah6 ⟨b,o,ah7⟩) len cap) (.int k j)).run P w= .ok (.pointer (ah6 ⟨b,o+j*esz,ah7⟩)) w:=by
 have o9:=jz (P:=P) (w:=w) hs;have dz: ¬(len<=j):=by omega
 simp [Instr.indexAt,asIntOf,run_underlying hu,o9,pj];intro h;exact absurd h dz
theorem OE {esz n:Nat} {t e:TypeId} {x z:PV} {u:Value} {k:IntKind} (hx:VR im loc x u)
 (hu:P.underlying t=ah6 (.slice e)) (hs:na P e esz=ah8)
 (h:(match (generalizing:=false) x with
  | .sl s _ rows=>match rows[n]? with
   |some cs=>if IR s esz then ah6 (PV.bw cs 0) else ah7
   |none=>ah7
  | .own t s off len _ _=>if aeC n len&&IR s esz then ah6 (PV.ptr t s (off+n) 0) else ah7
  |_=>ah7)=ah6 z):
 ∃v,(Instr.indexAt t u (.int k n)).run P w= .ok v w/\VR im loc z v:=by
 cases x with
 |sl s pf rows=>
  dsimp only at h;cases p8:rows[n]? with
  |none=>rw [p8] at h;cases h
  |some cs=>
   rw [p8] at h;dsimp only at h;split at h
   · rename_i RH
     have RH:s=esz:=by simpa using RH
     subst RH;injection h with h;subst h;obtain ⟨a,cap,rfl,_,_,hr⟩:=hx.np;have dZ:rows≠[]:=by intro e;subst e;simp at p8
     obtain ⟨b,o,rfl,kY⟩:=hr dZ;have hn:n<(ah5 rows):=by
      rcases adM n (ah5 rows) with h|h
      · exact h
      rw [NE h] at p8;cases p8
     refine ⟨_,run_indexAt_slice hu hs hn,?_⟩;obtain ⟨hv,hg⟩:=qZ (im:=im) (loc:=loc) kY p8;have:=VR.bw (im:=im) (loc:=loc) cs 0 b (o+n*s) (aZ cs) hv hg;simpa using this
   cases h
 |own tk s off len cap ex=>
  dsimp only at h;split at h
  · rename_i hc
    simp only [v4] at hc;have hn:n<len:=by simpa using hc.1
    have RH:s=esz:=by simpa using hc.2
    subst RH;injection h with h;subst h;obtain ⟨li,a,cI,rfl,hl,he,BV,cy,EB,_,hd⟩:=hx.gG;rcases hd with hd|⟨dZ,rfl,_⟩
    · omega
    refine ⟨_,run_indexAt_slice hu hs hn,?_⟩
    have:=VR.ptr (im:=im) (loc:=loc) tk s (off+n) 0 li hl he (by omega);rw [show li.sh+(off+n)*s+0=li.sh+off*s+n*s by rw [UV];omega] at this;exact this
  cases h
 |_=>cases h
theorem eL {x k:Nat} {kd:IntKind} {code:BoundsCode} (h:x<=k):(Instr.sliceBound (.int kd x) k code).run P w= .ok x w:=by
 have:(0:Int)<=(x:Int)/\(x:Int)<=(k:Int):=by omega
 simp [Instr.sliceBound,asIntOf,this]
def yi (v:Option Value) (n:Option Nat):Prop:=
 match v,n with
 |none,ah7=>True
 |some v,ah6 n=> ∃k,v= .int k (n:Int)
 |_,_=>False
theorem lf {len cap:Nat} {lo hi mx:Option Nat} {vl vh vm:Option Value} (h1:yi vl lo) (h2:yi vh hi) (h3:yi vm mx)
 (hm:mx.isSome=ah8->hi.isSome=ah8) (kC:lo.getD 0<=hi.getD len) (Yk:hi.isSome=ah8->hi.getD len<=mx.getD cap) (hmc:mx.getD cap<=cap):
 (Instr.sliceBounds ah8 len cap vl vh vm).run P w= .ok (lo.getD 0,hi.getD len,mx.getD cap) w:=by
 cases mx with
 |none=>
  cases vm with
  |some v=>exact h3.elim
  |none=>
   cases hi with
   |none=>
    cases vh with
    |some v=>exact h2.elim
    |none=>
     cases lo with
     |none=>
      cases vl with
      |some v=>exact h1.elim
      |none=>simp [Instr.sliceBounds]
     |some l=>
      cases vl with
      |none=>exact h1.elim
      |some v=>obtain ⟨k,rfl⟩:=h1;simp only [ae1,aeE] at kC;simp [Instr.sliceBounds,eL kC]
   |some hh=>
    cases vh with
    |none=>exact h2.elim
    |some v=>
     obtain ⟨k,rfl⟩:=h2;simp only [ae1,aeE,afA,true_implies] at kC Yk;cases lo with
     |none=>
      cases vl with
      |some v=>exact h1.elim
      |none=>simp [Instr.sliceBounds,eL Yk]
     |some l=>
      cases vl with
      |none=>exact h1.elim
      |some v=>obtain ⟨k,rfl⟩:=h1;simp only [ae1] at kC;simp [Instr.sliceBounds,eL Yk,eL kC]
 |some m=>
  cases vm with
  |none=>exact h3.elim
  |some v=>
   obtain ⟨k,rfl⟩:=h3;cases hi with
   |none=>simp at hm
   |some hh=>
    cases vh with
    |none=>exact h2.elim
    |some v=>
     obtain ⟨k,rfl⟩:=h2;simp only [ae1,afA,true_implies] at kC Yk hmc;cases lo with
     |none=>
      cases vl with
      |some v=>exact h1.elim
      |none=>simp [Instr.sliceBounds,eL Yk,eL hmc]
     |some l=>
      cases vl with
      |none=>exact h1.elim
      |some v=>obtain ⟨k,rfl⟩:=h1;simp only [ae1] at kC;simp [Instr.sliceBounds,eL Yk,eL kC,eL hmc]
end
end Go.Vm
/- Operation by operation, third part: stores, aggregates. -/
namespace Go.Vm
def tH {α:Type} (off:Nat) (new old:List α):List α:=old.take off++new++old.drop (off+ah5 new)
theorem mw {α:Type} (off:Nat) (new old:List α) (h:off+ah5 new<=ah5 old) (j:Nat):
 (tH off new old)[j]? =if off<=j/\j<off+(ah5 new) then new[j-off]? else old[j]?:=by
 unfold tH;have hl:(old.take off).length=off:=by simp;omega
 by_cases h1:j<off
 · rw [ut (by omega),afG,adR (by omega),aex h1]
 by_cases h2:j<off+ah5 new
 · rw [rc ⟨by omega,h2⟩,afG,adc (by omega),hl,adR (by omega)]
 rw [ut (by omega),adc (by simp;omega),aeI]
 congr 1
 simp;omega
theorem fP {α:Type} (off:Nat) (new old:List α) (h:off+ah5 new<=ah5 old):(tH off new old).length=(ah5 old):=by unfold tH;simp;omega
theorem eh.tH {im:Im} {loc:Loc} {off:Nat} {xs ys:List PV} {vs us:List Value} (h:eh im loc xs vs) (k:eh im loc ys us):
 eh im loc (Vm.tH off xs ys) (Vm.tH off vs us):=by
 unfold Vm.tH;rw [<- h.ly];exact ((k.take off).append h).append (k.drop _)
theorem eh.EV {im:Im} {loc:Loc}: ∀{xs:List PV} {vs:List Value},eh im loc xs vs->(∀c∈xs,c.plain=ah8)->
 ∀(j:Nat) (c:PV),xs[j]? =ah6 c-> ∃v,iD c=ah6 v/\vs[j]? =ah6 v:=by
 intro xs vs h hp j c hc;obtain ⟨v,hv,hr⟩:=h.get j c hc;exact ⟨v,hr.plain (hp c (aeF hc)),hv⟩
theorem MZ {i row esz j off n sh:Nat} (dZ:i≠row) (hj:j<esz) (hn:off+n<=esz):
 ¬(sh+row*esz+off<=sh+i*esz+j/\sh+i*esz+j<sh+row*esz+off+n):=by
 rcases Nat.lt_or_gt_of_ne dZ with h|h
 · have:=acl esz (show i+1<=row from h)
   rw [UV] at this;omega
 have:=acl esz (show row+1<=i from h)
 rw [UV] at this;omega
theorem bF.store {get get':Nat->Option Value} {sh esz row off:Nat} {rows:List Row} {cs ws:List PV} {vs:List Value}
 (h:bF get sh esz rows) (hr:rows[row]? =ah6 cs) (kC:off+ah5 ws<=ah5 cs)
 (hw: ∀(j:Nat) (c:PV),ws[j]? =ah6 c-> ∃v,iD c=ah6 v/\vs[j]? =ah6 v) (hl:(ah5 vs)=ah5 ws)
 (hg: ∀k,get' k=if sh+row*esz+off<=k/\k<sh+row*esz+off+(ah5 vs) then vs[k- (sh+row*esz+off)]? else get k):
 bF get' sh esz (rows.set row (tH off ws cs)):=by
 intro i r hi;rw [List.getElem?_set] at hi;have sL:row<(ah5 rows):=by
  rcases adM row (ah5 rows) with h|h
  · exact h
  rw [NE h] at hr;cases hr
 obtain ⟨EW,Lx⟩:=h row cs hr;split at hi
 · rename_i e
   subst e;injection hi with hi;subst hi;refine ⟨by rw [fP _ _ _ kC];exact EW,fun j c hc=>?_⟩;rw [mw _ _ _ kC] at hc;rw [hg];split at hc
   · rename_i hj
     obtain ⟨v,hv,JK⟩:=hw _ _ hc;refine ⟨v,hv,?_⟩;rw [rc ⟨by omega,by omega⟩,<- JK]
     congr 1
     omega
   rename_i hj
   obtain ⟨v,hv,JK⟩:=Lx j c hc;refine ⟨v,hv,?_⟩;rw [ut (by omega)];exact JK
 rename_i dZ
 obtain ⟨Hq,hrc⟩:=h i r hi;refine ⟨Hq,fun j c hc=>?_⟩;obtain ⟨v,hv,JK⟩:=hrc j c hc;refine ⟨v,hv,?_⟩;have hj:j<esz:=by
  rcases adM j (ah5 r) with h|h
  · omega
  rw [NE h] at hc;cases hc
 rw [hg,ut (MZ (fun e=>dZ e.symm) hj (by omega))];exact JK
section
variable {P : Program} {im : Im} {loc : Loc} {aD : bY} {fz : List Nat} {w : World}
theorem eM {g:Nat} {cur cs:Array Value} {t:TypeId} (hg:w.heap[g]? =ah6 (.cells cur t (0,0))):
 (w.setRow g cs).heap=w.heap.setIfInBounds g (.cells cs t (0,0)):=by
 have dz:g<w.heap.size:=(M2.1 hg).1;have hv:w.heap[g]= .cells cur t (0,0):=(M2.1 hg).2;unfold World.setRow;apply Array.ext
 · simp
 intro k h1 h2
 rw [Array.getElem_setIfInBounds];simp only [Array.getElem_modify];split
 · rename_i hk;subst hk;simp [hv]
 rfl
theorem Hr {v:Value} (h:(∀us,v≠ .agg us)/\ ∀us,v≠ .tuple us):v.oneCell'=ah8:=by cases v<;>first|rfl|exact absurd rfl (h.1 _)|exact absurd rfl (h.2 _)
theorem eh.one: ∀{xs:List PV} {vs:List Value},eh im loc xs vs->(∀c∈xs,c.oE=ah8)-> ∀v∈vs,v.oneCell'=ah8
 |_,_,.nil,_,_,hv=>by cases hv
 |_,_,.cons x u xs vs h hs,ho,v,hv=>by
  cases hv with
  |head=>exact Hr (h.FZ (ho x (by simp)))
  |tail _ hm=>exact eh.one hs (fun c hc=>ho c (by simp [hc])) v hm
theorem vF {c:PV} (h:c.plain=ah8):c.oE=ah8:=by cases c<;>first|rfl|cases h
theorem yj {v:PV} {ws:List PV} (h:v.stored=ah6 ws):ws=v.cells/\ ∀c∈v.cells,c.oE=ah8:=by
 unfold PV.stored at h;split at h
 · rename_i ha;injection h with h;exact ⟨h.symm,by simpa using ha⟩
 cases h
theorem lg {v:PV} {ws:List PV} (h:v.bZ=ah6 ws):ws=v.cells/\ ∀c∈v.cells,c.plain=ah8:=by
 unfold PV.bZ at h;split at h
 · rename_i ha;injection h with h;exact ⟨h.symm,by simpa using ha⟩
 cases h
theorem Br {t el:TypeId} {sz b o:Nat} {x:Value} {cur:Array Value} (hs:na P t sz=ah8) (hb:w.heap[b]? =ah6 (.cells cur el (0,0)))
 (hx:x.cells.size=sz) (kC:o+sz<=cur.size) (h1: ∀v∈x.cells.toList,v.oneCell'=ah8):
 (Instr.storeAt t (.pointer (ah6 ⟨b,o,ah7⟩)) x).run P w= .ok () (w.setRow b (tH o x.cells.toList cur.toList).toArray):=by
 have:=run_storeCells_at P b o el x.cells.toList 0 cur w hb (by simp;omega) h1;simp only [Instr.storeAt,Instr.sureAddr,Do,EQ,ww,storeVar,jz hs,hx,ne_eq,not_true_eq_false,if_false];simpa [tH] using this
theorem M0 {t:TypeId} {sz:Nat} {p v:PV} {u x:Value} {r:mh} (hp:VR im loc p u) (hv:VR im loc v x) (hs:na P t sz=ah8)
 (h:qi aD fz sz v p=ah6 r) (hk:ik im loc aD w r):
 ∃w',(Instr.storeAt t u x).run P w= .ok () w'/\qX im loc aD w r im loc w'/\r.v= .undef:=by
 unfold qi at h;cases p with
 |ptr tk e row off=>
  dsimp only at h;obtain ⟨li,hl,he,hn,rfl⟩:=hp.wX;cases oK:aD[tk]? with
  |none=>rw [oK] at h;cases h
  |some cS=>
   rw [oK] at h;cases cS with
   |arr e' rows=>
    dsimp only at h;cases p8:rows[row]? with
    |none=>rw [p8] at h;cases h
    |some cs=>
     cases hw:v.bZ with
     |none=>rw [p8,hw] at h;cases h
     |some ws=>
      rw [p8,hw] at h;dsimp only at h;split at h
      · rename_i hc
        simp only [v4,ae8,aew] at hc;obtain ⟨⟨cy,kC⟩,OF⟩:=hc;obtain ⟨rfl,JL⟩:=lg hw;injection h with h;subst h;obtain ⟨k,gI,hb⟩:=hk.tok tk (.inr ⟨_,ae0.2 rfl⟩) li hl;rw [oK] at gI;injection gI with gI;subst gI;have dZ:rows≠[]:=by intro e;subst e;simp at p8
        obtain ⟨h1,h2,h3⟩:=hb;obtain ⟨arr,el,q8,F1,G6,kY⟩:=h3 dZ;have JJ:e'=e:=by rw [<- h1,he]
        subst JJ;have EW:(ah5 cs)=e':=(kY row cs p8).1;have Ly:=hv.cells (fun c hc=>vF (JL c hc));have M1:x.cells.size=sz:=by have:=Ly.ly;simp only [aes] at this;omega
        have Hq:row<(ah5 rows):=by
         rcases adM row (ah5 rows) with h|h
         · exact h
         rw [NE h] at p8;cases p8
        have EC:=acl e' (show row+1<=(ah5 rows) from Hq);rw [UV] at EC;have sM:li.sh+row*e'+off+sz<=arr.size:=by omega
        have bQ:=Br (P:=P) (w:=w) (t:=t) (b:=li.cS) (o:=li.sh+row*e'+off) hs q8 M1 sM (Ly.one (fun c hc=>vF (JL c hc)));refine ⟨_,bQ,?_,rfl⟩;refine qX.write hk (t:=tk) (k0:= .arr e' rows) (li:=li) rfl rfl hl oK (by cases rows with|nil=>exact absurd rfl dZ|cons _ _=>rfl) (eM q8) rfl rfl rfl ?_;refine ⟨h1,by simpa using h2,fun _=>⟨(tH (li.sh+row*e'+off) x.cells.toList arr.toList).toArray,el,?_,?_,by simpa using G6,?_⟩⟩
        · rw [eM q8]
          have dz:=(M2.1 q8).1;simp [dz]
        · rw [<- F1]
          simp only [aev];rw [fP _ _ _ (by simp;omega)];simp
        refine kY.store p8 (by omega) (Ly.EV JL) Ly.ly.symm (fun k=>?_)
        simp only [aen];rw [mw _ _ _ (by simp;omega)];simp
      cases h
   |box cs=>
    dsimp only at h;cases hw:v.stored with
    |none=>rw [hw] at h;cases h
    |some ws=>
     rw [hw] at h;dsimp only at h;split at h
     · rename_i hc
       simp only [v4,ae8,aew] at hc;obtain ⟨⟨⟨sL,cy⟩,kC⟩,OF⟩:=hc;subst sL;obtain ⟨rfl,zl⟩:=yj hw;injection h with h;subst h;obtain ⟨k,gI,hb⟩:=hk.tok tk (.inr ⟨_,ae0.2 rfl⟩) li hl;rw [oK] at gI;injection gI with gI;subst gI;obtain ⟨h1,h2,h3,vs,el,h4,h5,h6⟩:=hb;have Ly:=hv.cells zl;have M1:x.cells.size=sz:=by have:=Ly.ly;simp only [aes] at this;omega
       have hcv:=h6.ly;have bQ:=Br (P:=P) (w:=w) (t:=t) (b:=li.cS) (o:=li.sh+0*e+off) hs h4 M1 (by simp [h3];omega) (Ly.one zl);refine ⟨_,bQ,?_,rfl⟩;refine qX.write hk (t:=tk) (k0:= .box cs) (li:=li) rfl rfl hl oK rfl (eM h4) rfl rfl rfl ?_;refine ⟨by rw [show (mg off v.cells cs).length=(ah5 cs) by have:=fP off v.cells cs (by omega);unfold tH at this;simpa [mg] using this];exact h1,h2,h3,tH off x.cells.toList vs,el,?_,?_,?_⟩
       · rw [eM h4]
         have dz:=(M2.1 h4).1;simp [dz,h3]
       · rw [fP _ _ _ (by simp;omega)];exact h5
       exact eh.tH Ly h6
     cases h
   |_=>cases h
 |_=>cases h
end
end Go.Vm
/- Operation by operation, fourth part: aggregates, rows, slices. -/
namespace Go.Vm
theorem bF.tail {get:Nat->Option Value} {sh esz:Nat} {r:Row} {rs:List Row} (h:bF get sh esz (r::rs)):bF get (sh+esz) esz rs:=by intro i x hx;obtain ⟨h1,h2⟩:=h (i+1) x (by simpa using hx);refine ⟨h1,fun j c hc=>?_⟩;obtain ⟨v,hv,hg⟩:=h2 j c hc;refine ⟨v,hv,?_⟩;rw [<- hg];congr 1;rw [UV];omega
theorem bF.drop {get:Nat->Option Value} {sh esz:Nat} {rows:List Row} (h:bF get sh esz rows) (n:Nat):bF get (sh+n*esz) esz (rows.drop n):=by intro i x hx;rw [aeI] at hx;obtain ⟨h1,h2⟩:=h (n+i) x hx;refine ⟨h1,fun j c hc=>?_⟩;obtain ⟨v,hv,hg⟩:=h2 j c hc;refine ⟨v,hv,?_⟩;rw [<- hg];congr 1;rw [UV];omega
theorem bF.take {get:Nat->Option Value} {sh esz:Nat} {rows:List Row} (h:bF get sh esz rows) (n:Nat):bF get sh esz (rows.take n):=by
 intro i x hx;have hi:i<n:=by
  rcases adM i n with h|h
  · exact h
  rw [NE (by simp;omega)] at hx;cases hx
 rw [aex hi] at hx;exact h i x hx
theorem bF.append {get:Nat->Option Value} {sh esz:Nat} {xs ys:List Row} (h:bF get sh esz xs) (k:bF get (sh+ah5 xs*esz) esz ys):bF get sh esz (xs++ys):=by
 intro i r hr;rcases adM i (ah5 xs) with hi|hi
 · rw [adR hi] at hr;exact h i r hr
 rw [adc hi] at hr
 obtain ⟨h1,h2⟩:=k _ r hr;refine ⟨h1,fun j c hc=>?_⟩;obtain ⟨v,hv,hg⟩:=h2 j c hc;refine ⟨v,hv,?_⟩;rw [<- hg];congr 1;have:i*esz=ah5 xs*esz+(i-(ah5 xs))*esz:=by rw [<- UV];congr 1;omega
 omega
theorem bF.my {get:Nat->Option Value} {sh esz:Nat} {rows:List Row} (h:bF get sh esz rows): ∀r∈rows,ah5 r=esz:=by intro r hr;obtain ⟨i,hi,rfl⟩:=aeG.1 hr;exact (h i _ (PP hi)).1
theorem jY (r:Row):(aZ r).length=(ah5 r):=by simp [aZ]
theorem dp {esz:Nat}: ∀{rows:List Row},(∀r∈rows,ah5 r=esz)->(rows.flatMap aZ).length=ah5 rows*esz
 | [],_=>by simp
 |r::rs,h=>by have ih:=dp (esz:=esz) (rows:=rs) (fun x hx=>h x (by simp [hx]));simp only [aep,aeu,ih,jY,h r (by simp),aet,UV];omega
theorem bF.flat {get:Nat->Option Value} {esz:Nat}: ∀{rows:List Row} {sh:Nat},bF get sh esz rows-> ∀(j:Nat) (v:Value),(rows.flatMap aZ)[j]? =ah6 v->get (sh+j)=ah6 v
 | [],_,_,j,v,h=>by simp at h
 |r::rs,sh,hr,j,v,h=>by
  rw [aep] at h;have hl:(aZ r).length=esz:=by rw [jY];exact hr.my r (by simp)
  rcases adM j esz with hj|hj
  · rw [adR (by omega)] at h
    have:=(qZ (im:=fun _=>ah7) (loc:=fun _=>ah7) hr (i:=0) rfl).2 j v h;simpa using this
  rw [adc (by omega),hl] at h
  have:=bF.flat hr.tail (j-esz) v h;rw [show sh+esz+(j-esz)=sh+j by omega] at this;exact this
theorem bF.AA {esz:Nat}: ∀{rows:List Row} {get:Nat->Option Value} {sh:Nat},(∀r∈rows,ah5 r=esz)->(∀r∈rows,∀c∈r,c.plain=ah8)->
 (∀(j:Nat) (v:Value),(rows.flatMap aZ)[j]? =ah6 v->get (sh+j)=ah6 v)->bF get sh esz rows
 | [],_,_,_,_,_=>by intro i r h;simp at h
 |r::rs,get,sh,hl,hp,hg=>by
  have Hq:(aZ r).length=esz:=by rw [jY];exact hl r (by simp)
  have h1:bF get sh esz [r]:=by
   intro i x hx;cases i with
   |succ i=>simp at hx
   |zero=>
    simp at hx;subst hx;refine ⟨hl r (by simp),fun j c hc=>?_⟩;have hcp:=hp r (by simp) c (aeF hc);obtain ⟨v,hv⟩: ∃v,iD c=ah6 v:=by cases c<;>first|exact ⟨_,rfl⟩|cases hcp
    refine ⟨v,hv,?_⟩;have hj:j<esz:=by
     rcases adM j (ah5 r) with h|h
     · have:=hl r (by simp);omega
     rw [NE h] at hc;cases hc
    have:=hg j v (by rw [aep,adR (by omega)];simp [aZ,hc,hv]);simpa using this
  have h2:bF get (sh+esz) esz rs:=bF.AA (fun x hx=>hl x (by simp [hx])) (fun x hx=>hp x (by simp [hx])) (fun j v hj=>by
   have:=hg (esz+j) v (by rw [aep,adc (by omega),Hq,show esz+j-esz=j by omega];exact hj)
   rwa [<- aey] at this)
  have:=h1.append (ys:=rs) (by simpa using h2);simpa using this
theorem bF.plain {get:Nat->Option Value} {sh esz:Nat} {rows:List Row} (h:bF get sh esz rows): ∀r∈rows,∀c∈r,c.plain=ah8:=by intro r hr c hc;obtain ⟨i,hi,rfl⟩:=aeG.1 hr;obtain ⟨j,hj,rfl⟩:=aeG.1 hc;obtain ⟨v,hv,_⟩:=(h i _ (PP hi)).2 j _ (PP hj);cases hh:rows[i][j]<;>rw [hh] at hv<;>first|rfl|cases hv
theorem qn {rows:List Row} (hp: ∀r∈rows,∀c∈r,c.plain=ah8): ∀u∈rows.flatMap aZ,u.oneCell'=ah8:=by intro u hu;obtain ⟨r,hr,hu⟩:=List.mem_flatMap.1 hu;obtain ⟨c,hc,rfl⟩:=List.mem_map.1 hu;have:=hp r hr c hc;cases c<;>first|rfl|cases this
section
variable {P : Program} {im : Im} {loc : Loc} {aD : bY} {fz : List Nat} {w : World}
theorem AB {esz:Nat} {y:PV} {u:Value} {new:List Row} {tx e':TypeId} (hy:VR im loc y u) (hr:rowsOf aD esz y=ah6 new) (hx:P.underlying tx=ah6 (.slice e'))
 (bA: ∀b o,im b=ah6 o->w.heap[b]? =ah6 o) (tok: ∀t,t∈gP y-> ∀li,loc t=ah6 li-> ∃k,aD[t]? =ah6 k/\BR im loc w li k):
 Src P esz tx u (ah5 new) (new.flatMap aZ) w/\(∀r∈new,ah5 r=esz)/\(∀r∈new,∀c∈r,c.plain=ah8):=by
 unfold rowsOf at hr;cases y with
 |sl e pf rows=>
  obtain ⟨a,cap,rfl,_,_,kY⟩:=hy.np;cases rows with
  |nil=>
   simp at hr;subst hr;refine ⟨?_,by simp,by simp⟩;cases a with
   |none=>exact Src.ofNil w hx cap
   |some a=>exact Src.ofSlice w hx a 0 cap [] (by simp) (by simp) (by simp)
  |cons r rs=>
   dsimp only at hr;split at hr
   · rename_i he
     have he:e=esz:=by simpa using he
     subst he;injection hr with hr;subst hr;obtain ⟨b,o,rfl,cL⟩:=kY (by simp);refine ⟨Src.ofSlice w hx ⟨b,o,ah7⟩ _ cap _ (dp cL.my) (fun j v hj=>?_) (qn cL.plain),cL.my,cL.plain⟩;rw [pj];exact qY bA (cL.flat j v hj)
   cases hr
 |own t e off len cap ex=>
  dsimp only at hr;split at hr
  · rename_i he
    have he:e=esz:=by simpa using he
    subst he;obtain ⟨li,a,cI,rfl,hl,h2,h3,h4,h5,h6,h7⟩:=hy.gG;obtain ⟨k,gI,hb⟩:=tok t (by simp [gP]) li hl;rw [gI] at hr;cases k with
    |arr e' rows=>
     simp only [v6] at hr;subst hr;obtain ⟨b1,b2,b3⟩:=hb;have cy:((rows.drop off).take len).length=len:=by simp;omega
     have JJ:e'=e:=by rw [<- b1,h2]
     subst JJ;cases rows with
     |nil=>
      have:len=0:=by simp at b2;omega
      subst this;refine ⟨?_,by simp,by simp⟩;simp;cases a with
      |none=>exact Src.ofNil w hx cI
      |some a=>exact Src.ofSlice w hx a 0 cI [] (by simp) (by simp) (by simp)
     |cons r rs=>
      obtain ⟨arr,el,q8,F1,G6,cL⟩:=b3 (by simp);have tI:=(cL.drop off).take len;rcases h7 with h7|⟨h7,rfl,h9⟩
      · have:len=0:=by omega
        subst this;refine ⟨?_,by simp,by simp⟩;simp;cases a with
        |none=>exact Src.ofNil w hx cI
        |some a=>exact Src.ofSlice w hx a 0 cI [] (by simp) (by simp) (by simp)
      rw [cy]
      refine ⟨Src.ofSlice w hx ⟨li.cS,li.sh+off*e',ah7⟩ len cI _ (by rw [dp tI.my,cy]) (fun j v hj=>?_) (qn tI.plain),tI.my,tI.plain⟩;rw [pj];exact jH q8 (tI.flat j v hj)
    |_=>cases hr
  cases hr
 |_=>cases hr
end
end Go.Vm
/- Operation by operation, fifth part: append. -/
namespace Go.Vm
theorem vG: ∀(new:List Row) (i:Nat) (rows:List Row),i+ah5 new<=ah5 rows->jO i new rows=tH i new rows
 | [],i,rows,h=>by simp [jO,tH]
 |r::rs,i,rows,h=>by
  simp only [aet] at h;rw [jO,vG rs (i+1) (rows.set i r) (by simp;omega)];apply aeK;intro j;rw [mw _ _ _ (by simp;omega),mw _ _ _ (by simp;omega)];simp only [aet]
  by_cases h1:i+1<=j/\j<i+1+ah5 rs
  · rw [rc h1,rc ⟨by omega,by omega⟩]
    obtain ⟨k,hk⟩: ∃k,j-i=k+1:=⟨j-i-1,by omega⟩;rw [hk,show j- (i+1)=k by omega];simp
  rw [ut h1]
  by_cases h2:j=i
  · subst h2
    rw [rc ⟨If _,by omega⟩,afa (by omega)];simp
  rw [ut (by omega),afn (by omega)]
theorem bF.tH {get get':Nat->Option Value} {sh esz i:Nat} {new rows:List Row} (h:bF get sh esz rows) (kC:i+ah5 new<=ah5 rows)
 (hl: ∀r∈new,ah5 r=esz) (hp: ∀r∈new,∀c∈r,c.plain=ah8)
 (hg: ∀k,get' k=if sh+i*esz<=k/\k<sh+i*esz+ah5 new*esz then (new.flatMap aZ)[k- (sh+i*esz)]? else get k):
 bF get' sh esz (tH i new rows):=by
 have OG:=dp hl;have old: ∀k r,rows[k]? =ah6 r->(k<i\/i+ah5 new<=k)->ah5 r=esz/\ ∀(j:Nat) (c:PV),r[j]? =ah6 c-> ∃v,iD c=ah6 v/\get' (sh+k*esz+j)=ah6 v:=by
  intro k r hk hor;obtain ⟨h1,h2⟩:=h k r hk;refine ⟨h1,fun j c hc=>?_⟩;obtain ⟨v,hv,JK⟩:=h2 j c hc;refine ⟨v,hv,?_⟩;have hj:j<esz:=by
   rcases adM j (ah5 r) with h|h
   · omega
   rw [NE h] at hc;cases hc
  rw [hg,ut]
  · exact JK
  rcases hor with hor|hor
  · have:=acl esz (show k+1<=i from hor)
    rw [UV] at this;omega
  have:=acl esz hor
  rw [UV] at this;omega
 have zm:bF get' (sh+i*esz) esz new:=bF.AA hl hp fun j v hj=>by
  have JM:j<ah5 new*esz:=by
   rcases adM j (ah5 new*esz) with h|h
   · exact h
   rw [NE (by omega)] at hj;cases hj
  rw [hg,rc ⟨by omega,by omega⟩,<- hj];congr 1;omega
 intro k r hk;rw [mw _ _ _ kC] at hk;split at hk
 · rename_i hc
   obtain ⟨h1,h2⟩:=zm _ r hk;refine ⟨h1,fun j c AD=>?_⟩;obtain ⟨v,hv,JK⟩:=h2 j c AD;refine ⟨v,hv,?_⟩;rw [<- JK];congr 1;have:k*esz=i*esz+(k-i)*esz:=by rw [<- UV];congr 1;omega
   omega
 rename_i hc
 exact old k r hk (by omega)
theorem grownCap_ge (w:World) (JN old:Nat) (e:TypeId):JN<=grownCap w JN old e:=by unfold grownCap;simp [Question.cut]
theorem OH {JN old bytes:Nat} (h:old<JN) (hn:JN<=1048576) (hb:bytes<=1048576):Builtin.nextslicecap JN old*bytes<=281474976710656:=by
 have h1:=nextslicecap_le h;have h2:Builtin.nextslicecap JN old<=2097152:=by omega
 have:=aga h2 hb;omega
theorem vH (z:Array Value) (n:Nat):(Builtin.zeroCells z n).size=n*z.size:=by simp [Builtin.zeroCells]
section
variable {P : Program} {im : Im} {loc : Loc} {aD : bY} {fz : List Nat} {w : World}
theorem pC (t tx ty e:TypeId) (i:TypeInfo) (ht:P.underlying t=ah6 (.slice e)) (hi:P.info? e=ah6 i) (b off vI sCap:Nat) (x:Value) (n:Nat) (news:List Value) (hs:Src P i.size tx x n news w)
 (vJ:vI+n<=sCap) {cur:Array Value} {el:TypeId} (hb:w.heap[b]? =ah6 (.cells cur el (0,0))) (kC:off+vI*i.size+ah5 news<=cur.size):
 (Builtin.append_ #[t,tx] ty #[.slice (ah6 ⟨b,off,ah7⟩) vI sCap,x]).run P w=
  .ok (.slice (ah6 ⟨b,off,ah7⟩) (vI+n) sCap) (w.setRow b (tH (off+vI*i.size) news cur.toList).toArray):=by
 have bR:=run_storeCells_at P b (off+vI*i.size) el news 0 cur w hb (by simpa using kC) hs.one;simp only [ah1] at bR;rcases hs.kind with ⟨e',hk⟩|hk<;>simp [Builtin.append_,run_underlying ht,run_underlying hk,sizeOf,typeInfo,hi,hs.len,vJ,hs.cells,Addr.add_lit,bR,tH]
theorem AE {esz:Nat} {olds new:List Row} {rest:Array Value} {el:TypeId} {r:mh} {w':World} {nc:Nat} (hr:r.v= .own (ah5 aD) esz 0 (ah5 olds+ah5 new) (ah5 olds+ah5 new) ah9)
 (hn:r.news=[.arr esz (olds++new)]) (hk:ik im loc aD w r) (dZ:new≠[])
 (hh:w'.heap=w.heap.push (.cells (((olds.flatMap aZ)++(new.flatMap aZ)).toArray++rest) el))
 (Lz: ∀r∈olds,ah5 r=esz) (Yl: ∀r∈olds,∀c∈r,c.plain=ah8) (Hs: ∀r∈new,ah5 r=esz) (hp2: ∀r∈new,∀c∈r,c.plain=ah8)
 (Ym:(ah5 olds)+ah5 new<=nc) (RI:rest.size=(nc- (ah5 olds+ah5 new))*esz):
 ∃li:LI,li.cS=w.heap.size/\VR im (loc.set (ah5 aD) li) r.v (.slice (ah6 ⟨w.heap.size,0,ah7⟩) (ah5 olds+ah5 new) nc)/\
  BR im (loc.set (ah5 aD) li) w' li (.arr esz (olds++new))/\kQ loc (loc.set (ah5 aD) li):=by
 have aix:=dp Lz;have aiy:=dp Hs;have o9:(((olds.flatMap aZ)++(new.flatMap aZ)).toArray++rest).size=nc*esz:=by simp only [Array.size_append,aev,aeu,aix,aiy,RI];rw [<- UV,<- UV];congr 1;omega
 let li:LI:=⟨w.heap.size,0,esz,(olds++new).length,nc*esz⟩
 refine ⟨li,rfl,?_,⟨rfl,rfl,fun _=>⟨_,el,by rw [hh];simp [li],o9,?_,?_⟩⟩,Loc.vD li (by have:=hk.fresh 0 (by simp [hn]);simpa using this)⟩
 · rw [hr]
   have:=VR.own (im:=im) (loc:=loc.set (ah5 aD) li) (ah5 aD) esz 0 (ah5 olds+ah5 new) (ah5 olds+ah5 new) ah9 li (ah6 ⟨w.heap.size,0,ah7⟩) nc
    (Loc.eo _ _ _) rfl (by simp [li]) (If _) Ym (by simp)
    (.inr ⟨by simp [li];intro _;exact dZ,by simp [li],by simp [li]⟩)
   exact this
 · simp only [li]
   have:=acl esz Ym;simp only [aeu];omega
 refine bF.AA (fun r hr=>?_) (fun r hr=>?_) (fun j v hj=>?_)
 · rcases aeo.1 hr with h|h
   · exact Lz r h
   exact Hs r h
 · rcases aeo.1 hr with h|h
   · exact Yl r h
   exact hp2 r h
 rw [afp] at hj
 simp only [li,afb];rw [Array.getElem?_append_left (by have:=(ae5.1 hj).1;simpa using this)];simpa using hj
end
end Go.Vm
/- Operation by operation, sixth part: append, whole. -/
namespace Go.Vm
section
variable {P : Program} {im : Im} {loc : Loc} {aD : bY} {fz : List Nat} {w : World}
theorem CD {t tx ty e:TypeId} {i:TypeInfo} {z:Value} {esz:Nat} (ht:P.underlying t=ah6 (.slice e)) (hi:P.info? e=ah6 i) (hz:i.zero=ah6 z) (RJ:z.cells.size=esz)
 (JO:i.bytes<=1048576) {qo:Option Addr} {vI sCap:Nat} {olds:List Row} {new:List Row} {x:Value}
 (yk:(Builtin.firstCells i.size vI (.slice qo vI sCap)).run P w.drew= .ok (olds.flatMap aZ).toArray w.drew)
 (hs:Src P i.size tx x (ah5 new) (new.flatMap aZ) w) (hg:sCap<vI+ah5 new) (hm:vI+ah5 new<=1048576):
 ∃(nc:Nat) (rest:Array Value),vI+ah5 new<=nc/\rest.size=(nc- (vI+ah5 new))*esz/\
  (Builtin.append_ #[t,tx] ty #[.slice qo vI sCap,x]).run P w= .ok (.slice (ah6 ⟨w.heap.size,0,ah7⟩) (vI+ah5 new) nc)
   (w.drew.alloc (.cells (((olds.flatMap aZ)++(new.flatMap aZ)).toArray++rest) e)):=by
 refine ⟨_,_,grownCap_ge w (vI+ah5 new) sCap e,by rw [vH,RJ],
  run_append_grow_src w t tx ty e i z ht hi hz qo vI sCap _ yk x _ _ hs hg (by omega) (OH hg hm JO)⟩
theorem CE {t tx ty e e' : TypeId} {i : TypeInfo} {z : Value} {esz : Nat} (ht : P.underlying t = ah6 (.slice e)) (Yn : P.underlying tx = ah6 (.slice e')) (hi : P.info? e = ah6 i) (o9 : i.size = esz)
    (hz : i.zero = ah6 z) (RJ : z.cells.size = esz) (JO : i.bytes <= 1048576)
    {x y : PV} {u v : Value} {r : mh} (hx : VR im loc x u) (hy : VR im loc y v) (h : gQ aD fz esz x y = ah6 r) (hk : ik im loc aD w r) :
    ∃ v' w' bc, (Builtin.append_ #[t, tx] ty #[u, v]).run P w = .ok v' w' /\ VR im bc r.v v' /\ qX im loc aD w r im bc w' := by
  unfold gQ at h
  cases zd : rowsOf aD esz y with
  | none => rw [zd] at h; cases h
  | some new =>
    rw [zd] at h
    dsimp only at h
    cases new with
    | nil =>
      dsimp only at h
      have key : ∀ (a : Option Addr) (n cap : Nat), u = .slice a n cap -> n <= cap -> ah6 ({ v := x, rd := gP y } : mh) = ah6 r ->
          ∃ v' w' bc, (Builtin.append_ #[t, tx] ty #[u, v]).run P w = .ok v' w' /\ VR im bc r.v v' /\ qX im loc aD w r im bc w' := by
        intro a n cap hu kC hr
        injection hr with hr; subst hr
        obtain ⟨hs, _, _⟩ := AB (P := P) (w := w) hy zd Yn hk.bA (fun t ht => hk.tok t (.inl ht))
        simp only [aeR, afk] at hs
        subst hu
        rw [<- o9] at hs
        exact ⟨_, _, loc, run_append_nothing w t tx ty e i ht hi a n cap kC _ hs, hx, qX.none hk rfl rfl⟩
      have fresh : ∀ (a : Option Addr) (rd : List Nat), u = .slice a 0 0 -> (∀ t ∈ gP y, t ∈ rd) -> ah6 ({ v := .own (ah5 aD) esz 0 0 0 ah9, news := [.arr esz []], rd := rd } : mh) = ah6 r ->
          ∃ v' w' bc, (Builtin.append_ #[t, tx] ty #[u, v]).run P w = .ok v' w' /\ VR im bc r.v v' /\ qX im loc aD w r im bc w' := by
        intro a rd hu ED hr
        injection hr with hr; subst hr
        obtain ⟨hs, _, _⟩ := AB (P := P) (w := w) hy zd Yn hk.bA (fun t ht => hk.tok t (.inl (ED t ht)))
        simp only [aeR, afk] at hs
        subst hu
        rw [<- o9] at hs
        exact ⟨_, _, _, run_append_nothing w t tx ty e i ht hi a 0 0 (If _) _ hs, .own _ esz 0 0 0 ah9 ⟨0, 0, esz, 0, 0⟩ a 0 (Loc.eo _ _ _) rfl (If _) (If _) (If _) (by simp) (.inl rfl), qX.OC hk rfl rfl⟩
      cases x with
      | sl e pf rows =>
        obtain ⟨a, cap, hu, kC, EW, _⟩ := hx.np
        dsimp only at h
        split at h
        · rename_i hc
          simp only [v4, afI] at hc
          obtain ⟨hc, rfl⟩ := hc
          have := EW hc
          simp at this
          subst this
          exact fresh a _ (by simpa using hu) (fun _ h => h) h
        exact key a _ cap hu kC h
      | own tk e off len cap ex =>
        obtain ⟨li, a, cI, hu, h1, h2, h3, h4, h5, h6, _⟩ := hx.gG
        dsimp only at h
        split at h
        · rename_i hc
          simp only [v4, ae8] at hc
          obtain ⟨⟨rfl, rfl⟩, hc⟩ := hc
          have := h6 hc
          subst this
          exact fresh a _ hu (fun _ h => aeH _ h) h
        exact key a _ cI hu (by omega) h
      | _ => cases h
    | cons n0 ns =>
      dsimp only at h
      generalize zm : n0 :: ns = new at h zd
      have dZ : new ≠ [] := by rw [<- zm]; simp
      have M3 : 0 < (ah5 new) := by rw [<- zm]; simp
      cases x with
      | sl e1 pf rows =>
        dsimp only at h
        split at h
        · rename_i hc
          simp only [v4, afl, ae8, aew] at hc
          obtain ⟨⟨aeU, BW⟩, jA⟩ := hc
          injection h with h
          obtain ⟨a, cap, rfl, EB, Rq, kY⟩ := hx.np
          have aiz := Rq aeU
          have uY : ik im loc aD w { v := .own (ah5 aD) esz 0 ((ah5 rows) + (ah5 new)) ((ah5 rows) + (ah5 new)) ah9, news := [.arr esz (rows ++ new)], rd := gP y } := by rw [h]; exact hk
          obtain ⟨hs, EE, Ok⟩ := AB (P := P) (w := w) hy zd Yn uY.bA (fun t ht => uY.tok t (.inl ht))
          rw [<- o9] at hs
          have yk : (Builtin.firstCells i.size (ah5 rows) (.slice a (ah5 rows) cap)).run P w.drew = .ok (rows.flatMap aZ).toArray w.drew /\ (∀ r ∈ rows, (ah5 r) = esz) /\ (∀ r ∈ rows, ∀ c ∈ r, c.plain = ah8) := by
            cases hrw : rows with
            | nil =>
              refine ⟨?_, by simp, by simp⟩
              cases a with
              | none => simpa using run_firstCells_none w.drew i.size 0 0 cap
              | some a => exact run_firstCells_some w.drew i.size 0 a 0 cap [] (by simp) (by simp)
            | cons r0 rs =>
              rw [<- hrw]
              have Za : rows ≠ [] := by rw [hrw]; simp
              obtain ⟨b, o, rfl, cL⟩ := kY Za
              have Rr : e1 = esz := by
                rcases BW with h | h
                · exact h
                rw [hrw] at h; simp at h
              subst Rr
              refine ⟨run_firstCells_some w.drew i.size (ah5 rows) ⟨b, o, ah7⟩ (ah5 rows) cap _ (by rw [o9]; exact dp cL.my) (fun j v hj => ?_), cL.my, cL.plain⟩
              rw [pj]
              exact qY uY.bA (cL.flat j v hj)
          obtain ⟨yk, Zb, eH⟩ := yk
          obtain ⟨nc, rest, Ym, RI, bQ⟩ := CD (P := P) (w := w) (tx := tx) (ty := ty) ht hi hz RJ JO (sCap := cap) yk hs (by omega) (by simpa [jU] using jA)
          obtain ⟨li, hlb, nb, qQ, kC⟩ := AE (im := im) (loc := loc) (r := { v := .own (ah5 aD) esz 0 ((ah5 rows) + (ah5 new)) ((ah5 rows) + (ah5 new)) ah9, news := [.arr esz (rows ++ new)], rd := gP y })
            (w' := w.drew.alloc (.cells (((rows.flatMap aZ) ++ (new.flatMap aZ)).toArray ++ rest) e)) rfl rfl uY dZ rfl Zb eH EE Ok Ym RI
          subst h
          exact ⟨_, _, _, bQ, nb, qX.new uY li rfl rfl rfl rfl rfl rfl hlb qQ⟩
        cases h
      | own tk e1 off len cap ex =>
        dsimp only at h
        obtain ⟨li, a, cI, rfl, hl, he, BV, cy, EB, hex, BX⟩ := hx.gG
        cases bR : aD[tk]? with
        | none => rw [bR] at h; cases h
        | some cS =>
          rw [bR] at h
          cases cS with
          | arr e2 rows =>
            dsimp only at h
            split at h
            · cases h
            rename_i JJ
            have JJ : e1 = esz := by simpa using JJ
            subst JJ
            split at h
            ·
              rename_i vJ
              have vJ : len + (ah5 new) <= cap := by simpa using vJ
              split at h
              · cases h
              rename_i OF
              injection h with h
              subst h
              obtain ⟨hs, EE, Ok⟩ := AB (P := P) (w := w) hy zd Yn hk.bA (fun t ht => hk.tok t (.inl ht))
              rw [<- o9] at hs
              obtain ⟨k, gI, hb⟩ := hk.tok tk (.inr ⟨_, ae0.2 rfl⟩) li hl
              rw [bR] at gI; injection gI with gI; subst gI
              obtain ⟨b1, b2, b3⟩ := hb
              have mz : rows ≠ [] := by intro e; subst e; simp at b2; omega
              have vq : e2 = e1 := by rw [<- b1, he]
              subst vq
              obtain ⟨arr, el, q8, F1, G6, cL⟩ := b3 mz
              rcases BX with h0 | ⟨_, rfl, sM⟩
              · omega
              have EF := dp EE
              have EC := acl e2 (show off + (len + (ah5 new)) <= (ah5 rows) by omega)
              have JP : (off + (len + (ah5 new))) * e2 = off * e2 + len * e2 + (ah5 new) * e2 := by rw [UV, UV]; omega
              have CF : li.sh + off * e2 + len * i.size + (new.flatMap aZ).length <= arr.size := by rw [o9, EF]; omega
              have bQ := pC (P := P) (w := w) t tx ty e i ht hi li.cS (li.sh + off * e2) len cI v (ah5 new) (new.flatMap aZ) hs (by omega) q8 CF
              refine ⟨_, _, loc, bQ, ?_, ?_⟩
              · exact .own tk e2 off (len + (ah5 new)) cap ex li _ cI hl he BV vJ EB hex (.inr ⟨by omega, rfl, sM⟩)
              refine qX.write hk (t := tk) (k0 := .arr e2 rows) (li := li) rfl rfl hl bR (by cases rows with | nil => exact absurd rfl mz | cons _ _ => rfl) (eM q8) rfl rfl rfl ?_
              rw [vG _ _ _ (by omega)]
              refine ⟨b1, by rw [fP _ _ _ (by omega)]; exact b2, fun _ => ⟨(tH (li.sh + off * e2 + len * i.size) (new.flatMap aZ) arr.toList).toArray, el, ?_, ?_, ?_, ?_⟩⟩
              · rw [eM q8]
                have dz := (M2.1 q8).1
                simp [dz]
              · rw [<- F1]
                simp only [aev]
                rw [fP _ _ _ (by simpa using CF)]; simp
              · rw [fP _ _ _ (by omega)]; exact G6
              refine cL.tH (by omega) EE Ok (fun k => ?_)
              simp only [aen]
              rw [mw _ _ _ (by simpa using CF), EF]
              have : li.sh + off * e2 + len * i.size = li.sh + (off + len) * e2 := by rw [o9, UV]; omega
              rw [this]
              simp
            rename_i vJ
            have vJ : ¬ (len + (ah5 new) <= cap) := by simpa using vJ
            split at h
            · cases h
            rename_i jA
            have jA : len + (ah5 new) <= 1048576 := by simpa [jU] using jA
            have old : ∀ (rd : List Nat) (wr : List (Nat × iZ)), (tk ∈ rd \/ ∃ k, (tk, k) ∈ wr) ->
                ik im loc aD w { v := .own (ah5 aD) e1 0 (len + (ah5 new)) (len + (ah5 new)) ah9, news := [.arr e1 ((rows.drop off).take len ++ new)], wr := wr, rd := rd } ->
                (Builtin.firstCells i.size len (.slice a len cI)).run P w.drew = .ok (((rows.drop off).take len).flatMap aZ).toArray w.drew /\ ((rows.drop off).take len).length = len /\
                  (∀ r ∈ (rows.drop off).take len, (ah5 r) = e1) /\ (∀ r ∈ (rows.drop off).take len, ∀ c ∈ r, c.plain = ah8) := by
              intro rd wr xE uY
              obtain ⟨k, gI, hb⟩ := uY.tok tk xE li hl
              rw [bR] at gI; injection gI with gI; subst gI
              obtain ⟨b1, b2, b3⟩ := hb
              have vq : e2 = e1 := by rw [<- b1, he]
              subst vq
              have yo : ((rows.drop off).take len).length = len := by simp; omega
              by_cases G7 : len = 0
              · subst G7
                refine ⟨?_, yo, by simp, by simp⟩
                simp only [List.take_zero, aeR]
                cases a with
                | none => exact run_firstCells_none w.drew i.size 0 0 cI
                | some a => exact run_firstCells_some w.drew i.size 0 a 0 cI [] (by simp) (by simp)
              have mz : rows ≠ [] := by intro e; subst e; simp at yo; omega
              obtain ⟨arr, el, q8, F1, G6, cL⟩ := b3 mz
              have tI := (cL.drop off).take len
              rcases BX with h0 | ⟨_, rfl, _⟩
              · omega
              refine ⟨run_firstCells_some w.drew i.size len _ len cI _ (by rw [o9, dp tI.my, yo]) (fun j v hj => ?_), yo, tI.my, tI.plain⟩
              rw [pj]
              exact jH (w := w) q8 (tI.flat j v hj)
            split at h
            ·
              rename_i aeW
              injection h with h
              have uY : ik im loc aD w { v := .own (ah5 aD) e1 0 (len + (ah5 new)) (len + (ah5 new)) ah9, news := [.arr e1 ((rows.drop off).take len ++ new)], wr := [], rd := tk :: gP y } := by rw [h]; exact hk
              obtain ⟨yk, yo, Zb, eH⟩ := old (tk :: gP y) [] (.inl (by simp)) uY
              obtain ⟨hs, EE, Ok⟩ := AB (P := P) (w := w) hy zd Yn uY.bA (fun t ht => uY.tok t (.inl (aeH _ ht)))
              rw [<- o9] at hs
              have hce := hex aeW
              obtain ⟨nc, rest, Ym, RI, bQ⟩ := CD (P := P) (w := w) (tx := tx) (ty := ty) ht hi hz RJ JO (sCap := cI) yk hs (by omega) jA
              obtain ⟨lj, hlb, nb, qQ, kC⟩ := AE (im := im) (loc := loc) (olds := (rows.drop off).take len) (new := new) (r := { v := .own (ah5 aD) e1 0 (len + (ah5 new)) (len + (ah5 new)) ah9, news := [.arr e1 ((rows.drop off).take len ++ new)], wr := [], rd := tk :: gP y })
                (w' := w.drew.alloc (.cells (((((rows.drop off).take len).flatMap aZ) ++ (new.flatMap aZ)).toArray ++ rest) e)) (by rw [yo]) rfl uY dZ rfl Zb eH EE Ok (by rw [yo]; exact Ym) (by rw [yo]; exact RI)
              subst h
              rw [yo] at nb
              exact ⟨_, _, _, bQ, nb, qX.new uY lj rfl rfl rfl rfl rfl rfl hlb qQ⟩
            rename_i aeW
            split at h
            · cases h
            rename_i OF
            injection h with h
            have uY : ik im loc aD w { v := .own (ah5 aD) e1 0 (len + (ah5 new)) (len + (ah5 new)) ah9, news := [.arr e1 ((rows.drop off).take len ++ new)], wr := [(tk, .dead)], rd := gP y } := by rw [h]; exact hk
            obtain ⟨yk, yo, Zb, eH⟩ := old (gP y) [(tk, .dead)] (.inr ⟨_, ae0.2 rfl⟩) uY
            obtain ⟨hs, EE, Ok⟩ := AB (P := P) (w := w) hy zd Yn uY.bA (fun t ht => uY.tok t (.inl ht))
            have sN := hs
            rw [<- o9] at hs
            subst h
            rcases adM cI (len + (ah5 new)) with hg | hg
            ·
              obtain ⟨nc, rest, Ym, RI, bQ⟩ := CD (P := P) (w := w) (tx := tx) (ty := ty) ht hi hz RJ JO (sCap := cI) yk hs hg jA
              obtain ⟨lj, hlb, nb, qQ, kC⟩ := AE (im := im) (loc := loc) (olds := (rows.drop off).take len) (new := new) (r := { v := .own (ah5 aD) e1 0 (len + (ah5 new)) (len + (ah5 new)) ah9, news := [.arr e1 ((rows.drop off).take len ++ new)], wr := [(tk, .dead)], rd := gP y })
                (w' := w.drew.alloc (.cells (((((rows.drop off).take len).flatMap aZ) ++ (new.flatMap aZ)).toArray ++ rest) e)) (by rw [yo]) rfl uY dZ rfl Zb eH EE Ok (by rw [yo]; exact Ym) (by rw [yo]; exact RI)
              rw [yo] at nb
              refine ⟨_, _, _, bQ, nb, ?_⟩
              have qo := qX.new (r := { v := .own (ah5 aD) e1 0 (len + (ah5 new)) (len + (ah5 new)) ah9, news := [.arr e1 ((rows.drop off).take len ++ new)], wr := [], rd := gP y })
                (w' := w.drew.alloc (.cells (((((rows.drop off).take len).flatMap aZ) ++ (new.flatMap aZ)).toArray ++ rest) e))
                ⟨uY.bA, fun t ht => uY.tok t (by rcases ht with ht | ⟨k, ht⟩; exact .inl ht; cases ht), fun t k h => absurd h (by simp), uY.fresh, fun t u li lj k k' h1 h2 => uY.gL t u li lj k k' (by rcases h1 with h | ⟨k, h⟩; exact .inl h; cases h) (by rcases h2 with h | ⟨k, h⟩; exact .inl h; cases h)⟩ lj rfl rfl rfl rfl rfl rfl hlb qQ
              exact { fO := qo.fO, dy := qo.dy, bA := qo.bA, dC := qo.dC, os := qo.os, tape := qo.tape, output := qo.output, size := qo.size,
                      frame := fun b hb _ => qo.frame b hb (fun t k li k0 h => absurd h (by simp)),
                      MX := (fun t k hm hs => by
                        obtain ⟨rfl, rfl⟩ : t = tk /\ k = .dead := by simpa using hm
                        cases hs),
                      wr := fun t k li hm kV => by
                        obtain ⟨rfl, rfl⟩ : t = tk /\ k = .dead := by simpa using hm
                        trivial,
                      jN := qo.jN,
                      news := fun j k li hj hl => by
                        obtain ⟨h2, h3⟩ := qo.news j k li hj hl
                        refine ⟨h2, fun hs => ⟨(h3 hs).1, ?_⟩⟩
                        rcases (h3 hs).2 with h | ⟨t, lt, k0, hm, _⟩
                        · exact .inl h
                        exact absurd hm (by simp),
                      distinct := qo.distinct }
            ·
              obtain ⟨k, gI, hb⟩ := uY.tok tk (.inr ⟨_, ae0.2 rfl⟩) li hl
              rw [bR] at gI; injection gI with gI; subst gI
              obtain ⟨b1, b2, b3⟩ := hb
              have vq : e2 = e1 := by rw [<- b1, he]
              subst vq
              rcases BX with h0 | ⟨RK, rfl, sM⟩
              · omega
              have mz : rows ≠ [] := by intro e; subst e; simp at b2; omega
              obtain ⟨arr, el, q8, F1, G6, cL⟩ := b3 mz
              have tI := (cL.drop off).take len
              have EF := dp EE
              have aeX := dp Zb
              rw [yo] at aeX
              have EC := acl e2 (show off + (len + (ah5 new)) <= off + cI by omega)
              have JP : (off + (len + (ah5 new))) * e2 = off * e2 + len * e2 + (ah5 new) * e2 := by rw [UV, UV]; omega
              have CF : li.sh + off * e2 + len * i.size + (new.flatMap aZ).length <= arr.size := by rw [o9, EF]; omega
              have bQ := pC (P := P) (w := w) t tx ty e i ht hi li.cS (li.sh + off * e2) len cI v (ah5 new) (new.flatMap aZ) hs hg q8 CF
              have LA := eM (cs := (tH (li.sh + off * e2 + len * i.size) (new.flatMap aZ) arr.toList).toArray) q8
              have dz := (M2.1 q8).1
              have yp : (iZ.arr e2 rows).bC = ah8 := by cases rows with | nil => exact absurd rfl mz | cons _ _ => rfl
              have zn := uY.free tk .dead (ae0.2 rfl) li (.arr e2 rows) hl bR yp
              let lj : LI := ⟨li.cS, li.sh + off * e2, e2, ((rows.drop off).take len ++ new).length, li.sz⟩
              have OI : loc (ah5 aD) = ah7 := by have := uY.fresh 0 (by simp); simpa using this
              have hlj : lj.n = len + (ah5 new) := by simp only [lj, aeu, yo]
              refine ⟨_, _, loc.set (ah5 aD) lj, bQ, ?_, ?_⟩
              · exact .own (ah5 aD) e2 0 (len + (ah5 new)) (len + (ah5 new)) ah9 lj _ cI (Loc.eo _ _ _) rfl (by omega) (If _) hg (by simp)
                  (.inr ⟨by omega, by simp [lj], by simp only [lj, afb]; rw [UV] at sM; omega⟩)
              have qQ : BR im (loc.set (ah5 aD) lj) (w.setRow li.cS (tH (li.sh + off * e2 + len * i.size) (new.flatMap aZ) arr.toList).toArray) lj (.arr e2 ((rows.drop off).take len ++ new)) := by
                refine ⟨rfl, rfl, fun _ => ⟨(tH (li.sh + off * e2 + len * i.size) (new.flatMap aZ) arr.toList).toArray, el, by rw [LA]; simp [lj, dz], ?_, ?_, ?_⟩⟩
                · simp only [lj, aev]
                  rw [fP _ _ _ (by simpa using CF)]; simpa using F1
                · simp only [lj, aeu, yo]
                  rw [UV]; rw [JP] at EC; omega
                refine bF.AA (fun r hr => ?_) (fun r hr => ?_) (fun j u hj => ?_)
                · rcases aeo.1 hr with h | h
                  · exact Zb r h
                  exact EE r h
                · rcases aeo.1 hr with h | h
                  · exact eH r h
                  exact Ok r h
                rw [afp] at hj
                simp only [lj, aen]
                rw [mw _ _ _ (by simpa using CF), EF, o9]
                rcases adM j (len * e2) with JM | JM
                · rw [adR (by omega)] at hj
                  rw [ut (by omega)]
                  have := tI.flat j u hj
                  simpa using this
                rw [adc (by omega), aeX] at hj
                have hjb := (ae5.1 hj).1
                rw [rc ⟨by omega, by omega⟩, <- hj]
                congr 1
                omega
              exact { fO := .refl _, dy := Loc.vD lj OI,
                      bA := fun b o hb => by
                        have h1 := uY.bA b o hb
                        have JQ : li.cS ≠ b := fun e => by rw [e, hb] at zn; cases zn
                        rw [LA, adZ, ut JQ]; exact h1,
                      dC := fun _ _ h => .inl h, os := rfl, tape := ⟨rfl, If _⟩, output := rfl,
                      size := by rw [LA]; simp,
                      MX := (fun t k hm hs => by
                        obtain ⟨rfl, rfl⟩ : t = tk /\ k = .dead := by simpa using hm
                        cases hs),
                      frame := fun b _ hb => by
                        have JQ := hb tk .dead li _ (ae0.2 rfl) hl bR yp
                        rw [LA, adZ, ut JQ],
                      wr := fun t k li hm kV => by
                        obtain ⟨rfl, rfl⟩ : t = tk /\ k = .dead := by simpa using hm
                        trivial,
                      jN := fun t l h => by
                        unfold Loc.set at h
                        split at h
                        · rename_i e; subst e; exact .inr ⟨If _, by simp⟩
                        exact .inl h,
                      news := Az (fun j k hj => by
                        cases j with
                        | zero =>
                          simp at hj; subst hj
                          exact ⟨lj, Loc.eo _ _ _, qQ, fun _ => ⟨zn, .inr ⟨tk, li, _, ae0.2 rfl, hl, bR, yp, rfl⟩⟩⟩
                        | succ j => simp at hj),
                      distinct := fun i j ki kj li lj h1 h2 _ _ _ _ _ => by
                        cases i <;> cases j <;> simp at h1 h2 <;> rfl }
          | _ => cases h
      | _ => cases h
end
end Go.Vm
/- Operation by operation, seventh part: aggregates and rows that are built, slices that are cut. -/
namespace Go.Vm
section
variable {P : Program} {im : Im} {loc : Loc} {aD : bY} {fz : List Nat} {w : World}
theorem sO {α β:Type} (f:α->Sem β) (g:α->β):
 ∀(xs:List α),(∀a∈xs,(f a).run P w= .ok (g a) w)-> ∀(acc:Array β),(xs.foldlM (fun bs a=>bs.push<$>f a) acc).run P w= .ok (acc++(xs.map g).toArray) w
 | [],_,acc=>by simp
 |x::xs,h,acc=>by
  simp only [afK,Do,Sem.run_map,h x (by simp),ww,sO f g xs (fun a ha=>h a (by simp [ha]))]
  congr 1
  apply ae6;simp
theorem M4 {α β:Type} (f:α->Sem β) (g:α->β) (xs:Array α) (h: ∀a∈xs,(f a).run P w= .ok (g a) w):(xs.mapM f).run P w= .ok (xs.map g) w:=by
 rw [Array.mapM_eq_foldlM,<- Array.foldlM_toList,sO f g xs.toList (fun a ha=>h a (by simpa using ha))]
 congr 1
 apply ae6;simp
theorem EX (off:Nat): ∀(xs:List Value) (k:Nat) (cells:Array Value),off+k+ah5 xs<=cells.size->
 ((xs.zipIdx k).foldl (fun (cs:Array Value) (p:Value×Nat)=>cs.setIfInBounds (off+p.2) p.1) cells).toList=tH (off+k) xs cells.toList
 | [],k,cells,_=>by simp [tH]
 |x::xs,k,cells,h=>by
  simp only [aet] at h;rw [List.zipIdx_cons,aeA,EX off xs (k+1) _ (by simp;omega)];apply aeK;intro j;rw [mw _ _ _ (by simp;omega),mw _ _ _ (by simp;omega)];simp only [aet,Array.toList_setIfInBounds]
  by_cases h1:off+(k+1)<=j/\j<off+(k+1)+ah5 xs
  · rw [rc h1,rc ⟨by omega,by omega⟩]
    obtain ⟨m,hm⟩: ∃m,j- (off+k)=m+1:=⟨j- (off+k) -1,by omega⟩;rw [hm,show j- (off+(k+1))=m by omega];simp
  rw [ut h1]
  by_cases h2:j=off+k
  · subst h2
    rw [rc ⟨If _,by omega⟩,afa (by simp;omega)];simp
  rw [ut (by omega),afn (by omega)]
theorem wY {place:Nat->Option (Nat×Nat)} {i off size:Nat} {v:Value} {rest:List (Nat×Value)} {cells:Array Value} (hp:place i=ah6 (off,size)) (hs:v.cells.size=size)
 (hf:off+size<=cells.size):Instr.fill place cells ((i,v)::rest)=Instr.fill place ⟨tH off v.cells.toList cells.toList⟩ rest:=by
 have he:(v.cells.zipIdx.foldl (fun cs (c,j)=>cs.setIfInBounds (off+j) c) cells)=⟨tH off v.cells.toList cells.toList⟩:=by apply ae6;rw [<- Array.foldl_toList,Array.toList_zipIdx];have:=EX off v.cells.toList 0 cells (by simp;omega);simpa using this
 simp only [Instr.fill,hp];rw [ut (by simp [hs];omega),he]
inductive sP (im:Im) (loc:Loc) (place:Nat->Option (Nat×Nat)):List (Nat×Nat×PV)->List (Nat×Value)->Prop
 |nil:sP im loc place [] []
 |cons (off sz i:Nat) (x:PV) (v:Value) (r:List (Nat×Nat×PV)) (s:List (Nat×Value)) (hp:place i=ah6 (off,sz)) (hv:VR im loc x v) (h:sP im loc place r s):
  sP im loc place ((off,sz,x)::r) ((i,v)::s)
theorem Ht {place:Nat->Option (Nat×Nat)}: ∀{ps:List (Nat×Nat×PV)} {qs:List (Nat×Value)},sP im loc place ps qs-> ∀{cs ET:List PV} {vs:Array Value},
 eh im loc cs vs.toList->lG ps cs=ah6 ET-> ∃JD,Instr.fill place vs qs=ah6 JD/\eh im loc ET JD.toList
 |_,_,.nil,cs,ET,vs,h,hf=>by simp only [lG,v6] at hf;subst hf;exact ⟨vs,rfl,h⟩
 |_,_,.cons off sz i x v r s hp hv hr,cs,ET,vs,h,hf=>by
  simp only [lG] at hf;cases bR:x.stored with
  |none=>rw [bR] at hf;cases hf
  |some ws=>
   rw [bR] at hf;dsimp only at hf;split at hf
   · rename_i hc
     simp only [v4,ae8,aew] at hc;obtain ⟨rfl,zl⟩:=yj bR;have Ly:=hv.cells zl;have hl:=Ly.ly;have EW:=h.ly;simp only [aes] at hl EW;rw [wY hp (by omega) (by omega)];exact Ht hr (eh.tH Ly h) hf
   cases hf
theorem CG {t:TypeId} {fs:Array Field} (hu:P.underlying t=ah6 (.struct fs)) (hf: ∀f∈fs,(P.info? f.type).isSome=ah8):
 (fs.mapM fun f=>do pure (f.offset,<- sizeOf f.type):Sem (Array (Nat×Nat))).run P w= .ok (fs.map fun f=>(f.offset,P.cellsOf f.type)) w/\
 (fun i=>(fs.map fun f=>(f.offset,P.cellsOf f.type))[i]?)=placeOf P t:=by
 constructor
 · refine M4 _ _ _ fun f hm=>?_
   obtain ⟨i,hi⟩:=aeq.1 (hf f hm);simp [sizeOf,typeInfo,hi,Program.cellsOf]
 funext i
 unfold placeOf;rw [hu];cases hfi:fs[i]? with
 |none=>simp [hfi]
 |some f=>obtain ⟨j,hj⟩:=aeq.1 (hf f (Array.mem_of_getElem? hfi));simp [hfi,hj,Program.cellsOf]
theorem M5 {t:TypeId} {zero cs:List PV} {ps:List (Nat×Nat×PV)} {qs:Array (Nat×Value)} (hz:rU P t zero=ah8)
 (mc:(match P.underlying t with|some (.struct fs)=>fs.all fun f=>(P.info? f.type).isSome|some (.array _ e)=>(P.info? e).isSome|_=>ah9)=ah8)
 (hr:sP im loc (placeOf P t) ps qs.toList) (hf:lG ps zero=ah6 cs): ∃v,(Instr.build t qs).run P w= .ok v w/\VR im loc (.agg cs) v:=by
 unfold rU at hz;cases hi:P.info? t with
 |none=>rw [hi] at hz;cases hz
 |some i=>
  rw [hi] at hz;cases F2:i.zero with
  |none=>simp [F2] at hz
  |some z=>
   simp [F2] at hz;have JE:(zeroValue t).run P w= .ok z w:=by simp [zeroValue,typeInfo,hi,F2]
   obtain ⟨JD,h1,h2⟩:=Ht hr (vC hz) hf;refine ⟨.agg JD,?_,.agg cs JD.toList h2⟩;cases hu:P.underlying t with
   |none=>rw [hu] at mc;cases mc
   |some d=>
    rw [hu] at mc;cases d<;>first|cases mc|skip
    case array n e=>
     obtain ⟨j,hj⟩:=aeq.1 mc;have hp:(fun i=>ah6 (i*j.size,j.size))=placeOf P t:=by funext i;unfold placeOf;rw [hu];simp [hj]
     have o9:(sizeOf e).run P w= .ok j.size w:=by simp [sizeOf,typeInfo,hj]
     simp only [Instr.build,Do,JE,run_underlying hu,ww,o9,hp,h1,EQ]
    case struct fs=>
     have pN: ∀f∈fs,(P.info? f.type).isSome=ah8:=by intro f hf;have:=Array.all_eq_true.1 mc;obtain ⟨k,hk,rfl⟩:=Array.mem_iff_getElem.1 hf;exact this k hk
     obtain ⟨hm,hp⟩:=CG (P:=P) (w:=w) hu pN;simp only [Instr.build,Do,JE,run_underlying hu,ww,hm,hp,h1,EQ]
theorem AF {zero:Row} {zs:Array Value} (h: ∀(j:Nat) (c:PV),zero[j]? =ah6 c-> ∃v,iD c=ah6 v/\zs[j]? =ah6 v) (hl:(ah5 zero)=zs.size) (n:Nat):
 bF (fun k=>((aeL (n*zs.size)).map (zs[· %zs.size]!))[k]?) 0 zs.size (ae7 n zero):=by
 intro i r hr;have hi:i<n:=by
  rcases adM i n with h|h
  · exact h
  rw [NE (by simpa using h)] at hr;cases hr
 rw [List.getElem?_replicate,rc hi] at hr;injection hr with hr;subst hr;refine ⟨hl,fun j c hc=>?_⟩;obtain ⟨v,hv,hz⟩:=h j c hc;refine ⟨v,hv,?_⟩;have hj:j<zs.size:=(M2.1 hz).1;have dz:i*zs.size+j<n*zs.size:=by have:=acl zs.size (show i+1<=n from hi);rw [UV] at this;omega
 have aiC:(i*zs.size+j)%zs.size=j:=by rw [Nat.mul_comm,Nat.mul_add_mod];exact Nat.mod_eq_of_lt hj
 simp only [afb];rw [Array.getElem?_map,Array.getElem?_range,rc dz];simp only [afR,aiC];rw [getElem!_pos zs j hj];have:=(M2.1 hz).2;rw [this]
inductive vK (im:Im) (loc:Loc):List (Nat×PV)->List (Nat×Value)->Prop
 |nil:vK im loc [] []
 |cons (i:Nat) (x:PV) (v:Value) (r:List (Nat×PV)) (s:List (Nat×Value)) (hv:VR im loc x v) (h:vK im loc r s):vK im loc ((i,x)::r) ((i,v)::s)
theorem zo {esz n : Nat} : ∀ {ps : List (Nat × PV)} {qs : List (Nat × Value)}, vK im loc ps qs -> ∀ {rows pD : List Row} {vs : Array Value},
    bF (fun k => vs[k]?) 0 esz rows -> vs.size = n * esz -> (ah5 rows) = n -> oF ps rows esz = ah6 pD ->
    ∃ JD, Instr.fill (fun i => ah6 (i * esz, esz)) vs qs = ah6 JD /\ bF (fun k => JD[k]?) 0 esz pD /\ JD.size = n * esz /\ (ah5 pD) = n
  | _, _, .nil, rows, pD, vs, h, hs, hn, hf => by
    simp only [oF, v6] at hf
    subst hf
    exact ⟨vs, rfl, h, hs, hn⟩
  | _, _, .cons i x v r s hv hr, rows, pD, vs, h, hs, hn, hf => by
    simp only [oF] at hf
    cases bR : x.bZ with
    | none => rw [bR] at hf; cases hf
    | some ws =>
      rw [bR] at hf
      dsimp only at hf
      split at hf
      · rename_i hc
        have ze : (ah5 ws) = esz := by simp only [v4, ae8] at hc; exact hc.1
        have G8 : i < (ah5 rows) := by simp only [v4] at hc; simpa using hc.2
        obtain ⟨rfl, JL⟩ := lg bR
        have Ly := hv.cells (fun c hc => vF (JL c hc))
        have hl := Ly.ly
        simp only [aes] at hl
        have EC := acl esz (show i + 1 <= n by omega)
        rw [UV] at EC
        rw [wY (place := fun i => ah6 (i * esz, esz)) rfl (by omega) (by omega)]
        have hgi : rows[i]? = ah6 rows[i] := PP G8
        have hil := (h i _ hgi).1
        have aeY := h.store (get' := fun k => (⟨tH (i * esz) v.cells.toList vs.toList⟩ : Array Value)[k]?) (off := 0) (ws := x.cells) (vs := v.cells.toList) hgi (by omega) (Ly.EV JL) (by simp; omega) (fun k => by
          simp only [aen]
          rw [mw _ _ _ (by simp; omega)]
          simp)
        have aiD : tH 0 x.cells rows[i] = x.cells := by
          unfold tH; rw [aeD (by omega)]; simp
        rw [aiD] at aeY
        exact zo hr aeY (by simp only [aev]; rw [fP _ _ _ (by simp; omega)]; simpa using hs) (by simpa using hn) hf
      cases hf
end
end Go.Vm
/- Operation by operation, last part: all of them. -/
namespace Go.Vm
def jL.eu:jL->List eI
 | .Oi x| .un _ x| .conv _ x| .len x| .box x| .load _ x| .Hd x| .He _ x| .jT _ _ x| .ext _ x=>[x]
 | .pick a b c=>[a,b,c]
 | .bin _ x y| .Hc _ x y| .Yb _ _ x y| .store _ x y| .Hf _ x y| .Bn _ _ x y| .idx _ _ _ x y| .Hg x y| .Yc _ _ x y| .append _ x y| .copy _ x y=>[x,y]
 | .build _ ps=>ps.map (·.2.2)
 | .zf _ _ _ ps=>ps.map (·.2)
 | .Bm x y=>[x,y]
 | .MT _ x a b c=>x::(a.toList++b.toList++c.toList)
 | .Yd _ a b=>a++b
 | .lookup _ _ _ m k=>[m,k]
 | .FT _ m k v=>[m,k,v]
 | .clear _ _ x=>[x]
 | .mm _ x xs=>x::xs
 | .call _ _ as=>as
 | .uS x as=>x::as
 | .JI _| .alloc _| .Ye _| .bad=>[]
section
variable {P : Program} {im : Im} {loc : Loc} {aD : bY} {fz : List Nat} {w : World} {e : Env} {ρ : Operand -> Value}
theorem lJ: ∀{xs:List eI} {os:List Operand},(∀x∈xs,∀o,bn x o=ah8->VR im loc (x.ev e) (ρ o))->ec xs os=ah8->eh im loc (Ct e xs) (os.map ρ)
 | [],[],_,_=> .nil
 |x::xs,o::os,h,hc=>by simp only [ec,v4] at hc;exact .cons _ _ _ _ (h x (by simp) o hc.1) (lJ (fun y hy=>h y (by simp [hy])) hc.2)
 | [],_::_,_,hc=>by simp [ec] at hc
 |_::_,[],_,hc=>by simp [ec] at hc
theorem zp {place:Nat->Option (Nat×Nat)}: ∀{ps:List (Nat×Nat×eI)} {qs:List (Nat×Operand)},(∀x∈ps.map (·.2.2),∀o,bn x o=ah8->VR im loc (x.ev e) (ρ o))->sK place ps qs=ah8->
 sP im loc place (ps.map fun p=>(p.1,p.2.1,p.2.2.ev e)) (qs.map fun (i,x)=>(i,ρ x))
 | [],[],_,_=> .nil
 |(off,sz,x)::r,(i,o)::s,h,hc=>by
  simp only [sK,v4] at hc;obtain ⟨⟨h1,h2⟩,h3⟩:=hc;refine .cons off sz i _ _ _ _ ?_ (h x (by simp) o h2) (zp (fun y hy=>h y (by simp only [agn,aez];exact .inr hy)) h3);cases hp:place i with
  |none=>rw [hp] at h1;cases h1
  |some q=>rw [hp] at h1;simp only [v4,beq_iff_eq] at h1;obtain ⟨rfl,rfl⟩:=h1;rfl
 | [],_::_,_,hc=>by simp [sK] at hc
 |_::_,[],_,hc=>by simp [sK] at hc
theorem uZ: ∀{ps:List (Nat×eI)} {qs:List (Nat×Operand)},(∀x∈ps.map (·.2),∀o,bn x o=ah8->VR im loc (x.ev e) (ρ o))->lI ps qs=ah8->
 vK im loc (ps.map fun p=>(p.1,p.2.ev e)) (qs.map fun (i,x)=>(i,ρ x))
 | [],[],_,_=> .nil
 |(i,x)::r,(j,o)::s,h,hc=>by simp only [lI,v4,beq_iff_eq] at hc;obtain ⟨⟨rfl,h2⟩,h3⟩:=hc;exact .cons i _ _ _ _ (h x (by simp) o h2) (uZ (fun y hy=>h y (by simp only [agn,aez];exact .inr hy)) h3)
 | [],_::_,_,hc=>by simp [lI] at hc
 |_::_,[],_,hc=>by simp [lI] at hc
theorem CH {t:TypeId} {zero:Row} (h:rU P t zero=ah8) (hp:zero.all PV.plain=ah8):
 ∃i z,P.info? t=ah6 i/\i.zero=ah6 z/\ah5 zero=z.cells.size/\ ∀(j:Nat) (c:PV),zero[j]? =ah6 c-> ∃v,iD c=ah6 v/\z.cells[j]? =ah6 v:=by
 unfold rU at h;cases hi:P.info? t with
 |none=>rw [hi] at h;cases h
 |some i=>
  rw [hi] at h;cases hz:i.zero with
  |none=>simp [hz] at h
  |some z=>simp [hz] at h;have hr:eh (fun _=>ah7) (fun _=>ah7) zero z.cells.toList:=vC h;refine ⟨i,z,rfl,hz,by simpa using hr.ly,fun j c hc=>?_⟩;obtain ⟨v,hv,JK⟩:=hr.get j c hc;refine ⟨v,JK.plain ?_,by simpa using hv⟩;have:=afL.1 hp c (aeF hc);exact this
theorem Bs {esz n len cap:Nat} {rows:List Row} {vs:Array Value} {el:TypeId} {r:mh} (hr:r={v:= .own (ah5 aD) esz 0 len cap ah8,news:=[.arr esz rows]}) (hk:ik im loc aD w r)
 (cL:bF (fun k=>vs[k]?) 0 esz rows) (hs:vs.size=n*esz) (hn:(ah5 rows)=n) (hc:cap=n) (hl:len<=cap):
 ∃bc,VR im bc r.v (.slice (ah6 ⟨w.heap.size,0,ah7⟩) len cap)/\qX im loc aD w r im bc {w with heap:=w.heap.push (.cells vs el)}:=by
 subst hr hc
 let li:LI:=⟨w.heap.size,0,esz,cap,vs.size⟩
 refine ⟨loc.set (ah5 aD) li,?_,?_⟩
 · refine .own (ah5 aD) esz 0 len cap ah8 li _ cap (Loc.eo _ _ _) rfl (by simp [li]) hl (If _) (fun _=>rfl) ?_
   rcases afC cap with h|h
   · exact .inl h
   exact .inr ⟨by simp [li];omega,by simp [li],by simp [li,hs]⟩
 exact qX.new hk li rfl rfl rfl rfl rfl rfl rfl ⟨rfl,hn.symm,fun _=>⟨vs,el,by simp [li],rfl,by simp [li,hs,hn],cL⟩⟩
theorem LB {isMax:Bool} {k:IntKind}: ∀{ys:List PV} {us:List Value},eh im loc ys us-> ∀{a:Int} {z:PV},Y7 isMax k a ys=ah6 z->
 ∃b,z= .int k b/\(us.foldlM (if isMax then Builtin.max2 else Builtin.min2) (.int k a)).run P w= .ok (.int k b) w
 |_,_,.nil,a,z,h=>by simp only [Y7,v6] at h;exact ⟨a,h.symm,rfl⟩
 |_,_,.cons y u ys us hy hs,a,z,h=>by
  unfold Y7 at h;cases y with
  |int l c=>
   obtain rfl:=hy.fH;dsimp only at h;cases Ol:eE k l with
   |false=>rw [Ol] at h;cases h
   |true=>
    have:=ei.1 Ol;subst this;rw [Ol,rc rfl] at h;obtain ⟨b,hz,ih⟩:=LB (isMax:=isMax) hs h;refine ⟨b,hz,?_⟩;rw [afK,Do];cases isMax with
    |true=>simp only [if_true] at ih ⊢;simp only [Builtin.max2,EQ,ww];exact ih
    |false=>simp only [adT,if_false] at ih ⊢;simp only [Builtin.min2,EQ,ww];exact ih
  |_=>cases h
end
end Go.Vm
/- Operation by operation: all that call nothing. -/
namespace Go.Vm
def OJ (P:Program) (ρ:Operand->Value) (o:Oper) (im:Im) (loc:Loc) (aD:bY) (w:World) (r:mh):Prop:=
 ∃nx w' bc,(execOp ρ o).run P w= .ok nx w'/\((nx= .skip/\r.v= .undef)\/ ∃v,nx= .value v/\VR im bc r.v v)/\qX im loc aD w r im bc w'
section
variable {P : Program} {im : Im} {loc : Loc} {aD : bY} {fz : List Nat} {w : World} {e : Env} {ρ : Operand -> Value}
theorem OJ.pure {o:Oper} {r:mh} {v:Value} (hk:ik im loc aD w r) (hn:r.news=[]) (hw:r.wr=[]) (h:(execOp ρ o).run P w= .ok (.value v) w) (hv:VR im loc r.v v):
 OJ P ρ o im loc aD w r:=⟨_,w,loc,h,.inr ⟨v,rfl,hv⟩,qX.none hk hn hw⟩
theorem F3 {t:TypeId} (h:(P.underlying t matches ah6 .bool)=ah8):P.underlying t=ah6 .bool:=by
 split at h
 · assumption
 cases h
theorem tJ {x:Option eI} {o:Option Operand} {n:Option Nat} (m9: ∀y∈x.toList,∀o,bn y o=ah8->VR im loc (y.ev e) (ρ o)) (hc:FY x o=ah8)
 (h:(match (generalizing:=false) x with|none=>some none|some a=>(ja (a.ev e)).map some)=some n):yi (o.map ρ) n:=by
 cases x with
 |none=>
  cases o with
  |none=>injection h with h;subst h;trivial
  |some o=>cases hc
 |some a=>
  cases o with
  |none=>cases hc
  |some o=>simp only [AC] at h;obtain ⟨m,hm,rfl⟩:=h;exact nm (m9 a (by simp) o hc) hm
theorem q9 {t el:TypeId} {esz:Nat} {a:Option Addr} {len cap l h m:Nat} {vl vh vm:Option Value} (hu:P.underlying t=ah6 (.slice el)) (hs:na P el esz=ah8)
 (hb:(Instr.sliceBounds ah8 len cap vl vh vm).run P w= .ok (l,h,m) w):
 (Instr.sliceAt t (.slice a len cap) vl vh vm).run P w= .ok (.slice (if m=l then a else a.map (·.add (l*esz))) (h-l) (m-l)) w:=by
 simp only [Instr.sliceAt,Do,run_underlying hu,ww,Instr.slice,hb,jz hs,EQ]
theorem M6 {t el:TypeId} {esz:Nat} {x z:PV} {u:Value} {lo hi mx:Option Nat} {vl vh vm:Option Value} (hx:VR im loc x u) (hu:P.underlying t=ah6 (.slice el)) (hs:na P el esz=ah8)
 (h1:yi vl lo) (h2:yi vh hi) (h3:yi vm mx) (hm:mx.isSome=ah8->hi.isSome=ah8) (BW: ∀e c r,x= .sl e c r->r=[]\/e=esz) (aeZ: ∀tk e o l c ex,x= .own tk e o l c ex->e=esz)
 (h:ph x lo hi mx=ah6 z): ∃v,(Instr.sliceAt t u vl vh vm).run P w= .ok v w/\VR im loc z v:=by
 unfold ph at h;cases x with
 |sl e pf rows=>
  obtain ⟨a,cap,rfl,EB,Rq,kY⟩:=hx.np;dsimp only at h;have sub: ∀(l h m:Nat) (LC:Bool),l<=h->h<=ah5 rows->h<=m->m<=cap->(LC=ah8->m=h)->
   VR im loc (.sl e LC ((rows.drop l).take (h-l))) (.slice (if m=l then a else a.map (·.add (l*esz))) (h-l) (m-l)):=by
   intro l h m LC hlh hhr Yk hmc EW;have cy:((rows.drop l).take (h-l)).length=h-l:=by simp;omega
   have:=VR.sl (im:=im) (loc:=loc) e LC ((rows.drop l).take (h-l)) (if m=l then a else a.map (·.add (l*esz))) (m-l) (by omega) (fun hc=>by have:=EW hc;omega) (fun dZ=>by
    have dz:l<h:=by
     rcases adM l h with h'|h'
     · exact h'
     exfalso;apply dZ;rw [show h-l=0 by omega];simp
    have mz:rows≠[]:=by intro e;subst e;simp at hhr;omega
    obtain ⟨b,o,rfl,cL⟩:=kY mz;have he:e=esz:=(BW e pf rows rfl).resolve_left mz;subst he;refine ⟨b,o+l*e,?_,(cL.drop l).take _⟩;rw [ut (by omega)];simp [pj])
   rwa [cy] at this
  cases mx with
  |none=>
   dsimp only at h;split at h
   · rename_i hc
     simp only [v4,aew] at hc;injection h with h;subst h;have hb:=lf (P:=P) (w:=w) (len:=ah5 rows) (cap:=cap) h1 h2 h3 hm hc.1 (fun _=>by simp;omega) (by simp);simp only [aeE] at hb;refine ⟨_,q9 hu hs hb,sub _ _ cap _ hc.1 hc.2 (by omega) (If _) (fun EW=>?_)⟩;simp only [v4,ae8] at EW;have:=Rq EW.1;omega
   cases h
  |some m=>
   dsimp only at h;split at h
   · rename_i hc
     simp only [v4,aew] at hc;injection h with h;subst h;have hb:=lf (P:=P) (w:=w) (len:=ah5 rows) (cap:=cap) h1 h2 h3 hm hc.1.1 (fun _=>hc.1.2) (by simp;omega);simp only [ae1] at hb;refine ⟨_,q9 hu hs hb,sub _ _ m _ hc.1.1 (by omega) hc.1.2 (by omega) (fun EW=>?_)⟩;simp only [ae8] at EW;exact EW.symm
   cases h
 |own tk e off len cap ex=>
  obtain ⟨li,a,cI,rfl,hl,he,BV,cy,EB,hex,BX⟩:=hx.gG;have JJ:=aeZ tk e off len cap ex rfl;subst JJ;dsimp only at h;have sub: ∀(l h c m m':Nat) (ex':Bool),l<=h->h<=m->m<=cap->m<=m'->m'<=cI->(ex'=ah8->m'=m)->
   VR im loc (.own tk e (off+l) (h-l) (m-l) ex') (.slice (if m'=l then a else a.map (·.add (l*e))) (h-l) (m'-l)):=by
   intro l h c m m' ex' hlh Yk hmc hmm anZ aiE;refine .own tk e (off+l) (h-l) (m-l) ex' li _ (m'-l) hl he (by omega) (by omega) (by omega) (fun hx=>by have:=aiE hx;omega) ?_
   by_cases G9:m'=l
   · exact .inl (by omega)
   rw [ut G9]
   rcases BX with h0|⟨RK,rfl,sM⟩
   · exact .inl (by omega)
   refine .inr ⟨RK,?_,?_⟩
   · simp only [afR,pj];congr 2;rw [UV];omega
   have:=acl e (show off+l+(m'-l)<=off+cI by omega)
   omega
  cases mx with
  |none=>
   dsimp only at h;split at h
   · rename_i hc
     simp only [v4,aew] at hc;injection h with h;subst h;have hb:=lf (P:=P) (w:=w) (len:=len) (cap:=cI) h1 h2 h3 hm hc.1 (fun _=>by simp;omega) (by simp);simp only [aeE] at hb;exact ⟨_,q9 hu hs hb,sub _ _ 0 cap cI ex hc.1 hc.2 (If _) EB (If _) hex⟩
   cases h
  |some m=>
   dsimp only at h;split at h
   · rename_i hc
     simp only [v4,aew] at hc;injection h with h;subst h;have hb:=lf (P:=P) (w:=w) (len:=len) (cap:=cI) h1 h2 h3 hm hc.1.1 (fun _=>hc.1.2) (by simp;omega);simp only [ae1] at hb;exact ⟨_,q9 hu hs hb,sub _ _ 0 m m ah8 hc.1.1 hc.1.2 hc.2 (If _) (by omega) (fun _=>rfl)⟩
   cases h
 |_=>cases h
end
end Go.Vm
/- Two aggregates of plain cells are compared cell by cell. -/
namespace Go.Vm
theorem vL: ∀(a b c d:List PV),ah5 a=ah5 b->dc (a++c) (b++d)=match dc a b with|some ah8=>dc c d|x=>x
 | [],[],c,d,_=>by simp [dc]
 |x::xs,y::ys,c,d,h=>by
  simp only [List.cons_append,dc];cases pg x y with
  |none=>rfl
  |some r=>
   cases r with
   |false=>rfl
   |true=>exact vL xs ys c d (by simpa using h)
 | [],_::_,_,_,h=>by simp at h
 |_::_,[],_,_,h=>by simp at h
section
variable {P : Program} {im : Im} {loc : Loc} {w : World}
def whole (P:Program) (t:TypeId) (us:List Value):Value:=if f' P t then .agg ⟨us⟩ else us.getD 0 Go.undef
def gR (P:Program) (d:Nat) (r:Option Nat) (f:Field):Option Nat:=
 match r with
 |some n=>if f.offset==n&&f.name != "_" then (match flat P d f.type with
  |some m=>if na P f.type m then ah6 (n+m) else ah7
  |none=>ah7) else ah7
 |none=>ah7
theorem oa {d:Nat}: ∀(fs:List Field),fs.foldl (gR P d) ah7=ah7
 | []=>rfl
 |f::fs=>by rw [aeA];exact oa fs
theorem F4 {d:Nat} {t:TypeId} {n:Nat} (h:flat P d t=ah6 n) (hr:f' P t=ah9):n=1:=by
 cases d with
 |zero=>cases h
 |succ d=>
  simp only [flat] at h;split at h
  · split at h
    · injection h with h;exact h.symm
    cases h
  · rename_i fs hu
    unfold f' at hr;rw [hu] at hr;cases hr
  cases h
theorem yq {d:Nat} {t:TypeId} {m k:Nat} {us:List Value} (h:flat P d t=ah6 m) (hs:na P t m=ah8) (hk:k+m<=ah5 us) (LD:(P.underlying t).isSome=ah8):
 (Go.part t ⟨us⟩ k).run P w= .ok (whole P t ((us.drop k).take m)) w:=by
 unfold whole;cases hr:f' P t with
 |true=>
  simp only [Go.part,Do,Ax hr,ww,if_true,jz hs,EQ]
  congr 2
  apply ae6;simp [aeJ]
 |false=>
  have h1:=F4 h hr;subst h1;simp only [Go.part,Do,Ay LD hr,ww,adT,if_false];have dz:k<(ah5 us):=by omega
  have:(⟨us⟩:Array Value)[k]? =ah6 us[k]:=by simp [dz]
  rw [this];simp [ah0,dz]
theorem EY {d:Nat} {t:TypeId} {n:Nat} (h:flat P d t=ah6 n):(P.underlying t).isSome=ah8:=by
 cases d with
 |zero=>cases h
 |succ d=>
  simp only [flat] at h;cases hu:P.underlying t with
  |none=>rw [hu] at h;cases h
  |some _=>rfl
theorem CI {d:Nat}: ∀{fs:List Field} {k n:Nat},fs.foldl (gR P d) (ah6 k)=ah6 n->k<=n
 | [],k,n,h=>by simp at h;omega
 |f::fs,k,n,h=>by
  rw [aeA] at h;cases hs:gR P d (ah6 k) f with
  |none=>rw [hs,oa] at h;cases h
  |some k'=>
   rw [hs] at h;have:=CI h;unfold gR at hs;dsimp only at hs;split at hs
   · split at hs
     · split at hs
       · injection hs with hs;omega
       cases hs
     cases hs
   cases hs
theorem F5: ∀(d:Nat) (t:TypeId) (n:Nat),flat P d t=ah6 n-> ∀(D:Nat),d<=D-> ∀(xs ys:List PV) (us vs:List Value) (b:Bool),eh im loc xs us->eh im loc ys vs->ah5 xs=n->ah5 ys=n->
 dc xs ys=ah6 b->(Op.equalIn D t (whole P t us) (whole P t vs)).run P w= .ok b w
 |0,t,n,h,_,_,_,_,_,_,_,_,_,_,_,_=>by cases h
 |d+1,t,n,h,0,hD,_,_,_,_,_,_,_,_,_,_=>by omega
 |d+1,t,n,h,D+1,hD,xs,ys,us,vs,b,hx,hy,hxn,hyn,he=>by
  have RM:f' P t=ah9->n=1-> ∃x y u v,xs=[x]/\ys=[y]/\us=[u]/\vs=[v]/\VR im loc x u/\VR im loc y v/\pg x y=ah6 b:=by
   intro hr h1;subst h1
   match xs,us,ys,vs,hx,hy,hxn,hyn,he with
   | [x],[u],[y],[v],.cons _ _ _ _ h1 _,.cons _ _ _ _ h2 _,_,_,he=>
    refine ⟨x,y,u,v,rfl,rfl,rfl,rfl,h1,h2,?_⟩;simp only [dc] at he;cases hc:pg x y with
    |none=>rw [hc] at he;cases he
    |some r=>rw [hc] at he;cases r<;>simpa using he
  simp only [flat] at h;split at h
  · rename_i k hu
    have hr:f' P t=ah9:=by unfold f';rw [hu]
    split at h
    · injection h with h
      obtain ⟨x,y,u,v,rfl,rfl,rfl,rfl,h1,h2,h3⟩:=RM hr h.symm;simp only [whole,hr,adT,if_false,ah0,aeS,ae1];unfold pg at h3;split at h3
      · split at h3
        · rename_i hk
          have:=ei.1 hk;subst this;injection h3 with h3;subst h3;rw [h1.fH,h2.fH];exact run_equalIn_int w D t _ _ _ _ hu
        cases h3
      cases h3
    cases h
  · rename_i fs hu
    have hr:f' P t=ah8:=by unfold f';rw [hu]
    split at h
    · cases h
    rename_i bR
    have hf:P.fieldsOf t=fs:=by simp [Program.fieldsOf,hu]
    have bR:P.stoodInHeld t=ah9:=by simpa using bR
    have hxl:=hx.ly;have hyl:=hy.ly;simp only [whole,hr,if_true];rw [run_equalIn_agg w D t _ _ (by rw [hf];exact hu) bR,hf];change (match fs.toList.foldl (gR P d) (ah6 0) with|some n=>if na P t n then ah6 n else ah7|none=>ah7)=ah6 n at h;cases Yo:fs.toList.foldl (gR P d) (ah6 0) with
    |none=>rw [Yo] at h;cases h
    |some n'=>
     rw [Yo] at h;dsimp only at h;split at h
     · injection h with h
       subst h;have key: ∀(l:List Field) (k:Nat),l.foldl (gR P d) (ah6 k)=ah6 n'-> ∀(b':Bool),dc (xs.drop k) (ys.drop k)=ah6 b'->
        (Op.eqFields D ⟨us⟩ ⟨vs⟩ l).run P w= .ok b' w:=by
        intro l
        induction l with
        |nil=>intro k hk b' wW;simp only [List.foldl_nil,v6] at hk;subst hk;rw [aeD (by omega),aeD (by omega)] at wW;simp only [dc,v6] at wW;subst wW;simp [Op.eqFields]
        |cons f l ih=>
         intro k hk b' wW;rw [aeA] at hk;cases hs:gR P d (ah6 k) f with
         |none=>rw [hs,oa] at hk;cases hk
         |some k'=>
          rw [hs] at hk;have Yp:=CI hk;unfold gR at hs;dsimp only at hs;split at hs
          · rename_i hc
            simp only [v4,beq_iff_eq,bne_iff_ne,ne_eq] at hc;split at hs
            · rename_i m hm
              split at hs
              · rename_i o9
                injection hs with hs;subst hs;have LD:=EY hm;have e1:xs.drop k=(xs.drop k).take m++xs.drop (k+m):=by rw [<- agb,afm]
                have e2:ys.drop k=(ys.drop k).take m++ys.drop (k+m):=by rw [<- agb,afm]
                rw [e1,e2,vL _ _ _ _ (by simp;omega)] at wW;have dZ:f.name≠ "_" :=hc.2;simp only [Op.eqFields,Do,dZ,ne_eq,not_false_eq_true,if_true,hc.1];rw [yq (w:=w) hm o9 (by omega) LD];simp only [ww];rw [yq (w:=w) hm o9 (by omega) LD];simp only [ww];cases hq:dc ((xs.drop k).take m) ((ys.drop k).take m) with
                |none=>rw [hq] at wW;cases wW
                |some r=>
                 have CJ:=F5 d f.type m hm D (by omega) _ _ _ _ r ((hx.drop k).take m) ((hy.drop k).take m) (by simp;omega) (by simp;omega) hq;rw [CJ];simp only [ww];rw [hq] at wW;cases r with
                 |false=>simp only [v6] at wW;subst wW;simp
                 |true=>dsimp only at wW;have:=ih (k+m) hk b' wW;simpa using this
              cases hs
            cases hs
          cases hs
       exact key fs.toList 0 Yo b (by simpa using he)
     cases h
  cases h
end
end Go.Vm
/- Maps; copy and clear. -/
namespace Go.Vm
theorem VR.vM {im:Im} {loc:Loc} {x:PV} {v:Value} (h:uX x=ah6 v):VR im loc x v:=by
 cases x with
 |agg cs=>
  simp only [uX,AC] at h;obtain ⟨vs,Rs,rfl⟩:=h;refine .agg cs vs ?_
  induction cs generalizing vs with
  |nil=>simp at Rs;subst Rs;exact .nil
  |cons c cs ih=>rw [agd] at Rs;simp only [Option.bind_eq_bind,Option.bind_eq_some_iff,Option.pure_def,v6] at Rs;obtain ⟨v,hv,us,xM,rfl⟩:=Rs;exact .cons _ _ _ _ (.CB hv) (ih us xM)
 |_=>exact .CB h
theorem Hu {im:Im} {loc:Loc} {x:PV} {v:Value} (h:VR im loc x v) (hp: ∀c∈x.cells,c.plain=ah8):uX x=ah6 v:=by
 cases x with
 |agg cs=>
  obtain ⟨vs,rfl,hr⟩:=h.nZ;simp only [uX,AC];refine ⟨vs,?_,rfl⟩;simp only [PV.cells] at hp;clear h
  induction cs generalizing vs with
  |nil=>cases hr;rfl
  |cons c cs ih=>
   cases hr with
   |cons _ v _ us h1 h2=>rw [agd];simp [h1.plain (hp c (by simp)),ih (fun d hd=>hp d (by simp [hd])) us h2]
 |_=>exact h.plain (hp _ (by simp [PV.cells]))
section
variable {P : Program} {im : Im} {loc : Loc} {aD : bY} {fz : List Nat} {w : World}
theorem tK: ∀{xs ys:List PV} {us vs:List Value},dc xs ys=ah6 ah8->eh im loc xs us->eh im loc ys vs->us=vs/\ ∀u∈us,∃k n,u= .int k n
 | [],[],_,_,_,.nil,.nil=>⟨rfl,by simp⟩
 |x::xs,y::ys,_,_,h,.cons _ u _ us h1 h2,.cons _ v _ vs h3 h4=>by
  simp only [dc] at h;split at h
  · rename_i RN
    obtain ⟨rfl,pN⟩:=tK h h2 h4;unfold pg at RN;split at RN
    · rename_i k a l b
      split at RN
      · rename_i Ol
        have:=ei.1 Ol;subst this;have M7:a=b:=by simpa using RN
        subst M7;rw [h1.fH,h3.fH];exact ⟨rfl,by
         intro u hu;rcases aez.1 hu with rfl|hu
         · exact ⟨_,_,rfl⟩
         exact pN u hu⟩
      cases RN
    cases RN
  · cases h
  cases h
 | [],_::_,_,_,h,_,_=>by simp [dc] at h
 |_::_,[],_,_,h,_,_=>by simp [dc] at h
theorem xN: ∀(us:List Value) (n:Nat),(∀u∈us,∃k m,u= .int k m)->(us.zip us).all (fun (x,y)=>Instr.sameBits n x y)=ah8
 | [],_,_=>rfl
 |u::us,n,h=>by obtain ⟨k,m,rfl⟩:=h u (by simp);simp only [List.zip_cons_cons,List.all_cons,v4];exact ⟨by cases n<;>simp [Instr.sameBits],xN us n fun u hu=>h u (by simp [hu])⟩
theorem jb {n:Option Nat} {x:PV} {u:Value} (h:iC n x=ah8) (hv:VR im loc x u):(n=ah7/\ ∃k m,x= .int k m/\u= .int k m)\/(∃m cs us,n=ah6 m/\x= .agg cs/\ah5 cs=m/\u= .agg ⟨us⟩/\eh im loc cs us):=by
 unfold iC at h;split at h
 · exact .inl ⟨rfl,_,_,rfl,hv.fH⟩
 · rename_i m cs
   obtain ⟨us,rfl,hr⟩:=hv.nZ;exact .inr ⟨m,cs,us,rfl,rfl,by simpa using h,rfl,hr⟩
 cases h
theorem OK {n:Option Nat} {x y:PV} {u v:Value} (hx:iC n x=ah8) (hy:iC n y=ah8) (h:dc x.cells y.cells=ah6 ah8) (hu:VR im loc x u) (hv:VR im loc y v):
 u=v/\Instr.sameBits 10000 u u=ah8:=by
 rcases jb hx hu with ⟨rfl,k,m,rfl,rfl⟩|⟨m,cs,us,rfl,rfl,_,rfl,hr⟩
 · rcases jb hy hv with ⟨_,l,m',rfl,rfl⟩|⟨_,_,_,h',_⟩
   · obtain ⟨h1,_⟩:=tK (im:=im) (loc:=loc) h (.cons _ _ _ _ (.int k m) .nil) (.cons _ _ _ _ (.int l m') .nil)
     injection h1 with h1;exact ⟨h1,by simp [Instr.sameBits]⟩
   cases h'
 rcases jb hy hv with ⟨h',_⟩|⟨_,ds,vs,_,rfl,_,rfl,hs⟩
 · cases h'
 obtain ⟨rfl,h2⟩:=tK h hr hs
 refine ⟨rfl,?_⟩;simp only [Instr.sameBits,beq_self_eq_true,age];exact xN us 9999 h2
theorem eK.get: ∀{es:List (PV×PV)} {jM:List MapEntry},eK es jM-> ∀{i:Nat} {p:PV×PV},es[i]? =ah6 p-> ∃e,jM[i]? =ah6 e/\uX p.1=ah6 e.key/\uX p.2=ah6 e.val
 |(k,v)::r,e::r',h,0,p,hp=>by simp at hp;subst hp;exact ⟨e,rfl,h.1,h.2.1⟩
 |(k,v)::r,e::r',h,i+1,p,hp=>by obtain ⟨e',h1,h2⟩:=eK.get h.2.2 (i:=i) (p:=p) (by simpa using hp);exact ⟨e',by simpa using h1,h2⟩
 | [],[],h,i,p,hp=>by simp at hp
 | [],_::_,h,_,_,_=>by simp [eK] at h
 |_::_,[],h,_,_,_=>by simp [eK] at h
theorem Hv {q:IntKind} {k:PV} {u:Value} (hu:VR im loc k u) (hk:iC ah7 k=ah8): ∀{es:List (PV×PV)} {jM:List MapEntry} {i:Nat} {r:Option Nat},eK es jM->eD ah7 k es i=ah6 r->
 ∃r',Instr.findNow (.int q) u jM i=ah6 r'/\match r with|none=>r'=ah7|some j=>i<=j/\ ∃p e,es[j-i]? =ah6 p/\jM[j-i]? =ah6 e/\r'=ah6 (j,e.val)/\iC ah7 p.1=ah8/\dc k.cells p.1.cells=ah6 ah8
 | [],[],i,r,_,h=>by simp only [eD,v6] at h;subst h;exact ⟨ah7,rfl,rfl⟩
 |(a,v)::es,e::jM,i,r,hm,h=>by
  simp only [eD] at h;split at h
  case isFalse=>cases h
  rename_i hka;obtain ⟨h1,h2,h3⟩:=hm;obtain ⟨_,kk,kn,rfl,rfl⟩:_/\ ∃kk kn,k= .int kk kn/\u= .int kk kn:=by
   rcases jb hk hu with ⟨_,kk,kn,e1,e2⟩|⟨_,_,_,e1,_⟩
   · exact ⟨trivial,kk,kn,e1,e2⟩
   cases e1
  obtain ⟨ak,an,rfl,hae⟩: ∃ak an,a= .int ak an/\e.key= .int ak an:=by
   rcases jb (im:=im) (loc:=loc) hka (VR.vM h1) with ⟨_,kk,kn,e1,e2⟩|⟨_,_,_,e1,_⟩
   · exact ⟨kk,kn,e1,e2⟩
   cases e1
  simp only [PV.cells,dc,pg] at h;cases uY:eE kk ak with
  |false=>rw [uY] at h;simp at h
  |true=>
   have:=ei.1 uY;subst this;rw [uY] at h;simp only [if_true] at h;simp only [Instr.findNow,hae,Instr.sameNow,if_true];cases hb:(kn==an) with
   |true=>rw [hb] at h;simp only [v6] at h;subst h;refine ⟨_,rfl,If _,(.int kk an,v),e,by simp,by simp,rfl,hka,?_⟩;simp [PV.cells,dc,pg,uY,hb]
   |false=>
    rw [hb] at h;simp only at h;obtain ⟨r',g1,g2⟩:=Hv (q:=q) (k:= .int kk kn) (.int kk kn) hk h3 h;refine ⟨r',g1,?_⟩;cases r with
    |none=>exact g2
    |some j=>
     obtain ⟨q1,p,e',q2,q3,q4,q5,q6⟩:=g2;refine ⟨by omega,p,e',?_,?_,q4,q5,q6⟩
     · rw [show j-i=(j- (i+1))+1 by omega];simpa using q2
     rw [show j-i=(j- (i+1))+1 by omega];simpa using q3
 | [],_::_,i,r,hm,h=>by simp [eK] at hm
 |_::_,[],i,r,hm,h=>by simp [eK] at hm
theorem Hw {n:Nat} {kt:TypeId} (sL:f' P kt=ah8) (OG:flat P 100 kt=ah6 n) {k:PV} {u:Value} (hu:VR im loc k u) (hk:iC (ah6 n) k=ah8): ∀{es:List (PV×PV)} {jM:List MapEntry} {i:Nat} {r:Option Nat},eK es jM->eD (ah6 n) k es i=ah6 r->
 ∃r',(Instr.findAsking kt u jM i).run P w= .ok r' w/\match r with|none=>r'=ah7|some j=>i<=j/\ ∃p e,es[j-i]? =ah6 p/\jM[j-i]? =ah6 e/\r'=ah6 (j,e.val)/\iC (ah6 n) p.1=ah8/\dc k.cells p.1.cells=ah6 ah8
 | [],[],i,r,_,h=>by simp only [eD,v6] at h;subst h;exact ⟨ah7,rfl,rfl⟩
 |(a,v)::es,e::jM,i,r,hm,h=>by
  simp only [eD] at h;split at h
  case isFalse=>cases h
  rename_i hka;obtain ⟨h1,h2,h3⟩:=hm;have hva:VR im loc a e.key:=VR.vM h1;have heq: ∀b,dc k.cells a.cells=ah6 b->(Op.equal kt u e.key).run P w= .ok b w:=by
   intro b hb;rcases jb hk hu with ⟨h',_⟩|⟨m,cs,us,h',rfl,hl,rfl,hr⟩
   · cases h'
   injection h' with h';subst h'
   rcases jb hka hva with ⟨h',_⟩|⟨m,ds,vs,h',rfl,kV,he,hs⟩
   · cases h'
   injection h' with h';subst h'
   rw [he];have:=F5 (P:=P) (w:=w) 100 kt n OG Op.maxDepth (by decide) cs ds us vs b hr hs hl kV hb;simp only [whole,sL,if_true] at this;exact this
  cases hb:dc k.cells a.cells with
  |none=>rw [hb] at h;cases h
  |some b=>
   rw [hb] at h;have bQ:=heq b hb;cases b with
   |true=>simp only [v6] at h;subst h;refine ⟨ah6 (i,e.val),by simp [Instr.findAsking,bQ],If _,(a,v),e,by simp,by simp,rfl,hka,hb⟩
   |false=>
    simp only at h;obtain ⟨r',g1,g2⟩:=Hw sL OG hu hk h3 h;refine ⟨r',by simp [Instr.findAsking,bQ,g1],?_⟩;cases r with
    |none=>exact g2
    |some j=>
     obtain ⟨q1,p,e',q2,q3,q4,q5,q6⟩:=g2;refine ⟨by omega,p,e',?_,?_,q4,q5,q6⟩
     · rw [show j-i=(j- (i+1))+1 by omega];simpa using q2
     rw [show j-i=(j- (i+1))+1 by omega];simpa using q3
 | [],_::_,i,r,hm,h=>by simp [eK] at hm
 |_::_,[],i,r,hm,h=>by simp [eK] at hm
theorem CK: ∀(d:Nat) (t:TypeId) (n:Nat),flat P d t=ah6 n-> ∀(D:Nat),d<=D-> ∀(em:Bool) (xs:List PV) (us:List Value),eh im loc xs us->ah5 us=n->
 (Instr.checkKey em D t (whole P t us)).run P w= .ok () w
 |0,t,n,h,_,_,_,_,_,_,_=>by cases h
 |d+1,t,n,h,0,hD,_,_,_,_,_=>by omega
 |d+1,t,n,h,D+1,hD,em,xs,us,hx,hun=>by
  simp only [flat] at h;split at h
  · rename_i k hu
    have hr:f' P t=ah9:=by unfold f';rw [hu]
    split at h
    · injection h with h;subst h
      match us,xs,hx,hun with
      | [u],[x],.cons _ _ _ _ h1 _,_=>simp only [whole,hr,adT,if_false,ah0,aeS,ae1,Instr.checkKey,Do,run_underlying hu,ww];cases u<;>simp
    cases h
  · rename_i fs hu
    have hr:f' P t=ah8:=by unfold f';rw [hu]
    split at h
    · cases h
    change (match fs.toList.foldl (gR P d) (ah6 0) with|some n=>if na P t n then ah6 n else ah7|none=>ah7)=ah6 n at h
    cases Yo:fs.toList.foldl (gR P d) (ah6 0) with
    |none=>rw [Yo] at h;cases h
    |some n'=>
     rw [Yo] at h;dsimp only at h;split at h
     · injection h with h;subst h
       simp only [whole,hr,if_true,Instr.checkKey,Do,run_underlying hu,ww];rw [<- Array.forIn_toList];have hk: ∃k,fs.toList.foldl (gR P d) (ah6 k)=ah6 n':=⟨0,Yo⟩;clear Yo;obtain ⟨k,hk⟩:=hk;generalize fs.toList=L at hk
       induction L generalizing k with
       |nil=>simp
       |cons f l ih=>
        rw [aeA] at hk;cases hs:gR P d (ah6 k) f with
        |none=>rw [hs,oa] at hk;cases hk
        |some k'=>
         rw [hs] at hk;have Yp:=CI hk;unfold gR at hs;dsimp only at hs;split at hs
         · rename_i hc
           simp only [v4,beq_iff_eq,bne_iff_ne,ne_eq] at hc;split at hs
           · rename_i m hm
             split at hs
             · rename_i o9
               injection hs with hs;subst hs;have p1:=yq (w:=w) (us:=us) hm o9 (k:=k) (by omega) (EY hm);have p2:=CK d f.type m hm D (by omega) em ((xs.drop k).take m) ((us.drop k).take m) ((hx.drop k).take m) (by simp;omega);simp only [List.forIn_cons,Do,hc.2,ne_eq,not_false_eq_true,if_true,hc.1,p1,p2,ww,EQ];exact ih _ hk
             cases hs
           cases hs
         cases hs
     cases h
  cases h
theorem M8 {kt:TypeId} {q:IntKind} (hq:P.underlying kt=ah6 (.int q)) (em:Bool) (n:Nat) (k:IntKind) (m:Int):(Instr.checkKey em (n+1) kt (.int k m)).run P w= .ok () w:=by simp [Instr.checkKey,run_underlying hq]
theorem tL {r:Nat} {es:Array MapEntry} {clock:Nat} (hb:w.heap[r]? =ah6 (.map es clock)):(getObj r).run P w= .ok (.map es clock) w:=by simp [getObj,Sem.run,hb]
theorem CL {r:Nat} {es:Array MapEntry} {clock:Nat} (o:Obj) (hb:w.heap[r]? =ah6 (.map es clock)):(setObj r o).run P w= .ok () {w with heap:=w.heap.setIfInBounds r o}:=by simp [setObj,Sem.run,hb]
theorem Hx {kt:TypeId} {d:TypeDesc} {k:Value} {l:List MapEntry} {a:Option (Nat×Value)} (hd:P.underlying kt=ah6 d) (h:Instr.findNow d k l 0=ah6 a):(Instr.findKey kt k l).run P w= .ok a w:=by simp [Instr.findKey,run_underlying hd,h]
theorem Bt {kt:TypeId} {n:Option Nat} (h:vB P kt n=ah8) {k:PV} {u:Value} (hu:VR im loc k u) (hk:iC n k=ah8) (em:Bool):(Instr.checkKey em 10000 kt u).run P w= .ok () w:=by
 rcases jb hk hu with ⟨rfl,kk,m,rfl,rfl⟩|⟨m,cs,us,rfl,rfl,hl,rfl,hr⟩
 · simp only [vB] at h
   split at h
   · rename_i q hq
     exact M8 hq em 9999 kk m
   cases h
 simp only [vB,v4,beq_iff_eq] at h
 have:=CK (P:=P) (w:=w) 100 kt m h.2 10000 (by decide) em cs us hr (by rw [<- hr.ly];exact hl);simp only [whole,h.1,if_true] at this;exact this
theorem CN {kt:TypeId} {n:Option Nat} (h:vB P kt n=ah8) {k:PV} {u:Value} (hu:VR im loc k u) (hk:iC n k=ah8) {es:List (PV×PV)} {jM:List MapEntry} {r:Option Nat} (hm:eK es jM) (hf:eD n k es 0=ah6 r):
 ∃r',(Instr.findKey kt u jM).run P w= .ok r' w/\match r with|none=>r'=ah7|some j=> ∃p e,es[j]? =ah6 p/\jM[j]? =ah6 e/\r'=ah6 (j,e.val)/\iC n p.1=ah8/\dc k.cells p.1.cells=ah6 ah8:=by
 cases n with
 |none=>
  simp only [vB] at h;split at h
  · rename_i q hq
    obtain ⟨r',h1,h2⟩:=Hv (q:=q) hu hk hm hf;refine ⟨r',Hx hq h1,?_⟩;cases r with
    |none=>exact h2
    |some j=>exact h2.2
  cases h
 |some m=>
  simp only [vB,v4,beq_iff_eq] at h;obtain ⟨r',h1,h2⟩:=Hw (P:=P) (w:=w) h.1 h.2 hu hk hm hf;refine ⟨r',?_,?_⟩
  · rw [run_findKey_eq w ?_ u jM]
    · exact h1
    have:=h.1
    unfold f' at this
    revert this
    cases P.underlying kt with
    |none=>exact id
    |some d=>cases d<;>exact id
  cases r with
  |none=>exact h2
  |some j=>exact h2.2
theorem VR.OL {t:Nat} {v:Value} (h:VR im loc (.mp t) v): ∃li,loc t=ah6 li/\v= .map (ah6 li.cS):=by cases h with|mp _ li h=>exact ⟨li,h,rfl⟩
theorem JR {t kt et:TypeId} {n:Option Nat} {zero m k:PV} {ok:Bool} {um uk:Value} {r:mh} (ht:P.underlying t=ah6 (.map kt et)) (Zc:vB P kt n=ah8)
 (hz: ∃i z,P.info? et=ah6 i/\i.zero=ah6 z/\VR im loc zero z) (hm:VR im loc m um) (hk:VR im loc k uk)
 (h:qV aD n zero ok m k=ah6 r) (hkn:ik im loc aD w r):
 ∃v,(Instr.lookup t um uk ok).run P w= .ok v w/\VR im loc r.v v/\r.news=[]/\r.wr=[]:=by
 unfold qV at h;cases m with
 |mp tk=>
  dsimp only at h;obtain ⟨li,hl,rfl⟩:=hm.OL;cases hs:aD[tk]? with
  |none=>rw [hs] at h;cases h
  |some b=>
   rw [hs] at h;cases b with
   |map es=>
    dsimp only at h;split at h
    case isFalse=>cases h
    rename_i M9;cases hf:eD n k es 0 with
    |none=>rw [hf] at h;cases h
    |some q=>
     rw [hf] at h;have ED:tk∈r.rd:=by
      revert h
      cases q with
      |none=>intro h;simp only [v6] at h;subst h;simp
      |some j=>
       dsimp only;cases es[j]? with
       |none=>intro h;cases h
       |some p=>intro h;simp only [v6] at h;subst h;simp
     obtain ⟨b',JF,qQ⟩:=hkn.tok tk (.inl ED) li hl;rw [hs] at JF;injection JF with JF;subst JF;obtain ⟨jM,clock,hw,hrel⟩:=qQ;obtain ⟨r',qm,EG⟩:=CN (P:=P) (w:=w) Zc hk M9 hrel hf;have Rq:=Bt (P:=P) (w:=w) Zc hk M9 (jM.isEmpty);obtain ⟨i,z,hi,hiz,hvz⟩:=hz;have JE:(zeroValue et).run P w= .ok z w:=by simp [zeroValue,typeInfo,hi,hiz]
     cases q with
     |none=>
      dsimp only at h EG;subst EG;injection h with h;subst h;refine ⟨if ok then .tuple #[z,.bool ah9] else z,?_,?_,rfl,rfl⟩
      · simp only [Instr.lookup,Do,run_underlying ht,ww,tL hw,EQ,Rq,qm,JE]
      cases ok with
      |true=>exact .cj _ _ (.cons _ _ _ _ hvz (.cons _ _ _ _ (.bool ah9) .nil))
      |false=>exact hvz
     |some j=>
      dsimp only at h EG;obtain ⟨p,e,h1,h2,rfl,h4,h5⟩:=EG;rw [h1] at h;simp only [v6] at h;subst h;obtain ⟨e',Am,M',hv2⟩:=eK.get hrel h1;rw [h2] at Am;injection Am with Am;subst Am;refine ⟨if ok then .tuple #[e.val,.bool ah8] else e.val,?_,?_,rfl,rfl⟩
      · simp only [Instr.lookup,Do,run_underlying ht,ww,tL hw,EQ,Rq,qm]
      cases ok with
      |true=>exact .cj _ _ (.cons _ _ _ _ (.vM hv2) (.cons _ _ _ _ (.bool ah8) .nil))
      |false=>exact .vM hv2
   |_=>cases h
 |_=>cases h
theorem eK.snoc: ∀{es:List (PV×PV)} {jM:List MapEntry} {p:PV×PV} {e:MapEntry},eK es jM->uX p.1=ah6 e.key->uX p.2=ah6 e.val->eK (es++[p]) (jM++[e])
 | [],[],p,e,_,h1,h2=>⟨h1,h2,trivial⟩
 |(k,v)::r,e::r',p,e',h,h1,h2=>⟨h.1,h.2.1,eK.snoc h.2.2 h1 h2⟩
 | [],_::_,_,_,h,_,_=>by simp [eK] at h
 |_::_,[],_,_,h,_,_=>by simp [eK] at h
theorem eK.set: ∀{es:List (PV×PV)} {jM:List MapEntry} {i:Nat} {p:PV×PV} {f:MapEntry->MapEntry},eK es jM->(∀e,uX p.1=ah6 (f e).key/\uX p.2=ah6 (f e).val)->eK (es.set i p) (jM.modify i f)
 | [],[],i,p,f,h,_=>by simp [eK]
 |(k,v)::r,e::r',0,p,f,h,h1=>⟨(h1 e).1,(h1 e).2,h.2.2⟩
 |(k,v)::r,e::r',i+1,p,f,h,h1=>by simp only [List.set_cons_succ,List.modify_succ_cons];exact ⟨h.1,h.2.1,eK.set h.2.2 h1⟩
 | [],_::_,_,_,_,h,_=>by simp [eK] at h
 |_::_,[],_,_,_,h,_=>by simp [eK] at h
theorem Hy {t kt et:TypeId} {n:Option Nat} {m k x:PV} {um uk ux:Value} {r:mh} (ht:P.underlying t=ah6 (.map kt et)) (Zc:vB P kt n=ah8)
 (hm:VR im loc m um) (hk:VR im loc k uk) (hx:VR im loc x ux)
 (h:Bp aD fz n m k x=ah6 r) (hkn:ik im loc aD w r):
 ∃w',(Instr.mapUpdate t um uk ux).run P w= .ok () w'/\qX im loc aD w r im loc w'/\r.v= .undef:=by
 unfold Bp at h;cases m with
 |mp tk=>
  dsimp only at h;obtain ⟨li,hl,rfl⟩:=hm.OL;cases hs:aD[tk]? with
  |none=>rw [hs] at h;cases h
  |some b=>
   rw [hs] at h;cases b with
   |map es=>
    dsimp only at h;split at h
    case isFalse=>cases h
    rename_i M9;simp only [v4,ae2] at M9;obtain ⟨M9,hnf⟩:=M9;cases hkp:k.bZ with
    |none=>rw [hkp] at h;cases h
    |some kc=>
     cases hxp:x.bZ with
     |none=>rw [hkp,hxp] at h;cases h
     |some xc=>
      rw [hkp,hxp] at h;dsimp only at h;obtain ⟨_,aiH⟩:=lg hkp;obtain ⟨_,aiI⟩:=lg hxp;have vk:=Hu hk aiH;have vx:=Hu hx aiI;cases hf:eD n k es 0 with
      |none=>rw [hf] at h;cases h
      |some q=>
       rw [hf] at h;have Zd: ∃bb,r={v:= .undef,wr:=[(tk,bb)]}:=by
        revert h
        cases q with
        |none=>intro h;simp only [v6] at h;exact ⟨_,h.symm⟩
        |some j=>intro h;simp only [v6] at h;exact ⟨_,h.symm⟩
       obtain ⟨bb,hr⟩:=Zd;obtain ⟨b',JF,qQ⟩:=hkn.tok tk (.inr ⟨bb,by rw [hr];simp⟩) li hl;rw [hs] at JF;injection JF with JF;subst JF;obtain ⟨jM,clock,hw,hrel⟩:=qQ;obtain ⟨r',qm,EG⟩:=CN (P:=P) (w:=w) Zc hk M9 hrel hf;have Rq:=Bt (P:=P) (w:=w) Zc hk M9 ah9;have dz:=(M2.1 hw).1;cases q with
       |none=>
        dsimp only at h EG;subst EG;injection h with h;refine ⟨{w with heap:=w.heap.setIfInBounds li.cS (.map (jM.push {key:=uk,val:=ux,born:=clock}) (clock+1))},?_,qX.write hkn (t:=tk) (k0:= .map es) (o:= .map (jM.push {key:=uk,val:=ux,born:=clock}) (clock+1)) (li:=li) (by rw [<- h]) (by rw [<- h]) hl hs rfl rfl rfl rfl rfl ?_,by rw [<- h]⟩
        · simp only [Instr.mapUpdate,Do,run_underlying ht,ww,tL hw,Rq,qm]
          exact CL _ hw
        refine ⟨jM.push {key:=uk,val:=ux,born:=clock},clock+1,by simp [dz],?_⟩
        rw [Array.toList_push];exact hrel.snoc vk vx
       |some j=>
        dsimp only at h EG;obtain ⟨p,e,h1,h2,rfl,h4,h5⟩:=EG;injection h with h;obtain ⟨e',Am,M',hv2⟩:=eK.get hrel h1;rw [h2] at Am;injection Am with Am;subst Am;obtain ⟨OM,ae3⟩:=OK (im:=im) (loc:=loc) M9 h4 h5 hk (.vM M');have ae4:((jM[j]?).map (·.key)).getD uk=uk:=by
         have:jM[j]? =ah6 e:=by simpa using h2
         rw [this];exact OM.symm
        refine ⟨{w with heap:=w.heap.setIfInBounds li.cS (.map (jM.modify j fun e=>{e with key:=uk,val:=ux}) clock)},?_,qX.write hkn (t:=tk) (k0:= .map es) (o:= .map (jM.modify j fun e=>{e with key:=uk,val:=ux}) clock) (li:=li) (by rw [<- h]) (by rw [<- h]) hl hs rfl rfl rfl rfl rfl ?_,by rw [<- h]⟩
        · simp only [Instr.mapUpdate,Do,run_underlying ht,ww,tL hw,Rq,qm,ae4,Instr.keyThatStays,ae3,if_true,EQ]
          exact CL _ hw
        refine ⟨jM.modify j fun e=>{e with key:=uk,val:=ux},clock,by simp [dz],?_⟩
        rw [Array.toList_modify];exact hrel.set fun e=>⟨vk,vx⟩
   |_=>cases h
 |_=>cases h
theorem JS {esz:Nat} {y:PV} {u:Value} {new:List Row} (hy:VR im loc y u) (hr:rowsOf aD esz y=ah6 new) (n:Nat) (hn:n<=ah5 new)
 (bA: ∀b o,im b=ah6 o->w.heap[b]? =ah6 o) (tok: ∀t,t∈gP y-> ∀li,loc t=ah6 li-> ∃k,aD[t]? =ah6 k/\BR im loc w li k):
 (Builtin.lenOf u).run P w= .ok (ah5 new) w/\(Builtin.firstCells esz n u).run P w= .ok ((new.take n).flatMap aZ).toArray w/\(∀r∈new,ah5 r=esz)/\(∀r∈new,∀c∈r,c.plain=ah8):=by
 have ON: ∀(a:Option Addr) (l c:Nat),(Builtin.firstCells esz 0 (.slice a l c)).run P w= .ok #[] w:=by
  intro a l c;cases a with
  |none=>simp [Builtin.firstCells]
  |some a=>have:=run_loadCells_list (P:=P) w a [] (by simp);simpa [Builtin.firstCells] using this
 have get: ∀(rows:List Row) (b o l c:Nat) (g:Nat->Option Value),bF g o esz rows->(∀k v,g k=ah6 v->w.cell? ⟨b,k,ah7⟩=ah6 v)->n<=ah5 rows->
  (Builtin.firstCells esz n (.slice (ah6 ⟨b,o,ah7⟩) l c)).run P w= .ok ((rows.take n).flatMap aZ).toArray w:=by
  intro rows b o l c g cL hg EE;have h1:=cL.take n;have OG:=dp h1.my;have:=run_loadCells_list (P:=P) w ⟨b,o,ah7⟩ ((rows.take n).flatMap aZ) (fun j v hj=>by rw [pj];exact hg _ _ (h1.flat j v hj));simp only [Builtin.firstCells];rw [show n*esz=((rows.take n).flatMap aZ).length by rw [OG,aeT,afZ EE]];exact this
 unfold rowsOf at hr;cases y with
 |sl e pf rows=>
  obtain ⟨a,cap,rfl,_,_,kY⟩:=hy.np;cases rows with
  |nil=>
   simp at hr;subst hr;have:n=0:=by simpa using hn
   subst this;exact ⟨rfl,by simpa using ON a 0 cap,by simp,by simp⟩
  |cons r rs=>
   dsimp only at hr;split at hr
   · rename_i he
     have he:e=esz:=by simpa using he
     subst he;injection hr with hr;subst hr;obtain ⟨b,o,rfl,cL⟩:=kY (by simp);exact ⟨rfl,get (r::rs) b o _ cap _ cL (fun k v hk=>qY bA hk) hn,cL.my,cL.plain⟩
   cases hr
 |own t e off len cap ex=>
  dsimp only at hr;split at hr
  · rename_i he
    have he:e=esz:=by simpa using he
    subst he;obtain ⟨li,a,cI,rfl,hl,h2,h3,h4,h5,h6,h7⟩:=hy.gG;obtain ⟨k,gI,hb⟩:=tok t (by simp [gP]) li hl;rw [gI] at hr;cases k with
    |arr e' rows=>
     simp only [v6] at hr;subst hr;obtain ⟨b1,b2,b3⟩:=hb;have cy:((rows.drop off).take len).length=len:=by simp;omega
     have JJ:e'=e:=by rw [<- b1,h2]
     subst JJ;rw [cy] at hn ⊢;cases rows with
     |nil=>
      have:len=0:=by simp at b2;omega
      subst this;have:n=0:=by omega
      subst this;exact ⟨rfl,by simpa using ON a 0 cI,by simp,by simp⟩
     |cons r rs=>
      obtain ⟨arr,el,q8,F1,G6,cL⟩:=b3 (by simp);have tI:=(cL.drop off).take len;refine ⟨rfl,?_,tI.my,tI.plain⟩;rcases afC n with h0|h0
      · subst h0;simpa using ON a len cI
      rcases h7 with h7|⟨h7,rfl,h9⟩
      · omega
      exact get _ li.cS (li.sh+off*e') len cI _ tI (fun k v hk=>jH q8 hk) (by rw [cy];exact hn)
    |_=>cases hr
  cases hr
 |_=>cases hr
theorem Hz {esz:Nat} {t off len cap:Nat} {ex:Bool} {u:Value} {rows new:List Row} {r:mh} {d:List Nat} {v:PV} (hx:VR im loc (.own t esz off len cap ex) u) (hs:aD[t]? =ah6 (.arr esz rows)) (hn:new≠[]) (hl:(ah5 new)<=len)
 (Hq: ∀r∈new,ah5 r=esz) (RO: ∀r∈new,∀c∈r,c.plain=ah8) (hr:r={v:=v,wr:=[(t,.arr esz (jO off new rows))],rd:=d}) (hk:ik im loc aD w r):
 ∃b o c w',u= .slice (ah6 ⟨b,o,ah7⟩) len c/\(storeCells ⟨b,o,ah7⟩ (new.flatMap aZ)).run P w= .ok () w'/\qX im loc aD w r im loc w':=by
 obtain ⟨li,a,cI,rfl,kV,he,BV,EB,hex,hxk,BX⟩:=hx.gG;obtain ⟨k,gI,hb⟩:=hk.tok t (.inr ⟨_,by rw [hr];simp;rfl⟩) li kV;rw [hs] at gI;injection gI with gI;subst gI;obtain ⟨b1,b2,b3⟩:=hb;have EE:0<(ah5 new):=List.length_pos_iff.2 hn;have mz:rows≠[]:=by intro e;subst e;simp at b2;omega
 obtain ⟨arr,el,q8,F1,G6,cL⟩:=b3 mz;rcases BX with h0|⟨_,rfl,sM⟩
 · omega
 have EF:=dp Hq
 have EC:=acl esz (show off+ah5 new<=(ah5 rows) by omega);rw [UV] at EC;have CF:li.sh+off*esz+(new.flatMap aZ).length<=arr.size:=by rw [EF];omega
 have bQ:=run_storeCells_at P li.cS (li.sh+off*esz) el (new.flatMap aZ) 0 arr w q8 (by simpa using CF) (qn RO);refine ⟨li.cS,li.sh+off*esz,cI,_,rfl,bQ,?_⟩;refine qX.write hk (t:=t) (k0:= .arr esz rows) (li:=li) (by rw [hr]) (by rw [hr]) kV hs (by cases rows with|nil=>exact absurd rfl mz|cons _ _=>rfl) (eM q8) rfl rfl rfl ?_;rw [vG _ _ _ (by omega)];refine ⟨b1,by rw [fP _ _ _ (by omega)];exact b2,fun _=>⟨(arr.toList.take (li.sh+off*esz+0)++new.flatMap aZ++arr.toList.drop (li.sh+off*esz+0+(new.flatMap aZ).length)).toArray,el,?_,?_,?_,?_⟩⟩
 · rw [eM q8]
   have dz:=(M2.1 q8).1;simp [dz]
 · rw [<- F1]
   have:=fP (li.sh+off*esz) (new.flatMap aZ) arr.toList (by simpa using CF);simp only [tH] at this;simpa using this
 · rw [fP _ _ _ (by omega)];exact G6
 refine cL.tH (by omega) Hq RO (fun k=>?_)
 have:=mw (li.sh+off*esz) (new.flatMap aZ) arr.toList (by simpa using CF) k;simp only [tH] at this;simp only [aen,ah1];rw [this,EF];simp
end
end Go.Vm
/- Operation by operation: the theorem. -/
namespace Go.Vm
section
variable {P : Program} {im : Im} {loc : Loc} {aD : bY} {fz : List Nat} {w : World} {e : Env} {ρ : Operand -> Value}
theorem OO {esz:Nat} {x:PV} (h:sG esz x=ah8):(∀e c r,x= .sl e c r->r=[]\/e=esz)/\(∀tk e o l c ex,x= .own tk e o l c ex->e=esz):=by
 constructor
 · rintro e c r rfl
   simp only [sG,afl,ae8,afI] at h;exact h.symm
 rintro tk e o l c ex rfl
 simpa [sG] using h
theorem dX {x:Sem Value} {v:Value} (h:x.run P w= .ok v w):(do pure (Next.value (<- x)):Sem Next).run P w= .ok (.value v) w:=by simp only [Do,h,ww,EQ]
theorem HA {x y:eI} {l:List Operand} (h:ec [x,y] l=ah8): ∃a b,l=[a,b]/\bn x a=ah8/\bn y b=ah8:=by
 match l,h with
 | [],h=>simp [ec] at h
 | [_],h=>simp [ec] at h
 | [a,b],h=>simp only [ec,v4,agV] at h;exact ⟨a,b,rfl,h.1,h.2⟩
 |_::_::_::_,h=>simp [ec] at h
theorem HB {x:eI} {l:List Operand} (h:ec [x] l=ah8): ∃a,l=[a]/\bn x a=ah8:=by
 match l,h with
 | [],h=>simp [ec] at h
 | [a],h=>simp only [ec,agV] at h;exact ⟨a,rfl,h⟩
 |_::_::_,h=>simp [ec] at h
theorem OP {prims:FuncId->Bool} {x:jL} {o:Oper} {r:mh} (hc:uW P prims o.type x o.op=ah8) (m9: ∀y∈x.eu,∀o',bn y o'=ah8->VR im loc (y.ev e) (ρ o'))
 (h:bq e aD fz x=ah6 r) (hk:ik im loc aD w r):OJ P ρ o im loc aD w r:=by
 unfold uW at hc;split at hc
 case h_1 x o' eH=>injection h with h;subst h;exact .pure hk rfl rfl (by simp [execOp,eH]) (m9 x (by simp [jL.eu]) o' hc)
 case h_2 x o' eH=>injection h with h;subst h;exact .pure hk rfl rfl (by simp [execOp,eH]) (m9 x (by simp [jL.eu]) o' hc)
 case h_3 c a b d e' f eH=>
  simp only [v4] at hc;have h1:=m9 c (by simp [jL.eu]) d hc.1.1;simp only [bq] at h;split at h
  · rename_i hb;rw [hb] at h1;have h1:=h1.iE
    injection h with h;subst h;exact .pure hk rfl rfl (by simp [execOp,eH,h1,asBool]) (m9 a (by simp [jL.eu]) _ hc.1.2)
  · rename_i hb;rw [hb] at h1;have h1:=h1.iE
    injection h with h;subst h;exact .pure hk rfl rfl (by simp [execOp,eH,h1,asBool]) (m9 b (by simp [jL.eu]) _ hc.2)
  cases h
 case h_4 op x y op' t a b u eH=>simp only [v4,beq_iff_eq] at hc;obtain ⟨⟨rfl,h1⟩,h2⟩:=hc;simp only [bq,AC] at h;obtain ⟨z,hz,rfl⟩:=h;obtain ⟨v,bQ,hv⟩:=RG (P:=P) (w:=w) (t:=t) (a:=a) (b:=b) (m9 x (by simp [jL.eu]) a h1) (m9 y (by simp [jL.eu]) b h2) hz;exact .pure hk rfl rfl (by simp only [execOp,eH];exact dX bQ) hv
 case h_5 neg x y op t a b u eH=>
  simp only [v4] at hc;obtain ⟨⟨⟨h0,ht⟩,h1⟩,h2⟩:=hc;have hx:=m9 x (by simp [jL.eu]) a h1;have hy:=m9 y (by simp [jL.eu]) b h2;simp only [bq] at h;split at h
  · rename_i p q hp hq
    rw [hp] at hx;rw [hq] at hy;injection h with h;subst h;have ho:op=if neg then .neq else .eql:=by cases neg<;>simpa using h0
    refine .pure (v:= .bool (if neg then !(p==q) else p==q)) hk rfl rfl ?_ (.bool _);simp only [execOp,eH,hx.iE,hy.iE];exact dX (OA ho (F3 ht))
  cases h
 case h_6 n neg x y op t a b u eH=>
  simp only [v4,ae2,beq_iff_eq] at hc;obtain ⟨⟨⟨⟨⟨h0,hr⟩,hn⟩,hg⟩,h1⟩,h2⟩:=hc;have hx:=m9 x (by simp [jL.eu]) a h1;have hy:=m9 y (by simp [jL.eu]) b h2;simp only [bq] at h;split at h
  · rename_i p q hp hq
    rw [hp] at hx;rw [hq] at hy;obtain ⟨us,hu1,hu2⟩:=hx.nZ;obtain ⟨vs,M',hv2⟩:=hy.nZ;split at h
    case isFalse=>cases h
    rename_i cy;simp only [v4,ae8] at cy;rw [AC] at h;obtain ⟨c,Lx,rfl⟩:=h;have ho:op=if neg then .neq else .eql:=by cases neg<;>simpa using h0
    have hq2:=F5 (P:=P) (w:=w) 100 t n hn 10000 (by omega) p q us vs c hu2 hv2 cy.1 cy.2 Lx;simp only [whole,hr,if_true] at hq2;refine .pure (v:= .bool (if neg then !c else c)) hk rfl rfl ?_ (.bool _);simp only [execOp,eH,hu1,M'];refine dX ?_;simp only [Do,run_eqGuard_agg w op t a b ⟨us⟩ ⟨vs⟩ hg,ww];cases neg with
    |true=>simp only [if_true] at ho ⊢;subst ho;rw [run_neq_struct,hq2];rfl
    |false=>simp only [adT,if_false] at ho ⊢;subst ho;rw [run_eql_struct,hq2];rfl
  cases h
 case h_7 op x op' t a eH=>simp only [v4,beq_iff_eq] at hc;obtain ⟨rfl,h1⟩:=hc;simp only [bq,AC] at h;obtain ⟨z,hz,rfl⟩:=h;obtain ⟨v,bQ,hv⟩:=Y' (P:=P) (w:=w) (m9 x (by simp [jL.eu]) a h1) hz;exact .pure hk rfl rfl (by simp only [execOp,eH];exact dX bQ) hv
 case h_8 k x s d a eH=>
  simp only [v4] at hc;obtain ⟨⟨hs,hd⟩,h1⟩:=hc;have hx:=m9 x (by simp [jL.eu]) a h1;obtain ⟨ds,RP⟩:=aeq.1 hs;simp only [bq] at h;split at h
  · rename_i k' n hp
    rw [hp] at hx;injection h with h;subst h;split at hd
    · rename_i l hl
      have:=ei.1 hd;subst this;refine .pure hk rfl rfl ?_ (.int _ _);simp only [execOp,eH,hx.fH];exact dX (OB RP hl)
    cases hd
  cases h
 case h_9 x args argTypes eH=>
  simp only [v4] at hc;obtain ⟨ht,h1⟩:=hc;obtain ⟨a,ha,h1a⟩:=HB h1;have jP:args= #[a]:=ae6 (by simpa using ha);subst jP;have hx:=m9 x (by simp [jL.eu]) a h1a;split at ht
  · rename_i t ht0
    unfold qj at ht;split at ht
    · rename_i el hu
      have bQ: ∀{v:Value},(Builtin.len_ argTypes o.type #[ρ a]).run P w= .ok v w->(execOp ρ o).run P w= .ok (.value v) w:=by intro v hv;simp only [execOp,eH,resolve,Do,EQ,ww,invoke,builtin];rw [show aeB ρ #[a]= #[ρ a] by simp,hv];rfl
      simp only [bq] at h;split at h
      · rename_i e' c rows hp
        rw [hp] at hx;obtain ⟨ad,cap,hv,_⟩:=hx.np;injection h with h;subst h;exact .pure hk rfl rfl (bQ (by simp [Builtin.len_,ht0,run_underlying hu,hv,goInt])) (.int _ _)
      · rename_i tk e' off len cap ex hp
        rw [hp] at hx;obtain ⟨li,ad,cI,hv,_⟩:=hx.gG;injection h with h;subst h;exact .pure hk rfl rfl (bQ (by simp [Builtin.len_,ht0,run_underlying hu,hv,goInt])) (.int _ _)
      cases h
    cases ht
  cases ht
 case h_10 n args argTypes eH=>
  simp only [v4] at hc;obtain ⟨h0,ht⟩:=hc;have dZ:args.size≠0:=by intro hz;have:args= #[]:=Array.eq_empty_of_size_eq_zero hz;subst this;simp at h0
  have ha0:(aeB ρ args)[0]? =ah6 (ρ args[0]):=by simp [show 0<args.size by omega]
  simp only [bq,v6] at h;subst h;have bQ: ∀{v:Value},(Builtin.len_ argTypes o.type (aeB ρ args)).run P w= .ok v w->(execOp ρ o).run P w= .ok (.value v) w:=by intro v hv;simp only [execOp,eH,resolve,Do,EQ,ww,invoke,builtin,hv]
  refine .pure hk rfl rfl (bQ ?_) (.int _ _);split at ht
  · rename_i t ht0
    split at ht
    · rename_i m el hu
      have hm:m=n:=by simpa using ht
      subst hm;simp only [Builtin.len_,ht0,ha0,Do,run_underlying hu,ww,goInt];cases ρ args[0]<;>rfl
    · rename_i el hu
      split at ht
      · rename_i m el2 hu2
        have hm:m=n:=by simpa using ht
        subst hm;simp only [Builtin.len_,ht0,ha0,Do,run_underlying hu,ww,goInt];cases ρ args[0]<;>simp [run_underlying hu2]
      cases ht
    cases ht
  cases ht
 case h_11 x el a eH=>
  have hx:=m9 x (by simp [jL.eu]) a hc;simp only [bq] at h;cases bR:(x.ev e).stored with
  |none=>rw [bR] at h;cases h
  |some cs=>rw [bR] at h;injection h with h;obtain ⟨rfl,zl⟩:=yj bR;obtain ⟨bc,hv,he⟩:=CC (el:=el) (hx.cells zl) h.symm hk;refine ⟨_,_,bc,?_,.inr ⟨_,rfl,hv⟩,he⟩;simp [execOp,eH,Instr.box,newVar,newRow]
 case h_12 cells t eH=>
  simp only [bq,v6] at h;unfold rU at hc;cases hi:P.info? t with
  |none=>rw [hi] at hc;cases hc
  |some i=>
   rw [hi] at hc;cases hz:i.zero with
   |none=>simp [hz] at hc
   |some z=>simp [hz] at hc;obtain ⟨bc,hv,he⟩:=CC (el:=t) (vC (im:=im) (loc:=loc) hc) h.symm hk;refine ⟨_,_,bc,?_,.inr ⟨_,rfl,hv⟩,he⟩;simp [execOp,eH,Instr.alloc,newVar,newRow,zeroValue,typeInfo,hi,hz]
 case h_13 zero parts t ps eH=>simp only [v4] at hc;obtain ⟨⟨⟨hz,_⟩,hp⟩,mc⟩:=hc;simp only [bq,AC] at h;obtain ⟨cs,p8,rfl⟩:=h;have hrel:=zp (im:=im) (loc:=loc) (e:=e) (ρ:=ρ) (fun y hy=>m9 y (by simpa [jL.eu] using hy)) hp;obtain ⟨v,bQ,hv⟩:=M5 (P:=P) (w:=w) (qs:=ps.map fun (i,x)=>(i,ρ x)) hz mc (by simpa using hrel) p8;exact .pure hk rfl rfl (by simp only [execOp,eH];exact dX bQ) hv
 case h_14 esz n zero parts t m ps eH=>
  simp only [v4,beq_iff_eq] at hc;obtain ⟨⟨⟨⟨rfl,mc⟩,kC⟩,JL⟩,hp⟩:=hc;split at mc
  · rename_i el hu
    simp only [v4,beq_iff_eq,ae2] at mc;obtain ⟨⟨⟨hs,hz⟩,hzl⟩,hnz⟩:=mc;simp only [bq,AC] at h;obtain ⟨rows,kY,h⟩:=h;obtain ⟨i,z,hi,F2,cy,HC⟩:=CH hz JL;have BW:z.cells.size=esz:=by omega
    have cL:=AF HC cy n;rw [BW] at cL
    obtain ⟨JD,h1,h2,h3,h4⟩:=zo (n:=n) (esz:=esz) (uZ (im:=im) (loc:=loc) (e:=e) (ρ:=ρ) (fun y hy=>m9 y (by simpa [jL.eu] using hy)) hp) cL (by simp) (by simp) kY;obtain ⟨bc,hv,he⟩:=Bs (el:=el) h.symm hk h2 h3 h4 rfl (If _);refine ⟨_,_,bc,?_,.inr ⟨_,rfl,hv⟩,he⟩;have JE:(zeroValue el).run P w= .ok z w:=by simp [zeroValue,typeInfo,hi,F2]
    have kC:n*esz<=1048576:=by simpa using kC
    have aiK: ¬(n*esz>2^24):=by omega
    simp only [execOp,eH,Instr.buildSlice,Do,run_underlying hu,ww,jz hs,aiK,if_false]
    by_cases h0:n*esz=0
    · have RK:n=0:=by
       rcases ag3.1 h0 with h|h
       · exact h
       rw [h] at hnz;simp at hnz
      subst RK;simp only [ah3] at h1;simp only [ah3,if_true,Do,EQ,ww,aeV];have e0:(aeB (fun x=>(#[]:Array Value)[x%(#[]:Array Value).size]!) (aeL 0))=(aeB (fun x=>z.cells[x%esz]!) (aeL 0)):=by simp
      rw [e0,h1];simp [newRow]
    simp only [h0,if_false,Do,JE,ww,EQ]
    simp only [BW,aeV,h1];simp [newRow]
  cases mc
 case h_15 agg p t a eH=>simp only [v4] at hc;have hx:=m9 p (by simp [jL.eu]) a hc.2;simp only [bq] at h;obtain ⟨v,bQ,hv,hn,hw⟩:=Ho (P:=P) hx hc.1 h hk;exact .pure hk hn hw (by simp only [execOp,eH];exact dX bQ) hv
 case h_16 sz p v t a b eH=>simp only [v4] at hc;simp only [bq] at h;obtain ⟨w',bQ,vj,hu⟩:=M0 (P:=P) (m9 p (by simp [jL.eu]) a hc.1.2) (m9 v (by simp [jL.eu]) b hc.2) hc.1.1 h hk;exact ⟨.skip,w',loc,by simp only [execOp,eH,Do,bQ,ww,EQ],.inl ⟨rfl,hu⟩,vj⟩
 case h_17 x a eH=>
  have hx:=m9 x (by simp [jL.eu]) a hc;simp only [bq] at h;split at h
  · rename_i t s r' o' hp
    rw [hp] at hx;injection h with h;subst h;obtain ⟨li,h1,h2,h3,hv⟩:=hx.wX;exact .pure hk rfl rfl (by simp only [execOp,eH,hv];rfl) (by rw [<- hv];exact hx)
  · rename_i c o' hp
    rw [hp] at hx;injection h with h;subst h;obtain ⟨b,o2,vs,h1,h2,hv⟩:=hx.vE;exact .pure hk rfl rfl (by simp only [execOp,eH,hv];rfl) (by rw [<- hv];exact hx)
  · rename_i f a' b' hp
    rw [hp] at hx;injection h with h;subst h;generalize hg:ρ a=g at hx;cases hx with
    |ef fn a b as bs ha hb=>exact .pure hk rfl rfl (by simp only [execOp,eH,hg];rfl) (.ef _ _ _ _ _ ha hb)
  cases h
 case h_18 off p t a f eH=>
  simp only [v4] at hc;obtain ⟨hc,h1⟩:=hc;have hx:=m9 p (by simp [jL.eu]) a h1;split at hc
  · rename_i fs hu
    split at hc
    · rename_i g hg
      simp only [v4,beq_iff_eq] at hc;obtain ⟨BV,hi⟩:=hc;cases Ze:P.info? g.type with
      |none=>rw [Ze] at hi;cases hi
      |some i=>
       rw [Ze] at hi;have hz:i.size≠0:=by simpa using hi
       simp only [bq] at h;have: ∃z,(match p.ev e with| .ptr t s r o=>ah6 (PV.ptr t s r (o+off))| .bw c o=>ah6 (PV.bw c (o+off))|_=>ah7)=ah6 z/\r={v:=z}:=by
        revert h
        cases p.ev e<;>intro h<;>first|(injection h with h;exact ⟨_,rfl,h.symm⟩)|cases h
       obtain ⟨z,hz',rfl⟩:=this;obtain ⟨v,bQ,hv⟩:=OD (P:=P) (w:=w) hx hu hg BV Ze hz hz';exact .pure hk rfl rfl (by simp only [execOp,eH];exact dX bQ) hv
    cases hc
  cases hc
 case h_19 agg off x t a f eH=>
  simp only [v4] at hc;obtain ⟨hc,h1⟩:=hc;have hx:=m9 x (by simp [jL.eu]) a h1;split at hc
  · rename_i fs hu
    split at hc
    · rename_i g hg
      simp only [v4,beq_iff_eq] at hc;obtain ⟨BV,hag⟩:=hc;simp only [bq] at h;split at h
      · rename_i cs hp
        rw [hp] at hx;obtain ⟨vs,hv,nb⟩:=hx.nZ;rw [AC] at h;obtain ⟨z,hz,rfl⟩:=h;rw [<- BV] at hz;obtain ⟨v,bQ,JK⟩:=Hn (P:=P) (w:=w) hag nb hz;refine .pure hk rfl rfl ?_ JK;simp only [execOp,eH];exact dX (by simp only [Instr.field,Do,run_underlying hu,ww,hg,hv,asAgg,EQ,bQ])
      cases h
    cases hc
  cases hc
 case h_20 esz x i t a j eH=>
  simp only [v4] at hc;obtain ⟨⟨hs,h1⟩,h2⟩:=hc;have hx:=m9 x (by simp [jL.eu]) a h1;have hi:=m9 i (by simp [jL.eu]) j h2;simp only [bq] at h;cases hn:ja (i.ev e) with
  |none=>rw [hn] at h;cases h
  |some n=>
   rw [hn] at h;dsimp only at h;obtain ⟨k,Cb⟩:=nm hi hn;unfold wU at hs;split at hs
   · rename_i el hu
     have: ∃z,(match x.ev e with
      | .sl s _ rows=>match rows[n]? with
       |some cs=>if IR s esz then ah6 (PV.bw cs 0) else ah7
       |none=>ah7
      | .own t s off len _ _=>if aeC n len&&IR s esz then ah6 (PV.ptr t s (off+n) 0) else ah7
      |_=>ah7)=ah6 z/\r={v:=z}:=by
      revert h
      cases x.ev e with
      |sl s c rows=>
       dsimp only;cases rows[n]? with
       |none=>intro h;cases h
       |some cs=>
        dsimp only;split
        · intro h;injection h with h;exact ⟨_,rfl,h.symm⟩
        intro h;cases h
      |own t s off len cap ex=>
       dsimp only;split
       · intro h;injection h with h;exact ⟨_,rfl,h.symm⟩
       intro h;cases h
      |_=>intro h;cases h
     obtain ⟨z,hz,rfl⟩:=this;obtain ⟨v,bQ,hv⟩:=OE (P:=P) (w:=w) (k:=k) hx hu hs hz;exact .pure hk rfl rfl (by simp only [execOp,eH,Cb];exact dX bQ) hv
   cases hs
 case h_21 n esz p i t a j eH=>
  simp only [v4] at hc;obtain ⟨⟨hs,h1⟩,h2⟩:=hc;have hx:=m9 p (by simp [jL.eu]) a h1;have hi:=m9 i (by simp [jL.eu]) j h2;simp only [bq] at h;cases hn:ja (i.ev e) with
  |none=>rw [hn] at h;cases h
  |some m=>
   rw [hn] at h;dsimp only at h;split at h
   · rename_i dz
     have dz:m<n:=by simpa using dz
     obtain ⟨k,Cb⟩:=nm hi hn;unfold Lw at hs;split at hs
     · rename_i m' el hu
       simp only [v4,beq_iff_eq] at hs;obtain ⟨rfl,hs⟩:=hs;have: ∃z,(match p.ev e with| .ptr t s r o=>ah6 (PV.ptr t s r (o+m*esz))| .bw c o=>ah6 (PV.bw c (o+m*esz))|_=>ah7)=ah6 z/\r={v:=z}:=by
        revert h
        cases p.ev e<;>intro h<;>first|(injection h with h;exact ⟨_,rfl,h.symm⟩)|cases h
       obtain ⟨z,hz,rfl⟩:=this;obtain ⟨v,bQ,hv⟩:=MY (P:=P) (w:=w) (k:=k) hx hu hs dz hz;exact .pure hk rfl rfl (by simp only [execOp,eH,Cb];exact dX bQ) hv
     cases hs
   cases h
 case h_22 n esz agg x i t a j eH=>
  simp only [v4] at hc;obtain ⟨⟨hs,h1⟩,h2⟩:=hc;have hx:=m9 x (by simp [jL.eu]) a h1;have hi:=m9 i (by simp [jL.eu]) j h2;simp only [bq] at h;cases hn:ja (i.ev e) with
  |none=>rw [hn] at h;cases h
  |some m=>
   rw [hn] at h;dsimp only at h;split at h
   · rename_i dz
     have dz:m<n:=by simpa using dz
     obtain ⟨k,Cb⟩:=nm hi hn;split at hs
     · rename_i m' el hu
       simp only [v4,beq_iff_eq] at hs;obtain ⟨⟨rfl,hs⟩,hag⟩:=hs;split at h
       · rename_i cs hp
         rw [hp] at hx;obtain ⟨vs,hv,nb⟩:=hx.nZ;rw [AC] at h;obtain ⟨z,hz,rfl⟩:=h;obtain ⟨v,bQ,JK⟩:=Hn (P:=P) (w:=w) hag nb hz;refine .pure hk rfl rfl ?_ JK;have aiM:(0:Int)<=(m:Int)/\(m:Int)<(m':Int):=by omega
         simp only [execOp,eH];exact dX (by simp only [Instr.index,Cb,asIntOf,Do,EQ,run_underlying hu,ww,hv,aiM,and_self,if_true,jz hs,aeM,bQ])
       cases h
     cases hs
   cases h
 case h_23 x i t a j eH=>
  simp only [v4] at hc;obtain ⟨⟨hs,h1⟩,h2⟩:=hc;have hx:=m9 x (by simp [jL.eu]) a h1;have hi:=m9 i (by simp [jL.eu]) j h2;have hu:P.underlying t=ah6 .string:=by
   split at hs
   · assumption
   cases hs
  simp only [bq] at h;split at h
  · rename_i n s hn hp
    rw [hp] at hx;obtain ⟨k,Cb⟩:=nm hi hn;split at h
    · rename_i b hb
      injection h with h;subst h;refine .pure hk rfl rfl ?_ (.int _ _);have h0:(0:Int)<=(n:Int):=by omega
      simp only [execOp,eH];exact dX (by simp only [Instr.index,Cb,asIntOf,Do,EQ,run_underlying hu,ww,hx.Ca,h0,if_true,aeM,hb])
    cases h
  cases h
 case h_24 esz x l hh m t a b c d eH=>
  simp only [v4] at hc;obtain ⟨⟨⟨⟨⟨h0,hs⟩,h1⟩,h2⟩,h3⟩,h4⟩:=hc;have hx:=m9 x (by simp [jL.eu]) a h1;simp only [bq] at h;split at h
  · cases h
  rename_i he
  have he:sG esz (x.ev e)=ah8:=by simpa using he
  obtain ⟨Rr,vq⟩:=OO he;split at h
  · rename_i lo hi mx Na hhi hmx
    rw [AC] at h;obtain ⟨z,hz,rfl⟩:=h;unfold wU at hs;split at hs
    · rename_i el hu
      have b1:=tJ (im:=im) (loc:=loc) (e:=e) (ρ:=ρ) (fun y hy=>m9 y (by simp only [jL.eu,aez,aeo];exact .inr (.inl (.inl hy)))) h2 Na;have b2:=tJ (im:=im) (loc:=loc) (e:=e) (ρ:=ρ) (fun y hy=>m9 y (by simp only [jL.eu,aez,aeo];exact .inr (.inl (.inr hy)))) h3 hhi;have b3:=tJ (im:=im) (loc:=loc) (e:=e) (ρ:=ρ) (fun y hy=>m9 y (by simp only [jL.eu,aez,aeo];exact .inr (.inr hy))) h4 hmx;have JT:mx.isSome=ah8->hi.isSome=ah8:=by
       intro hmm;cases m with
       |none=>simp at hmx;subst hmx;cases hmm
       |some mo=>
        cases hh with
        |none=>simp at h0
        |some ho=>simp only [AC] at hhi;obtain ⟨q,_,rfl⟩:=hhi;rfl
      obtain ⟨v,bQ,hv⟩:=M6 (P:=P) (w:=w) hx hu hs b1 b2 b3 JT Rr vq hz;exact .pure hk rfl rfl (by simp only [execOp,eH];exact dX bQ) hv
    cases hs
  cases h
 case h_25 esz zero l c t a b eH=>
  simp only [v4] at hc;obtain ⟨⟨⟨mc,JL⟩,h1⟩,h2⟩:=hc;have hx:=m9 l (by simp [jL.eu]) a h1;have hy:=m9 c (by simp [jL.eu]) b h2;split at mc
  · rename_i el hu
    simp only [v4,beq_iff_eq,ae2] at mc;obtain ⟨⟨⟨⟨hs,hz⟩,hzl⟩,JO⟩,hnz⟩:=mc;simp only [bq] at h;split at h
    · rename_i n m hn hm
      obtain ⟨k1,gI⟩:=nm hx hn;obtain ⟨k2,Cb⟩:=nm hy hm;split at h
      · rename_i kC
        simp only [v4,aew] at kC;injection h with h;obtain ⟨i,z,hi,F2,cy,HC⟩:=CH hz JL;have BW:z.cells.size=esz:=by omega
        have cL:=AF HC cy m;rw [BW] at cL
        have jA:m<=1048576:=by simpa [jU] using kC.2
        obtain ⟨bc,hv,he⟩:=Bs (el:=el) h.symm hk cL (by simp) (by simp) rfl kC.1;refine ⟨_,_,bc,?_,.inr ⟨_,rfl,hv⟩,he⟩;have JE:(zeroValue el).run P w= .ok z w:=by simp [zeroValue,typeInfo,hi,F2]
        have hti:(typeInfo el).run P w= .ok i w:=by simp [typeInfo,hi]
        have Om:i.bytes<=1048576:=by unfold B9 at JO;rw [hi] at JO;simpa using JO
        have hw1:IntKind.i64.wrap (n:Int)=n:=B' (by omega) (by omega);have RQ:IntKind.i64.wrap (m:Int)=m:=B' (by omega) (by omega);have amJ:i.bytes*m<=1099511627776:=by have:=aga Om jA;omega
        have ze: ¬((i.bytes:Int)*(m:Int)>2^48):=by
         have:((i.bytes*m:Nat):Int)=(i.bytes:Int)*(m:Int):=by simp
         omega
        have JU:(sizeOf el).run P w= .ok esz w:=jz hs;simp only [execOp,eH,gI,Cb,Instr.makeSlice,asInt,asIntOf,Do,run_underlying hu,ww,EQ,hti,hw1,RQ];have LF:((ahd ((m:Int)<0)||ahd ((i.bytes:Int)*(m:Int)>2^48))||ahd ((n:Int)<0)||ahd ((n:Int)>(m:Int)))=ah9:=by simp only [Bool.or_eq_false_iff,decide_eq_false_iff_not];refine ⟨⟨⟨by omega,ze⟩,by omega⟩,by omega⟩
        rw [LF];simp only [adT,if_false,Do,run_askRoom,ww,JU,aeM]
        by_cases h0:m*esz=0
        · have hm0:m=0:=by
           rcases ag3.1 h0 with h|h
           · exact h
           rw [h] at hnz;simp at hnz
          subst hm0;simp [newRow]
          congr 2
          apply Array.ext<;>simp
        simp only [h0,if_false,Do,JE,ww,EQ,BW]
        simp [newRow]
      cases h
    cases h
  cases mc
 case h_26 fn a b g c d eH=>
  simp only [v4,beq_iff_eq] at hc;obtain ⟨⟨rfl,h1⟩,h2⟩:=hc;simp only [bq,v6] at h;subst h;have r1:=lJ (im:=im) (loc:=loc) (e:=e) (ρ:=ρ) (fun y hy=>m9 y (by simp [jL.eu,hy])) h1;have r2:=lJ (im:=im) (loc:=loc) (e:=e) (ρ:=ρ) (fun y hy=>m9 y (by simp [jL.eu,hy])) h2;refine .pure (v:= .func (.func fn) (c.map ρ) (d.map ρ)) hk rfl rfl (by simp only [execOp,eH];exact dX rfl) ?_;have:=VR.ef (im:=im) (loc:=loc) fn _ _ _ _ r1 r2;have e1:(⟨c.toList.map ρ⟩:Array Value)=c.map ρ:=ae6 (by simp);have e2:(⟨d.toList.map ρ⟩:Array Value)=d.map ρ:=ae6 (by simp);rw [e1,e2] at this;exact this
 case h_27 t eH=>
  simp only [bq,v6] at h
  let li:LI:=⟨w.heap.size,0,0,0,0⟩
  refine ⟨.value (.map (ah6 w.heap.size)),{w with heap:=w.heap.push (.map #[] 0)},loc.set (ah5 aD) li,?_,.inr ⟨_,rfl,?_⟩,?_⟩
  · simp [execOp,eH,Instr.makeMap]
  · subst h;exact .mp (ah5 aD) li (Loc.eo _ _ _)
  refine qX.new hk (k:= .map []) (o:= .map #[] 0) li (by rw [<- h]) (by rw [<- h]) rfl rfl rfl rfl rfl ⟨#[],0,by simp [li],trivial⟩
 case h_28 i x a j eH=>
  simp only [v4,beq_iff_eq] at hc;obtain ⟨rfl,h1⟩:=hc;have hx:=m9 x (by simp [jL.eu]) a h1;simp only [bq] at h;split at h
  · rename_i vs hp
    rw [hp] at hx;obtain ⟨us,hv,nb⟩:=hx.zk;rw [AC] at h;obtain ⟨z,hz,rfl⟩:=h;obtain ⟨u,hu,hur⟩:=nb.get i z hz;have An:(⟨us⟩:Array Value)[i]? =ah6 u:=by simpa using hu
    exact .pure hk rfl rfl (by simp only [execOp,eH];exact dX (by simp [Instr.extract,hv,An])) hur
  cases h
 case h_29 esz x y args argTypes eH=>
  simp only [v4] at hc;obtain ⟨mc,h1⟩:=hc;obtain ⟨a,b,M7,h1a,h1b⟩:=HA h1;have jP:args= #[a,b]:=ae6 (by simpa using M7);subst jP;have hx:=m9 x (by simp [jL.eu]) a h1a;have hy:=m9 y (by simp [jL.eu]) b h1b;split at mc
  · rename_i t tx cL
    have CO:argTypes= #[t,tx]:=ae6 (by simpa using cL);subst CO;simp only [v4] at mc;obtain ⟨mc,Rt⟩:=mc;unfold qj at Rt;split at Rt
    · rename_i e' Yn
      split at mc
      · rename_i el hu
        simp only [v4] at mc;obtain ⟨⟨⟨hs,JO⟩,hnz⟩,hz⟩:=mc;cases hi:P.info? el with
        |none=>rw [hi] at hz;cases hz
        |some i=>
         rw [hi] at hz;cases F2:i.zero with
         |none=>simp [F2] at hz
         |some z=>
          have RJ:z.cells.size=esz:=by rw [ag8,F2,ag8] at hz;simpa using hz
          have o9:i.size=esz:=by unfold na at hs;rw [hi] at hs;simpa using hs
          have Om:i.bytes<=1048576:=by unfold B9 at JO;rw [hi] at JO;simpa using JO
          simp only [bq] at h;obtain ⟨v',w',bc,bQ,hv,vj⟩:=CE (P:=P) (ty:=o.type) hu Yn hi o9 F2 RJ Om hx hy h hk;refine ⟨.value v',w',bc,?_,.inr ⟨v',rfl,hv⟩,vj⟩;simp only [execOp,eH,resolve,Do,EQ,ww,invoke,builtin];rw [show aeB ρ #[a,b]= #[ρ a,ρ b] by simp,bQ];rfl
      cases mc
    cases Rt
  cases mc
 case h_30 n zero ok m k t a b ok' eH=>
  simp only [v4,beq_iff_eq] at hc;obtain ⟨⟨⟨rfl,mc⟩,h1⟩,h2⟩:=hc;have hm:=m9 m (by simp [jL.eu]) a h1;have uY:=m9 k (by simp [jL.eu]) b h2;split at mc
  · rename_i kt et ht
    simp only [v4] at mc;obtain ⟨Zc,hz⟩:=mc;have hz': ∃i z,P.info? et=ah6 i/\i.zero=ah6 z/\VR im loc zero z:=by
     cases hi:P.info? et with
     |none=>rw [hi] at hz;cases hz
     |some i=>
      cases F2:i.zero with
      |none=>rw [hi] at hz;simp [F2] at hz
      |some z=>rw [hi] at hz;simp [F2] at hz;exact ⟨i,z,rfl,F2,F0 hz⟩
    simp only [bq] at h;obtain ⟨v,bQ,hv,hn,hw⟩:=JR (P:=P) ht Zc hz' hm uY h hk;exact .pure hk hn hw (by simp only [execOp,eH];exact dX bQ) hv
  cases mc
 case h_31 n m k v t a b c eH=>
  simp only [v4] at hc;obtain ⟨⟨⟨mc,h1⟩,h2⟩,h3⟩:=hc;split at mc
  · rename_i kt et ht
    simp only [bq] at h;obtain ⟨w',bQ,vj,hu⟩:=Hy (P:=P) ht mc (m9 m (by simp [jL.eu]) a h1) (m9 k (by simp [jL.eu]) b h2) (m9 v (by simp [jL.eu]) c h3) h hk;exact ⟨.skip,w',loc,by simp only [execOp,eH,Do,bQ,ww,EQ],.inl ⟨rfl,hu⟩,vj⟩
  cases mc
 case h_32 esz x y args argTypes eH=>
  simp only [v4] at hc;obtain ⟨mc,h1⟩:=hc;obtain ⟨a,b,M7,h1a,h1b⟩:=HA h1;have jP:args= #[a,b]:=ae6 (by simpa using M7);subst jP;have hx:=m9 x (by simp [jL.eu]) a h1a;have hy:=m9 y (by simp [jL.eu]) b h1b;split at mc
  · rename_i t tx cL
    have CO:argTypes= #[t,tx]:=ae6 (by simpa using cL);subst CO;simp only [v4] at mc;obtain ⟨Rt,_⟩:=mc;unfold wU at Rt;split at Rt
    · rename_i el hu
      have Nb: ∀{v:Value} {w':World},(Builtin.copy_ #[t,tx] o.type #[ρ a,ρ b]).run P w= .ok v w'->(execOp ρ o).run P w= .ok (.value v) w':=by intro v w' hv;simp only [execOp,eH,resolve,Do,EQ,ww,invoke,builtin];rw [show aeB ρ #[a,b]= #[ρ a,ρ b] by simp,hv];rfl
      simp only [bq] at h;split at h
      · rename_i src tk s off len cap ex zd Ru
        rw [Ru] at hx;have Zf:Nat.min (ah5 src) len=min (ah5 src) len:=rfl;have ED:r.rd=gP (y.ev e):=by
         split at h
         · injection h with h;rw [<- h]
         split at h
         · split at h
           · injection h with h;rw [<- h]
           cases h
         cases h
        obtain ⟨g1,g2,g3,g4⟩:=JS (P:=P) (w:=w) hy zd (min (ah5 src) len) (Nat.min_le_left _ _) hk.bA (fun t ht=>hk.tok t (.inl (by rw [ED];exact ht)));have AG:(src.take (min (ah5 src) len))=src.take len:=by
         rcases Nat.le_total (ah5 src) len with h'|h'
         · rw [afZ h',afc (If _),afc h']
         rw [Nat.min_eq_right h']
        rw [AG] at g2;have JU:(sizeOf el).run P w= .ok esz w:=jz Rt;split at h
        · rename_i EH
          injection h with h;subst h;rw [EH] at g2;have h0:min (ah5 src) len=0:=by have:=congrArg ah4 EH;simp only [aeT,afk] at this;omega
          obtain ⟨li,ad,cI,hv,_⟩:=hx.gG;refine .pure (v:= .int .i64 0) hk rfl rfl (Nb ?_) (.int _ _);have Yq:(Builtin.firstCells esz 0 (ρ b)).run P w= .ok #[] w:=by rw [h0] at g2;simpa using g2
          simp only [Builtin.copy_,hv];cases ad with
          |none=>simp [run_underlying hu,g1,Zf,h0,JU,Yq,goInt]
          |some ad=>simp [run_underlying hu,g1,Zf,h0,JU,Yq,goInt,storeCells]
        rename_i r1 rs OQ
        split at h
        · rename_i s' rows bR
          split at h
          · rename_i Lx
            simp only [v4,ae8,ae2] at Lx;obtain ⟨rfl,hnf⟩:=Lx;injection h with h;have RH:s'=s:=by obtain ⟨li,ad,cI,hv,hl,he,_⟩:=hx.gG;obtain ⟨k,gI,hb⟩:=hk.tok tk (.inr ⟨_,by rw [<- h];simp;rfl⟩) li hl;rw [bR] at gI;injection gI with gI;subst gI;rw [<- hb.1,he]
            subst RH;have tI: ∀q,q∈r1::rs->q∈src:=fun q hq=>by rw [<- OQ] at hq;exact List.mem_of_mem_take hq
            have Yr:min (ah5 src) len=ah5 rs+1:=by have:=congrArg ah4 OQ;simp only [aeT,aet] at this;omega
            rw [OQ] at g2;obtain ⟨b',o',c',w',hv,bQ,vj⟩:=Hz (P:=P) (new:=r1::rs) hx bR (by simp) (by simp;omega) (fun q hq=>g3 q (tI q hq)) (fun q hq=>g4 q (tI q hq)) h.symm hk;refine ⟨.value (.int .i64 (Int.ofNat (ah5 rs+1))),w',loc,Nb ?_,.inr ⟨_,rfl,by rw [<- h];exact .int _ _⟩,vj⟩;rw [Yr] at g2;simp only [Builtin.copy_,hv];simp [run_underlying hu,g1,Zf,Yr,JU,g2,goInt,-aep];rw [bQ];rfl
          cases h
        cases h
      cases h
    cases Rt
  cases mc
 case h_33 esz zero x args argTypes eH=>
  simp only [v4] at hc;obtain ⟨mc,h1⟩:=hc;obtain ⟨a,ha,h1a⟩:=HB h1;have jP:args= #[a]:=ae6 (by simpa using ha);subst jP;have hx:=m9 x (by simp [jL.eu]) a h1a;split at mc
  · rename_i t cL
    have CO:argTypes= #[t]:=ae6 (by simpa using cL);subst CO;split at mc
    · rename_i el hu
      simp only [v4,beq_iff_eq] at mc;obtain ⟨⟨⟨hs,hz⟩,hzl⟩,JL⟩:=mc;have Nb: ∀{v:Value} {w':World},(Builtin.clear_ #[t] o.type #[ρ a]).run P w= .ok v w'->(execOp ρ o).run P w= .ok (.value v) w':=by intro v w' hv;simp only [execOp,eH,resolve,Do,EQ,ww,invoke,builtin];rw [show aeB ρ #[a]= #[ρ a] by simp,hv];rfl
      simp only [bq] at h;split at h
      · rename_i tk s off len cap ex Ru
        rw [Ru] at hx;split at h
        · injection h with h;subst h
          obtain ⟨li,ad,cI,hv,_⟩:=hx.gG;refine .pure (v:= .tuple #[]) hk rfl rfl (Nb ?_) (.undef _);simp only [Builtin.clear_,hv];cases ad<;>simp [run_underlying hu]
        rename_i len
        split at h
        · rename_i s' rows bR
          split at h
          · rename_i Lx
            simp only [v4,ae8,ae2] at Lx;obtain ⟨rfl,hnf⟩:=Lx;injection h with h;have RH:s'=s:=by obtain ⟨li,ad,cI,hv,hl,he,_⟩:=hx.gG;obtain ⟨k,gI,hb⟩:=hk.tok tk (.inr ⟨_,by rw [<- h];simp;rfl⟩) li hl;rw [bR] at gI;injection gI with gI;subst gI;rw [<- hb.1,he]
            subst RH;obtain ⟨i,z,hi,F2,cy,HC⟩:=CH hz JL;have Hq: ∀q∈ae7 (len+1) zero,ah5 q=s':=fun q hq=>by rw [(afF.1 hq).2];exact hzl
            have RO: ∀q∈ae7 (len+1) zero,∀c∈q,c.plain=ah8:=fun q hq c hc=>by rw [(afF.1 hq).2] at hc;exact afL.1 JL c hc
            obtain ⟨b',o',c',w',hv,bQ,vj⟩:=Hz (P:=P) (new:=ae7 (len+1) zero) hx bR (by simp) (by simp) Hq RO h.symm hk;refine ⟨.value (.tuple #[]),w',loc,Nb ?_,.inr ⟨_,rfl,by rw [<- h];exact .undef _⟩,vj⟩;have JE:(zeroValue el).run P w= .ok z w:=by simp [zeroValue,typeInfo,hi,F2]
            have hzc:(Builtin.zeroCells z.cells (len+1)).toList=(ae7 (len+1) zero).flatMap aZ:=by
             have cL:=AF HC cy (len+1);have OG:=dp Hq;have o9:=vH z.cells (len+1);apply aeK;intro j;rcases adM j ((ae7 (len+1) zero).flatMap aZ).length with hj|hj
             · have hfj:=cL.flat j _ (PP hj)
               rw [PP hj,<- hfj];simp only [Builtin.zeroCells,afb,Array.getElem?_toList]
             rw [NE hj,NE]
             simp only [aes,o9];rw [OG] at hj;simp only [List.length_replicate] at hj;rw [<- cy,hzl];exact hj
            simp only [Builtin.clear_,hv];simp [run_underlying hu,JE,hzc,-aep];rw [bQ];rfl
          cases h
        cases h
      · rename_i e1 c1 Ru
        rw [Ru] at hx;injection h with h;subst h;obtain ⟨ad,cI,hv,_⟩:=hx.np;refine .pure (v:= .tuple #[]) hk rfl rfl (Nb ?_) (.undef _);simp only [Builtin.clear_,hv];cases ad<;>simp [run_underlying hu]
      cases h
    cases mc
  cases mc
 case h_34 isMax x xs b args Rv eH=>
  simp only [v4] at hc;obtain ⟨hb,h1⟩:=hc;simp only [bq] at h;have hrel:=lJ (im:=im) (loc:=loc) (e:=e) (ρ:=ρ) (fun y hy=>m9 y (by simpa [jL.eu] using hy)) h1;split at h
  · rename_i k a hp
    rw [AC] at h;obtain ⟨z,hz,rfl⟩:=h;have fW:Ct e (x::xs)= .int k a::Ct e xs:=by simp [Ct,hp]
    rw [fW] at hrel;generalize hl:args.toList.map ρ=l at hrel;cases hrel with
    |cons _ u _ us h1 h2=>
     obtain rfl:=h1.fH;obtain ⟨c,rfl,bQ⟩:=LB (P:=P) (w:=w) (isMax:=isMax) h2 hz;refine .pure hk rfl rfl ?_ (.int k c);have kV:(args.map ρ).toList= .int k a::us:=by simpa using hl
     have Om:b=if isMax then .max else .min:=by cases isMax<;>simpa using hb
     subst Om;cases isMax with
     |true=>simp only [if_true] at eH bQ;simp only [execOp,eH,resolve,Do,EQ,ww,invoke,builtin,Builtin.max_,kV,bQ]
     |false=>simp only [adT,if_false] at eH bQ;simp only [execOp,eH,resolve,Do,EQ,ww,invoke,builtin,Builtin.min_,kV,bQ]
  cases h
 case h_37 x y t m ps eH=>
  simp only [v4,beq_iff_eq] at hc;obtain ⟨⟨rfl,mc⟩,hp⟩:=hc;split at mc
  · rename_i el hu
    simp only [v4] at mc;obtain ⟨hs,hz⟩:=mc;split at hp
    · rename_i i a j b hps
      simp only [v4,beq_iff_eq] at hp;obtain ⟨⟨⟨rfl,rfl⟩,h1⟩,h2⟩:=hp;simp only [bq] at h;split at h
      · rename_i zl
        simp only [v4] at zl;injection h with h;have hx:=m9 x (by simp [jL.eu]) a h1;have hy:=m9 y (by simp [jL.eu]) b h2;obtain ⟨bc,hv,he⟩:=Hp (el:=el) hx hy h.symm hk;refine ⟨_,_,bc,?_,.inr ⟨_,rfl,hv⟩,he⟩;have F2: ∃i z,P.info? el=ah6 i/\i.zero=ah6 z/\z.cells.size=1:=by
         cases hi:P.info? el with
         |none=>rw [hi] at hz;cases hz
         |some i=>
          cases hq:i.zero with
          |none=>rw [hi] at hz;simp [hq] at hz
          |some z=>rw [hi] at hz;simp [hq] at hz;exact ⟨i,z,rfl,hq,hz⟩
        obtain ⟨i,z,hi,hq,o9⟩:=F2;have JE:(zeroValue el).run P w= .ok z w:=by simp [zeroValue,typeInfo,hi,hq]
        have c1:(ρ a).cells= #[ρ a]:=by obtain ⟨q1,q2⟩:=hx.FZ zl.1;cases M':ρ a<;>first|rfl|exact absurd M' (q1 _)|exact absurd M' (q2 _)
        have c2:(ρ b).cells= #[ρ b]:=by obtain ⟨q1,q2⟩:=hy.FZ zl.2;cases M':ρ b<;>first|rfl|exact absurd M' (q1 _)|exact absurd M' (q2 _)
        have fl: ∀q:Value,Instr.fill (fun i=>ah6 (i*1,1)) #[q,q] [(0,ρ a),(1,ρ b)]=ah6 #[ρ a,ρ b]:=fun q=>by
         have s1:(⟨tH (0*1) (ρ a).cells.toList (#[q,q]:Array Value).toList⟩:Array Value)= #[ρ a,q]:=by rw [c1];rfl
         have s2:(⟨tH (1*1) (ρ b).cells.toList (#[ρ a,q]:Array Value).toList⟩:Array Value)= #[ρ a,ρ b]:=by rw [c2];rfl
         rw [wY (place:=fun i=>ah6 (i*1,1)) rfl (by rw [c1];rfl) (by simp),s1,wY (place:=fun i=>ah6 (i*1,1)) rfl (by rw [c2];rfl) (by simp),s2];rfl
        simp only [execOp,eH,Instr.buildSlice,Do,run_underlying hu,ww,jz hs];have e0:(aeB (fun x=>z.cells[x%z.cells.size]!) (aeL (2*1)))= #[z.cells[0]!,z.cells[0]!]:=by rw [o9,show aeL (2*1)= #[0,1] from by decide];simp [Nat.mod_one]
        have big: ¬(2*1>2^24):=by decide
        have nz: ¬(2*1=0):=by decide
        have ml:(ps.map fun (i,x)=>(i,ρ x)).toList=[(0,ρ a),(1,ρ b)]:=by rw [aeV,hps];rfl
        simp only [big,nz,if_false,Do,JE,ww,EQ];rw [e0,ml,fl];simp [newRow]
      cases h
    cases hp
  cases mc
 case h_38 n m k v t a b c eH=>
  simp only [v4] at hc;obtain ⟨⟨⟨mc,h1⟩,h2⟩,h3⟩:=hc;split at mc
  · rename_i kt et ht
    simp only [bq] at h;obtain ⟨w',bQ,vj,hu⟩:=Hy (P:=P) ht mc (m9 m (by simp [jL.eu]) a h1) (m9 k (by simp [jL.eu]) b h2) (m9 v (by simp [jL.eu]) c h3) h hk;exact ⟨.skip,w',loc,by simp only [execOp,eH,Do,bQ,ww,EQ],.inl ⟨rfl,hu⟩,vj⟩
  cases mc
 all_goals first|(simp only [bq] at h;cases h;done)|(simp at hc;done)
end
end Go.Vm
/- What goes over the border of a pure call, and what comes back. -/
namespace Go.Vm
def fB:Loc:=fun _=>ah7
def grow (im:Im) (w:World) (bs:List Nat):Im:=fun b=>match im b with
 |some o=>ah6 o
 |none=>if bs.contains b then w.heap[b]? else ah7
theorem F6 (im:Im) (w:World) (bs:List Nat):mu im (grow im w bs):=fun b o h=>by unfold grow;rw [h]
theorem LG {im:Im} {w:World} {bs:List Nat} (h: ∀b o,im b=ah6 o->w.heap[b]? =ah6 o): ∀b o,grow im w bs b=ah6 o->w.heap[b]? =ah6 o:=by
 intro b o hb;unfold grow at hb;split at hb
 · rename_i o' ho;injection hb with hb;subst hb;exact h b _ ho
 split at hb
 · exact hb
 cases hb
theorem RR {im:Im} {w:World} {bs:List Nat} (h: ∀b o,im b=ah6 o->w.heap[b]? =ah6 o) {b:Nat} (hb:b∈bs):grow im w bs b=w.heap[b]?:=by
 unfold grow;split
 · rename_i o ho;exact (h b o ho).symm
 rw [rc (by simpa using hb)]
theorem OR {im:Im} {w:World} {bs:List Nat} {b:Nat} {o:Obj} (h:grow im w bs b=ah6 o):im b=ah6 o\/b∈bs:=by
 unfold grow at h;split at h
 · rename_i o' ho;injection h with h;subst h;exact .inl ho
 split at h
 · rename_i hc;exact .inr (by simpa using hc)
 cases h
def yr (loc:Loc) (aD:bY) (tk:List Nat):List Nat:=tk.filterMap fun t=>if (aD[t]?).any iZ.bC then (loc t).map (·.cS) else ah7
theorem yt {loc:Loc} {aD:bY} {tk:List Nat} {b:Nat}:b∈yr loc aD tk↔ ∃t li k,t∈tk/\loc t=ah6 li/\aD[t]? =ah6 k/\k.bC=ah8/\li.cS=b:=by
 unfold yr;rw [List.mem_filterMap];constructor
 · rintro ⟨t,ht,h⟩
   split at h
   · rename_i hs
     rw [AC] at h;obtain ⟨li,hl,rfl⟩:=h;cases hk:aD[t]? with
     |none=>rw [hk] at hs;cases hs
     |some k=>rw [hk] at hs;exact ⟨t,li,k,ht,hl,hk,hs,rfl⟩
   cases h
 rintro ⟨t,li,k,ht,hl,hk,hs,rfl⟩
 exact ⟨t,ht,by rw [hk,hl];simp [hs]⟩
theorem lK {e:Nat} {rows:List Row} (h:rows≠[]):(iZ.arr e rows).bC=ah8:=by
 cases rows with
 |nil=>exact absurd rfl h
 |cons _ _=>rfl
section
variable {im dJ : Im} {loc : Loc} {aD : bY} {w : World}
def CP (im dJ:Im) (loc:Loc) (aD:bY) (w:World) (t:Nat):Prop:=
 ∀li,loc t=ah6 li-> ∃k,aD[t]? =ah6 k/\BR im loc w li k/\(k.bC=ah8->dJ li.cS=w.heap[li.cS]?)
def Zg (dJ:Im) (loc:Loc) (bx:Nat->Option (List PV)) (t:Nat):Prop:=
 ∀li cs,loc t=ah6 li->bx t=ah6 cs-> ∃vs,eh dJ fB cs vs/\ ∀(j:Nat) (v:Value),vs[j]? =ah6 v->mq dJ li.cS (li.sh+j)=ah6 v
theorem wZ {b o:Nat} {cs:Array Value} {el:TypeId} {fr:Nat×Nat} (h:im b=ah6 (.cells cs el fr)):mq im b o=cs[o]?:=by unfold mq;rw [h]
theorem bF.HD {get:Nat->Option Value} {sh esz off len:Nat} {rows:List Row} (h:bF get sh esz rows):bF get (sh+off*esz) esz ((rows.drop off).take len):=(h.drop off).take len
mutual
theorem Zh (hi:mu im dJ) {bx:Nat->Option (List PV)} {tb:Nat->List Nat} (hb: ∀t,(∀u,u∈tb t->CP im dJ loc aD w u)->CP im dJ loc aD w t->Zg dJ loc bx t):
 ∀{x y:PV} {v:Value},(∀t,t∈hG tb x->CP im dJ loc aD w t)->VR im loc x v->Ar aD bx x=ah6 y->VR dJ fB y v
 | .undef,y,v,_,_,h=>by simp [Ar] at h
 | .iB,y,v,_,_,h=>by simp [Ar] at h
 | .int k n,y,v,_,hv,h=>by simp only [Ar,v6] at h;subst h;rw [hv.fH];exact .int _ _
 | .bool b,y,v,_,hv,h=>by simp only [Ar,v6] at h;subst h;rw [hv.iE];exact .bool _
 | .str b,y,v,_,hv,h=>by simp only [Ar,v6] at h;subst h;rw [hv.Ca];exact .str _
 | .agg cs,y,v,ht,hv,h=>by simp only [Ar,AC] at h;obtain ⟨ys,OS,rfl⟩:=h;obtain ⟨vs,rfl,nb⟩:=hv.nZ;exact .agg _ _ (vN hi hb (fun t h=>ht t (by simpa [hG] using h)) nb OS)
 | .cj cs,y,v,ht,hv,h=>by simp only [Ar,AC] at h;obtain ⟨ys,OS,rfl⟩:=h;obtain ⟨vs,rfl,nb⟩:=hv.zk;exact .cj _ _ (vN hi hb (fun t h=>ht t (by simpa [hG] using h)) nb OS)
 | .sl e c rows,y,v,_,hv,h=>by simp only [Ar,v6] at h;subst h;obtain ⟨a,cap,rfl,h1,h2,h3⟩:=hv.np;exact .sl e ah9 rows a cap h1 (by simp) fun dZ=>let ⟨b,o,ha,hr⟩:=h3 dZ;⟨b,o,ha,hr.mono fun _ _ e=>hi.cell e⟩
 | .own t e off len cap ex,y,v,ht,hv,h=>by
  obtain ⟨li,a,cI,rfl,hl,h2,h3,h4,h5,h6,h7⟩:=hv.gG;obtain ⟨k,hk,qQ,RS⟩:=ht t (by simp [hG]) li hl;simp only [Ar,hk] at h;cases k with
  |arr e' rows=>
   simp only [v6] at h;subst h;obtain ⟨b1,b2,b3⟩:=qQ;have cy:((rows.drop off).take len).length=len:=by simp;omega
   have he:e'=e:=by rw [<- b1,h2]
   subst he;have:=VR.sl (im:=dJ) (loc:=fB) e' ah9 ((rows.drop off).take len) a cI (by omega) (by simp) (fun dZ=>by
    have mz:rows≠[]:=by intro e;subst e;simp at dZ
    obtain ⟨arr,el,q8,F1,G6,cL⟩:=b3 mz;rcases h7 with h7|⟨_,rfl,_⟩
    · exfalso;apply dZ;apply af2.1;omega
    refine ⟨_,_,rfl,cL.HD.mono fun k v hkv=>?_⟩
    rw [wZ (by rw [RS (lK mz)];exact q8)];exact hkv)
   rwa [cy] at this
  |_=>cases h
 | .ptr t e row off,y,v,ht,hv,h=>by
  obtain ⟨li,hl,he,hn,rfl⟩:=hv.wX;obtain ⟨k,hk,qQ,RS⟩:=ht t (by simp [hG]) li hl;simp only [Ar,hk] at h;cases k with
  |arr e' rows=>
   simp only [AC] at h;obtain ⟨r,hr,rfl⟩:=h;obtain ⟨b1,b2,b3⟩:=qQ;have mz:rows≠[]:=by intro e;subst e;simp at hr
   obtain ⟨arr,el,q8,F1,G6,cL⟩:=b3 mz;have JJ:e'=e:=by rw [<- b1,he]
   subst JJ;obtain ⟨h1,h2⟩:=qZ (im:=dJ) (loc:=fB) cL hr;exact .bw r off li.cS (li.sh+row*e') _ h1 fun j v hj=>by rw [wZ (by rw [RS (lK mz)];exact q8)];exact h2 j v hj
  |box cs=>
   dsimp only at h;split at h
   · rename_i sL
     have sL:row=0:=by simpa using sL
     subst sL;rw [AC] at h;obtain ⟨ys,OS,rfl⟩:=h;obtain ⟨vs,h1,h2⟩:=hb t (fun u hu=>ht u (by simp [hG,hu])) (ht t (by simp [hG])) li ys hl OS;exact .bw ys off li.cS (li.sh+0*e) vs h1 fun j v hj=>by simpa using h2 j v hj
   cases h
  |_=>cases h
 | .bw cs off,y,v,ht,hv,h=>by simp only [Ar,AC] at h;obtain ⟨ys,OS,rfl⟩:=h;obtain ⟨b,o,vs,h1,h2,rfl⟩:=hv.vE;exact .bw ys off b o vs (vN hi hb (fun t h=>ht t (by simpa [hG] using h)) h1 OS) fun j v hj=>hi.cell (h2 j v hj)
 | .mp t,y,v,_,_,h=>by simp [Ar] at h
 | .ef fn a b,y,v,ht,hv,h=>by
  simp only [Ar] at h;cases ha:As aD bx a with
  |none=>rw [ha] at h;cases h
  |some a'=>
   cases wW:As aD bx b with
   |none=>rw [ha,wW] at h;cases h
   |some b'=>
    rw [ha,wW] at h;simp only [v6] at h;subst h;cases hv with
    |ef _ _ _ as bs h1 h2=>exact .ef fn a' b' as bs (vN hi hb (fun t h=>ht t (by simp [hG,h])) h1 ha) (vN hi hb (fun t h=>ht t (by simp [hG,h])) h2 wW)
 | .dw,y,v,_,hv,h=>by simp only [Ar,v6] at h;subst h;cases hv;exact .dw
theorem vN (hi:mu im dJ) {bx:Nat->Option (List PV)} {tb:Nat->List Nat} (hb: ∀t,(∀u,u∈tb t->CP im dJ loc aD w u)->CP im dJ loc aD w t->Zg dJ loc bx t):
 ∀{x y:List PV} {v:List Value},(∀t,t∈dd tb x->CP im dJ loc aD w t)->eh im loc x v->As aD bx x=ah6 y->eh dJ fB y v
 | [],y,v,_,hv,h=>by simp only [As,v6] at h;subst h;cases hv;exact .nil
 |x::xs,y,v,ht,hv,h=>by
  simp only [As] at h;cases hx:Ar aD bx x with
  |none=>rw [hx] at h;cases h
  |some x'=>
   cases M1:As aD bx xs with
   |none=>rw [hx,M1] at h;cases h
   |some xs'=>
    rw [hx,M1] at h;simp only [v6] at h;subst h;cases hv with
    |cons _ u _ us h1 h2=>exact .cons _ _ _ _ (Zh hi hb (fun t h=>ht t (by simp [dd,h])) h1 hx) (vN hi hb (fun t h=>ht t (by simp [dd,h])) h2 M1)
end
theorem LH (hi:mu im dJ): ∀(n:Nat) (t:Nat),(∀u,u∈cP aD n t->CP im dJ loc aD w u)->CP im dJ loc aD w t->Zg dJ loc (vw aD n) t
 |0,t,_,_=>by intro li cs _ h;cases h
 |n+1,t,ht,hto=>by
  intro li cs hl h;obtain ⟨k,hk,qQ,RS⟩:=hto li hl;simp only [vw,hk] at h;cases k with
  |box cells=>dsimp only at h;obtain ⟨b1,b2,b3,vs,el,h4,h5,h6⟩:=qQ;refine ⟨vs,vN hi (fun t'=>LH hi n t') (tb:=cP aD n) (fun u hu=>ht u (by simp [cP,hk,hu])) h6 h,fun j v hj=>?_⟩;rw [wZ (by rw [RS rfl];exact h4),b3];simpa using hj
  |_=>cases h
end
end Go.Vm
/- A pure call: what comes back. -/
namespace Go.Vm
section
variable {im dJ : Im} {loc bc : Loc} {aD : bY} {w : World}
mutual
theorem HE: ∀{x:PV} {v:Value},x.jx=ah8->VR im loc x v->VR dJ bc x v
 | .int k n,v,_,h=>by rw [h.fH];exact .int _ _
 | .bool b,v,_,h=>by rw [h.iE];exact .bool _
 | .str s,v,_,h=>by rw [h.Ca];exact .str _
 | .agg cs,v,hn,h=>by obtain ⟨vs,rfl,hr⟩:=h.nZ;exact .agg _ _ (AH (by simpa [PV.jx] using hn) hr)
 | .cj cs,v,hn,h=>by obtain ⟨vs,rfl,hr⟩:=h.zk;exact .cj _ _ (AH (by simpa [PV.jx] using hn) hr)
 | .undef,_,hn,_=>by simp [PV.jx] at hn
 | .iB,_,hn,_=>by simp [PV.jx] at hn
 | .sl ..,_,hn,_=>by simp [PV.jx] at hn
 | .own ..,_,hn,_=>by simp [PV.jx] at hn
 | .ptr ..,_,hn,_=>by simp [PV.jx] at hn
 | .bw ..,_,hn,_=>by simp [PV.jx] at hn
 | .mp ..,_,hn,_=>by simp [PV.jx] at hn
 | .ef ..,_,hn,_=>by simp [PV.jx] at hn
 | .dw,_,hn,_=>by simp [PV.jx] at hn
theorem AH: ∀{x:List PV} {v:List Value},tC x=ah8->eh im loc x v->eh dJ bc x v
 | [],_,_,h=>by cases h;exact .nil
 |x::xs,_,hn,h=>by
  simp only [tC,v4] at hn;cases h with
  |cons _ u _ us h1 h2=>exact .cons _ _ _ _ (HE hn.1 h1) (AH hn.2 h2)
end
mutual
theorem OT (hi:mu im dJ): ∀{x y:PV} {v:Value},(∀t,t∈hG qO x->CP im dJ loc aD w t)->VR im loc x v->wT aD x=ah6 y->VR dJ bc y v
 | .int k n,y,v,_,hv,h=>by simp only [wT,v6] at h;subst h;rw [hv.fH];exact .int _ _
 | .bool b,y,v,_,hv,h=>by simp only [wT,v6] at h;subst h;rw [hv.iE];exact .bool _
 | .str b,y,v,_,hv,h=>by simp only [wT,v6] at h;subst h;rw [hv.Ca];exact .str _
 | .agg cs,y,v,ht,hv,h=>by simp only [wT,AC] at h;obtain ⟨ys,OS,rfl⟩:=h;obtain ⟨vs,rfl,nb⟩:=hv.nZ;exact .agg _ _ (F7 hi (fun t h=>ht t (by simpa [hG] using h)) nb OS)
 | .cj cs,y,v,ht,hv,h=>by simp only [wT,AC] at h;obtain ⟨ys,OS,rfl⟩:=h;obtain ⟨vs,rfl,nb⟩:=hv.zk;exact .cj _ _ (F7 hi (fun t h=>ht t (by simpa [hG] using h)) nb OS)
 | .sl e c rows,y,v,_,hv,h=>by simp only [wT,v6] at h;subst h;obtain ⟨a,cap,rfl,h1,h2,h3⟩:=hv.np;exact .sl e ah9 rows a cap h1 (by simp) fun dZ=>let ⟨b,o,ha,hr⟩:=h3 dZ;⟨b,o,ha,hr.mono fun _ _ e=>hi.cell e⟩
 | .own t e off len cap ex,y,v,ht,hv,h=>by
  obtain ⟨li,a,cI,rfl,hl,h2,h3,h4,h5,h6,h7⟩:=hv.gG;obtain ⟨k,hk,qQ,RS⟩:=ht t (by simp [hG]) li hl;simp only [wT,hk] at h;cases k with
  |arr e' rows=>
   simp only [v6] at h;subst h;obtain ⟨b1,b2,b3⟩:=qQ;have cy:((rows.drop off).take len).length=len:=by simp;omega
   have he:e'=e:=by rw [<- b1,h2]
   subst he;have:=VR.sl (im:=dJ) (loc:=bc) e' ah9 ((rows.drop off).take len) a cI (by omega) (by simp) (fun dZ=>by
    have mz:rows≠[]:=by intro e;subst e;simp at dZ
    obtain ⟨arr,el,q8,F1,G6,cL⟩:=b3 mz;rcases h7 with h7|⟨_,rfl,_⟩
    · exfalso;apply dZ;apply af2.1;omega
    refine ⟨_,_,rfl,cL.HD.mono fun k v hkv=>?_⟩
    rw [wZ (by rw [RS (lK mz)];exact q8)];exact hkv)
   rwa [cy] at this
  |_=>cases h
 | .undef,_,_,_,_,h=>by simp [wT] at h
 | .iB,_,_,_,_,h=>by simp [wT] at h
 | .ptr ..,_,_,_,_,h=>by simp [wT] at h
 | .bw ..,_,_,_,_,h=>by simp [wT] at h
 | .mp ..,_,_,_,_,h=>by simp [wT] at h
 | .ef ..,_,_,_,_,h=>by simp [wT] at h
 | .dw,_,_,_,_,h=>by simp [wT] at h
theorem F7 (hi:mu im dJ): ∀{x y:List PV} {v:List Value},(∀t,t∈dd qO x->CP im dJ loc aD w t)->eh im loc x v->FU aD x=ah6 y->eh dJ bc y v
 | [],y,v,_,hv,h=>by simp only [FU,v6] at h;subst h;cases hv;exact .nil
 |x::xs,y,v,ht,hv,h=>by
  simp only [FU] at h;cases hx:wT aD x with
  |none=>rw [hx] at h;cases h
  |some x'=>
   cases M1:FU aD xs with
   |none=>rw [hx,M1] at h;cases h
   |some xs'=>
    rw [hx,M1] at h;simp only [v6] at h;subst h;cases hv with
    |cons _ u _ us h1 h2=>exact .cons _ _ _ _ (OT hi (fun t h=>ht t (by simp [dd,h])) h1 hx) (F7 hi (fun t h=>ht t (by simp [dd,h])) h2 M1)
end
theorem ob {l:List Nat} {t:Nat}:has l t=ah8↔t∈l:=by
 unfold has;rw [List.any_eq_true];constructor
 · rintro ⟨x,hx,h⟩
   have:t=x:=by simpa using h
   subst this;exact hx
 intro h;exact ⟨t,h,by simp⟩
theorem iF {l:List Nat} {t:Nat}:has l t=ah9↔t∉l:=by rw [<- ob];simp
def aiP:Im:=fun _=>ah7
structure Ys (cQ:Loc) (mA:bY) (Ew:List Nat) (w:World) (seen seen':List Nat) (news:bY) (HF:List LI) (ts:List (Option Nat)):Prop where
 F8:(ah5 HF)=ah5 news
 Hk:(ah5 ts)=ah5 news
 br: ∀(j:Nat) (k:iZ) (li:LI),news[j]? =ah6 k->HF[j]? =ah6 li->(∃e rows,k= .arr e rows)/\BR aiP fB w li k
 own: ∀(j:Nat) (k:iZ) (li:LI) (t:Nat),news[j]? =ah6 k->HF[j]? =ah6 li->ts[j]? =ah6 (ah6 t)->cQ t=ah6 li/\mA[t]? =ah6 k/\t∉Ew/\t∈seen'/\t∉seen
 dum: ∀(j:Nat) (k:iZ),news[j]? =ah6 k->ts[j]? =ah6 ah7->k.bC=ah9
 inj: ∀(i j t:Nat),ts[i]? =ah6 (ah6 t)->ts[j]? =ah6 (ah6 t)->i=j
 sub: ∀t,t∈seen->t∈seen'
theorem Ys.none {cQ:Loc} {mA:bY} {Ew:List Nat} {seen:List Nat}:Ys cQ mA Ew w seen seen [] [] [] where
 F8:=rfl
 Hk:=rfl
 br:=fun j k li h=>by simp at h
 own:=fun j k li t h=>by simp at h
 dum:=fun j k h=>by simp at h
 inj:=fun i j t h=>by simp at h
 sub:=fun _ h=>h
theorem fI {α:Type} {a b:List α} {j:Nat} {x:α} (h:(a++b)[j]? =ah6 x):(j<ah5 a/\a[j]? =ah6 x)\/(ah5 a<=j/\b[j-(ah5 a)]? =ah6 x):=by
 rcases adM j (ah5 a) with hj|hj
 · rw [adR hj] at h;exact .inl ⟨hj,h⟩
 rw [adc hj] at h;exact .inr ⟨hj,h⟩
theorem Ys.append {cQ:Loc} {mA:bY} {Ew s0 s1 s2:List Nat} {n1 n2:bY} {l1 l2:List LI} {t1 t2:List (Option Nat)} (h:Ys cQ mA Ew w s0 s1 n1 l1 t1) (k:Ys cQ mA Ew w s1 s2 n2 l2 t2):
 Ys cQ mA Ew w s0 s2 (n1++n2) (l1++l2) (t1++t2):=by
 have e1:=h.F8;have e2:=h.Hk;have OU: ∀(j t:Nat),t1[j]? =ah6 (ah6 t)->t∈s1:=by intro j t ht;have hj:=(ae5.1 ht).1;exact (h.own j n1[j] l1[j] t (PP (by omega)) (PP (by omega)) ht).2.2.2.1
 have LJ: ∀(j t:Nat),t2[j]? =ah6 (ah6 t)->t∉s1:=by intro j t ht;have hj:=(ae5.1 ht).1;have:=k.F8;have:=k.Hk;exact (k.own j n2[j] l2[j] t (PP (by omega)) (PP (by omega)) ht).2.2.2.2
 refine ⟨by simp [e1,k.F8],by simp [e2,k.Hk],fun j b li hb hl=>?_,fun j b li t hb hl ht=>?_,fun j b hb ht=>?_,fun i j t hi hj=>?_,fun t ht=>k.sub t (h.sub t ht)⟩
 · rcases fI hb with ⟨h1,hb⟩|⟨h1,hb⟩
   · rcases fI hl with ⟨h2,hl⟩|⟨h2,hl⟩
     · exact h.br j b li hb hl
     omega
   rcases fI hl with ⟨h2,hl⟩|⟨h2,hl⟩
   · omega
   rw [e1] at hl;exact k.br _ b li hb hl
 · rcases fI hb with ⟨h1,hb⟩|⟨h1,hb⟩
   · rcases fI hl with ⟨h2,hl⟩|⟨h2,hl⟩
     · rcases fI ht with ⟨h3,ht⟩|⟨h3,ht⟩
       · obtain ⟨a1,a2,a3,a4,a5⟩:=h.own j b li t hb hl ht
         exact ⟨a1,a2,a3,k.sub t a4,a5⟩
       omega
     omega
   rcases fI hl with ⟨h2,hl⟩|⟨h2,hl⟩
   · omega
   rcases fI ht with ⟨h3,ht⟩|⟨h3,ht⟩
   · omega
   rw [e1] at hl;rw [e2] at ht
   obtain ⟨a1,a2,a3,a4,a5⟩:=k.own _ b li t hb hl ht;exact ⟨a1,a2,a3,a4,fun hs=>a5 (h.sub t hs)⟩
 · rcases fI hb with ⟨h1,hb⟩|⟨h1,hb⟩
   · rcases fI ht with ⟨h3,ht⟩|⟨h3,ht⟩
     · exact h.dum j b hb ht
     omega
   rcases fI ht with ⟨h3,ht⟩|⟨h3,ht⟩
   · omega
   rw [e2] at ht;exact k.dum _ b hb ht
 rcases fI hi with ⟨h1,hi⟩|⟨h1,hi⟩
 · rcases fI hj with ⟨h2,hj⟩|⟨h2,hj⟩
   · exact h.inj i j t hi hj
   exact absurd (OU i t hi) (LJ _ t hj)
 rcases fI hj with ⟨h2,hj⟩|⟨h2,hj⟩
 · exact absurd (OU j t hj) (LJ _ t hi)
 have:=k.inj _ _ t hi hj;omega
def Yt (cQ:Loc) (mA:bY) (Cc:Im) (w:World):Prop:= ∀t li,cQ t=ah6 li-> ∃k,mA[t]? =ah6 k/\BR Cc cQ w li k
mutual
theorem OV {Cc:Im} {cQ:Loc} {mA:bY} {Ew:List Nat} (hk:Yt cQ mA Cc w): ∀{x y:PV} {v:Value} {nx:Nat} {seen seen':List Nat} {news:bY},
 VR Cc cQ x v->xK mA Ew nx seen x=ah6 (y,news,seen')->
 ∃HF ts,Ys cQ mA Ew w seen seen' news HF ts/\ ∀(Cf:Im) (pk:Loc),(∀(j:Nat) (li:LI),HF[j]? =ah6 li->pk (nx+j)=ah6 li)->VR Cf pk y v
 | .int k n,y,v,nx,seen,seen',news,hv,h=>by simp only [xK,v6,aer] at h;obtain ⟨rfl,rfl,rfl⟩:=h;exact ⟨[],[],.none,fun _ _ _=>by rw [hv.fH];exact .int _ _⟩
 | .bool k,y,v,nx,seen,seen',news,hv,h=>by simp only [xK,v6,aer] at h;obtain ⟨rfl,rfl,rfl⟩:=h;exact ⟨[],[],.none,fun _ _ _=>by rw [hv.iE];exact .bool _⟩
 | .agg cs,y,v,nx,seen,seen',news,hv,h=>by simp only [xK,AC,aer] at h;obtain ⟨⟨ys,n2,s2⟩,hr,rfl,rfl,rfl⟩:=h;obtain ⟨vs,rfl,nb⟩:=hv.nZ;obtain ⟨HF,ts,h1,h2⟩:=F9 hk nb hr;exact ⟨HF,ts,h1,fun Cf pk hl=> .agg _ _ (h2 Cf pk hl)⟩
 | .cj cs,y,v,nx,seen,seen',news,hv,h=>by simp only [xK,AC,aer] at h;obtain ⟨⟨ys,n2,s2⟩,hr,rfl,rfl,rfl⟩:=h;obtain ⟨vs,rfl,nb⟩:=hv.zk;obtain ⟨HF,ts,h1,h2⟩:=F9 hk nb hr;exact ⟨HF,ts,h1,fun Cf pk hl=> .cj _ _ (h2 Cf pk hl)⟩
 | .sl e c rows,y,v,nx,seen,seen',news,hv,h=>by
  obtain ⟨a,cap,rfl,h1,h2,h3⟩:=hv.np;cases c with
  |false=>simp [xK] at h
  |true=>
   cases rows with
   |cons r rs=>simp [xK] at h
   |nil=>
    simp only [xK,v6,aer] at h;obtain ⟨rfl,rfl,rfl⟩:=h;have EB:cap=0:=h2 rfl;subst EB;refine ⟨[⟨0,0,e,0,0⟩],[ah7],⟨rfl,rfl,fun j k li hj hl=>?_,fun j k li t hj hl ht=>?_,fun j k hj ht=>?_,fun i j t hi hj=>?_,fun _ h=>h⟩,fun Cf pk hl=>?_⟩
    · cases j with
      |zero=>simp at hj hl;subst hj hl;exact ⟨⟨_,_,rfl⟩,rfl,rfl,fun dZ=>absurd rfl dZ⟩
      |succ j=>simp at hj
    · cases j<;>simp at ht
    · cases j with
      |zero=>simp at hj;subst hj;rfl
      |succ j=>simp at hj
    · cases i<;>simp at hi
    exact .own nx e 0 0 0 ah9 ⟨0,0,e,0,0⟩ a 0 (hl 0 _ rfl) rfl (If _) (If _) (If _) (by simp) (.inl rfl)
 | .own t e off len cap ex,y,v,nx,seen,seen',news,hv,h=>by
  obtain ⟨li,a,cI,rfl,hl,h2,h3,h4,h5,h6,h7⟩:=hv.gG;obtain ⟨k,uY,qQ⟩:=hk t li hl;simp only [xK,uY] at h;cases k with
  |arr e' rows=>
   dsimp only at h;split at h
   · cases h
   rename_i hs
   simp only [afl,not_or,Bool.not_eq_true] at hs;simp only [v6,aer] at h;obtain ⟨rfl,rfl,rfl⟩:=h;refine ⟨[li],[ah6 t],⟨rfl,rfl,fun j k li' hj kV=>?_,fun j k li' t' hj kV ht=>?_,fun j k hj ht=>?_,fun i j t hi hj=>?_,fun _ h=>aeH _ h⟩,fun Cf pk Hs=>?_⟩
   · cases j with
     |zero=>simp at hj kV;subst hj kV;exact ⟨⟨_,_,rfl⟩,qQ⟩
     |succ j=>simp at hj
   · cases j with
     |zero=>simp at hj kV ht;subst hj kV ht;exact ⟨hl,uY,iF.1 hs.2,by simp,iF.1 hs.1⟩
     |succ j=>simp at hj
   · cases j<;>simp at ht
   · cases i with
     |zero=>
      cases j with
      |zero=>rfl
      |succ j=>simp at hj
     |succ i=>simp at hi
   exact .own nx e off len cap ah9 li a cI (Hs 0 _ rfl) h2 h3 h4 h5 (fun h=>by cases h) h7
  |_=>cases h
 | .str s,y,v,nx,seen,seen',news,hv,h=>by simp [xK] at h
 | .undef,y,v,nx,seen,seen',news,hv,h=>by simp [xK] at h
 | .iB,y,v,nx,seen,seen',news,hv,h=>by simp [xK] at h
 | .ptr ..,y,v,nx,seen,seen',news,hv,h=>by simp [xK] at h
 | .bw ..,y,v,nx,seen,seen',news,hv,h=>by simp [xK] at h
 | .mp ..,y,v,nx,seen,seen',news,hv,h=>by simp [xK] at h
 | .ef ..,y,v,nx,seen,seen',news,hv,h=>by simp [xK] at h
 | .dw,y,v,nx,seen,seen',news,hv,h=>by simp [xK] at h
theorem F9 {Cc:Im} {cQ:Loc} {mA:bY} {Ew:List Nat} (hk:Yt cQ mA Cc w): ∀{x y:List PV} {v:List Value} {nx:Nat} {seen seen':List Nat} {news:bY},
 eh Cc cQ x v->FV mA Ew nx seen x=ah6 (y,news,seen')->
 ∃HF ts,Ys cQ mA Ew w seen seen' news HF ts/\ ∀(Cf:Im) (pk:Loc),(∀(j:Nat) (li:LI),HF[j]? =ah6 li->pk (nx+j)=ah6 li)->eh Cf pk y v
 | [],y,v,nx,seen,seen',news,hv,h=>by simp only [FV,v6,aer] at h;obtain ⟨rfl,rfl,rfl⟩:=h;cases hv;exact ⟨[],[],.none,fun _ _ _=> .nil⟩
 |x::xs,y,v,nx,seen,seen',news,hv,h=>by
  simp only [FV] at h;cases h1:xK mA Ew nx seen x with
  |none=>rw [h1] at h;cases h
  |some r1=>
   obtain ⟨y1,n1,s1⟩:=r1;rw [h1] at h;dsimp only at h;cases h2:FV mA Ew (nx+ah5 n1) s1 xs with
   |none=>rw [h2] at h;cases h
   |some r2=>
    obtain ⟨y2,n2,s2⟩:=r2;rw [h2] at h;simp only [v6,aer] at h;obtain ⟨rfl,rfl,rfl⟩:=h;cases hv with
    |cons _ u _ us hx M1=>
     obtain ⟨l1,t1,a1,b1⟩:=OV hk hx h1;obtain ⟨l2,t2,a2,b2⟩:=F9 hk M1 h2;refine ⟨l1++l2,t1++t2,a1.append a2,fun Cf pk hl=> .cons _ _ _ _ (b1 Cf pk fun j li hj=>?_) (b2 Cf pk fun j li hj=>?_)⟩
     · have:=(ae5.1 hj).1
       exact hl j li (by rw [adR this];exact hj)
     have:=hl (ah5 n1+j) li (by rw [adc (by rw [a1.F8];omega),a1.F8,show (ah5 n1)+j-(ah5 n1)=j by omega];exact hj)
     rwa [<- aey] at this
end
end
end Go.Vm
