/- The logical machine, part 1: VmDef, VmWp, VmChk, VmRel, VmRen, VmOps1, VmEff, VmOps2, VmOps3, VmOps4, VmOps5, VmOps6, VmOps7, VmOps8, VmOps9, VmEq, VmMap, VmOpsA, VmCall, VmCall2. -/
import GoSem.Dispatch
import Derived.Laws.StructEq
import Derived.Calls
import Derived.Below
import Derived.Laws.CopyRow
import Derived.Deep.AppendSrc
import Derived.Deep.Upon
import Derived.WideKeyRuns
open Bool renaming and_eq_true->ut,false_eq_true->adm,not_eq_true'->ae5,or_eq_true->am3,true_and->amL,and_true->amN,true->amV,false->amW
open Option.some renaming injEq->v6
open Go.Result renaming andThen_ok->ww
open Option renaming map_eq_some_iff->AC,getD_some->ae4,isSome_iff_exists->afc,getD_none->afY,isSome_some->amo,map_some->amE,any_some->amH,some->amT,none->amU
open Go.Sem renaming run_bind->Do,run_pure->EQ
open Nat renaming beq->F0s,le_refl->If,add_mul->PP,mul_le_mul_right->UV,lt_or_ge->acl,ble->ae1,beq_eq->af4,ble_eq->afB,add_assoc->afJ,blt->afW,le_max_right->agE,zero_add->alX,le_max_left->am1,eq_zero_or_pos->amq,min_eq_left->amF,mul_eq_zero->amG,mul_le_mul->amI,add_zero->amP,zero_mul->amQ
open Array renaming getElem?_eq_some_iff->IR,getElem?_setIfInBounds->ae2,ext'->ae9,length_toList->afg,map->afN,range->agz,toList_map->aka,getElem?_eq_none->akc,getElem?_push->am6
open List renaming getElem?_eq_none->M2,getElem?_eq_getElem->NE,getElem?_append_right->WF,getElem?_append_left->adc,mem_singleton->ae3,getElem?_eq_some_iff->ae8,replicate->af3,getElem?_toArray->af5,mem_append->afa,flatMap_cons->afb,length_cons->afj,length_append->afx,size_toArray->afy,getElem?_take_of_lt->afI,mem_cons->afK,foldl_cons->afM,drop_eq_nil_of_le->afX,mem_of_getElem?->afZ,mem_iff_getElem->agd,mem_cons_of_mem->agj,getElem?_drop->agl,extract_eq_take_drop->agp,ext_getElem?->agy,flatMap_nil->agG,getElem?_cons_zero->agK,length_take->aig,length_eq_zero_iff->akb,getElem?_set_self->alt,take_of_length_le->am0,length_nil->am2,take_append_drop->am4,getElem?_set_ne->am5,flatMap_append->amm,mem_replicate->amv,append_assoc->amw,isEmpty_iff->amB,foldlM_cons->amC,all_eq_true->amD,drop_drop->amJ,mapM_cons->amK,map_cons->amM,getD->amO,length->amR,length->amS
open Prod.mk renaming injEq->afe
open Int renaming toNat_natCast->agB
open Decidable renaming decide->amX
/- Definitions of a logical machine over pure values: what it computes is tied to the model's runs in VmSound. -/
namespace Go.Vm
universe u
theorem lw{α:Sort u}{a b:α}:cond amV a b=a:=rfl
theorem ol{α:Sort u}{a b:α}:cond amW a b=b:=rfl
theorem pp{c:Prop}{h:Decidable c}(p:c){α:Sort u}{t e:α}:ite c t e=t:=if_pos p
theorem rc{c:Prop}{h:Decidable c}(p:¬c){α:Sort u}{t e:α}:ite c t e=e:=if_neg p
inductive PV where
 |undef
 |jA
 |int (k:IntKind) (n:Int)
 |bool (b:Bool)
 |str (s:ByteArray)
 |agg (cs:List PV)
 |cw (cs:List PV)
 |sl (esz:Nat) (qU:Bool) (rows:List (List PV))
 |own (t esz off len cap:Nat) (ex:Bool)
 |ptr (t esz row off:Nat)
 |bJ (cells:List PV) (off:Nat)
 |mp (t:Nat)
 |eV (fn:FuncId) (fst cap:List PV)
 |dU
instance:Inhabited PV:=⟨.undef⟩
abbrev Row:=List PV
inductive jW where
 |arr (esz:Nat) (rows:List Row)
 |box (cells:List PV)
 |map (es:List (PV×PV))
 |dead
abbrev cL:=List jW
abbrev Env:=List (Nat×PV)
inductive fH where
 |t (n:Nat)
 |c (v:PV)
inductive CM where
 |WM|own|shr|fp
inductive k7 where
 |Tj (x:fH)
 |pick (c a b:fH)
 |bin (op:BinOp) (x y:fH)
 |KX (neg:Bool) (x y:fH)
 |eqc (n:Nat) (neg:Bool) (x y:fH)
 |un (op:UnOp) (x:fH)
 |conv (k:IntKind) (x:fH)
 |len (x:fH)
 |NV (n:Nat)
 |box (x:fH)
 |alloc (cells:List PV)
 |build (zero:List PV) (parts:List (Nat×Nat×fH))
 |Bj (esz n:Nat) (zero:Row) (parts:List (Nat×fH))
 |DC (x y:fH)
 |load (agg:Option Nat) (p:fH)
 |store (sz:Nat) (p v:fH)
 |KY (x:fH)
 |KZ (off:Nat) (p:fH)
 |iK (agg:Option Nat) (off:Nat) (x:fH)
 |K0 (esz:Nat) (x i:fH)
 |DD (n esz:Nat) (p i:fH)
 |idx (n esz:Nat) (agg:Option Nat) (x i:fH)
 |K1 (x i:fH)
 |RA (esz:Nat) (x:fH) (lo hi mx:Option fH)
 |mks (esz:Nat) (zero:Row) (len cap:fH)
 |mkf (fn:FuncId) (fst cap:List fH)
 |mkm (z:Option PV)
 |lookup (n:Option Nat) (zero:PV) (ok:Bool) (m k:fH)
 |I9 (n:Option Nat) (m k v:fH)
 |ext (i:Nat) (x:fH)
 |append (esz:Nat) (x y:fH)
 |copy (esz:Nat) (x y:fH)
 |clear (esz:Nat) (zero:Row) (x:fH)
 |mm (isMax:Bool) (x:fH) (xs:List fH)
 |call (m:CM) (f:FuncId) (args:List fH)
 |xB (x:fH) (args:List fH)
 |bad
structure bU where
 dst:Option Nat
 op:k7
 guard:Option (Nat×Bool)
inductive jX where
 |skip
 |region (draw:Option (List Nat)) (ops:List bU) (fU:List Nat)
 |seq (a b:jX)
 |cond (c:fH) (a b:jX)
 |block (id:Nat) (b:jX)
 |loop (live:List (Nat×Option Nat)) (b:jX)
 |exit (id:Nat)
 |ret
inductive RV where
 |tmp (t:Nat)
 |cell (t:Nat) (agg:Option Nat)
structure aK where
 DE:Nat
 code:jX
 res:List RV
inductive Ent where
 |code (x:aK)
 |kg (PW:Bool) (f:List PV->Option (PV×cL))
 |Hj (f:List PV->cL->List Nat->Option (PV×cL×List Nat))
abbrev m8:=FuncId->Option Ent
structure St where
 env:Env
 aD:cL
 fz:List Nat
 kn:Nat
inductive hJ where
 |normal
 |exit (id:Nat)
 |ret
def lk (t:Nat):Env->PV
 | []=> .undef
 |(s,v)::r=>if F0s s t then v else lk t r
def fH.ev (e:Env):fH->PV
 | .t n=>lk n e
 | .c v=>v
def PV.qj:PV->Bool
 | .undef| .jA| .agg _| .cw _=>amW
 |_=>amV
def PV.plain:PV->Bool
 | .int _ _| .bool _| .str _=>amV
 |_=>amW
def PV.cells:PV->List PV
 | .agg cs=>cs
 |v=>[v]
def PV.stored (v:PV):Option (List PV):=if v.cells.all PV.qj then amT v.cells else amU
def PV.cM (v:PV):Option (List PV):=if v.cells.all PV.plain then amT v.cells else amU
def part (agg:Option Nat) (off:Nat) (cs:List PV):Option PV:=
 match agg with
 |some s=>if off+s<=(amS cs) then amT (.agg ((cs.drop off).take s)) else amU
 |none=>cs[off]?
def nX (off:Nat) (new old:List PV):List PV:=old.take off++new++old.drop (off+amS new)
def aa (k:IntKind) (n:Int):Int:=
 match k,n with
 | .i64,.ofNat m=>if afW m 9223372036854775808 then .ofNat m else IntKind.wrap .i64 n
 | .i64,.negSucc m=>if afW m 9223372036854775808 then .negSucc m else IntKind.wrap .i64 n
 | .u64,.ofNat m=> .ofNat (Nat.mod m 18446744073709551616)
 |k,n=>IntKind.wrap k n
def arith (op:BinOp) (k:IntKind) (a b:Int):Option PV:=
 match op with
 | .add=>amT (.int k (aa k (a+b)))
 | .sub=>amT (.int k (aa k (a-b)))
 | .mul=>amT (.int k (aa k (a*b)))
 | .quo=>if b=0 then amU else amT (.int k (aa k (a.tdiv b)))
 | .rem=>if b=0 then amU else amT (.int k (a.tmod b))
 | .and=>amT (.int k (k.wrap (BitVec.ofInt k.bits a&&&BitVec.ofInt k.bits b).toNat))
 | .or=>amT (.int k (k.wrap (BitVec.ofInt k.bits a|||BitVec.ofInt k.bits b).toNat))
 | .xor=>amT (.int k (k.wrap (BitVec.ofInt k.bits a^^^BitVec.ofInt k.bits b).toNat))
 | .andNot=>amT (.int k (k.wrap (BitVec.ofInt k.bits a&&& ~~~ BitVec.ofInt k.bits b).toNat))
 | .eql=>amT (.bool (a==b))
 | .neq=>amT (.bool (a !=b))
 | .lss=>amT (.bool (amX (a<b)))
 | .leq=>amT (.bool (amX (a<=b)))
 | .gtr=>amT (.bool (amX (a>b)))
 | .geq=>amT (.bool (amX (a>=b)))
 | .shl| .shr=>amU
def CB (op:BinOp) (k:IntKind) (a b:Int):Option PV:=
 if b<0 then amU else
 let n:=min b.toNat k.bits
 match op with
 | .shl=>amT (.int k (k.wrap (a*2^n)))
 | .shr=>amT (.int k (a.fdiv (2^n)))
 |_=>amU
def fE:IntKind->IntKind->Bool
 | .i8,.i8| .i16,.i16| .i32,.i32| .i64,.i64| .u8,.u8| .u16,.u16| .u32,.u32| .u64,.u64=>amV
 |_,_=>amW
def RC (op:BinOp) (x y:PV):Option PV:=
 match x,y with
 | .int k a,.int l b=>
  match op with
  | .shl=>CB .shl k a b
  | .shr=>CB .shr k a b
  |op=>if fE k l then arith op k a b else amU
 |_,_=>amU
def qV:PV->PV->Option Bool
 | .int k a,.int l b=>if fE k l then amT (a==b) else amU
 |_,_=>amU
def dD:List PV->List PV->Option Bool
 | [],[]=>amT amV
 |x::xs,y::ys=>
  match qV x y with
  |some amV=>dD xs ys
  |some amW=>amT amW
  |none=>amU
 |_,_=>amU
def unE (op:UnOp) (x:PV):Option PV:=
 match op,x with
 | .neg,.int k n=>amT (.int k (aa k (0-n)))
 | .not,.bool b=>amT (.bool !b)
 |_,_=>amU
def rowsOf (aD:cL) (esz:Nat):PV->Option (List Row)
 | .sl e _ rows=>match rows with
  | []=>amT []
  |_=>if F0s e esz then amT rows else amU
 | .own t e off len _ _=>if F0s e esz then (match aD[t]? with
  |some (.arr _ rows)=>amT ((rows.drop off).take len)
  |_=>amU) else amU
 |_=>amU
def iQ:PV->List Nat
 | .own t _ _ _ _ _=>[t]
 |_=>[]
structure nY where
 v:PV
 news:cL:=[]
 wr:List (Nat×jW):=[]
 rd:List Nat:=[]
 fr:List Nat:=[]
def nv:List (Nat×Nat×PV)->List PV->Option (List PV)
 | [],cs=>amT cs
 |(off,sz,v)::r,cs=>
  match v.stored with
  |some w=>if F0s (amS w) sz&&ae1 (off+sz) (amS cs) then nv r (nX off w cs) else amU
  |none=>amU
def qk:List (Nat×PV)->List Row->Nat->Option (List Row)
 | [],rows,_=>amT rows
 |(i,v)::r,rows,esz=>
  match v.cM with
  |some w=>if F0s (amS w) esz&&afW i (amS rows) then qk r (rows.set i w) esz else amU
  |none=>amU
def jY:PV->Option Nat
 | .int _ n=>match n with
  | .ofNat m=>amT m
  | .negSucc _=>amU
 |_=>amU
def jB (n:Option Nat) (k:PV):Bool:=
 match n,k with
 |none,.int _ _=>amV
 |some n,.agg cs=>F0s (amS cs) n
 |_,_=>amW
def fD (n:Option Nat) (k:PV):List (PV×PV)->Nat->Option (Option Nat)
 | [],_=>amT amU
 |(a,_)::r,i=>
  if jB n a then
   match dD k.cells a.cells with
   |some amV=>amT (amT i)
   |some amW=>fD n k r (i+1)
   |none=>amU
  else amU
def eu:Nat:=1048576
def oY (aD:cL) (agg:Option Nat):PV->Option nY
 | .ptr t _ row off=>match aD[t]? with
  |some (.arr _ rows)=>match rows[row]? with
   |some cs=>(part agg off cs).map fun v=>{v,rd:=[t]}
   |none=>amU
  |some (.box cs)=>if F0s row 0 then (part agg off cs).map fun v=>{v,rd:=[t]} else amU
  |_=>amU
 | .bJ cs off=>(part agg off cs).map fun v=>{v}
 |_=>amU
def has (l:List Nat) (t:Nat):Bool:=l.any (F0s t)
def sy (aD:cL) (fz:List Nat) (sz:Nat) (v:PV):PV->Option nY
 | .ptr t _ row off=>match aD[t]? with
  |some (.arr e rows)=>match rows[row]?,v.cM with
   |some cs,amT w=>if F0s (amS w) sz&&ae1 (off+sz) (amS cs)&&!has fz t then
    amT {v:= .undef,wr:=[(t,.arr e (rows.set row (nX off w cs)))]} else amU
   |_,_=>amU
  |some (.box cs)=>match v.stored with
   |some w=>if F0s row 0&&F0s (amS w) sz&&ae1 (off+sz) (amS cs)&&!has fz t then
    amT {v:= .undef,wr:=[(t,.box (nX off w cs))]} else amU
   |none=>amU
  |_=>amU
 |_=>amU
def vp (esz:Nat):PV->Bool
 | .sl e _ rows=>F0s e esz||rows.isEmpty
 | .own _ e _ _ _ _=>F0s e esz
 |_=>amW
def qW (x:PV) (lo hi mx:Option Nat):Option PV:=
 match x with
 | .sl e qU rows=>
  let l:=lo.getD 0
  let h:=hi.getD (amS rows)
  match mx with
  |none=>if ae1 l h&&ae1 h (amS rows) then amT (.sl e (qU&&F0s h (amS rows)) ((rows.drop l).take (h-l))) else amU
  |some m=>if ae1 l h&&ae1 h m&&ae1 m (amS rows) then amT (.sl e (F0s h m) ((rows.drop l).take (h-l))) else amU
 | .own t e off len cap ex=>
  let l:=lo.getD 0
  let h:=hi.getD len
  match mx with
  |none=>if ae1 l h&&ae1 h cap then amT (.own t e (off+l) (h-l) (cap-l) ex) else amU
  |some m=>if ae1 l h&&ae1 h m&&ae1 m cap then amT (.own t e (off+l) (h-l) (m-l) amV) else amU
 |_=>amU
def la:Nat->List Row->List Row->List Row
 |_,[],rows=>rows
 |i,w::r,rows=>la (i+1) r (rows.set i w)
def iR (aD:cL) (fz:List Nat) (esz:Nat) (x y:PV):Option nY:=
 match rowsOf aD esz y with
 |none=>amU
 |some new=>
  match new with
  | []=>match x with
   | .sl _ qU rows=>if qU&&rows.isEmpty then amT {v:= .own (amS aD) esz 0 0 0 amW,news:=[.arr esz []],rd:=iQ y} else amT {v:=x,rd:=iQ y}
   | .own t _ _ len cap ex=>if F0s len 0&&F0s cap 0&&ex then amT {v:= .own (amS aD) esz 0 0 0 amW,news:=[.arr esz []],rd:=t::iQ y} else amT {v:=x,rd:=iQ y}
   |_=>amU
  |_=>
   let m:=amS new
   match x with
   | .sl e qU rows=>
    if qU&&(F0s e esz||F0s (amS rows) 0)&&ae1 (amS rows+m) eu then
     amT {v:= .own (amS aD) esz 0 (amS rows+m) (amS rows+m) amW,news:=[.arr esz (rows++new)],rd:=iQ y}
    else amU
   | .own t e off len cap ex=>
    match aD[t]? with
    |some (.arr _ rows)=>
     if !Nat.beq e esz then amU
     else if ae1 (len+m) cap then
      if has fz t then amU else amT {v:= .own t e off (len+m) cap ex,wr:=[(t,.arr e (la (off+len) new rows))],rd:=iQ y}
     else if !Nat.ble (len+m) eu then amU
     else if ex then
      amT {v:= .own (amS aD) e 0 (len+m) (len+m) amW,news:=[.arr e ((rows.drop off).take len++new)],rd:=t::iQ y}
     else if has fz t then amU
     else amT {v:= .own (amS aD) e 0 (len+m) (len+m) amW,news:=[.arr e ((rows.drop off).take len++new)],wr:=[(t,.dead)],rd:=iQ y}
    |_=>amU
   |_=>amU
def mmE (isMax:Bool) (k:IntKind):Int->List PV->Option PV
 |a,[]=>amT (.int k a)
 |a,x::r=>match x with
  | .int l b=>if fE k l then mmE isMax k (if isMax then (if b>a then b else a) else (if b<a then b else a)) r else amU
  |_=>amU
def EO (e:Env) (l:List fH):List PV:=l.map (fH.ev e)
def tI (aD:cL) (n:Option Nat) (zero:PV) (ok:Bool) (m k:PV):Option nY:=
 match m with
 | .mp t=>match aD[t]? with
  |some (.map es)=>if jB n k then (match fD n k es 0 with
   |some (amT i)=>match es[i]? with
    |some p=>amT {v:=if ok then .cw [p.2,.bool amV] else p.2,rd:=[t]}
    |none=>amU
   |some amU=>amT {v:=if ok then .cw [zero,.bool amW] else zero,rd:=[t]}
   |none=>amU) else amU
  |_=>amU
 |_=>amU
def DF (aD:cL) (fz:List Nat) (n:Option Nat) (m k v:PV):Option nY:=
 match m with
 | .mp t=>match aD[t]? with
  |some (.map es)=>if jB n k&&!has fz t then (match k.cM,v.cM with
   |some _,amT _=>match fD n k es 0 with
    |some (amT i)=>amT {v:= .undef,wr:=[(t,.map (es.set i (k,v)))]}
    |some amU=>amT {v:= .undef,wr:=[(t,.map (es++[(k,v)]))]}
    |none=>amU
   |_,_=>amU) else amU
  |_=>amU
 |_=>amU
def bG (e:Env) (aD:cL) (fz:List Nat):k7->Option nY
 | .Tj x=>amT {v:=x.ev e}
 | .pick c a b=>match c.ev e with
  | .bool amV=>amT {v:=a.ev e}
  | .bool amW=>amT {v:=b.ev e}
  |_=>amU
 | .bin op x y=>(RC op (x.ev e) (y.ev e)).map fun v=>{v}
 | .KX neg x y=>match x.ev e,y.ev e with
  | .bool a,.bool b=>amT {v:= .bool (if neg then !(a==b) else a==b)}
  |_,_=>amU
 | .eqc n neg x y=>match x.ev e,y.ev e with
  | .agg xs,.agg ys=>if F0s (amS xs) n&&F0s (amS ys) n then (dD xs ys).map fun b=>{v:= .bool (if neg then !b else b)} else amU
  |_,_=>amU
 | .un op x=>(unE op (x.ev e)).map fun v=>{v}
 | .conv k x=>match x.ev e with
  | .int _ n=>amT {v:= .int k (aa k n)}
  |_=>amU
 | .len x=>match x.ev e with
  | .sl _ _ rows=>amT {v:= .int .i64 (.ofNat (amS rows))}
  | .own _ _ _ len _ _=>amT {v:= .int .i64 (.ofNat len)}
  |_=>amU
 | .NV n=>amT {v:= .int .i64 (.ofNat n)}
 | .box x=>match (x.ev e).stored with
  |some cs=>amT {v:= .ptr (amS aD) (amS cs) 0 0,news:=[.box cs]}
  |none=>amU
 | .alloc cells=>amT {v:= .ptr (amS aD) (amS cells) 0 0,news:=[.box cells]}
 | .build zero parts=>(nv (parts.map fun p=>(p.1,p.2.1,p.2.2.ev e)) zero).map fun cs=>{v:= .agg cs}
 | .Bj esz n zero parts=>(qk (parts.map fun p=>(p.1,p.2.ev e)) (af3 n zero) esz).map fun rows=>
  {v:= .own (amS aD) esz 0 n n amV,news:=[.arr esz rows]}
 | .DC x y=>if (x.ev e).qj&&(y.ev e).qj then amT {v:= .own (amS aD) 1 0 2 2 amV,news:=[.box [x.ev e,y.ev e]]} else amU
 | .load agg p=>oY aD agg (p.ev e)
 | .store sz p v=>sy aD fz sz (v.ev e) (p.ev e)
 | .KY x=>match x.ev e with
  | .ptr t s r o=>amT {v:= .ptr t s r o}
  | .bJ c o=>amT {v:= .bJ c o}
  | .eV f a b=>amT {v:= .eV f a b}
  |_=>amU
 | .KZ off p=>match p.ev e with
  | .ptr t s r o=>amT {v:= .ptr t s r (o+off)}
  | .bJ c o=>amT {v:= .bJ c (o+off)}
  |_=>amU
 | .iK agg off x=>match x.ev e with
  | .agg cs=>(part agg off cs).map fun v=>{v}
  |_=>amU
 | .K0 esz x i=>match jY (i.ev e) with
  |none=>amU
  |some n=>match x.ev e with
   | .sl s _ rows=>match rows[n]? with
    |some cs=>if F0s s esz then amT {v:= .bJ cs 0} else amU
    |none=>amU
   | .own t s off len _ _=>if afW n len&&F0s s esz then amT {v:= .ptr t s (off+n) 0} else amU
   |_=>amU
 | .DD n esz p i=>match jY (i.ev e) with
  |none=>amU
  |some j=>if afW j n then (match p.ev e with
   | .ptr t s r o=>amT {v:= .ptr t s r (o+j*esz)}
   | .bJ c o=>amT {v:= .bJ c (o+j*esz)}
   |_=>amU) else amU
 | .idx n esz agg x i=>match jY (i.ev e) with
  |none=>amU
  |some j=>if afW j n then (match x.ev e with
   | .agg cs=>(part agg (j*esz) cs).map fun v=>{v}
   |_=>amU) else amU
 | .K1 x i=>match jY (i.ev e),x.ev e with
  |some j,.str s=>match s[j]? with
   |some b=>amT {v:= .int .u8 b.toNat}
   |none=>amU
  |_,_=>amU
 | .RA esz x lo hi mx=>
  if !vp esz (x.ev e) then amU else
  match (match lo with|none=>amT amU|some a=>(jY (a.ev e)).map amT),
   (match hi with|none=>amT amU|some a=>(jY (a.ev e)).map amT),
   (match mx with|none=>amT amU|some a=>(jY (a.ev e)).map amT) with
  |some l,amT h,amT m=>(qW (x.ev e) l h m).map fun v=>{v}
  |_,_,_=>amU
 | .mks esz zero l c=>match jY (l.ev e),jY (c.ev e) with
  |some n,amT m=>if ae1 n m&&ae1 m eu then
   amT {v:= .own (amS aD) esz 0 n m amV,news:=[.arr esz (af3 m zero)]} else amU
  |_,_=>amU
 | .mkf fn a b=>amT {v:= .eV fn (EO e a) (EO e b)}
 | .mkm _=>amT {v:= .mp (amS aD),news:=[.map []]}
 | .lookup n zero ok m k=>tI aD n zero ok (m.ev e) (k.ev e)
 | .I9 n m k v=>DF aD fz n (m.ev e) (k.ev e) (v.ev e)
 | .ext i x=>match x.ev e with
  | .cw vs=>vs[i]?.map fun v=>{v}
  |_=>amU
 | .append esz x y=>iR aD fz esz (x.ev e) (y.ev e)
 | .copy esz x y=>match rowsOf aD esz (y.ev e),x.ev e with
  |some src,.own t s off len _ _=>match src.take len with
   | []=>amT {v:= .int .i64 0,rd:=iQ (y.ev e)}
   |r::rs=>match aD[t]? with
    |some (.arr s' rows)=>
     if F0s s esz&&!has fz t then
      amT {v:= .int .i64 (.ofNat (amS rs+1)),wr:=[(t,.arr s' (la off (r::rs) rows))],rd:=iQ (y.ev e)}
     else amU
    |_=>amU
  |_,_=>amU
 | .clear esz zero x=>match x.ev e with
  | .own t s off len _ _=>match len with
   |0=>amT {v:= .undef}
   |len+1=>match aD[t]? with
    |some (.arr s' rows)=>
     if F0s s esz&&!has fz t then
      amT {v:= .undef,wr:=[(t,.arr s' (la off (af3 (len+1) zero) rows))]}
     else amU
    |_=>amU
  | .sl _ _ []=>amT {v:= .undef}
  |_=>amU
 | .mm isMax x xs=>match x.ev e with
  | .int k a=>(mmE isMax k a (EO e xs)).map fun v=>{v}
  |_=>amU
 | .call .. =>amU
 | .xB .. =>amU
 | .bad=>amU
mutual
def CC (aD:cL) (bx:Nat->Option (List PV)):PV->Option PV
 | .undef=>amU
 | .jA=>amU
 | .int k n=>amT (.int k n)
 | .bool b=>amT (.bool b)
 | .str s=>amT (.str s)
 | .agg cs=>(CD aD bx cs).map .agg
 | .cw cs=>(CD aD bx cs).map .cw
 | .sl e _ rows=>amT (.sl e amW rows)
 | .own t e off len _ _=>match aD[t]? with
  |some (.arr _ rows)=>amT (.sl e amW ((rows.drop off).take len))
  |_=>amU
 | .ptr t _ row off=>match aD[t]? with
  |some (.box _)=>if F0s row 0 then (bx t).map (.bJ · off) else amU
  |some (.arr _ rows)=>rows[row]?.map (.bJ · off)
  |_=>amU
 | .bJ cs off=>(CD aD bx cs).map (.bJ · off)
 | .mp _=>amU
 | .eV f a b=>match CD aD bx a,CD aD bx b with
  |some a',amT b'=>amT (.eV f a' b')
  |_,_=>amU
 | .dU=>amT .dU
def CD (aD:cL) (bx:Nat->Option (List PV)):List PV->Option (List PV)
 | []=>amT []
 |x::xs=>match CC aD bx x,CD aD bx xs with
  |some y,amT ys=>amT (y::ys)
  |_,_=>amU
end
def xX (aD:cL):Nat->Nat->Option (List PV)
 |0,_=>amU
 |n+1,t=>match aD[t]? with
  |some (.box cs)=>CD aD (xX aD n) cs
  |_=>amU
mutual
def jc (bx:Nat->List Nat):PV->List Nat
 | .agg cs=>dE bx cs
 | .cw cs=>dE bx cs
 | .own t _ _ _ _ _=>[t]
 | .ptr t _ _ _=>t::bx t
 | .bJ cs _=>dE bx cs
 | .mp t=>[t]
 | .eV _ a b=>dE bx a++dE bx b
 | .undef| .jA| .int _ _| .bool _| .str _| .sl .. | .dU=>[]
def dE (bx:Nat->List Nat):List PV->List Nat
 | []=>[]
 |x::xs=>jc bx x++dE bx xs
end
def tz (_:Nat):List Nat:=[]
def dj (aD:cL):Nat->Nat->List Nat
 |0,_=>[]
 |n+1,t=>match aD[t]? with
  |some (.box cs)=>dE (dj aD n) cs
  |_=>[]
mutual
def PV.kJ:PV->Bool
 | .int _ _| .bool _| .str _=>amV
 | .agg cs=>wc cs
 | .cw cs=>wc cs
 |_=>amW
def wc:List PV->Bool
 | []=>amV
 |x::xs=>x.kJ&&wc xs
end
mutual
def y4 (aD:cL):PV->Option PV
 | .int k n=>amT (.int k n)
 | .bool b=>amT (.bool b)
 | .str s=>amT (.str s)
 | .agg cs=>(I' aD cs).map .agg
 | .cw cs=>(I' aD cs).map .cw
 | .sl e _ rows=>amT (.sl e amW rows)
 | .own t e off len _ _=>match aD[t]? with
  |some (.arr _ rows)=>amT (.sl e amW ((rows.drop off).take len))
  |_=>amU
 |_=>amU
def I' (aD:cL):List PV->Option (List PV)
 | []=>amT []
 |x::xs=>match y4 aD x,I' aD xs with
  |some y,amT ys=>amT (y::ys)
  |_,_=>amU
end
mutual
def zQ (aD:cL) (fz:List Nat):Nat->List Nat->PV->Option (PV×cL×List Nat)
 |_,seen,.int k n=>amT (.int k n,[],seen)
 |_,seen,.bool b=>amT (.bool b,[],seen)
 |nx,seen,.agg cs=>(Ja aD fz nx seen cs).map fun r=>(.agg r.1,r.2)
 |nx,seen,.cw cs=>(Ja aD fz nx seen cs).map fun r=>(.cw r.1,r.2)
 |nx,seen,.sl e amV []=>amT (.own nx e 0 0 0 amW,[.arr e []],seen)
 |nx,seen,.own t e off len cap _=>match aD[t]? with
  |some (.arr e' rows)=>if has seen t||has fz t then amU else amT (.own nx e off len cap amW,[.arr e' rows],t::seen)
  |_=>amU
 |_,_,_=>amU
def Ja (aD:cL) (fz:List Nat):Nat->List Nat->List PV->Option (List PV×cL×List Nat)
 |_,seen,[]=>amT ([],[],seen)
 |nx,seen,x::xs=>match zQ aD fz nx seen x with
  |some (y,n1,am7)=>match Ja aD fz (nx+amS n1) am7 xs with
   |some (ys,n2,am8)=>amT (y::ys,n1++n2,am8)
   |none=>amU
  |none=>amU
end
def rC:jW->List Nat
 | .box cs=>dE tz cs
 |_=>[]
def reach (aD:cL):Nat->List Nat->List Nat->Option (List Nat)
 |_,[],seen=>amT seen
 |0,_::_,_=>amU
 |n+1,t::ts,seen=>
  if has seen t then reach aD n ts seen
  else match aD[t]? with
   |some b=>reach aD n (rC b++ts) (seen++[t])
   |none=>amU
def idxOf (t:Nat):List Nat->Option Nat
 | []=>amU
 |s::r=>if F0s s t then amT 0 else (idxOf t r).map (· +1)
mutual
def zR (m:List Nat):PV->Option PV
 | .agg cs=>(zL m cs).map .agg
 | .cw cs=>(zL m cs).map .cw
 | .own t e off len cap ex=>(idxOf t m).map fun u=> .own u e off len cap ex
 | .ptr t e row off=>(idxOf t m).map fun u=> .ptr u e row off
 | .bJ cs off=>(zL m cs).map (.bJ · off)
 | .mp t=>(idxOf t m).map .mp
 | .eV f a b=>match zL m a,zL m b with
  |some a',amT b'=>amT (.eV f a' b')
  |_,_=>amU
 | .undef=>amT .undef
 | .jA=>amT .jA
 | .int k n=>amT (.int k n)
 | .bool b=>amT (.bool b)
 | .str s=>amT (.str s)
 | .sl e c rows=>amT (.sl e c rows)
 | .dU=>amT .dU
def zL (m:List Nat):List PV->Option (List PV)
 | []=>amT []
 |x::xs=>match zR m x,zL m xs with
  |some y,amT ys=>amT (y::ys)
  |_,_=>amU
end
def nZ (m:List Nat):jW->Option jW
 | .box cs=>(zL m cs).map .box
 | .arr e rows=>amT (.arr e rows)
 | .map es=>amT (.map es)
 | .dead=>amT .dead
def xY (aD:cL) (m:List Nat):List Nat->Option cL
 | []=>amT []
 |t::ts=>match aD[t]? with
  |some b=>match nZ m b,xY aD m ts with
   |some b',amT r=>amT (b'::r)
   |_,_=>amU
  |none=>amU
def xZ (fz:List Nat):Nat->List Nat->List Nat
 |_,[]=>[]
 |i,t::ts=>if has fz t then i::xZ fz (i+1) ts else xZ fz (i+1) ts
def HT:Option Nat->PV->PV
 |some _,.own t e off len cap _=> .own t e off len cap amW
 |_,v=>v
def rD (e:Env) (m:List Nat):Nat->List (Nat×Option Nat)->Option (Env×cL)
 |_,[]=>amT ([],[])
 |nx,(s,k)::r=>
  match k,lk s e with
  |some esz,.sl _ amV []=>(rD e m (nx+1) r).map fun p=>((s,.own nx esz 0 0 0 amW)::p.1,.arr esz []::p.2)
  |_,v=>match zR m v,rD e m nx r with
   |some v',amT p=>amT ((s,HT k v')::p.1,p.2)
   |_,_=>amU
def vq:Nat->List Nat
 |0=>[]
 |n+1=>vq n++[n]
def rE (st:St) (t c esz:Nat):St:=
 match st.aD[t]? with
 |some (.box cs)=>match cs[c]? with
  |some (.sl _ amV [])=>{st with aD:=st.aD.set t (.box (cs.set c (.own (amS st.aD) esz 0 0 0 amW)))++[.arr esz []]}
  |_=>st
 |_=>st
def EP:PV->Option Nat
 | .ptr t _ 0 0=>amT t
 |_=>amU
def K2:PV->Option Nat
 | .eV _ _ (x::_)=>EP x
 |x=>EP x
def kK:List (Nat×Option Nat)->St->St
 | [],st=>st
 |(s,k)::r,st=>match k with
  |some n=>if ae1 1000 n then (match K2 (lk s st.env) with
   |some t=>kK r (rE st t (n / 1000-1) (n%1000))
   |none=>kK r st) else kK r st
  |none=>kK r st
def ES (live:List (Nat×Option Nat)) (st:St):Option St:=
 match reach st.aD 4096 ((st.aD.take st.kn).flatMap rC++live.flatMap fun p=>jc tz (lk p.1 st.env)) (vq st.kn) with
 |none=>amU
 |some m=>match xY st.aD m m,rD st.env m (amS m) live with
  |some s1,amT (e1,s2)=>amT (kK live {env:=e1,aD:=s1++s2,fz:=xZ st.fz 0 m,kn:=st.kn})
  |_,_=>amU
def norm (live:List (Nat×Option Nat)) (st:St):Option St:=
 match ES live st with
 |some s=>if live.any fun p=>p.2.isSome then ES live s else amT s
 |none=>amU
inductive Task where
 |func (f:FuncId) (args:List PV) (aD:cL) (fz:List Nat)
 |loop (live:List (Nat×Option Nat)) (b:jX) (st:St)
inductive Out where
 |func (v:PV) (aD:cL) (fz:List Nat)
 |code (e:hJ) (st:St)
structure Tr where
 rd:List Nat
 wr:List Nat
 al:Bool
 K3:Bool
 cl:Bool
 lo:Nat
 hi:Nat
inductive XR where
 |loc (r:nY)
 |shr (v:PV) (aD:cL) (fz:List Nat)
def gg:List (Nat×jW)->cL->cL
 | [],s=>s
 |(t,b)::r,s=>gg r (s.set t b)
def ET:PV->Bool
 | .ptr .. =>amV
 | .own .. =>amV
 | .mp _=>amV
 |_=>amW
def deep:Nat:=8
def dy (F:m8) (rec:Task->Option Out) (own:Bool) (f:FuncId) (args:List PV) (aD:cL) (fz:List Nat):Option nY:=
 match CD aD (xX aD deep) args with
 |none=>amU
 |some ny=>
  let tk:=dE (dj aD deep) args
  match F f with
  |some (.kg PW p)=>match p ny with
   |some (v,news)=>match zQ news [] (amS aD) [] v with
    |some (v',n2,_)=>
     if PW then match args with
      | .own t _ _ _ _ _::r=>
       let tr:=dE (dj aD deep) r
       if has fz t||has tr t then amU
       else amT {v:=v',news:=n2,wr:=[(t,.dead)],rd:=tr}
      |_=>amU
     else amT {v:=v',news:=n2,rd:=tk}
    |none=>amU
   |none=>amU
  |_=>match rec (.func f ny [] []) with
   |some (.func v s1 z1)=>
    if own then match zQ s1 z1 (amS aD) [] v with
     |some (v',n2,_)=>amT {v:=v',news:=n2,rd:=tk}
     |none=>amU
    else if v.kJ then amT {v,rd:=tk}
    else match y4 s1 v with
     |some v'=>amT {v:=v',rd:=tk,fr:=tk}
     |none=>amU
   |_=>amU
def jW.bM:jW->Bool
 | .dead=>amW
 | .arr _ []=>amW
 |_=>amV
def oZ:List Nat->List Nat
 | []=>[]
 |t::r=>if has r t then oZ r else t::oZ r
mutual
def CE (g:Nat->Nat):PV->PV
 | .agg cs=> .agg (xC g cs)
 | .cw cs=> .cw (xC g cs)
 | .own t e off len cap ex=> .own (g t) e off len cap ex
 | .ptr t e row off=> .ptr (g t) e row off
 | .bJ cs off=> .bJ (xC g cs) off
 | .mp t=> .mp (g t)
 | .eV f a b=> .eV f (xC g a) (xC g b)
 | .undef=> .undef
 | .jA=> .jA
 | .int k n=> .int k n
 | .bool b=> .bool b
 | .str s=> .str s
 | .sl e c rows=> .sl e c rows
 | .dU=> .dU
def xC (g:Nat->Nat):List PV->List PV
 | []=>[]
 |x::xs=>CE g x::xC g xs
end
def zS (g:Nat->Nat):jW->jW
 | .box cs=> .box (xC g cs)
 |b=>b
def Bk (g:Nat->Nat):cL->cL
 | []=>[]
 |b::r=>zS g b::Bk g r
def kq (tk:List Nat) (n u:Nat):Nat:=
 match tk[u]? with
 |some t=>t
 |none=>n+(u-(amS tk))
def o5 (g:Nat->Nat):List Nat->cL->List (Nat×jW)
 |t::r,b::s=>(t,zS g b)::o5 g r s
 |_,_=>[]
def we:cL->cL->Bool
 | [],_=>amV
 |b::r,c::q=>(match b.bM,c.bM with|true,amV=>amV|false,amW=>amV|_,_=>amW)&&we r q
 |_::_,[]=>amW
def W4 (args:List PV) (aD:cL) (fz:List Nat) (tk:List Nat):Option (List PV×cL):=
 if tk.all fun t=>!has fz t then
  match zL tk args,xY aD tk tk with
  |some a,amT s=>amT (a,s)
  |_,_=>amU
 else amU
def ig (k:Nat) (v:PV) (s:cL):Bool:=(jc tz v++(s.take k).flatMap rC).all fun t=>afW t k
def EU (tk:List Nat) (n:Nat) (s0:cL) (v:PV) (s:cL):Option nY:=
 if we s0 s then amT {v:=CE (kq tk n) v,news:=if ig (amS tk) v s then [] else Bk (kq tk n) (s.drop (amS tk)),wr:=o5 (kq tk n) tk s} else amU
def uI (rec:Task->Option Out) (f:FuncId) (args:List PV) (aD:cL) (fz:List Nat):Option nY:=
 match W4 args aD fz (oZ (dE (dj aD deep) args)) with
 |none=>amU
 |some (a,s0)=>match rec (.func f a s0 []) with
  |some (.func v s [])=>EU (oZ (dE (dj aD deep) args)) (amS aD) s0 v s
  |_=>amU
def fV (rec:Task->Option Out) (f:FuncId) (args:List PV) (aD:cL) (fz:List Nat):Option XR:=
 match rec (.func f args aD fz) with
 |some (.func v s z)=>if ae1 (amS aD) (amS s)&&fz.all (has z) then amT (.shr v s z) else amU
 |_=>amU
def xD (F:m8) (rec:Task->Option Out) (e:Env) (aD:cL) (fz:List Nat):k7->Option XR
 | .call m f args=>match m with
  | .WM=>(dy F rec amW f (EO e args) aD fz).map .loc
  | .own=>(dy F rec amV f (EO e args) aD fz).map .loc
  | .shr=>fV rec f (EO e args) aD fz
  | .fp=>(uI rec f (EO e args) aD fz).map .loc
 | .xB x args=>match x.ev e with
  | .eV f a b=>
   if (EO e args++b).any ET then fV rec f (a++EO e args++b) aD fz
   else (dy F rec amW f (a++EO e args++b) aD fz).map .loc
  |_=>amU
 |op=>(bG e aD fz op).map .loc
def iL (d:Option Nat) (v:PV) (e:Env):Env:=
 match d with
 |some t=>(t,v)::e
 |none=>e
def K4 (s:cL):List jW->cL
 | []=>s
 |b::r=>s++b::r
theorem rF (s:cL) (l:List jW):K4 s l=s++l:=by
 cases l
 · exact (List.append_nil s).symm
 rfl
def XR.next (d:Option Nat) (st:St):XR->St
 | .loc r=>{env:=iL d r.v st.env,aD:=K4 (gg r.wr st.aD) r.news,fz:=r.fr++st.fz,kn:=st.kn}
 | .shr v s z=>{env:=iL d v st.env,aD:=s,fz:=z,kn:=st.kn}
def XR.tr (nx:Nat):XR->Tr
 | .loc r=>⟨r.rd++r.fr,r.wr.map (·.1),!r.news.isEmpty,amW,(r.rd++r.fr).all (afW · nx)&&r.wr.all (fun p=>afW p.1 nx),nx,nx+amS r.news⟩
 | .shr .. =>⟨[],[],amV,amV,amV,0,0⟩
def wg:List (Nat×jW)->Bool
 | []=>amV
 |p::r=>(r.all fun q=>!Nat.beq q.1 p.1)&&wg r
def XR.ok (fz:List Nat):XR->Bool
 | .loc r=>(r.wr.all fun p=>!has fz p.1)&&wg r.wr
 | .shr .. =>amV
def Tr.idle:Tr:=⟨[],[],amW,amW,amV,0,0⟩
def wanted (g:Option (Nat×Bool)) (e:Env):Option Bool:=
 match g with
 |none=>amT amV
 |some (s,want)=>match lk s e with
  | .bool b=>amT (b==want)
  | .jA=>amT amW
  |_=>amU
def mD (F:m8) (rec:Task->Option Out):List bU->St->List Tr->Option (St×List Tr)
 | [],st,tr=>amT (st,tr)
 |o::r,st,tr=>
  match wanted o.guard st.env with
  |some amV=>match xD F rec st.env st.aD st.fz o.op with
   |some x=>if x.ok st.fz then mD F rec r (x.next o.dst st) (x.tr (amS st.aD)::tr) else amU
   |none=>amU
  |some amW=>mD F rec r {st with env:=iL o.dst .jA st.env} (Tr.idle::tr)
  |none=>amU
def meets (a b:List Nat):Bool:=a.any (has b)
def Tr.gT (a:Tr):Bool:=!a.rd.isEmpty||!a.wr.isEmpty||a.al||a.K3
def Tr.vt (a b:Tr):Bool:=
 (a.K3&&b.gT)||(b.K3&&a.gT)||meets a.wr b.rd||meets a.wr b.wr||meets a.rd b.wr||
  b.wr.any fun t=>ae1 a.lo t&&afW t a.hi
def wj (rows:List Row):Bool:=rows.all fun r=>F0s (amS r) 1&&r.all PV.plain
def Jb (args:List PV) (aD:cL) (fz:List Nat):Option (PV×cL×List Nat):=
 match args with
 | [.own t e off len _ _]=>match aD[t]? with
  |some (.box [.sl e1 _ x,.sl e2 _ y])=>if F0s e 1&&F0s off 0&&F0s len 2&&!has fz t&&wj x&&wj y&&ae1 1 (amS x+amS y)&&ae1 (amS x+amS y) eu&&(F0s e1 1||x.isEmpty)&&(F0s e2 1||y.isEmpty) then
   amT (.own (amS aD) 1 0 (x++y).length (x++y).length amW,aD.set t .dead++[.arr 1 (x++y)],fz)
   else amU
  |_=>amU
 |_=>amU
def Jc (i:Nat) (a:Tr):List (Tr×Nat)->Bool
 | []=>amV
 |(b,bf)::r=>(!a.vt b||bf.testBit i)&&Jc i a r
def rG:Nat->List (Tr×Nat)->Bool
 |_,[]=>amV
 |i,(a,_)::r=>a.cl&&Jc i a r&&rG (i+1) r
def lz (F:m8) (rec:Task->Option Out) (draw:Option (List Nat)) (ops:List bU) (fU:List Nat) (st:St):Option St:=
 match mD F rec ops st [] with
 |none=>amU
 |some (kU,tr)=>
  let D':St:={kU with env:=fU.map fun s=>(s,lk s kU.env)}
  match draw with
  |none=>amT D'
  |some bf=>if rG 0 (tr.reverse.zip bf) then amT D' else amU
def tB (F:m8) (rec:Task->Option Out):jX->St->Option (hJ×St)
 | .skip,st=>amT (.normal,st)
 | .region d ops fU,st=>(lz F rec d ops fU st).map fun s=>(.normal,s)
 | .seq a b,st=>match tB F rec a st with
  |some (.normal,kU)=>tB F rec b kU
  |r=>r
 | .cond c a b,st=>match c.ev st.env with
  | .bool amV=>tB F rec a st
  | .bool amW=>tB F rec b st
  |_=>amU
 | .block id b,st=>match tB F rec b st with
  |some (.exit j,kU)=>if F0s j id then amT (.normal,kU) else amT (.exit j,kU)
  |r=>r
 | .loop live b,st=>match rec (.loop live b st) with
  |some (.code e kU)=>amT (e,kU)
  |_=>amU
 | .exit id,st=>amT (.exit id,st)
 | .ret,st=>amT (.ret,st)
def EV (st:St):RV->Option PV
 | .tmp t=>amT (lk t st.env)
 | .cell t agg=>(oY st.aD agg (lk t st.env)).map (·.v)
def oa (st:St):List RV->Option (List PV)
 | []=>amT []
 |r::rs=>match EV st r,oa st rs with
  |some v,amT vs=>amT (v::vs)
  |_,_=>amU
def results1:List PV->PV
 | [v]=>v
 |vs=> .cw vs
def vu:Nat->List PV->Env
 |_,[]=>[]
 |i,v::r=>(i,v)::vu (i+1) r
def step (F:m8) (rec:Task->Option Out):Task->Option Out
 | .func f args aD fz=>match F f with
  |some (.code x)=>
   if F0s (amS args) x.DE then
    match tB F rec x.code {env:=vu 0 args,aD,fz,kn:=amS aD} with
    |some (.normal,st)=>(oa st x.res).map fun vs=> .func (results1 vs) st.aD st.fz
    |some (.ret,st)=>(oa st x.res).map fun vs=> .func (results1 vs) st.aD st.fz
    |_=>amU
   else amU
  |some (.Hj p)=>(p args aD fz).map fun r=> .func r.1 r.2.1 r.2.2
  |_=>amU
 | .loop live b st=>match norm live st with
  |none=>amU
  |some ob=>match tB F rec b ob with
   |some (.normal,D')=>rec (.loop live b D')
   |some (e,D')=>amT (.code e D')
   |none=>amU
def fI (esz:Nat):List PV->Option (PV×cL)
 | [.sl e _ rows]=>match rows with
  | []=>amT (.own 1 esz 0 0 0 amW,[.arr esz [],.arr esz []])
  |r::rs=>if F0s e esz&&ae1 (amS rs+1) eu then amT (.own 1 esz 0 (0+(amS rs+1)) (0+(amS rs+1)) amW,[.arr esz [],.arr esz (r::rs)]) else amU
 |_=>amU
def Jd (esz:Nat) (args:List PV) (aD:cL) (fz:List Nat):Option (PV×cL×List Nat):=
 match args with
 | [.own t e off len _ _,.int .i64 i,.own u e2 am9 K5 _ _]=>
  match aD[t]?,aD[u]? with
  |some (.arr _ rows),amT (.arr _ new)=>
   if F0s e esz&&F0s e2 esz&&F0s off 0&&F0s am9 0&&F0s len (amS rows)&&F0s K5 1&&F0s (amS new) 1&&!Nat.beq t u&&!has fz t&&amX (0<=i)&&ae1 i.toNat len&&ae1 (len+1) eu then
    amT (.own (amS aD) esz 0 (len+1) (len+1) amW,aD.set t .dead++[.arr esz (rows.take i.toNat++new++rows.drop i.toNat)],fz)
   else amU
  |_,_=>amU
 |_=>amU
def As:List PV->Option (PV×cL)
 | [.int .u64 (.ofNat a),.int .u64 (.ofNat b),.int .u64 (.ofNat c)]=>
  if ae1 c 1 then
   let s:=a+b+c
   amT (.cw [.int .u64 (.ofNat (s%18446744073709551616)),.int .u64 (.ofNat (s / 18446744073709551616))],[])
  else amU
 |_=>amU
noncomputable def run (F:m8) (n:Nat):Task->Option Out:=Nat.rec (fun _=>amU) (fun _ ih=>step F ih) n
end Go.Vm
/- Rules for the logical machine: what more fuel keeps, and a calculus of its runs. -/
namespace Go.Vm
def Le (r s:Task->Option Out):Prop:= ∀t o,r t=amT o->s t=amT o
theorem uJ {F:m8} {r s:Task->Option Out} (h:Le r s) {own:Bool} {f:FuncId} {args:List PV} {aD:cL} {fz:List Nat} {x:nY}
 (hx:dy F r own f args aD fz=amT x):dy F s own f args aD fz=amT x:=by
 cases ha:CD aD (xX aD deep) args with
 |none=>simp [dy,ha] at hx
 |some a=>
  simp only [dy,ha] at hx ⊢;cases hp:F f with
  |none=>
   rw [hp] at hx;dsimp only at hx ⊢;cases hr:r (.func f a [] []) with
   |none=>rw [hr] at hx;cases hx
   |some o=>rw [hr] at hx;rw [h _ _ hr];exact hx
  |some en=>
   rw [hp] at hx;cases en with
   |kg k p=>exact hx
   |code x=>
    dsimp only at hx ⊢;cases hr:r (.func f a [] []) with
    |none=>rw [hr] at hx;cases hx
    |some o=>rw [hr] at hx;rw [h _ _ hr];exact hx
   |Hj x=>
    dsimp only at hx ⊢;cases hr:r (.func f a [] []) with
    |none=>rw [hr] at hx;cases hx
    |some o=>rw [hr] at hx;rw [h _ _ hr];exact hx
theorem xE {r s:Task->Option Out} (h:Le r s) {f:FuncId} {args:List PV} {aD:cL} {fz:List Nat} {x:XR}
 (hx:fV r f args aD fz=amT x):fV s f args aD fz=amT x:=by
 unfold fV at hx ⊢;cases hr:r (.func f args aD fz) with
 |none=>rw [hr] at hx;cases hx
 |some o=>rw [hr] at hx;rw [h _ _ hr];exact hx
theorem K6 {r s:Task->Option Out} (h:Le r s) {f:FuncId} {args:List PV} {aD:cL} {fz:List Nat} {x:nY}
 (hx:uI r f args aD fz=amT x):uI s f args aD fz=amT x:=by
 unfold uI at hx ⊢;cases hl:W4 args aD fz (oZ (dE (dj aD deep) args)) with
 |none=>rw [hl] at hx;cases hx
 |some p=>
  rw [hl] at hx;dsimp only at hx ⊢;cases hr:r (.func f p.1 p.2 []) with
  |none=>rw [hr] at hx;cases hx
  |some o=>rw [hr] at hx;rw [h _ _ hr];exact hx
theorem K7 {F:m8} {r s:Task->Option Out} (h:Le r s) {e:Env} {aD:cL} {fz:List Nat} {op:k7} {x:XR}
 (hx:xD F r e aD fz op=amT x):xD F s e aD fz op=amT x:=by
 cases op with
 |call m f args=>
  cases m with
  |WM=>
   simp only [xD,AC] at hx ⊢;obtain ⟨a,ha,rfl⟩:=hx;exact ⟨a,uJ h ha,rfl⟩
  |own=>
   simp only [xD,AC] at hx ⊢;obtain ⟨a,ha,rfl⟩:=hx;exact ⟨a,uJ h ha,rfl⟩
  |shr=>exact xE h hx
  |fp=>
   simp only [xD,AC] at hx ⊢;obtain ⟨a,ha,rfl⟩:=hx;exact ⟨a,K6 h ha,rfl⟩
 |xB c args=>
  simp only [xD] at hx ⊢;split at hx
  · split at hx
    · rename_i hc;simp only [hc,if_true];exact xE h hx
    rename_i hc
    rw [rc hc];rw [AC] at hx ⊢;obtain ⟨a,ha,rfl⟩:=hx;exact ⟨a,uJ h ha,rfl⟩
  cases hx
 |_=>exact hx
theorem EW {F:m8} {r s:Task->Option Out} (h:Le r s) (ops:List bU):
 ∀(st:St) (tr:List Tr) (x:St×List Tr),mD F r ops st tr=amT x->mD F s ops st tr=amT x:=by
 induction ops with
 |nil=>intro st tr x hx;exact hx
 |cons o l ih=>
  intro st tr x hx;simp only [mD] at hx ⊢;cases hw:wanted o.guard st.env with
  |none=>rw [hw] at hx;cases hx
  |some b=>
   rw [hw] at hx;cases b with
   |false=>exact ih _ _ _ hx
   |true=>
    dsimp only at hx ⊢;cases hy:xD F r st.env st.aD st.fz o.op with
    |none=>rw [hy] at hx;cases hx
    |some y=>
     rw [hy] at hx;rw [K7 h hy];dsimp only at hx ⊢;split at hx
     · rename_i Au;rw [pp Au];exact ih _ _ _ hx
     cases hx
theorem Hn {F:m8} {r s:Task->Option Out} (h:Le r s) {d:Option (List Nat)} {ops:List bU} {fU:List Nat} {st kU:St}
 (hx:lz F r d ops fU st=amT kU):lz F s d ops fU st=amT kU:=by
 unfold lz at hx ⊢;cases hy:mD F r ops st [] with
 |none=>rw [hy] at hx;cases hx
 |some y=>rw [hy] at hx;rw [EW h _ _ _ _ hy];exact hx
theorem qn {F:m8} {r s:Task->Option Out} (h:Le r s) (c:jX):
 ∀(st:St) (x:hJ×St),tB F r c st=amT x->tB F s c st=amT x:=by
 induction c with
 |skip=>intro st x hx;exact hx
 |region d ops fU=>
  intro st x hx;simp only [tB,AC] at hx ⊢;obtain ⟨a,ha,rfl⟩:=hx;exact ⟨a,Hn h ha,rfl⟩
 |seq a b iha ihb=>
  intro st x hx;simp only [tB] at hx ⊢;cases hy:tB F r a st with
  |none=>rw [hy] at hx;cases hx
  |some y=>
   rw [hy] at hx;rw [iha _ _ hy];obtain ⟨e,ob⟩:=y;cases e with
   |normal=>exact ihb _ _ hx
   |exit i=>exact hx
   |ret=>exact hx
 |cond c a b iha ihb=>
  intro st x hx;simp only [tB] at hx ⊢;split at hx
  · exact iha _ _ hx
  · exact ihb _ _ hx
  cases hx
 |block id b ih=>
  intro st x hx;simp only [tB] at hx ⊢;cases hy:tB F r b st with
  |none=>rw [hy] at hx;cases hx
  |some y=>rw [hy] at hx;rw [ih _ _ hy];exact hx
 |loop live b _=>
  intro st x hx;simp only [tB] at hx ⊢;split at hx
  · rename_i e ob hr;rw [h _ _ hr];exact hx
  cases hx
 |exit id=>intro st x hx;exact hx
 |ret=>intro st x hx;exact hx
theorem RD {F:m8} {r s:Task->Option Out} (h:Le r s):Le (step F r) (step F s):=by
 intro t o ho;cases t with
 |func f args aD fz=>
  simp only [step] at ho ⊢;split at ho
  · rename_i x hx
    split at ho
    · rename_i hl
      simp only [hl,if_true];split at ho
      · rename_i ob hc;rw [qn h _ _ _ hc];exact ho
      · rename_i ob hc;rw [qn h _ _ _ hc];exact ho
      cases ho
    cases ho
  · exact ho
  cases ho
 |loop live b st=>
  simp only [step] at ho ⊢;split at ho
  · cases ho
  rename_i ob hn
  split at ho
  · rename_i D' hc;rw [qn h _ _ _ hc];exact h _ _ ho
  · rename_i e D' ec hc
    rw [qn h _ _ _ hc];cases e with
    |normal=>exact absurd rfl (ec ·)
    |exit i=>exact ho
    |ret=>exact ho
  cases ho
theorem lA (F:m8) (n:Nat):run F (n+1)=step F (run F n):=rfl
theorem af0 (F:m8) (n:Nat):Le (run F n) (run F (n+1)):=by
 induction n with
 |zero=>intro t o h;cases h
 |succ n ih=>exact RD ih
theorem qo (F:m8) {n m:Nat} (h:n<=m):Le (run F n) (run F m):=by
 induction h with
 |refl=>intro t o h;exact h
 |step _ ih=>intro t o h;exact af0 F _ _ _ (ih _ _ h)
def Fin (F:m8) (t:Task) (Q:Out->Prop):Prop:= ∃n o,run F n t=amT o/\Q o
def WP (F:m8) (c:jX) (st:St) (Q:hJ->St->Prop):Prop:= ∃n e s,tB F (run F n) c st=amT (e,s)/\Q e s
def WO (F:m8) (ops:List bU) (st:St) (tr:List Tr) (Q:St->List Tr->Prop):Prop:=
 ∃n s t,mD F (run F n) ops st tr=amT (s,t)/\Q s t
variable {F : m8}
theorem Fin.mono {t:Task} {Q R:Out->Prop} (h:Fin F t Q) (hr: ∀o,Q o->R o):Fin F t R:=
 let ⟨n,o,e,q⟩:=h;⟨n,o,e,hr _ q⟩
theorem WP.mono {c:jX} {st:St} {Q R:hJ->St->Prop} (h:WP F c st Q) (hr: ∀e s,Q e s->R e s):WP F c st R:=
 let ⟨n,e,s,x,q⟩:=h;⟨n,e,s,x,hr _ _ q⟩
theorem WP.skip {st:St} {Q:hJ->St->Prop} (h:Q .normal st):WP F .skip st Q:=⟨0,_,_,rfl,h⟩
theorem WP.ret {st:St} {Q:hJ->St->Prop} (h:Q .ret st):WP F .ret st Q:=⟨0,_,_,rfl,h⟩
theorem WP.exit {id:Nat} {st:St} {Q:hJ->St->Prop} (h:Q (.exit id) st):WP F (.exit id) st Q:=⟨0,_,_,rfl,h⟩
def andThen (k:St->Prop) (Q:hJ->St->Prop):hJ->St->Prop
 | .normal,s=>k s
 |e,s=>Q e s
theorem WP.seq {a b:jX} {st:St} {Q:hJ->St->Prop} (h:WP F a st (andThen (fun s=>WP F b s Q) Q)):WP F (.seq a b) st Q:=by
 obtain ⟨n,e,s,he,hq⟩:=h;cases e with
 |normal=>
  obtain ⟨m,e',s',Cw,Tk⟩:=hq;refine ⟨max n m,e',s',?_,Tk⟩;simp only [tB];rw [qn (qo F (am1 n m)) _ _ _ he];exact qn (qo F (agE n m)) _ _ _ Cw
 |exit i=>exact ⟨n,_,s,by simp only [tB,he],hq⟩
 |ret=>exact ⟨n,_,s,by simp only [tB,he],hq⟩
theorem WP.ae6 {c:fH} {a b:jX} {st:St} {Q:hJ->St->Prop} (hc:c.ev st.env= .bool amV) (h:WP F a st Q):WP F (.cond c a b) st Q:=by
 obtain ⟨n,e,s,he,hq⟩:=h;exact ⟨n,e,s,by simp only [tB,hc,he],hq⟩
theorem WP.ae7 {c:fH} {a b:jX} {st:St} {Q:hJ->St->Prop} (hc:c.ev st.env= .bool amW) (h:WP F b st Q):WP F (.cond c a b) st Q:=by
 obtain ⟨n,e,s,he,hq⟩:=h;exact ⟨n,e,s,by simp only [tB,hc,he],hq⟩
theorem WP.cond {c:fH} {a b:jX} {st:St} {Q:hJ->St->Prop} (t:Bool) (hc:c.ev st.env= .bool t)
 (ha:t=amV->WP F a st Q) (hb:t=amW->WP F b st Q):WP F (.cond c a b) st Q:=by
 cases t
 · exact WP.ae7 hc (hb rfl)
 exact WP.ae6 hc (ha rfl)
def inBlock (id:Nat) (Q:hJ->St->Prop):hJ->St->Prop
 | .exit j,s=>if j=id then Q .normal s else Q (.exit j) s
 |e,s=>Q e s
theorem WP.block {id:Nat} {b:jX} {st:St} {Q:hJ->St->Prop} (h:WP F b st (inBlock id Q)):WP F (.block id b) st Q:=by
 obtain ⟨n,e,s,he,hq⟩:=h;cases e with
 |normal=>exact ⟨n,_,s,by simp only [tB,he],hq⟩
 |ret=>exact ⟨n,_,s,by simp only [tB,he],hq⟩
 |exit j=>
  by_cases hj:j=id
  · subst hj
    have Tk:Q .normal s:=by simpa [inBlock] using hq
    exact ⟨n,.normal,s,by simp [tB,he],Tk⟩
  have Tk:Q (.exit j) s:=by simpa [inBlock,hj] using hq
  exact ⟨n,.exit j,s,by simp [tB,he,hj],Tk⟩
def qp (fU:List Nat) (s:St):St:={s with env:=fU.map fun t=>(t,lk t s.env)}
theorem WP.region {ops:List bU} {fU:List Nat} {st:St} {Q:hJ->St->Prop}
 (h:WO F ops st [] (fun s _=>Q .normal (qp fU s))):WP F (.region amU ops fU) st Q:=by
 obtain ⟨n,s,t,he,hq⟩:=h;exact ⟨n,.normal,_,by simp only [tB,lz,he];rfl,hq⟩
theorem WP.W5 {bf:List Nat} {ops:List bU} {fU:List Nat} {st:St} {Q:hJ->St->Prop}
 (h:WO F ops st [] (fun s t=>rG 0 (t.reverse.zip bf)=amV/\Q .normal (qp fU s))):WP F (.region (amT bf) ops fU) st Q:=by
 obtain ⟨n,s,t,he,ho,hq⟩:=h;exact ⟨n,.normal,qp fU s,by simp [tB,lz,he,ho,qp],hq⟩
theorem WO.nil {st:St} {tr:List Tr} {Q:St->List Tr->Prop} (h:Q st tr):WO F [] st tr Q:=⟨0,_,_,rfl,h⟩
theorem WO.op {o:bU} {r:List bU} {st:St} {tr:List Tr} {Q:St->List Tr->Prop} (x:nY)
 (hw:wanted o.guard st.env=amT amV) (hx: ∀rec,xD F rec st.env st.aD st.fz o.op=amT (.loc x)) (Au:(XR.loc x).ok st.fz=amV)
 (h:WO F r ((XR.loc x).next o.dst st) ((XR.loc x).tr (amS st.aD)::tr) Q):WO F (o::r) st tr Q:=by
 obtain ⟨n,s,t,he,hq⟩:=h;exact ⟨n,s,t,by simp only [mD,hw,hx,Au,if_true,he],hq⟩
theorem WO.skip {o:bU} {r:List bU} {st:St} {tr:List Tr} {Q:St->List Tr->Prop}
 (hw:wanted o.guard st.env=amT amW)
 (h:WO F r {st with env:=iL o.dst .jA st.env} (Tr.idle::tr) Q):WO F (o::r) st tr Q:=by
 obtain ⟨n,s,t,he,hq⟩:=h;exact ⟨n,s,t,by simp only [mD,hw,he],hq⟩
theorem WO.call {o:bU} {r:List bU} {st:St} {tr:List Tr} {Q:St->List Tr->Prop} (x:XR)
 (hw:wanted o.guard st.env=amT amV) (hx: ∃n,xD F (run F n) st.env st.aD st.fz o.op=amT x) (Au:x.ok st.fz=amV)
 (h:WO F r (x.next o.dst st) (x.tr (amS st.aD)::tr) Q):WO F (o::r) st tr Q:=by
 obtain ⟨n,s,t,he,hq⟩:=h;obtain ⟨m,hx⟩:=hx;refine ⟨max n m,s,t,?_,hq⟩;simp only [mD,hw];rw [K7 (qo F (agE n m)) hx];dsimp only;rw [pp Au];exact EW (qo F (am1 n m)) _ _ _ _ he
theorem WP.loop {α:Type} {live:List (Nat×Option Nat)} {b:jX} {st:St} {Q:hJ->St->Prop} (S:α->St) (I:α->Prop) (μ:α->Nat)
 (x:α) (h0:norm live st=amT (S x)) (hI:I x)
 (round: ∀x,I x->WP F b (S x) (andThen (fun s=> ∃y,norm live s=amT (S y)/\I y/\μ y<μ x) Q)):WP F (.loop live b) st Q:=by
 have key: ∀k x st,μ x=k->I x->norm live st=amT (S x)-> ∃n e s,run F n (.loop live b st)=amT (.code e s)/\Q e s:=by
  intro k
  induction k using Nat.strongRecOn with
  |_ k ih=>
   intro x st hk hI h0;obtain ⟨n,e,s,he,hq⟩:=round x hI;cases e with
   |normal=>
    obtain ⟨y,hy,hIy,dM⟩:=hq;obtain ⟨m,e',s',hr,Tk⟩:=ih (μ y) (hk▸dM) y s rfl hIy hy;refine ⟨max n m+1,e',s',?_,Tk⟩;rw [lA];simp only [step,h0];rw [qn (qo F (am1 n m)) _ _ _ he];exact qo F (agE n m) _ _ hr
   |exit i=>exact ⟨n+1,_,s,by rw [lA];simp only [step,h0,he],hq⟩
   |ret=>exact ⟨n+1,_,s,by rw [lA];simp only [step,h0,he],hq⟩
 obtain ⟨n,e,s,hr,hq⟩:=key _ x st rfl hI h0;exact ⟨n,e,s,by simp only [tB,hr],hq⟩
def Je (x:aK) (R:PV->cL->List Nat->Prop):hJ->St->Prop
 | .normal,s=> ∃vs,oa s x.res=amT vs/\R (results1 vs) s.aD s.fz
 | .ret,s=> ∃vs,oa s x.res=amT vs/\R (results1 vs) s.aD s.fz
 | .exit _,_=>False
def Av (F:m8) (f:FuncId) (args:List PV) (aD:cL) (fz:List Nat) (R:PV->cL->List Nat->Prop):Prop:=
 ∃n v s z,run F n (.func f args aD fz)=amT (.func v s z)/\R v s z
theorem Av.of {f:FuncId} {x:aK} {args:List PV} {aD:cL} {fz:List Nat} {R:PV->cL->List Nat->Prop}
 (hf:F f=amT (.code x)) (hn:F0s (amS args) x.DE=amV)
 (h:WP F x.code {env:=vu 0 args,aD,fz,kn:=amS aD} (Je x R)):Av F f args aD fz R:=by
 obtain ⟨n,e,s,he,hq⟩:=h;cases e with
 |normal=>
  obtain ⟨vs,hv,hr⟩:=hq;exact ⟨n+1,_,_,_,by rw [lA];simp only [step,hf,hn,he,hv,if_true];rfl,hr⟩
 |ret=>
  obtain ⟨vs,hv,hr⟩:=hq;exact ⟨n+1,_,_,_,by rw [lA];simp only [step,hf,hn,he,hv,if_true];rfl,hr⟩
 |exit i=>exact hq.elim
def Pure (F:m8) (f:FuncId) (args:List PV) (v:PV):Prop:=
 (∀k p,F f≠amT (.kg k p))/\Av F f args [] [] fun u _ _=>u.kJ=amV/\u=v
def PX (F:m8) (f:FuncId) (args:List PV) (v:PV):Prop:=
 (∀k p,F f≠amT (.kg k p))/\Av F f args [] [] fun u s _=>u.kJ=amW/\y4 s u=amT v
theorem Pure.of {f:FuncId} {x:aK} {args:List PV} {v:PV}
 (hf:F f=amT (.code x)) (hn:F0s (amS args) x.DE=amV)
 (h:WP F x.code {env:=vu 0 args,aD:=[],fz:=[],kn:=0} (Je x fun u _ _=>u.kJ=amV/\u=v)):
 Pure F f args v:=⟨fun k p e=>by (rw [hf] at e;cases e),Av.of hf hn h⟩
theorem PX.of {f:FuncId} {x:aK} {args:List PV} {v:PV}
 (hf:F f=amT (.code x)) (hn:F0s (amS args) x.DE=amV)
 (h:WP F x.code {env:=vu 0 args,aD:=[],fz:=[],kn:=0} (Je x fun u s _=>u.kJ=amW/\y4 s u=amT v)):
 PX F f args v:=⟨fun k p e=>by (rw [hf] at e;cases e),Av.of hf hn h⟩
theorem Pure.dy {f:FuncId} {as args:List PV} {aD:cL} {fz:List Nat} {v:PV} (h:Pure F f args v)
 (ha:CD aD (xX aD deep) as=amT args):
 ∃n,Vm.dy F (run F n) amW f as aD fz=amT {v,rd:=dE (dj aD deep) as}:=by
 obtain ⟨hp,n,u,s,z,hr,h1,h2⟩:=h;subst h2;refine ⟨n,?_⟩;simp only [Vm.dy,ha];cases hf:F f with
 |none=>simp [hr,h1]
 |some en=>
  cases en with
  |kg k p=>exact absurd hf (hp k p)
  |code x=>simp [hr,h1]
  |Hj x=>simp [hr,h1]
theorem PX.dy {f:FuncId} {as args:List PV} {aD:cL} {fz:List Nat} {v:PV} (h:PX F f args v)
 (ha:CD aD (xX aD deep) as=amT args):
 ∃n,Vm.dy F (run F n) amW f as aD fz=amT {v,rd:=dE (dj aD deep) as,fr:=dE (dj aD deep) as}:=by
 obtain ⟨hp,n,u,s,z,hr,h1,h2⟩:=h;refine ⟨n,?_⟩;simp only [Vm.dy,ha];cases hf:F f with
 |none=>simp [hr,h1,h2]
 |some en=>
  cases en with
  |kg k p=>exact absurd hf (hp k p)
  |code x=>simp [hr,h1,h2]
  |Hj x=>simp [hr,h1,h2]
theorem WO.pure {d:Option Nat} {g:Option (Nat×Bool)} {f:FuncId} {as:List fH} {r:List bU} {st:St} {tr:List Tr} {Q:St->List Tr->Prop}
 {args:List PV} {v:PV} (h:Pure F f args v)
 (hw:wanted g st.env=amT amV) (ha:CD st.aD (xX st.aD deep) (EO st.env as)=amT args)
 (k:WO F r ((XR.loc {v,rd:=dE (dj st.aD deep) (EO st.env as)}).next d st) ((XR.loc {v,rd:=dE (dj st.aD deep) (EO st.env as)}).tr (amS st.aD)::tr) Q):
 WO F (⟨d,.call .WM f as,g⟩::r) st tr Q:=by
 obtain ⟨n,hn⟩:=h.dy (fz:=st.fz) ha;exact WO.call _ hw ⟨n,by simp only [xD,hn];rfl⟩ rfl k
end Go.Vm
/- The look at an operation of the model: is the logical machine's operation its own? -/
namespace Go.Vm
mutual
def uK:PV->Value->Bool
 | .int k n,.int l m=>fE k l&&n==m
 | .bool a,.bool b=>a==b
 | .sl _ _ [],.slice amU 0 0=>amV
 | .agg cs,.agg vs=>EX cs vs.toList
 | .dU,.nilFunc=>amV
 | .str s,.string t=>s.data.toList==t.data.toList
 | .undef,_=>amV
 |_,_=>amW
def EX:List PV->List Value->Bool
 | [],[]=>amV
 |x::xs,v::vs=>uK x v&&EX xs vs
 |_,_=>amW
end
def bE:fH->Operand->Bool
 | .t n,.tmp m=>n==m
 | .c v,.const u=>uK v u
 | .c (.eV f [] []),.func g=>f==g
 | .c .undef,_=>amV
 |_,_=>amW
def fj:List fH->List Operand->Bool
 | [],[]=>amV
 |x::xs,o::os=>bE x o&&fj xs os
 |_,_=>amW
def Jf:Option fH->Option Operand->Bool
 |none,amU=>amV
 |some x,amT o=>bE x o
 |_,_=>amW
section
variable (P : Program)
def gU (t:TypeId):Bool:=
 match P.underlying t with
 |some (.struct _)|some (.array _ _)=>amV
 |_=>amW
def oU (t:TypeId) (n:Nat):Bool:=(P.info? t).any fun i=>i.size==n
def Eo (t:TypeId):Bool:=(P.info? t).any fun i=>ae1 i.bytes 1048576
def Bl (t:TypeId) (agg:Option Nat):Bool:=
 (P.underlying t).isSome&&match agg with
 |some n=>gU P t&&oU P t n
 |none=>!gU P t&&oU P t 1
def y5 (t:TypeId) (esz:Nat):Bool:=
 match P.underlying t with
 |some (.slice e)=>oU P e esz
 |_=>amW
def sA (t:TypeId):Bool:=
 match P.underlying t with
 |some (.slice _)=>amV
 |_=>amW
def PY (t:TypeId) (n esz:Nat):Bool:=
 match P.underlying t with
 |some (.array m e)=>m==n&&oU P e esz
 |_=>amW
def uL (t:TypeId) (cells:List PV):Bool:=
 match (P.info? t).bind (·.zero) with
 |some v=>EX cells v.cells.toList
 |none=>amW
def flat:Nat->TypeId->Option Nat
 |0,_=>amU
 |d+1,t=>
  match P.underlying t with
  |some (.int _)=>if oU P t 1 then amT 1 else amU
  |some (.struct fs)=>
   if P.stoodInHeld t then amU else
   match fs.toList.foldl (fun r f=>match r with
    |some n=>if f.offset==n&&f.name != "_" then (match flat d f.type with
     |some m=>if oU P f.type m then amT (n+m) else amU
     |none=>amU) else amU
    |none=>amU) (amT 0) with
   |some n=>if oU P t n then amT n else amU
   |none=>amU
  |_=>amU
def vv (place:Nat->Option (Nat×Nat)):List (Nat×Nat×fH)->List (Nat×Operand)->Bool
 | [],[]=>amV
 |(off,sz,x)::r,(i,o)::s=>(match place i with|some (a,b)=>a==off&&b==sz|none=>amW)&&bE x o&&vv place r s
 |_,_=>amW
def nA:List (Nat×fH)->List (Nat×Operand)->Bool
 | [],[]=>amV
 |(i,x)::r,(j,o)::s=>i==j&&bE x o&&nA r s
 |_,_=>amW
def placeOf (t:TypeId):Nat->Option (Nat×Nat):=
 match P.underlying t with
 |some (.struct fs)=>fun i=>(fs[i]?).bind fun f=>(P.info? f.type).map fun j=>(f.offset,j.size)
 |some (.array _ e)=>fun i=>(P.info? e).map fun j=>(i*j.size,j.size)
 |_=>fun _=>amU
def x3 (t:TypeId) (n:Option Nat):Bool:=
 match n with
 |none=>(match P.underlying t with|some (.int _)=>amV|_=>amW)
 |some n=>gU P t&&flat P 100 t==amT n
def W6 (f:FuncId):Bool:=(P.funcs[f]?).any fun fn=>fn.body.isSome&&!(fn.name== "runtime.NumGoroutine")
def xF (prims:FuncId->Bool) (ty:TypeId):k7->Op->Bool
 | .Tj x,.move o=>bE x o
 | .Tj x,.assign o=>bE x o
 | .pick c a b,.pick d e f=>bE c d&&bE a e&&bE b f
 | .bin op x y,.binOp op' _ a b _=>op==op'&&bE x a&&bE y b
 | .KX neg x y,.binOp op t a b _=>(if neg then op== .neq else op== .eql)&&P.underlying t matches amT .bool&&bE x a&&bE y b
 | .eqc n neg x y,.binOp op t a b _=>(if neg then op== .neq else op== .eql)&&gU P t&&flat P 100 t==amT n&&!P.eqGuardType P.depth t&&bE x a&&bE y b
 | .un op x,.unOp op' _ a=>op==op'&&bE x a
 | .conv k x,.convert s d a=>(P.underlying s).isSome&&(match P.underlying d with|some (.int l)=>fE k l|_=>amW)&&bE x a
 | .len x,.call {callee:= .builtin .len,args,argTypes}=>(match argTypes[0]? with|some t=>sA P t|none=>amW)&&fj [x] args.toList
 | .NV n,.call {callee:= .builtin .len,args,argTypes}=>!args.isEmpty&&(match argTypes[0]? with
  |some t=>(match P.underlying t with
   |some (.array m _)=>m==n
   |some (.pointer e)=>(match P.underlying e with|some (.array m _)=>m==n|_=>amW)
   |_=>amW)
  |none=>amW)
 | .box x,.box _ a=>bE x a
 | .alloc cells,.alloc t=>uL P t cells
 | .build zero parts,.build t ps=>uL P t zero&&gU P t&&vv (placeOf P t) parts ps.toList
  &&(match P.underlying t with|some (.struct fs)=>fs.all fun f=>(P.info? f.type).isSome|some (.array _ e)=>(P.info? e).isSome|_=>amW)
 | .Bj esz n zero parts,.buildSlice t m ps=>n==m&&(match P.underlying t with|some (.slice e)=>oU P e esz&&uL P e zero&&(amS zero)==esz&&!(esz==0)|_=>amW)&&ae1 (n*esz) 1048576&&zero.all PV.plain&&nA parts ps.toList
 | .load agg p,.load t a=>Bl P t agg&&bE p a
 | .store sz p v,.store t a b=>oU P t sz&&bE p a&&bE v b
 | .KY x,.nilCheck a=>bE x a
 | .KZ off p,.fieldAddr t a f=>(match P.underlying t with
  |some (.struct fs)=>(match fs[f]? with|some g=>g.offset==off&&(P.info? g.type).any fun i=>!(i.size==0)|none=>amW)
  |_=>amW)&&bE p a
 | .iK agg off x,.field t a f=>(match P.underlying t with
  |some (.struct fs)=>(match fs[f]? with|some g=>g.offset==off&&Bl P g.type agg|none=>amW)
  |_=>amW)&&bE x a
 | .K0 esz x i,.indexAddr t a j=>y5 P t esz&&bE x a&&bE i j
 | .DD n esz p i,.indexAddr t a j=>PY P t n esz&&bE p a&&bE i j
 | .idx n esz agg x i,.index t a j=>(match P.underlying t with|some (.array m e)=>m==n&&oU P e esz&&Bl P e agg|_=>amW)&&bE x a&&bE i j
 | .K1 x i,.index t a j=>P.underlying t matches amT .string&&bE x a&&bE i j
 | .RA esz x l h m,.slice t a b c d=>(m.isNone||h.isSome)&&y5 P t esz&&bE x a&&Jf l b&&Jf h c&&Jf m d
 | .mks esz zero l c,.makeSlice t a b=>(match P.underlying t with|some (.slice e)=>oU P e esz&&uL P e zero&&(amS zero)==esz&&Eo P e&&!(esz==0)|_=>amW)&&zero.all PV.plain&&bE l a&&bE c b
 | .mkf fn a b,.makeFunc (.func g) c d=>fn==g&&fj a c.toList&&fj b d.toList
 | .mkm _,.makeMap _ amU=>amV
 | .ext i x,.extract a j=>i==j&&bE x a
 | .append esz x y,.call {callee:= .builtin .append,args,argTypes}=>(match argTypes.toList with
  | [t,u]=>(match P.underlying t with|some (.slice e)=>oU P e esz&&Eo P e&&!(esz==0)&&(P.info? e).any (fun i=>i.zero.any fun z=>z.cells.size==esz)|_=>amW)&&sA P u
  |_=>amW)&&fj [x,y] args.toList
 | .lookup n zero ok m k,.lookup t a b ok'=>ok==ok'&&(match P.underlying t with|some (.map kt et)=>x3 P kt n&&(match (P.info? et).bind (·.zero) with|some v=>uK zero v|none=>amW)|_=>amW)&&bE m a&&bE k b
 | .I9 n m k v,.mapUpdate t a b c=>(match P.underlying t with|some (.map kt _)=>x3 P kt n|_=>amW)&&bE m a&&bE k b&&bE v c
 | .copy esz x y,.call {callee:= .builtin .copy,args,argTypes}=>(match argTypes.toList with| [t,u]=>y5 P t esz&&sA P u|_=>amW)&&fj [x,y] args.toList
 | .clear esz zero x,.call {callee:= .builtin .clear,args,argTypes}=>(match argTypes.toList with
  | [t]=>(match P.underlying t with|some (.slice e)=>oU P e esz&&uL P e zero&&(amS zero)==esz&&zero.all PV.plain|_=>amW)
  |_=>amW)&&fj [x] args.toList
 | .mm isMax x xs,.call {callee:= .builtin b,args,argTypes:=_}=>(if isMax then b== .max else b== .min)&&fj (x::xs) args.toList
 | .call _ f args,.call {callee:= .value (.func g),args:=as,argTypes:=_}=>f==g&&(prims f||W6 P f)&&fj args as.toList
 | .xB x args,.call {callee:= .value (.tmp t),args:=as,argTypes:=_}=>bE x (.tmp t)&&fj args as.toList
 | .DC x y,.buildSlice t m ps=>m==2&&(match P.underlying t with|some (.slice e)=>oU P e 1&&(P.info? e).any (fun i=>i.zero.any fun z=>z.cells.size==1)|_=>amW)&&(match ps.toList with| [(i,a),(j,b)]=>i==0&&j==1&&bE x a&&bE y b|_=>amW)
 | .I9 n m k v,.insert t a b c=>(match P.underlying t with|some (.map kt _)=>x3 P kt n|_=>amW)&&bE m a&&bE k b&&bE v c
 | .bad,_=>amV
 |_,_=>ty==0&&amW
end
end Go.Vm
/- What a pure value says of a value of the model, a block of the call's own of the memory. -/
namespace Go.Vm
structure LI where
 dh:Nat
 sh:Nat
 esz:Nat
 n:Nat
 sz:Nat
abbrev Im:=Nat->Option Obj
abbrev Loc:=Nat->Option LI
def oc (im:Im) (b o:Nat):Option Value:=
 match im b with
 |some (.cells c _ _)=>c[o]?
 |_=>amU
def jC:PV->Option Value
 | .int k n=>amT (.int k n)
 | .bool b=>amT (.bool b)
 | .str s=>amT (.string s)
 |_=>amU
def bO (get:Nat->Option Value) (sh esz:Nat) (rows:List Row):Prop:=
 ∀(i:Nat) (r:Row),rows[i]? =amT r->amS r=esz/\ ∀(j:Nat) (c:PV),r[j]? =amT c-> ∃v,jC c=amT v/\get (sh+i*esz+j)=amT v
mutual
inductive VR (im:Im) (loc:Loc):PV->Value->Prop
 |undef (v:Value):VR im loc .undef v
 |jA:VR im loc .jA Go.undef
 |int (k:IntKind) (n:Int):VR im loc (.int k n) (.int k n)
 |bool (b:Bool):VR im loc (.bool b) (.bool b)
 |str (s:ByteArray):VR im loc (.str s) (.string s)
 |agg (cs:List PV) (vs:List Value) (h:fh im loc cs vs):VR im loc (.agg cs) (.agg ⟨vs⟩)
 |cw (cs:List PV) (vs:List Value) (h:fh im loc cs vs):VR im loc (.cw cs) (.tuple ⟨vs⟩)
 |sl (esz:Nat) (qU:Bool) (rows:List Row) (a:Option Addr) (cap:Nat) (hc:(amS rows)<=cap) (hk:qU=amV->cap=amS rows)
  (h:rows≠[]-> ∃b o,a=amT ⟨b,o,amU⟩/\bO (oc im b) o esz rows):VR im loc (.sl esz qU rows) (.slice a (amS rows) cap)
 |own (t esz off len cap:Nat) (ex:Bool) (li:LI) (a:Option Addr) (c7:Nat) (hl:loc t=amT li) (he:li.esz=esz) (hn:off+cap<=li.n) (hc:len<=cap)
  (hx:cap<=c7) (hk:ex=amV->c7=cap)
  (h:c7=0\/(li.n≠0/\a=amT ⟨li.dh,li.sh+off*esz,amU⟩/\li.sh+(off+c7)*esz<=li.sz)):VR im loc (.own t esz off len cap ex) (.slice a len c7)
 |ptr (t esz row off:Nat) (li:LI) (hl:loc t=amT li) (he:li.esz=esz) (hn:row<li.n):
  VR im loc (.ptr t esz row off) (.pointer (amT ⟨li.dh,li.sh+row*esz+off,amU⟩))
 |bJ (cs:List PV) (off b o:Nat) (vs:List Value) (h:fh im loc cs vs) (hv: ∀(j:Nat) (v:Value),vs[j]? =amT v->oc im b (o+j)=amT v):
  VR im loc (.bJ cs off) (.pointer (amT ⟨b,o+off,amU⟩))
 |mp (t:Nat) (li:LI) (hl:loc t=amT li):VR im loc (.mp t) (.map (amT li.dh))
 |eV (fn:FuncId) (a b:List PV) (as bs:List Value) (ha:fh im loc a as) (hb:fh im loc b bs):VR im loc (.eV fn a b) (.func (.func fn) ⟨as⟩ ⟨bs⟩)
 |dU:VR im loc .dU .nilFunc
inductive fh (im:Im) (loc:Loc):List PV->List Value->Prop
 |nil:fh im loc [] []
 |cons (x:PV) (v:Value) (xs:List PV) (vs:List Value) (h:VR im loc x v) (hs:fh im loc xs vs):fh im loc (x::xs) (v::vs)
end
def od (im eH:Im):Prop:= ∀b o,im b=amT o->eH b=amT o
def mw (loc bn:Loc):Prop:= ∀t li,loc t=amT li->bn t=amT li
theorem od.refl (im:Im):od im im:=fun _ _ h=>h
theorem od.trans {a b c:Im} (h:od a b) (k:od b c):od a c:=fun x o e=>k x o (h x o e)
theorem mw.refl (loc:Loc):mw loc loc:=fun _ _ h=>h
theorem mw.trans {a b c:Loc} (h:mw a b) (k:mw b c):mw a c:=fun x o e=>k x o (h x o e)
theorem od.cell {im eH:Im} (h:od im eH) {b o:Nat} {v:Value} (hc:oc im b o=amT v):oc eH b o=amT v:=by
 unfold oc at hc ⊢;cases hb:im b with
 |none=>rw [hb] at hc;cases hc
 |some x=>rw [hb] at hc;rw [h b x hb];exact hc
theorem bO.mono {g g':Nat->Option Value} {sh esz:Nat} {rows:List Row} (h:bO g sh esz rows) (hg: ∀k v,g k=amT v->g' k=amT v):
 bO g' sh esz rows:=by
 intro i r hr;obtain ⟨h1,h2⟩:=h i r hr;exact ⟨h1,fun j c hc=>let ⟨v,hv,hw⟩:=h2 j c hc;⟨v,hv,hg _ _ hw⟩⟩
mutual
theorem VR.mono {im eH:Im} {loc bn:Loc} (hi:od im eH) (hl:mw loc bn): ∀{x:PV} {v:Value},VR im loc x v->VR eH bn x v
 |_,_,.undef v=> .undef v
 |_,_,.jA=> .jA
 |_,_,.int k n=> .int k n
 |_,_,.bool b=> .bool b
 |_,_,.str s=> .str s
 |_,_,.agg cs vs h=> .agg cs vs (fh.mono hi hl h)
 |_,_,.cw cs vs h=> .cw cs vs (fh.mono hi hl h)
 |_,_,.sl esz qU rows a cap hc hk h=> .sl esz qU rows a cap hc hk fun ec=>let ⟨b,o,ha,hr⟩:=h ec;⟨b,o,ha,hr.mono fun _ _ e=>hi.cell e⟩
 |_,_,.own t esz off len cap ex li a c7 h1 h2 h3 h4 h5 h6 h7=> .own t esz off len cap ex li a c7 (hl _ _ h1) h2 h3 h4 h5 h6 h7
 |_,_,.ptr t esz row off li h1 h2 h3=> .ptr t esz row off li (hl _ _ h1) h2 h3
 |_,_,.bJ cs off b o vs h hv=> .bJ cs off b o vs (fh.mono hi hl h) fun j v e=>hi.cell (hv j v e)
 |_,_,.mp t li h=> .mp t li (hl _ _ h)
 |_,_,.eV fn a b as bs ha hb=> .eV fn a b as bs (fh.mono hi hl ha) (fh.mono hi hl hb)
 |_,_,.dU=> .dU
theorem fh.mono {im eH:Im} {loc bn:Loc} (hi:od im eH) (hl:mw loc bn): ∀{x:List PV} {v:List Value},fh im loc x v->fh eH bn x v
 |_,_,.nil=> .nil
 |_,_,.cons x v xs vs h hs=> .cons x v xs vs (VR.mono hi hl h) (fh.mono hi hl hs)
end
theorem fh.m9 {im:Im} {loc:Loc}: ∀{x:List PV} {v:List Value},fh im loc x v->amS x=amS v
 |_,_,.nil=>rfl
 |_,_,.cons _ _ _ _ _ hs=>by simp [hs.m9]
theorem fh.get {im:Im} {loc:Loc}: ∀{xs:List PV} {vs:List Value},fh im loc xs vs-> ∀(i:Nat) (x:PV),xs[i]? =amT x-> ∃v,vs[i]? =amT v/\VR im loc x v
 |_,_,.nil,i,x,h=>by simp at h
 |_,_,.cons y v xs vs h hs,0,x,e=>by simp at e;subst e;exact ⟨v,rfl,h⟩
 |_,_,.cons y v xs vs h hs,i+1,x,e=>by
  obtain ⟨u,hu,hr⟩:=hs.get i x (by simpa using e)
  exact ⟨u,by simpa using hu,hr⟩
theorem fh.append {im:Im} {loc:Loc}: ∀{xs:List PV} {vs:List Value},fh im loc xs vs-> ∀{ys:List PV} {us:List Value},fh im loc ys us->fh im loc (xs++ys) (vs++us)
 |_,_,.nil,_,_,k=>k
 |_,_,.cons y v xs vs h hs,_,_,k=> .cons _ _ _ _ h (hs.append k)
theorem fh.take {im:Im} {loc:Loc}: ∀{xs:List PV} {vs:List Value},fh im loc xs vs-> ∀n,fh im loc (xs.take n) (vs.take n)
 |_,_,.nil,n=>by simp;exact .nil
 |_,_,.cons y v xs vs h hs,0=> .nil
 |_,_,.cons y v xs vs h hs,n+1=> .cons _ _ _ _ h (hs.take n)
theorem fh.drop {im:Im} {loc:Loc}: ∀{xs:List PV} {vs:List Value},fh im loc xs vs-> ∀n,fh im loc (xs.drop n) (vs.drop n)
 |_,_,.nil,n=>by simp;exact .nil
 |_,_,.cons y v xs vs h hs,0=> .cons _ _ _ _ h hs
 |_,_,.cons y v xs vs h hs,n+1=>hs.drop n
theorem fh.of {im:Im} {loc:Loc}: ∀(xs:List PV) (vs:List Value),amS xs=amS vs->(∀(i:Nat) (x:PV) (v:Value),xs[i]? =amT x->vs[i]? =amT v->VR im loc x v)->fh im loc xs vs
 | [],[],_,_=> .nil
 |x::xs,v::vs,hl,h=> .cons x v xs vs (h 0 x v rfl rfl) (fh.of xs vs (by simpa using hl) fun i a b ha hb=>h (i+1) a b (by simpa using ha) (by simpa using hb))
theorem VR.plain {im:Im} {loc:Loc} {x:PV} {v:Value} (h:VR im loc x v) (hp:x.plain=amV):jC x=amT v:=by
 cases h<;>first|rfl|cases hp
theorem VR.EY {im:Im} {loc:Loc} {x:PV} {v:Value} (h:jC x=amT v):VR im loc x v:=by
 cases x<;>simp only [jC,v6] at h<;>first|(subst h;constructor)|cases h
theorem VR.cells {im:Im} {loc:Loc} {x:PV} {v:Value} (h:VR im loc x v) (hs: ∀c∈x.cells,c.qj=amV):fh im loc x.cells v.cells.toList:=by
 have one: ∀{y:PV} {u:Value},VR im loc y u->y.qj=amV->(∀us,u≠ .agg us):=by
  intro y u hy ho us e;subst e;cases hy<;>cases ho
 cases h with
 |agg cs vs h=>exact h
 |undef v=>have:=hs .undef (by simp [PV.cells]);cases this
 |jA=>have:=hs .jA (by simp [PV.cells]);cases this
 |cw cs vs h=>have:=hs (.cw cs) (by simp [PV.cells]);cases this
 |int k n=>exact .cons _ _ _ _ (.int k n) .nil
 |bool b=>exact .cons _ _ _ _ (.bool b) .nil
 |str s=>exact .cons _ _ _ _ (.str s) .nil
 |sl esz qU rows a cap hc hk h=>exact .cons _ _ _ _ (.sl esz qU rows a cap hc hk h) .nil
 |own t esz off len cap ex li a c7 h1 h2 h3 h4 h5 h6 h7=>exact .cons _ _ _ _ (.own t esz off len cap ex li a c7 h1 h2 h3 h4 h5 h6 h7) .nil
 |ptr t esz row off li h1 h2 h3=>exact .cons _ _ _ _ (.ptr t esz row off li h1 h2 h3) .nil
 |bJ cs off b o vs h hv=>exact .cons _ _ _ _ (.bJ cs off b o vs h hv) .nil
 |mp t li h=>exact .cons _ _ _ _ (.mp t li h) .nil
 |eV fn a b as bs ha hb=>exact .cons _ _ _ _ (.eV fn a b as bs ha hb) .nil
 |dU=>exact .cons _ _ _ _ .dU .nil
theorem VR.Jg {im:Im} {loc:Loc} {x:PV} {v:Value} (h:VR im loc x v) (hs:x.qj=amV):(∀us,v≠ .agg us)/\ ∀us,v≠ .tuple us:=by
 cases h<;>first|(simp [PV.qj] at hs;done)|simp
def valOf:PV->Option Value
 | .agg cs=>(cs.mapM jC).map fun vs=> .agg ⟨vs⟩
 |x=>jC x
def fJ:List (PV×PV)->List MapEntry->Prop
 | [],[]=>True
 |(k,v)::r,e::r'=>valOf k=amT e.key/\valOf v=amT e.val/\fJ r r'
 |_,_=>False
def BR (im:Im) (loc:Loc) (w:World) (li:LI):jW->Prop
 | .arr e rows=>li.esz=e/\li.n=amS rows/\(rows≠[]-> ∃cs el,w.heap[li.dh]? =amT (.cells cs el (0,0))/\cs.size=li.sz/\li.sh+amS rows*e<=li.sz/\bO (fun k=>cs[k]?) li.sh e rows)
 | .box cells=>(li.esz=amS cells/\li.n=1\/li.esz=1/\li.n=amS cells)/\True/\li.sh=0/\ ∃vs el,w.heap[li.dh]? =amT (.cells ⟨vs⟩ el (0,0))/\amS vs=li.sz/\fh im loc cells vs
 | .map es=> ∃k8 clock,w.heap[li.dh]? =amT (.map k8 clock)/\fJ es k8.toList
 | .dead=>True
theorem BR.mono {im eH:Im} {loc bn:Loc} {w w':World} {li:LI} {k:jW} (h:BR im loc w li k) (hi:od im eH) (hl:mw loc bn)
 (hw:w'.heap[li.dh]? =w.heap[li.dh]?):BR eH bn w' li k:=by
 cases k with
 |arr e rows=>exact ⟨h.1,h.2.1,fun ec=>let ⟨cs,el,h1,h2,h3⟩:=h.2.2 ec;⟨cs,el,by rw [hw];exact h1,h2,h3⟩⟩
 |box cells=>obtain ⟨h1,h2,h3,vs,el,h4,h5,h6⟩:=h;exact ⟨h1,h2,h3,vs,el,by rw [hw];exact h4,h5,h6.mono hi hl⟩
 |map es=>obtain ⟨en,cl,h1,h2⟩:=h;exact ⟨en,cl,by rw [hw];exact h1,h2⟩
 |dead=>trivial
theorem BR.lt {im:Im} {loc:Loc} {w:World} {li:LI} {k:jW} (h:BR im loc w li k) (hs:k.bM=amV):li.dh<w.heap.size:=by
 have get: ∀{o:Obj},w.heap[li.dh]? =amT o->li.dh<w.heap.size:=fun e=>by
  rcases acl li.dh w.heap.size with h|h
  · exact h
  simp [akc h] at e
 cases k with
 |arr e rows=>
  cases rows with
  |nil=>cases hs
  |cons r rs=>obtain ⟨cs,el,h1,_⟩:=h.2.2 (by simp);exact get h1
 |box cells=>obtain ⟨_,_,_,vs,el,h4,_⟩:=h;exact get h4
 |map es=>obtain ⟨en,cl,h1,h2⟩:=h;exact get h1
 |dead=>cases hs
structure SR (im:Im) (loc:Loc) (aD:cL) (fz:List Nat) (w:World):Prop where
 bH: ∀b o,im b=amT o->w.heap[b]? =amT o
 dh: ∀t li,loc t=amT li-> ∃k,aD[t]? =amT k/\BR im loc w li k
 iM: ∀t u li lj k k',loc t=amT li->loc u=amT lj->aD[t]? =amT k->aD[u]? =amT k'->k.bM=amV->k'.bM=amV->li.dh=lj.dh->t=u
 free: ∀t li k,loc t=amT li->aD[t]? =amT k->k.bM=amV->has fz t=amW->im li.dh=amU
def ER (im:Im) (loc:Loc) (e:Env) (tmps:Array Value):Prop:= ∀t,VR im loc (lk t e) (tmps.getD t Go.undef)
theorem ER.mono {im eH:Im} {loc bn:Loc} (hi:od im eH) (hl:mw loc bn) {e:Env} {tmps:Array Value} (h:ER im loc e tmps):ER eH bn e tmps:=
 fun t=>(h t).mono hi hl
theorem rH (t s:Nat) (v:PV) (e:Env):lk t ((s,v)::e)=if s=t then v else lk t e:=by
 simp only [lk]
 by_cases h:s=t<;>simp [h]
theorem ER.put {im:Im} {loc:Loc} {e:Env} {tmps:Array Value} (h:ER im loc e tmps) {d:Nat} {x:PV} {v:Value} (hd:d<tmps.size) (hv:VR im loc x v):
 ER im loc ((d,x)::e) (tmps.setIfInBounds d v):=by
 intro t;rw [rH]
 by_cases hdt:d=t
 · subst hdt
   simpa [hd] using hv
 rw [rc hdt]
 have:=h t
 simpa [ae2,hdt] using this
end Go.Vm
/- Renaming the blocks. -/
namespace Go.Vm
theorem y6 {t:Nat}: ∀{m:List Nat} {u:Nat},idxOf t m=amT u->m[u]? =amT t
 | [],u,h=>by simp [idxOf] at h
 |s::r,u,h=>by
  simp only [idxOf] at h;split at h
  · rename_i e
    injection h with h;subst h
    have:s=t:=by simpa using e
    simp [this]
  rw [AC] at h
  obtain ⟨v,hv,rfl⟩:=h;simpa using y6 hv
section
variable {im : Im} {loc dm : Loc} {m : List Nat}
def Ren (m:List Nat) (loc dm:Loc):Prop:= ∀(u t:Nat),m[u]? =amT t->dm u=loc t
mutual
theorem Tw (hm:Ren m loc dm): ∀{x y:PV} {v:Value},VR im loc x v->zR m x=amT y->VR im dm y v
 | .undef,y,v,h,hr=>by simp only [zR,v6] at hr;subst hr;exact .undef _
 | .jA,y,v,h,hr=>by simp only [zR,v6] at hr;subst hr;cases h;exact .jA
 | .int k n,y,v,h,hr=>by simp only [zR,v6] at hr;subst hr;cases h;exact .int _ _
 | .bool b,y,v,h,hr=>by simp only [zR,v6] at hr;subst hr;cases h;exact .bool _
 | .str b,y,v,h,hr=>by simp only [zR,v6] at hr;subst hr;cases h;exact .str _
 | .dU,y,v,h,hr=>by simp only [zR,v6] at hr;subst hr;cases h;exact .dU
 | .agg cs,y,v,h,hr=>by
  simp only [zR,AC] at hr;obtain ⟨HU,h1,rfl⟩:=hr;cases h with|agg _ vs h=>exact .agg _ _ (tJ hm h h1)
 | .cw cs,y,v,h,hr=>by
  simp only [zR,AC] at hr;obtain ⟨HU,h1,rfl⟩:=hr;cases h with|cw _ vs h=>exact .cw _ _ (tJ hm h h1)
 | .sl e c rows,y,v,h,hr=>by
  simp only [zR,v6] at hr;subst hr;cases h with|sl _ _ _ a cap h1 h2 h3=>exact .sl _ _ _ a cap h1 h2 h3
 | .own t e off len cap ex,y,v,h,hr=>by
  simp only [zR,AC] at hr;obtain ⟨u,h1,rfl⟩:=hr;cases h with|own _ _ _ _ _ _ li a c7 g1 g2 g3 g4 g5 g6 g7=>exact .own _ _ _ _ _ _ li a c7 (by rw [hm u t (y6 h1)];exact g1) g2 g3 g4 g5 g6 g7
 | .ptr t e row off,y,v,h,hr=>by
  simp only [zR,AC] at hr;obtain ⟨u,h1,rfl⟩:=hr;cases h with|ptr _ _ _ _ li g1 g2 g3=>exact .ptr _ _ _ _ li (by rw [hm u t (y6 h1)];exact g1) g2 g3
 | .bJ cs off,y,v,h,hr=>by
  simp only [zR,AC] at hr;obtain ⟨HU,h1,rfl⟩:=hr;cases h with|bJ _ _ b o vs h hv=>exact .bJ _ _ b o vs (tJ hm h h1) hv
 | .mp t,y,v,h,hr=>by
  simp only [zR,AC] at hr;obtain ⟨u,h1,rfl⟩:=hr;cases h with|mp _ li g1=>exact .mp _ li (by rw [hm u t (y6 h1)];exact g1)
 | .eV f a b,y,v,h,hr=>by
  simp only [zR] at hr;split at hr
  · rename_i a' b' ha hb
    injection hr with hr;subst hr;cases h with|eV _ _ _ as bs h1 h2=>exact .eV _ _ _ _ _ (tJ hm h1 ha) (tJ hm h2 hb)
  cases hr
theorem tJ (hm:Ren m loc dm): ∀{x y:List PV} {v:List Value},fh im loc x v->zL m x=amT y->fh im dm y v
 | [],y,v,h,hr=>by simp only [zL,v6] at hr;subst hr;cases h;exact .nil
 |x::xs,y,v,h,hr=>by
  simp only [zL] at hr;split at hr
  · rename_i x' xs' h1 h2
    injection hr with hr;subst hr;cases h with|cons _ u _ us g1 g2=>exact .cons _ _ _ _ (Tw hm g1 h1) (tJ hm g2 h2)
  cases hr
end
theorem DG: ∀{x y:List PV},zL m x=amT y->amS y=amS x
 | [],y,h=>by simp only [zL,v6] at h;subst h;rfl
 |x::xs,y,h=>by
  simp only [zL] at h;split at h
  · rename_i x' xs' h1 h2
    injection h with h;subst h;simp [DG h2]
  cases h
theorem HV {w:World} {li:LI} {k k':jW} (hm:Ren m loc dm) (hr:nZ m k=amT k') (h:BR im loc w li k):BR im dm w li k':=by
 cases k with
 |arr e rows=>simp only [nZ,v6] at hr;subst hr;exact h
 |map es=>simp only [nZ,v6] at hr;subst hr;exact h
 |dead=>simp only [nZ,v6] at hr;subst hr;trivial
 |box cs=>
  simp only [nZ,AC] at hr;obtain ⟨HU,h1,rfl⟩:=hr;obtain ⟨g1,g2,g3,vs,el,g4,g5,g6⟩:=h;exact ⟨by rw [DG h1];exact g1,g2,g3,vs,el,g4,g5,tJ hm g6 h1⟩
theorem Bm {k k':jW} (hr:nZ m k=amT k'):k'.bM=k.bM:=by
 cases k with
 |arr e rows=>simp only [nZ,v6] at hr;subst hr;rfl
 |map es=>simp only [nZ,v6] at hr;subst hr;rfl
 |dead=>simp only [nZ,v6] at hr;subst hr;rfl
 |box cs=>
  simp only [nZ,AC] at hr;obtain ⟨HU,h1,rfl⟩:=hr;rfl
theorem CF {aD:cL}: ∀{l:List Nat} {s1:cL},xY aD m l=amT s1->amS s1=amS l/\ ∀(u t:Nat),l[u]? =amT t-> ∃k k',aD[t]? =amT k/\nZ m k=amT k'/\s1[u]? =amT k'
 | [],s1,h=>by simp only [xY,v6] at h;subst h;exact ⟨rfl,fun u t h=>by simp at h⟩
 |t::ts,s1,h=>by
  simp only [xY] at h;split at h
  · rename_i b hb
    split at h
    · rename_i b' r h1 h2
      injection h with h;subst h;obtain ⟨g1,g2⟩:=CF h2;refine ⟨by simp [g1],fun u t' ht=>?_⟩
      cases u with
      |zero=>simp at ht;subst ht;exact ⟨b,b',hb,h1,rfl⟩
      |succ u=>simpa using g2 u t' (by simpa using ht)
    cases h
  cases h
end
end Go.Vm
/- Operation by operation: the model's run gives what the logical machine says. First part: what reads no memory. -/
namespace Go.Vm
theorem fu {k l:IntKind}:fE k l=amV↔k=l:=by
 cases k<;>cases l<;>simp [fE]
theorem Ep {n:Int} (h1: -9223372036854775808<=n) (h2:n<9223372036854775808):IntKind.wrap .i64 n=n:=by
 simp only [IntKind.wrap,IntKind.bits,IntKind.signed,amL];have e1:(2:Int)^64=18446744073709551616:=by decide
 have e2:(2:Int)^(64-1)=9223372036854775808:=by decide
 simp only [e1,e2,decide_eq_true_eq];split<;>omega
theorem sB (k:IntKind) (n:Int):aa k n=k.wrap n:=by
 unfold aa;split
 · rename_i m
   split
   · rename_i h
     have h:m<9223372036854775808:=by simpa using h
     have e:Int.ofNat m=(m:Int):=rfl;exact (Ep (by rw [e];omega) (by rw [e];omega)).symm
   rfl
 · rename_i m
   split
   · rename_i h
     have h:m<9223372036854775808:=by simpa using h
     exact (Ep (by omega) (by omega)).symm
   rfl
 · rename_i m
   simp only [IntKind.wrap,IntKind.bits,IntKind.signed,Bool.false_and];have e1:(2:Int)^64=18446744073709551616:=by decide
   simp only [e1];rfl
 rfl
section
variable {P : Program} {im : Im} {loc : Loc} {w : World}
theorem VR.gu {k:IntKind} {n:Int} {v:Value} (h:VR im loc (.int k n) v):v= .int k n:=by cases h;rfl
theorem VR.jD {b:Bool} {v:Value} (h:VR im loc (.bool b) v):v= .bool b:=by cases h;rfl
theorem VR.Er {b:ByteArray} {v:Value} (h:VR im loc (.str b) v):v= .string b:=by cases h;rfl
theorem VR.pK {cs:List PV} {v:Value} (h:VR im loc (.agg cs) v): ∃vs,v= .agg ⟨vs⟩/\fh im loc cs vs:=by cases h with|agg _ vs h=>exact ⟨vs,rfl,h⟩
theorem VR.Bn {cs:List PV} {v:Value} (h:VR im loc (.cw cs) v): ∃vs,v= .tuple ⟨vs⟩/\fh im loc cs vs:=by cases h with|cw _ vs h=>exact ⟨vs,rfl,h⟩
mutual
theorem Jh: ∀{x:PV} {v:Value},uK x v=amV->VR im loc x v
 | .int k n,v,h=>by
  cases v<;>simp only [uK] at h<;>first|cases h|skip
  simp only [ut,beq_iff_eq,fu] at h;obtain ⟨rfl,rfl⟩:=h;exact .int _ _
 | .bool a,v,h=>by
  cases v<;>simp only [uK] at h<;>first|cases h|skip
  rename_i b;have:a=b:=by simpa using h
  subst this;exact .bool _
 | .str a,v,h=>by
  cases v<;>simp only [uK] at h<;>first|cases h|skip
  rename_i b;have h1:a.data.toList=b.data.toList:=by simpa using h
  obtain ⟨⟨x⟩⟩:=a;obtain ⟨⟨y⟩⟩:=b;have h2:x=y:=h1;subst h2;exact .str _
 | .sl e c [],v,h=>by
  cases v with
  |slice a n cap=>
   cases a with
   |none=>
    cases n with
    |zero=>
     cases cap with
     |zero=>exact .sl e c [] amU 0 (Nat.zero_le _) (fun _=>rfl) (fun ec=>absurd rfl ec)
     |succ c=>simp [uK] at h
    |succ n=>simp [uK] at h
   |some a=>simp [uK] at h
  |_=>simp [uK] at h
 | .sl e c (_::_),v,h=>by simp [uK] at h
 | .agg cs,v,h=>by
  cases v<;>simp only [uK] at h<;>first|cases h|skip
  rename_i vs;exact .agg cs vs.toList (x4 h)
 | .dU,v,h=>by
  cases v<;>simp only [uK] at h<;>first|cases h|skip
  exact .dU
 | .undef,v,_=> .undef v
 | .jA,v,h=>by simp [uK] at h
 | .cw _,v,h=>by simp [uK] at h
 | .own ..,v,h=>by simp [uK] at h
 | .ptr ..,v,h=>by simp [uK] at h
 | .bJ ..,v,h=>by simp [uK] at h
 | .mp _,v,h=>by simp [uK] at h
 | .eV ..,v,h=>by simp [uK] at h
theorem x4: ∀{x:List PV} {v:List Value},EX x v=amV->fh im loc x v
 | [],[],_=> .nil
 |x::xs,v::vs,h=>by
  simp only [EX,ut] at h;exact .cons _ _ _ _ (Jh h.1) (x4 h.2)
 | [],_::_,h=>by simp [EX] at h
 |_::_,[],h=>by simp [EX] at h
end
theorem W7 {op : BinOp} {t : TypeId} {a b : Operand} {x y : PV} {u v : Value} {z : PV} (hx : VR im loc x u) (hy : VR im loc y v) (h : RC op x y = amT z) :
    ∃ r, (do eqGuard op t a b u v; binOp op t u v : Sem Value).run P w = .ok r w /\ VR im loc z r := by
  unfold RC at h
  split at h
  · rename_i k a l b
    obtain rfl := hx.gu
    obtain rfl := hy.gu
    have hg : ∀ (k l : IntKind) (a b : Int) (o p : Operand), (eqGuard op t o p (.int k a) (.int l b)).run P w = .ok () w := by
      intros; unfold eqGuard; cases op <;> simp
    split at h
    · simp only [CB] at h
      split at h
      · cases h
      rename_i hb
      injection h with h; subst h
      refine ⟨_, ?_, .int _ _⟩
      simp only [Do, hg, ww, binOp, Op.shift, hb, if_false]
      rfl
    · simp only [CB] at h
      split at h
      · cases h
      rename_i hb
      injection h with h; subst h
      refine ⟨_, ?_, .int _ _⟩
      simp only [Do, hg, ww, binOp, Op.shift, hb, if_false]
      rfl
    split at h
    · rename_i awX awY hk
      have := fu.1 hk; subst this
      unfold arith at h
      split at h
      all_goals first
        | (injection h with h; subst h
           first
             | (refine ⟨_, ?_, .int _ _⟩
                simp only [Do, hg, ww, binOp, Op.intArith, Op.intBits, sB, ne_eq, not_true_eq_false, if_false]
                rfl)
             | (refine ⟨_, ?_, .bool _⟩
                simp only [Do, hg, ww, binOp, Op.intCmp, ne_eq, not_true_eq_false, if_false]
                rfl))
        | (split at h
           · cases h
           rename_i hb
           injection h with h; subst h
           refine ⟨_, ?_, .int _ _⟩
           simp only [Do, hg, ww, binOp, Op.intDiv, sB, ne_eq, not_true_eq_false, if_false, hb]
           rfl)
        | cases h
    cases h
  cases h
theorem Tx {neg:Bool} {op:BinOp} {t:TypeId} {p q:Operand} {a b:Bool} (ho:op=if neg then .neq else .eql) (ht:P.underlying t=amT .bool):
 (do eqGuard op t p q (.bool a) (.bool b);binOp op t (.bool a) (.bool b):Sem Value).run P w= .ok (.bool (if neg then !(a==b) else a==b)) w:=by
 have h1:(Op.equal t (.bool a) (.bool b)).run P w= .ok (a==b) w:=run_equalIn_bool' w 9999 t a b ht;cases neg<;>simp only [adm,if_false,if_true] at ho<;>subst ho<;>simp [eqGuard,binOp,h1]
theorem af1 {op:UnOp} {x z:PV} {u:Value} (hx:VR im loc x u) (h:unE op x=amT z): ∃r,(Op.unary op u).run P w= .ok r w/\VR im loc z r:=by
 unfold unE at h;split at h
 · injection h with h;subst h
   obtain rfl:=hx.gu;exact ⟨_,rfl,by rw [sB];exact .int _ _⟩
 · injection h with h;subst h
   obtain rfl:=hx.jD;exact ⟨_,rfl,.bool _⟩
 cases h
theorem Ty {s d:TypeId} {k k':IntKind} {n:Int} {ds:TypeDesc} (hs:P.underlying s=amT ds) (hd:P.underlying d=amT (.int k)):
 (convert s d (.int k' n)).run P w= .ok (.int k (aa k n)) w:=by
 simp only [convert,Do,run_underlying hs,run_underlying hd,ww,sB];cases ds<;>rfl
theorem CG {t:TypeId} (h:gU P t=amV):(isAgg t).run P w= .ok amV w:=by
 unfold gU at h;split at h
 · rename_i f hu;simp [isAgg,run_underlying hu]
 · rename_i n f hu;simp [isAgg,run_underlying hu]
 cases h
theorem CH {t:TypeId} (hs:(P.underlying t).isSome=amV) (h:gU P t=amW):(isAgg t).run P w= .ok amW w:=by
 cases hu:P.underlying t with
 |none=>rw [hu] at hs;cases hs
 |some d=>
  unfold gU at h;rw [hu] at h;cases d<;>first|(simp [isAgg,run_underlying hu];done)|cases h
theorem kL {t:TypeId} {n:Nat} (h:oU P t n=amV):(sizeOf t).run P w= .ok n w:=by
 unfold oU at h;cases hi:P.info? t with
 |none=>rw [hi] at h;cases h
 |some i=>
  rw [hi] at h
  have:i.size=n:=by simpa using h
  simp [sizeOf,typeInfo,hi,this]
theorem K8 {agg:Option Nat} {t:TypeId} {off:Nat} {cs:List PV} {vs:List Value} {x:PV} (ha:Bl P t agg=amV) (h:fh im loc cs vs)
 (hp:part agg off cs=amT x): ∃v,(Go.part t ⟨vs⟩ off).run P w= .ok v w/\VR im loc x v:=by
 unfold Bl at ha;simp only [ut] at ha;obtain ⟨hs,ha⟩:=ha;cases agg with
 |some n=>
  simp only [ut] at ha;simp only [part] at hp;split at hp
  · rename_i ly
    injection hp with hp;subst hp;refine ⟨.agg ⟨(vs.drop off).take n⟩,?_,.agg _ _ ((h.drop off).take n)⟩;simp only [Go.part,Do,CG ha.1,ww,if_true,kL ha.2,EQ]
    congr 2
    apply ae9;simp [agp]
  cases hp
 |none=>
  simp only [ut,ae5] at ha;simp only [part] at hp;obtain ⟨v,hv,hr⟩:=h.get off x hp;refine ⟨v,?_,hr⟩;simp only [Go.part,Do,CH hs ha.1,ww,adm,if_false]
  have:(⟨vs⟩:Array Value)[off]? =amT v:=by simpa using hv
  simp [this]
theorem wk {agg:Option Nat} {t:TypeId} {b o off:Nat} {cs:List PV} {vs:List Value} {x:PV} (ha:Bl P t agg=amV) (h:fh im loc cs vs)
 (hm: ∀(j:Nat) (v:Value),vs[j]? =amT v->w.cell? ⟨b,o+j,amU⟩=amT v)
 (hp:part agg off cs=amT x): ∃v,(loadVar t ⟨b,o+off,amU⟩).run P w= .ok v w/\VR im loc x v:=by
 unfold Bl at ha;simp only [ut] at ha;obtain ⟨hs,ha⟩:=ha;have arF: ∀k j:Nat,(⟨b,k,amU⟩:Addr).add j=⟨b,k+j,amU⟩:=by
  intro k j;unfold Addr.add;split
  · rename_i h;subst h;rfl
  rfl
 cases agg with
 |some n=>
  simp only [ut] at ha;simp only [part] at hp;split at hp
  · rename_i ly
    injection hp with hp;subst hp;refine ⟨.agg ⟨(vs.drop off).take n⟩,?_,.agg _ _ ((h.drop off).take n)⟩;have hl:((vs.drop off).take n).length=n:=by
     have:=h.m9
     simp;omega
    have:=run_loadCells_list (P:=P) w ⟨b,o+off,amU⟩ ((vs.drop off).take n) (by
     intro j v hj;rw [arF];have hj':j<n:=by
      rcases acl j n with h|h
      · exact h
      rw [M2 (by omega)] at hj;cases hj
     rw [afI hj',agl] at hj
     have:=hm _ _ hj
     rwa [show o+(off+j)=o+off+j by omega] at this)
    rw [hl] at this;simp only [loadVar,Do,CG ha.1,ww,if_true,kL ha.2,this,EQ]
  cases hp
 |none=>
  simp only [ut,ae5] at ha;simp only [part] at hp;obtain ⟨v,hv,hr⟩:=h.get off x hp;refine ⟨v,?_,hr⟩;simp only [loadVar,Do,CH hs ha.1,ww,adm,if_false];rw [run_load,hm off v hv]
end
end Go.Vm
/- What an operation does to the memory, and the shapes in which it does it. -/
namespace Go.Vm
structure tK (im:Im) (loc:Loc) (aD:cL) (w:World) (r:nY) (eH:Im) (bn:Loc) (w':World):Prop where
 gH:od im eH
 dV:mw loc bn
 bH: ∀b o,eH b=amT o->w'.heap[b]? =amT o
 eg: ∀b o,eH b=amT o->im b=amT o\/w.heap.size<=b\/ ∃t li k,has r.fr t=amV/\loc t=amT li/\aD[t]? =amT k/\k.bM=amV/\li.dh=b
 os:w'.os=w.os
 tape:w'.tape=w.tape
 output:w'.output=w.output
 size:w.heap.size<=w'.heap.size
 frame: ∀b,b<w.heap.size->(∀t k li k0,(t,k)∈r.wr->loc t=amT li->aD[t]? =amT k0->k0.bM=amV->li.dh≠b)->w'.heap[b]? =w.heap[b]?
 RE: ∀t k,(t,k)∈r.wr->k.bM=amV-> ∃k0,aD[t]? =amT k0/\k0.bM=amV
 wr: ∀t k li,(t,k)∈r.wr->loc t=amT li->BR eH bn w' li k
 k9: ∀t li,bn t=amT li->loc t=amT li\/(amS aD<=t/\t<amS aD+amS r.news)
 news: ∀(j:Nat) (k:jW) (li:LI),r.news[j]? =amT k->bn (amS aD+j)=amT li->BR eH bn w' li k/\
  (k.bM=amV->eH li.dh=amU/\(w.heap.size<=li.dh\/ ∃t lt k0,(t,jW.dead)∈r.wr/\loc t=amT lt/\aD[t]? =amT k0/\k0.bM=amV/\lt.dh=li.dh))
 distinct: ∀(i j:Nat) (ki kj:jW) (li lj:LI),r.news[i]? =amT ki->r.news[j]? =amT kj->ki.bM=amV->kj.bM=amV->
  bn (amS aD+i)=amT li->bn (amS aD+j)=amT lj->li.dh=lj.dh->i=j
theorem CI {α:Type} {n:Nat} {l:List α} {loc:Loc} {A:LI->α->Prop} (h: ∀(j:Nat) (k:α),l[j]? =amT k-> ∃li,loc (n+j)=amT li/\A li k):
 ∀(j:Nat) (k:α) (li:LI),l[j]? =amT k->loc (n+j)=amT li->A li k:=fun j k li hj hl=>by
 obtain ⟨li',h1,h2⟩:=h j k hj;rw [hl] at h1;injection h1 with h1;subst h1;exact h2
structure jn (im:Im) (loc:Loc) (aD:cL) (w:World) (r:nY):Prop where
 bH: ∀b o,im b=amT o->w.heap[b]? =amT o
 tok: ∀t,t∈r.rd\/(∃k,(t,k)∈r.wr)-> ∀li,loc t=amT li-> ∃k,aD[t]? =amT k/\BR im loc w li k
 free: ∀t k,(t,k)∈r.wr-> ∀li k',loc t=amT li->aD[t]? =amT k'->k'.bM=amV->im li.dh=amU
 fresh: ∀j,j<amS r.news->loc (amS aD+j)=amU
 iM: ∀t u li lj k k',(t∈r.rd\/ ∃b,(t,b)∈r.wr)->(u∈r.rd\/ ∃b,(u,b)∈r.wr)->loc t=amT li->loc u=amT lj->aD[t]? =amT k->aD[u]? =amT k'->k.bM=amV->k'.bM=amV->li.dh=lj.dh->t=u
section
variable {im : Im} {loc : Loc} {aD : cL} {w : World} {r : nY}
theorem tK.none (hk:jn im loc aD w r) (hn:r.news=[]) (hw:r.wr=[]):tK im loc aD w r im loc w where
 gH:= .refl _
 dV:= .refl _
 bH:=hk.bH
 eg:=fun _ _ h=> .inl h
 os:=rfl
 tape:=rfl
 output:=rfl
 size:=If _
 frame:=fun _ _ _=>rfl
 RE:=fun t k h=>by rw [hw] at h;cases h
 wr:=fun t k li h=>by rw [hw] at h;cases h
 k9:=fun _ _ h=> .inl h
 news:=fun j k li h=>by rw [hn] at h;simp at h
 distinct:=fun i j ki kj li lj h=>by rw [hn] at h;simp at h
def Loc.set (loc:Loc) (t:Nat) (li:LI):Loc:=fun u=>if u=t then amT li else loc u
theorem Loc.eX (loc:Loc) (t:Nat) (li:LI):loc.set t li t=amT li:=by simp [Loc.set]
theorem Loc.x5 {loc:Loc} {t:Nat} (li:LI) (h:loc t=Option.none):mw loc (loc.set t li):=by
 intro u l hu;unfold Loc.set;split
 · rename_i e;subst e;rw [h] at hu;cases hu
 exact hu
theorem tK.new (hk:jn im loc aD w r) {k:jW} {o:Obj} {w':World} (li:LI) (hn:r.news=[k]) (hw:r.wr=[])
 (hh:w'.heap=w.heap.push o) (ho:w'.os=w.os) (ht:w'.tape=w.tape) (hp:w'.output=w.output) (hl:li.dh=w.heap.size)
 (hb:BR im (loc.set (amS aD) li) w' li k):tK im loc aD w r im (loc.set (amS aD) li) w' where
 gH:= .refl _
 dV:=Loc.x5 li (by have:=hk.fresh 0 (by simp [hn]);simpa using this)
 bH:=fun b o h=>by
  have h1:=hk.bH b o h;have dM:b<w.heap.size:=by
   rcases acl b w.heap.size with h|h
   · exact h
   simp [akc h] at h1
  rw [hh,am6,rc (by omega)];exact h1
 eg:=fun _ _ h=> .inl h
 os:=ho
 tape:=ht
 output:=hp
 size:=by rw [hh];simp
 frame:=fun b Bf _=>by rw [hh,am6,rc (by omega)]
 RE:=fun t k h=>by rw [hw] at h;cases h
 wr:=fun t k li h=>by rw [hw] at h;cases h
 k9:=fun t l h=>by
  unfold Loc.set at h;split at h
  · rename_i e;subst e;exact .inr ⟨If _,by simp [hn]⟩
  exact .inl h
 news:=CI fun j k' h=>by
  rw [hn] at h;cases j with
  |zero=>
   simp at h;subst h;refine ⟨li,Loc.eX _ _ _,hb,fun _=>⟨?_,.inl (by omega)⟩⟩
   cases hi:im li.dh with
   |none=>rfl
   |some o=>have:=hk.bH _ _ hi;rw [hl] at this;simp at this
  |succ j=>simp at h
 distinct:=fun i j ki kj li lj h1 h2 _ _ _ _ _=>by
  rw [hn] at h1 h2;cases i<;>cases j<;>simp at h1 h2<;>rfl
theorem tK.Tz (hk:jn im loc aD w r) {esz:Nat} (hn:r.news=[.arr esz []]) (hw:r.wr=[]):tK im loc aD w r im (loc.set (amS aD) ⟨0,0,esz,0,0⟩) w where
 gH:= .refl _
 dV:=Loc.x5 _ (by have:=hk.fresh 0 (by simp [hn]);simpa using this)
 bH:=hk.bH
 eg:=fun _ _ h=> .inl h
 os:=rfl
 tape:=rfl
 output:=rfl
 size:=If _
 frame:=fun _ _ _=>rfl
 RE:=fun t k h=>by rw [hw] at h;cases h
 wr:=fun t k li h=>by rw [hw] at h;cases h
 k9:=fun t l h=>by
  unfold Loc.set at h;split at h
  · rename_i e;subst e;exact .inr ⟨If _,by simp [hn]⟩
  exact .inl h
 news:=CI fun j k' h=>by
  rw [hn] at h;cases j with
  |zero=>
   simp at h;subst h;exact ⟨_,Loc.eX _ _ _,⟨rfl,rfl,fun ec=>absurd rfl ec⟩,fun hs=>by cases hs⟩
  |succ j=>simp at h
 distinct:=fun i j ki kj li lj h1 h2 _ _ _ _ _=>by
  rw [hn] at h1 h2;cases i<;>cases j<;>simp at h1 h2<;>rfl
theorem tK.write (hk:jn im loc aD w r) {t:Nat} {k k0:jW} {o:Obj} {w':World} {li:LI} (hn:r.news=[]) (hw:r.wr=[(t,k)])
 (hl:loc t=amT li) (h0:aD[t]? =amT k0) (hs:k0.bM=amV)
 (hh:w'.heap=w.heap.setIfInBounds li.dh o) (ho:w'.os=w.os) (ht:w'.tape=w.tape) (hp:w'.output=w.output)
 (hb:BR im loc w' li k):tK im loc aD w r im loc w' where
 gH:= .refl _
 dV:= .refl _
 bH:=fun b o' h=>by
  have h1:=hk.bH b o' h;have sC:=hk.free t k (by simp [hw]) li k0 hl h0 hs
  have ec:li.dh≠b:=fun e=>by rw [e,h] at sC;cases sC
  rw [hh,ae2,rc ec];exact h1
 eg:=fun _ _ h=> .inl h
 os:=ho
 tape:=ht
 output:=hp
 size:=by rw [hh];simp
 frame:=fun b _ h=>by
  have ec:=h t k li k0 (by simp [hw]) hl h0 hs
  rw [hh,ae2,rc ec]
 RE:=fun t' k' hm _=>by
  rw [hw] at hm;simp at hm;exact ⟨k0,by rw [hm.1];exact h0,hs⟩
 wr:=fun t' k' li' h h'=>by
  rw [hw] at h;simp at h;obtain ⟨rfl,rfl⟩:=h;rw [hl] at h';injection h' with h';subst h';exact hb
 k9:=fun _ _ h=> .inl h
 news:=fun j k li h=>by rw [hn] at h;simp at h
 distinct:=fun i j ki kj li lj h=>by rw [hn] at h;simp at h
end
end Go.Vm
/- Operation by operation, second part: addresses, reads, new blocks. -/
namespace Go.Vm
section
variable {P : Program} {im : Im} {loc : Loc} {aD : cL} {w : World}
theorem qX (b o n:Nat):(⟨b,o,amU⟩:Addr).add n=⟨b,o+n,amU⟩:=by
 unfold Addr.add;split
 · rename_i h;subst h;rfl
 rfl
theorem VR.y7 {t e r o:Nat} {v:Value} (h:VR im loc (.ptr t e r o) v):
 ∃li,loc t=amT li/\li.esz=e/\r<li.n/\v= .pointer (amT ⟨li.dh,li.sh+r*e+o,amU⟩):=by
 cases h with|ptr _ _ _ _ li h1 h2 h3=>exact ⟨li,h1,h2,h3,rfl⟩
theorem VR.x7 {cs:List PV} {off:Nat} {v:Value} (h:VR im loc (.bJ cs off) v):
 ∃b o vs,fh im loc cs vs/\(∀(j:Nat) (v:Value),vs[j]? =amT v->oc im b (o+j)=amT v)/\v= .pointer (amT ⟨b,o+off,amU⟩):=by
 cases h with|bJ _ _ b o vs h1 h2=>exact ⟨b,o,vs,h1,h2,rfl⟩
theorem kV {b o:Nat} {cs:Array Value} {el:TypeId} {fr:Nat×Nat} {v:Value} (h:w.heap[b]? =amT (.cells cs el fr)) (hc:cs[o]? =amT v):
 w.cell? ⟨b,o,amU⟩=amT v:=by simp [World.cell?,h,hc]
theorem qt (hk: ∀b o,im b=amT o->w.heap[b]? =amT o) {b o:Nat} {v:Value} (h:oc im b o=amT v):w.cell? ⟨b,o,amU⟩=amT v:=by
 unfold oc at h;cases hb:im b with
 |none=>rw [hb] at h;cases h
 |some x=>
  rw [hb] at h;cases x<;>first|exact kV (hk b _ hb) h|cases h
def aY (r:Row):List Value:=r.map fun c=>(jC c).getD Go.undef
theorem tL {get:Nat->Option Value} {sh esz:Nat} {rows:List Row} (h:bO get sh esz rows) {i:Nat} {r:Row} (hr:rows[i]? =amT r):
 fh im loc r (aY r)/\ ∀(j:Nat) (v:Value),(aY r)[j]? =amT v->get (sh+i*esz+j)=amT v:=by
 obtain ⟨_,hc⟩:=h i r hr;constructor
 · refine fh.of _ _ (by simp [aY]) fun j x v hx hv=>?_
   obtain ⟨u,hu,_⟩:=hc j x hx;simp [aY,hx,hu] at hv;subst hv;exact VR.EY hu
 intro j v hv
 cases hx:r[j]? with
 |none=>simp [aY,hx] at hv
 |some x=>
  obtain ⟨u,hu,hg⟩:=hc j x hx;simp [aY,hx,hu] at hv;subst hv;exact hg
theorem K9 {agg:Option Nat} {t:TypeId} {p:PV} {u:Value} {r:nY} (hp:VR im loc p u) (ha:Bl P t agg=amV) (h:oY aD agg p=amT r)
 (hk:jn im loc aD w r): ∃v,(Instr.loadAt t u).run P w= .ok v w/\VR im loc r.v v/\r.news=[]/\r.wr=[]:=by
 unfold oY at h;split at h
 · rename_i tk e row off
   obtain ⟨li,hl,he,hn,rfl⟩:=hp.y7;split at h
   · rename_i e' rows hs
     split at h
     · rename_i cs mE
       rw [AC] at h;obtain ⟨x,hx,rfl⟩:=h;obtain ⟨k,gS,hb⟩:=hk.tok tk (.inl (by simp)) li hl
       rw [hs] at gS;injection gS with gS;subst gS;have ec:rows≠[]:=by intro e;subst e;simp at mE
       obtain ⟨h1,h2,h3⟩:=hb;obtain ⟨arr,el,tM,_,_,lB⟩:=h3 ec;obtain ⟨hv,hg⟩:=tL (im:=im) (loc:=loc) lB mE;have NW:e'=e:=by rw [<- h1,he]
       subst NW;obtain ⟨v,cy,oV⟩:=wk (P:=P) (w:=w) (b:=li.dh) (o:=li.sh+row*e') ha hv
        (fun j v hj=>kV tM (hg j v hj)) hx
       exact ⟨v,by simp only [Instr.loadAt,Instr.sureAddr,Do,EQ,ww,cy],oV,rfl,rfl⟩
     cases h
   · rename_i cs hs
     split at h
     · rename_i vw
       have vw:row=0:=by simpa using vw
       subst vw;rw [AC] at h;obtain ⟨x,hx,rfl⟩:=h;obtain ⟨k,gS,hb⟩:=hk.tok tk (.inl (by simp)) li hl
       rw [hs] at gS;injection gS with gS;subst gS;obtain ⟨h1,h2,h3,vs,el,h4,h5,h6⟩:=hb;obtain ⟨v,cy,oV⟩:=wk (P:=P) (w:=w) (b:=li.dh) (o:=li.sh+0*e) ha h6
        (fun j v hj=>kV h4 (by simpa [h3] using hj)) hx
       exact ⟨v,by simp only [Instr.loadAt,Instr.sureAddr,Do,EQ,ww,cy],oV,rfl,rfl⟩
     cases h
   cases h
 · rename_i cs off
   obtain ⟨b,o,vs,h1,h2,rfl⟩:=hp.x7;rw [AC] at h;obtain ⟨x,hx,rfl⟩:=h;obtain ⟨v,cy,oV⟩:=wk (P:=P) (w:=w) (b:=b) (o:=o) ha h1 (fun j v hj=>qt hk.bH (h2 j v hj)) hx
   exact ⟨v,by simp only [Instr.loadAt,Instr.sureAddr,Do,EQ,ww,cy],oV,rfl,rfl⟩
 cases h
theorem EZ {cs:List PV} {vs:List Value} {el:TypeId} {r:nY} (h:fh im loc cs vs) (hr:r={v:= .ptr (amS aD) (amS cs) 0 0,news:=[.box cs]}) (hk:jn im loc aD w r):
 ∃bn,VR im bn r.v (.pointer (amT ⟨w.heap.size,0,amU⟩))/\tK im loc aD w r im bn {w with heap:=w.heap.push (.cells ⟨vs⟩ el)}:=by
 subst hr
 let li:LI:=⟨w.heap.size,0,amS cs,1,amS vs⟩
 refine ⟨loc.set (amS aD) li,?_,?_⟩
 · have:=VR.ptr (im:=im) (loc:=loc.set (amS aD) li) (amS aD) (amS cs) 0 0 li (Loc.eX _ _ _) rfl (Nat.zero_lt_one)
   simpa [li] using this
 refine tK.new hk li rfl rfl rfl rfl rfl rfl rfl ⟨.inl ⟨rfl,rfl⟩,trivial,rfl,vs,el,?_,rfl,h.mono (.refl _) (Loc.x5 li (by have:=hk.fresh 0 (by simp);simpa using this))⟩
 simp [li]
theorem La {x y:PV} {u v:Value} {el:TypeId} {r:nY} (hx:VR im loc x u) (hy:VR im loc y v) (hr:r={v:= .own (amS aD) 1 0 2 2 amV,news:=[.box [x,y]]}) (hk:jn im loc aD w r):
 ∃bn,VR im bn r.v (.slice (amT ⟨w.heap.size,0,amU⟩) 2 2)/\tK im loc aD w r im bn {w with heap:=w.heap.push (.cells #[u,v] el)}:=by
 subst hr
 let li:LI:=⟨w.heap.size,0,1,2,2⟩
 refine ⟨loc.set (amS aD) li,?_,?_⟩
 · exact .own (amS aD) 1 0 2 2 amV li _ 2 (Loc.eX _ _ _) rfl (If _) (If _) (If _) (fun _=>rfl) (.inr ⟨by simp [li],by simp [li],by simp [li]⟩)
 refine tK.new hk li rfl rfl rfl rfl rfl rfl rfl ⟨.inr ⟨rfl,rfl⟩,trivial,rfl,[u,v],el,?_,rfl,(fh.cons _ _ _ _ hx (.cons _ _ _ _ hy .nil)).mono (.refl _) (Loc.x5 li (by have:=hk.fresh 0 (by simp);simpa using this))⟩
 simp [li]
theorem TA {off:Nat} {t:TypeId} {f:Nat} {fs:Array Field} {g:Field} {i:TypeInfo} {p z:PV} {u:Value} (hp:VR im loc p u)
 (hu:P.underlying t=amT (.struct fs)) (hf:fs[f]? =amT g) (ho:g.offset=off) (hi:P.info? g.type=amT i) (hz:i.size≠0)
 (h:(match (generalizing:=false) p with| .ptr t s r o=>some (PV.ptr t s r (o+off))| .bJ c o=>some (PV.bJ c (o+off))|_=>none)=some z):
 ∃v,(Instr.fieldAt t u f).run P w= .ok v w/\VR im loc z v:=by
 have qT:(sizeOf g.type).run P w= .ok i.size w:=by simp [sizeOf,typeInfo,hi]
 cases p with
 |ptr tk s r o=>
  injection h with h;subst h;obtain ⟨li,hl,he,hn,rfl⟩:=hp.y7;refine ⟨_,?_,.ptr tk s r (o+off) li hl he hn⟩;simp [Instr.fieldAt,run_underlying hu,hf,Instr.sureAddr,fieldPlace,qT,hz,qX,ho,afJ]
 |bJ cs o=>
  injection h with h;subst h;obtain ⟨b,o',vs,h1,h2,rfl⟩:=hp.x7;refine ⟨_,?_,.bJ cs (o+off) b o' vs h1 h2⟩;simp [Instr.fieldAt,run_underlying hu,hf,Instr.sureAddr,fieldPlace,qT,hz,qX,ho,afJ]
 |_=>cases h
theorem o6 {x:PV} {n:Nat} {u:Value} (hx:VR im loc x u) (h:jY x=amT n): ∃k,u= .int k (n:Int):=by
 unfold jY at h;split at h
 · rename_i k m
   obtain rfl:=hx.gu;split at h
   · rename_i m';injection h with h;subst h;exact ⟨k,rfl⟩
   cases h
 cases h
theorem RF {n esz j:Nat} {t e:TypeId} {p z:PV} {u:Value} {k:IntKind} (hp:VR im loc p u)
 (hu:P.underlying t=amT (.array n e)) (hs:oU P e esz=amV) (hj:j<n)
 (h:(match (generalizing:=false) p with| .ptr t s r o=>some (PV.ptr t s r (o+j*esz))| .bJ c o=>some (PV.bJ c (o+j*esz))|_=>none)=some z):
 ∃v,(Instr.indexAt t u (.int k j)).run P w= .ok v w/\VR im loc z v:=by
 have qT:=kL (P:=P) (w:=w) hs;cases p with
 |ptr tk s r o=>
  injection h with h;subst h;obtain ⟨li,hl,he,hn,rfl⟩:=hp.y7;refine ⟨_,?_,.ptr tk s r (o+j*esz) li hl he hn⟩;simp [Instr.indexAt,asIntOf,run_underlying hu,Instr.sureAddr,qT,qX,afJ];intro h;omega
 |bJ cs o=>
  injection h with h;subst h;obtain ⟨b,o',vs,h1,h2,rfl⟩:=hp.x7;refine ⟨_,?_,.bJ cs (o+j*esz) b o' vs h1 h2⟩;simp [Instr.indexAt,asIntOf,run_underlying hu,Instr.sureAddr,qT,qX,afJ];intro h;omega
 |_=>cases h
theorem VR.oe {esz:Nat} {qU:Bool} {rows:List Row} {v:Value} (h:VR im loc (.sl esz qU rows) v):
 ∃a cap,v= .slice a (amS rows) cap/\amS rows<=cap/\(qU=amV->cap=amS rows)/\(rows≠[]-> ∃b o,a=amT ⟨b,o,amU⟩/\bO (oc im b) o esz rows):=by
 cases h with|sl _ _ _ a cap hc hk h=>exact ⟨a,cap,rfl,hc,hk,h⟩
theorem VR.gV {t esz off len cap:Nat} {ex:Bool} {v:Value} (h:VR im loc (.own t esz off len cap ex) v):
 ∃li a c7,v= .slice a len c7/\loc t=amT li/\li.esz=esz/\off+cap<=li.n/\len<=cap/\cap<=c7/\(ex=amV->c7=cap)/\
  (c7=0\/(li.n≠0/\a=amT ⟨li.dh,li.sh+off*esz,amU⟩/\li.sh+(off+c7)*esz<=li.sz)):=by
 cases h with|own _ _ _ _ _ _ li a c7 h1 h2 h3 h4 h5 h6 h7=>exact ⟨li,a,c7,rfl,h1,h2,h3,h4,h5,h6,h7⟩
theorem run_indexAt_slice {t e:TypeId} {esz j len cap b o:Nat} {k:IntKind} (hu:P.underlying t=amT (.slice e)) (hs:oU P e esz=amV) (hj:j<len):
 (Instr.indexAt t (.slice (amT ⟨b,o,amU⟩) len cap) (.int k j)).run P w= .ok (.pointer (amT ⟨b,o+j*esz,amU⟩)) w:=by
 have qT:=kL (P:=P) (w:=w) hs;have dM: ¬(len<=j):=by omega
 simp [Instr.indexAt,asIntOf,run_underlying hu,qT,qX];intro h;exact absurd h dM
theorem TB {esz n:Nat} {t e:TypeId} {x z:PV} {u:Value} {k:IntKind} (hx:VR im loc x u)
 (hu:P.underlying t=amT (.slice e)) (hs:oU P e esz=amV)
 (h:(match (generalizing:=false) x with
  | .sl s _ rows=>match rows[n]? with
   |some cs=>if F0s s esz then amT (PV.bJ cs 0) else amU
   |none=>amU
  | .own t s off len _ _=>if afW n len&&F0s s esz then amT (PV.ptr t s (off+n) 0) else amU
  |_=>amU)=amT z):
 ∃v,(Instr.indexAt t u (.int k n)).run P w= .ok v w/\VR im loc z v:=by
 cases x with
 |sl s qU rows=>
  dsimp only at h;cases mE:rows[n]? with
  |none=>rw [mE] at h;cases h
  |some cs=>
   rw [mE] at h;dsimp only at h;split at h
   · rename_i W8
     have W8:s=esz:=by simpa using W8
     subst W8;injection h with h;subst h;obtain ⟨a,cap,rfl,_,_,hr⟩:=hx.oe;have ec:rows≠[]:=by intro e;subst e;simp at mE
     obtain ⟨b,o,rfl,lB⟩:=hr ec;have hn:n<(amS rows):=by
      rcases acl n (amS rows) with h|h
      · exact h
      rw [M2 h] at mE;cases mE
     refine ⟨_,run_indexAt_slice hu hs hn,?_⟩;obtain ⟨hv,hg⟩:=tL (im:=im) (loc:=loc) lB mE
     have:=VR.bJ (im:=im) (loc:=loc) cs 0 b (o+n*s) (aY cs) hv hg
     simpa using this
   cases h
 |own tk s off len cap ex=>
  dsimp only at h;split at h
  · rename_i hc
    simp only [ut] at hc;have hn:n<len:=by simpa using hc.1
    have W8:s=esz:=by simpa using hc.2
    subst W8;injection h with h;subst h;obtain ⟨li,a,c7,rfl,hl,he,CJ,cY,Ho,_,hd⟩:=hx.gV;rcases hd with hd|⟨ec,rfl,_⟩
    · omega
    refine ⟨_,run_indexAt_slice hu hs hn,?_⟩
    have:=VR.ptr (im:=im) (loc:=loc) tk s (off+n) 0 li hl he (by omega)
    rw [show li.sh+(off+n)*s+0=li.sh+off*s+n*s by rw [PP];omega] at this
    exact this
  cases h
 |_=>cases h
theorem run_sliceBound {x k:Nat} {kd:IntKind} {code:BoundsCode} (h:x<=k):(Instr.sliceBound (.int kd x) k code).run P w= .ok x w:=by
 have:(0:Int)<=(x:Int)/\(x:Int)<=(k:Int):=by omega
 simp [Instr.sliceBound,asIntOf,this]
def Aw (v:Option Value) (n:Option Nat):Prop:=
 match v,n with
 |none,amU=>True
 |some v,amT n=> ∃k,v= .int k (n:Int)
 |_,_=>False
theorem mO {len cap:Nat} {lo hi mx:Option Nat} {vl vh vm:Option Value} (h1:Aw vl lo) (h2:Aw vh hi) (h3:Aw vm mx)
 (hm:mx.isSome=amV->hi.isSome=amV) (ly:lo.getD 0<=hi.getD len) (hhm:hi.isSome=amV->hi.getD len<=mx.getD cap) (hmc:mx.getD cap<=cap):
 (Instr.sliceBounds amV len cap vl vh vm).run P w= .ok (lo.getD 0,hi.getD len,mx.getD cap) w:=by
 cases mx with
 |none=>
  cases vm with
  |some v=>exact h3.elim
  |none=>
   cases hi with
   |none=>
    cases vh with
    |some v=>exact h2.elim
    |none=>
     cases lo with
     |none=>
      cases vl with
      |some v=>exact h1.elim
      |none=>simp [Instr.sliceBounds]
     |some l=>
      cases vl with
      |none=>exact h1.elim
      |some v=>
       obtain ⟨k,rfl⟩:=h1;simp only [ae4,afY] at ly;simp [Instr.sliceBounds,run_sliceBound ly]
   |some hh=>
    cases vh with
    |none=>exact h2.elim
    |some v=>
     obtain ⟨k,rfl⟩:=h2;simp only [ae4,afY,amo,true_implies] at ly hhm;cases lo with
     |none=>
      cases vl with
      |some v=>exact h1.elim
      |none=>simp [Instr.sliceBounds,run_sliceBound hhm]
     |some l=>
      cases vl with
      |none=>exact h1.elim
      |some v=>
       obtain ⟨k,rfl⟩:=h1;simp only [ae4] at ly;simp [Instr.sliceBounds,run_sliceBound hhm,run_sliceBound ly]
 |some m=>
  cases vm with
  |none=>exact h3.elim
  |some v=>
   obtain ⟨k,rfl⟩:=h3;cases hi with
   |none=>simp at hm
   |some hh=>
    cases vh with
    |none=>exact h2.elim
    |some v=>
     obtain ⟨k,rfl⟩:=h2;simp only [ae4,amo,true_implies] at ly hhm hmc;cases lo with
     |none=>
      cases vl with
      |some v=>exact h1.elim
      |none=>simp [Instr.sliceBounds,run_sliceBound hhm,run_sliceBound hmc]
     |some l=>
      cases vl with
      |none=>exact h1.elim
      |some v=>
       obtain ⟨k,rfl⟩:=h1;simp only [ae4] at ly;simp [Instr.sliceBounds,run_sliceBound hhm,run_sliceBound ly,run_sliceBound hmc]
end
end Go.Vm
/- Operation by operation, third part: stores, aggregates. -/
namespace Go.Vm
def mP {α:Type} (off:Nat) (new old:List α):List α:=old.take off++new++old.drop (off+amS new)
theorem gW {α:Type} (off:Nat) (new old:List α) (h:off+amS new<=amS old) (j:Nat):
 (mP off new old)[j]? =if off<=j/\j<off+(amS new) then new[j-off]? else old[j]?:=by
 unfold mP;have hl:(old.take off).length=off:=by simp;omega
 by_cases h1:j<off
 · rw [rc (by omega),amw,adc (by omega),afI h1]
 by_cases h2:j<off+amS new
 · rw [pp ⟨by omega,h2⟩,amw,WF (by omega),hl,adc (by omega)]
 rw [rc (by omega),WF (by simp;omega),agl]
 congr 1
 simp;omega
theorem c8 {α:Type} (off:Nat) (new old:List α) (h:off+amS new<=amS old):(mP off new old).length=(amS old):=by
 unfold mP;simp;omega
theorem fh.mP {im:Im} {loc:Loc} {off:Nat} {xs ys:List PV} {vs us:List Value} (h:fh im loc xs vs) (k:fh im loc ys us):
 fh im loc (Vm.mP off xs ys) (Vm.mP off vs us):=by
 unfold Vm.mP;rw [<- h.m9];exact ((k.take off).append h).append (k.drop _)
theorem fh.HW {im:Im} {loc:Loc}: ∀{xs:List PV} {vs:List Value},fh im loc xs vs->(∀c∈xs,c.plain=amV)->
 ∀(j:Nat) (c:PV),xs[j]? =amT c-> ∃v,jC c=amT v/\vs[j]? =amT v:=by
 intro xs vs h hp j c hc;obtain ⟨v,hv,hr⟩:=h.get j c hc;exact ⟨v,hr.plain (hp c (afZ hc)),hv⟩
theorem RG {i row esz j off n sh:Nat} (ec:i≠row) (hj:j<esz) (hn:off+n<=esz):
 ¬(sh+row*esz+off<=sh+i*esz+j/\sh+i*esz+j<sh+row*esz+off+n):=by
 rcases Nat.lt_or_gt_of_ne ec with h|h
 · have:=UV esz (show i+1<=row from h)
   rw [PP] at this;omega
 have:=UV esz (show row+1<=i from h)
 rw [PP] at this;omega
theorem bO.store {get get':Nat->Option Value} {sh esz row off:Nat} {rows:List Row} {cs ws:List PV} {vs:List Value}
 (h:bO get sh esz rows) (hr:rows[row]? =amT cs) (ly:off+amS ws<=amS cs)
 (hw: ∀(j:Nat) (c:PV),ws[j]? =amT c-> ∃v,jC c=amT v/\vs[j]? =amT v) (hl:(amS vs)=amS ws)
 (hg: ∀k,get' k=if sh+row*esz+off<=k/\k<sh+row*esz+off+(amS vs) then vs[k- (sh+row*esz+off)]? else get k):
 bO get' sh esz (rows.set row (mP off ws cs)):=by
 intro i r hi;rw [List.getElem?_set] at hi;have vw:row<(amS rows):=by
  rcases acl row (amS rows) with h|h
  · exact h
  rw [M2 h] at hr;cases hr
 obtain ⟨Bg,NX⟩:=h row cs hr;split at hi
 · rename_i e
   subst e;injection hi with hi;subst hi;refine ⟨by rw [c8 _ _ _ ly];exact Bg,fun j c hc=>?_⟩
   rw [gW _ _ _ ly] at hc;rw [hg];split at hc
   · rename_i hj
     obtain ⟨v,hv,NY⟩:=hw _ _ hc;refine ⟨v,hv,?_⟩;rw [pp ⟨by omega,by omega⟩,<- NY]
     congr 1
     omega
   rename_i hj
   obtain ⟨v,hv,NY⟩:=NX j c hc;refine ⟨v,hv,?_⟩;rw [rc (by omega)]
   exact NY
 rename_i ec
 obtain ⟨Lb,hrc⟩:=h i r hi;refine ⟨Lb,fun j c hc=>?_⟩
 obtain ⟨v,hv,NY⟩:=hrc j c hc;refine ⟨v,hv,?_⟩;have hj:j<esz:=by
  rcases acl j (amS r) with h|h
  · omega
  rw [M2 h] at hc;cases hc
 rw [hg,rc (RG (fun e=>ec e.symm) hj (by omega))]
 exact NY
section
variable {P : Program} {im : Im} {loc : Loc} {aD : cL} {fz : List Nat} {w : World}
theorem bV {g:Nat} {cur cs:Array Value} {t:TypeId} (hg:w.heap[g]? =amT (.cells cur t (0,0))):
 (w.setRow g cs).heap=w.heap.setIfInBounds g (.cells cs t (0,0)):=by
 have dM:g<w.heap.size:=(IR.1 hg).1;have hv:w.heap[g]= .cells cur t (0,0):=(IR.1 hg).2;unfold World.setRow;apply Array.ext
 · simp
 intro k h1 h2
 rw [Array.getElem_setIfInBounds];simp only [Array.getElem_modify];split
 · rename_i hk;subst hk;simp [hv]
 rfl
theorem Lc {v:Value} (h:(∀us,v≠ .agg us)/\ ∀us,v≠ .tuple us):v.oneCell'=amV:=by
 cases v<;>first|rfl|exact absurd rfl (h.1 _)|exact absurd rfl (h.2 _)
theorem fh.one: ∀{xs:List PV} {vs:List Value},fh im loc xs vs->(∀c∈xs,c.qj=amV)-> ∀v∈vs,v.oneCell'=amV
 |_,_,.nil,_,_,hv=>by cases hv
 |_,_,.cons x u xs vs h hs,ho,v,hv=>by
  cases hv with
  |head=>exact Lc (h.Jg (ho x (by simp)))
  |tail _ hm=>exact fh.one hs (fun c hc=>ho c (by simp [hc])) v hm
theorem x8 {c:PV} (h:c.plain=amV):c.qj=amV:=by cases c<;>first|rfl|cases h
theorem Ax {v:PV} {ws:List PV} (h:v.stored=amT ws):ws=v.cells/\ ∀c∈v.cells,c.qj=amV:=by
 unfold PV.stored at h;split at h
 · rename_i ha;injection h with h;exact ⟨h.symm,by simpa using ha⟩
 cases h
theorem mQ {v:PV} {ws:List PV} (h:v.cM=amT ws):ws=v.cells/\ ∀c∈v.cells,c.plain=amV:=by
 unfold PV.cM at h;split at h
 · rename_i ha;injection h with h;exact ⟨h.symm,by simpa using ha⟩
 cases h
theorem DH {t el:TypeId} {sz b o:Nat} {x:Value} {cur:Array Value} (hs:oU P t sz=amV) (hb:w.heap[b]? =amT (.cells cur el (0,0)))
 (hx:x.cells.size=sz) (ly:o+sz<=cur.size) (h1: ∀v∈x.cells.toList,v.oneCell'=amV):
 (Instr.storeAt t (.pointer (amT ⟨b,o,amU⟩)) x).run P w= .ok () (w.setRow b (mP o x.cells.toList cur.toList).toArray):=by
 have:=run_storeCells_at P b o el x.cells.toList 0 cur w hb (by simp;omega) h1
 simp only [Instr.storeAt,Instr.sureAddr,Do,EQ,ww,storeVar,kL hs,hx,ne_eq,not_true_eq_false,if_false];simpa [mP] using this
theorem RH {t:TypeId} {sz:Nat} {p v:PV} {u x:Value} {r:nY} (hp:VR im loc p u) (hv:VR im loc v x) (hs:oU P t sz=amV)
 (h:sy aD fz sz v p=amT r) (hk:jn im loc aD w r):
 ∃w',(Instr.storeAt t u x).run P w= .ok () w'/\tK im loc aD w r im loc w'/\r.v= .undef:=by
 unfold sy at h;cases p with
 |ptr tk e row off=>
  dsimp only at h;obtain ⟨li,hl,he,hn,rfl⟩:=hp.y7;cases qu:aD[tk]? with
  |none=>rw [qu] at h;cases h
  |some dh=>
   rw [qu] at h;cases dh with
   |arr e' rows=>
    dsimp only at h;cases mE:rows[row]? with
    |none=>rw [mE] at h;cases h
    |some cs=>
     cases hw:v.cM with
     |none=>rw [mE,hw] at h;cases h
     |some ws=>
      rw [mE,hw] at h;dsimp only at h;split at h
      · rename_i hc
        simp only [ut,af4,afB] at hc;obtain ⟨⟨cY,ly⟩,Tl⟩:=hc;obtain ⟨rfl,NZ⟩:=mQ hw;injection h with h;subst h;obtain ⟨k,gS,hb⟩:=hk.tok tk (.inr ⟨_,ae3.2 rfl⟩) li hl;rw [qu] at gS;injection gS with gS;subst gS;have ec:rows≠[]:=by intro e;subst e;simp at mE
        obtain ⟨h1,h2,h3⟩:=hb;obtain ⟨arr,el,tM,Ji,KS,lB⟩:=h3 ec;have NW:e'=e:=by rw [<- h1,he]
        subst NW;have Bg:(amS cs)=e':=(lB row cs mE).1;have PZ:=hv.cells (fun c hc=>x8 (NZ c hc))
        have RI:x.cells.size=sz:=by have:=PZ.m9;simp only [afg] at this;omega
        have Lb:row<(amS rows):=by
         rcases acl row (amS rows) with h|h
         · exact h
         rw [M2 h] at mE;cases mE
        have Hq:=UV e' (show row+1<=(amS rows) from Lb);rw [PP] at Hq;have qY:li.sh+row*e'+off+sz<=arr.size:=by omega
        have cy:=DH (P:=P) (w:=w) (t:=t) (b:=li.dh) (o:=li.sh+row*e'+off) hs tM RI qY (PZ.one (fun c hc=>x8 (NZ c hc)))
        refine ⟨_,cy,?_,rfl⟩;refine tK.write hk (t:=tk) (k0:= .arr e' rows) (li:=li) rfl rfl hl qu (by cases rows with|nil=>exact absurd rfl ec|cons _ _=>rfl) (bV tM) rfl rfl rfl ?_
        refine ⟨h1,by simpa using h2,fun _=>⟨(mP (li.sh+row*e'+off) x.cells.toList arr.toList).toArray,el,?_,?_,by simpa using KS,?_⟩⟩
        · rw [bV tM]
          have dM:=(IR.1 tM).1;simp [dM]
        · rw [<- Ji]
          simp only [afy];rw [c8 _ _ _ (by simp;omega)];simp
        refine lB.store mE (by omega) (PZ.HW NZ) PZ.m9.symm (fun k=>?_)
        simp only [af5];rw [gW _ _ _ (by simp;omega)]
        simp
      cases h
   |box cs=>
    dsimp only at h;cases hw:v.stored with
    |none=>rw [hw] at h;cases h
    |some ws=>
     rw [hw] at h;dsimp only at h;split at h
     · rename_i hc
       simp only [ut,af4,afB] at hc;obtain ⟨⟨⟨vw,cY⟩,ly⟩,Tl⟩:=hc;subst vw;obtain ⟨rfl,Bo⟩:=Ax hw;injection h with h;subst h;obtain ⟨k,gS,hb⟩:=hk.tok tk (.inr ⟨_,ae3.2 rfl⟩) li hl;rw [qu] at gS;injection gS with gS;subst gS;obtain ⟨h1,h2,h3,vs,el,h4,h5,h6⟩:=hb;have PZ:=hv.cells Bo
       have RI:x.cells.size=sz:=by have:=PZ.m9;simp only [afg] at this;omega
       have hcv:=h6.m9;have cy:=DH (P:=P) (w:=w) (t:=t) (b:=li.dh) (o:=li.sh+0*e+off) hs h4 RI (by simp [h3];omega) (PZ.one Bo)
       refine ⟨_,cy,?_,rfl⟩;refine tK.write hk (t:=tk) (k0:= .box cs) (li:=li) rfl rfl hl qu rfl (bV h4) rfl rfl rfl ?_;refine ⟨by rw [show (nX off v.cells cs).length=(amS cs) by have:=c8 off v.cells cs (by omega);unfold mP at this;simpa [nX] using this];exact h1,h2,h3,mP off x.cells.toList vs,el,?_,?_,?_⟩
       · rw [bV h4]
         have dM:=(IR.1 h4).1;simp [dM,h3]
       · rw [c8 _ _ _ (by simp;omega)];exact h5
       exact fh.mP PZ h6
     cases h
   |_=>cases h
 |_=>cases h
end
end Go.Vm
/- Operation by operation, fourth part: aggregates, rows, slices. -/
namespace Go.Vm
theorem bO.tail {get:Nat->Option Value} {sh esz:Nat} {r:Row} {rs:List Row} (h:bO get sh esz (r::rs)):bO get (sh+esz) esz rs:=by
 intro i x hx;obtain ⟨h1,h2⟩:=h (i+1) x (by simpa using hx)
 refine ⟨h1,fun j c hc=>?_⟩
 obtain ⟨v,hv,hg⟩:=h2 j c hc;refine ⟨v,hv,?_⟩;rw [<- hg];congr 1;rw [PP];omega
theorem bO.drop {get:Nat->Option Value} {sh esz:Nat} {rows:List Row} (h:bO get sh esz rows) (n:Nat):bO get (sh+n*esz) esz (rows.drop n):=by
 intro i x hx;rw [agl] at hx;obtain ⟨h1,h2⟩:=h (n+i) x hx;refine ⟨h1,fun j c hc=>?_⟩
 obtain ⟨v,hv,hg⟩:=h2 j c hc;refine ⟨v,hv,?_⟩;rw [<- hg];congr 1;rw [PP];omega
theorem bO.take {get:Nat->Option Value} {sh esz:Nat} {rows:List Row} (h:bO get sh esz rows) (n:Nat):bO get sh esz (rows.take n):=by
 intro i x hx;have hi:i<n:=by
  rcases acl i n with h|h
  · exact h
  rw [M2 (by simp;omega)] at hx;cases hx
 rw [afI hi] at hx;exact h i x hx
theorem bO.append {get:Nat->Option Value} {sh esz:Nat} {xs ys:List Row} (h:bO get sh esz xs) (k:bO get (sh+amS xs*esz) esz ys):bO get sh esz (xs++ys):=by
 intro i r hr;rcases acl i (amS xs) with hi|hi
 · rw [adc hi] at hr;exact h i r hr
 rw [WF hi] at hr
 obtain ⟨h1,h2⟩:=k _ r hr;refine ⟨h1,fun j c hc=>?_⟩
 obtain ⟨v,hv,hg⟩:=h2 j c hc;refine ⟨v,hv,?_⟩;rw [<- hg];congr 1
 have:i*esz=amS xs*esz+(i-(amS xs))*esz:=by rw [<- PP];congr 1;omega
 omega
theorem bO.og {get:Nat->Option Value} {sh esz:Nat} {rows:List Row} (h:bO get sh esz rows): ∀r∈rows,amS r=esz:=by
 intro r hr;obtain ⟨i,hi,rfl⟩:=agd.1 hr;exact (h i _ (NE hi)).1
theorem lC (r:Row):(aY r).length=(amS r):=by simp [aY]
theorem dH {esz:Nat}: ∀{rows:List Row},(∀r∈rows,amS r=esz)->(rows.flatMap aY).length=amS rows*esz
 | [],_=>by simp
 |r::rs,h=>by
  have ih:=dH (esz:=esz) (rows:=rs) (fun x hx=>h x (by simp [hx]))
  simp only [afb,afx,ih,lC,h r (by simp),afj,PP]
  omega
theorem bO.flat {get:Nat->Option Value} {esz:Nat}: ∀{rows:List Row} {sh:Nat},bO get sh esz rows-> ∀(j:Nat) (v:Value),(rows.flatMap aY)[j]? =amT v->get (sh+j)=amT v
 | [],_,_,j,v,h=>by simp at h
 |r::rs,sh,hr,j,v,h=>by
  rw [afb] at h;have hl:(aY r).length=esz:=by rw [lC];exact hr.og r (by simp)
  rcases acl j esz with hj|hj
  · rw [adc (by omega)] at h
    have:=(tL (im:=fun _=>amU) (loc:=fun _=>amU) hr (i:=0) rfl).2 j v h
    simpa using this
  rw [WF (by omega),hl] at h
  have:=bO.flat hr.tail (j-esz) v h
  rw [show sh+esz+(j-esz)=sh+j by omega] at this
  exact this
theorem bO.Ay {esz:Nat}: ∀{rows:List Row} {get:Nat->Option Value} {sh:Nat},(∀r∈rows,amS r=esz)->(∀r∈rows,∀c∈r,c.plain=amV)->
 (∀(j:Nat) (v:Value),(rows.flatMap aY)[j]? =amT v->get (sh+j)=amT v)->bO get sh esz rows
 | [],_,_,_,_,_=>by intro i r h;simp at h
 |r::rs,get,sh,hl,hp,hg=>by
  have Lb:(aY r).length=esz:=by rw [lC];exact hl r (by simp)
  have h1:bO get sh esz [r]:=by
   intro i x hx;cases i with
   |succ i=>simp at hx
   |zero=>
    simp at hx;subst hx;refine ⟨hl r (by simp),fun j c hc=>?_⟩
    have hcp:=hp r (by simp) c (afZ hc)
    obtain ⟨v,hv⟩: ∃v,jC c=amT v:=by cases c<;>first|exact ⟨_,rfl⟩|cases hcp
    refine ⟨v,hv,?_⟩;have hj:j<esz:=by
     rcases acl j (amS r) with h|h
     · have:=hl r (by simp);omega
     rw [M2 h] at hc;cases hc
    have:=hg j v (by
     rw [afb,adc (by omega)]
     simp [aY,hc,hv])
    simpa using this
  have h2:bO get (sh+esz) esz rs:=bO.Ay (fun x hx=>hl x (by simp [hx])) (fun x hx=>hp x (by simp [hx])) (fun j v hj=>by
   have:=hg (esz+j) v (by
    rw [afb,WF (by omega),Lb,show esz+j-esz=j by omega];exact hj)
   rwa [<- afJ] at this)
  have:=h1.append (ys:=rs) (by simpa using h2)
  simpa using this
theorem bO.plain {get:Nat->Option Value} {sh esz:Nat} {rows:List Row} (h:bO get sh esz rows): ∀r∈rows,∀c∈r,c.plain=amV:=by
 intro r hr c hc;obtain ⟨i,hi,rfl⟩:=agd.1 hr;obtain ⟨j,hj,rfl⟩:=agd.1 hc;obtain ⟨v,hv,_⟩:=(h i _ (NE hi)).2 j _ (NE hj);cases hh:rows[i][j]<;>rw [hh] at hv<;>first|rfl|cases hv
theorem oh {rows:List Row} (hp: ∀r∈rows,∀c∈r,c.plain=amV): ∀u∈rows.flatMap aY,u.oneCell'=amV:=by
 intro u hu;obtain ⟨r,hr,hu⟩:=List.mem_flatMap.1 hu;obtain ⟨c,hc,rfl⟩:=List.mem_map.1 hu
 have:=hp r hr c hc
 cases c<;>first|rfl|cases this
section
variable {P : Program} {im : Im} {loc : Loc} {aD : cL} {fz : List Nat} {w : World}
theorem CK {esz:Nat} {y:PV} {u:Value} {new:List Row} {tx e':TypeId} (hy:VR im loc y u) (hr:rowsOf aD esz y=amT new) (hx:P.underlying tx=amT (.slice e'))
 (bH: ∀b o,im b=amT o->w.heap[b]? =amT o) (tok: ∀t,t∈iQ y-> ∀li,loc t=amT li-> ∃k,aD[t]? =amT k/\BR im loc w li k):
 Src P esz tx u (amS new) (new.flatMap aY) w/\(∀r∈new,amS r=esz)/\(∀r∈new,∀c∈r,c.plain=amV):=by
 unfold rowsOf at hr;cases y with
 |sl e qU rows=>
  obtain ⟨a,cap,rfl,_,_,lB⟩:=hy.oe;cases rows with
  |nil=>
   simp at hr;subst hr;refine ⟨?_,by simp,by simp⟩
   cases a with
   |none=>exact Src.ofNil w hx cap
   |some a=>exact Src.ofSlice w hx a 0 cap [] (by simp) (by simp) (by simp)
  |cons r rs=>
   dsimp only at hr;split at hr
   · rename_i he
     have he:e=esz:=by simpa using he
     subst he;injection hr with hr;subst hr;obtain ⟨b,o,rfl,de⟩:=lB (by simp)
     refine ⟨Src.ofSlice w hx ⟨b,o,amU⟩ _ cap _ (dH de.og) (fun j v hj=>?_) (oh de.plain),de.og,de.plain⟩
     rw [qX];exact qt bH (de.flat j v hj)
   cases hr
 |own t e off len cap ex=>
  dsimp only at hr;split at hr
  · rename_i he
    have he:e=esz:=by simpa using he
    subst he;obtain ⟨li,a,c7,rfl,hl,h2,h3,h4,h5,h6,h7⟩:=hy.gV;obtain ⟨k,gS,hb⟩:=tok t (by simp [iQ]) li hl
    rw [gS] at hr;cases k with
    |arr e' rows=>
     simp only [v6] at hr;subst hr;obtain ⟨b1,b2,b3⟩:=hb;have cY:((rows.drop off).take len).length=len:=by simp;omega
     have NW:e'=e:=by rw [<- b1,h2]
     subst NW;cases rows with
     |nil=>
      have:len=0:=by simp at b2;omega
      subst this;refine ⟨?_,by simp,by simp⟩
      simp;cases a with
      |none=>exact Src.ofNil w hx c7
      |some a=>exact Src.ofSlice w hx a 0 c7 [] (by simp) (by simp) (by simp)
     |cons r rs=>
      obtain ⟨arr,el,tM,Ji,KS,de⟩:=b3 (by simp)
      have wm:=(de.drop off).take len;rcases h7 with h7|⟨h7,rfl,h9⟩
      · have:len=0:=by omega
        subst this;refine ⟨?_,by simp,by simp⟩
        simp;cases a with
        |none=>exact Src.ofNil w hx c7
        |some a=>exact Src.ofSlice w hx a 0 c7 [] (by simp) (by simp) (by simp)
      rw [cY]
      refine ⟨Src.ofSlice w hx ⟨li.dh,li.sh+off*e',amU⟩ len c7 _ (by rw [dH wm.og,cY]) (fun j v hj=>?_) (oh wm.plain),wm.og,wm.plain⟩
      rw [qX];exact kV tM (wm.flat j v hj)
    |_=>cases hr
  cases hr
 |_=>cases hr
end
end Go.Vm
/- Operation by operation, fifth part: append. -/
namespace Go.Vm
theorem x9: ∀(new:List Row) (i:Nat) (rows:List Row),i+amS new<=amS rows->la i new rows=mP i new rows
 | [],i,rows,h=>by simp [la,mP]
 |r::rs,i,rows,h=>by
  simp only [afj] at h;rw [la,x9 rs (i+1) (rows.set i r) (by simp;omega)]
  apply agy;intro j;rw [gW _ _ _ (by simp;omega),gW _ _ _ (by simp;omega)]
  simp only [afj]
  by_cases h1:i+1<=j/\j<i+1+amS rs
  · rw [pp h1,pp ⟨by omega,by omega⟩]
    obtain ⟨k,hk⟩: ∃k,j-i=k+1:=⟨j-i-1,by omega⟩
    rw [hk,show j- (i+1)=k by omega];simp
  rw [rc h1]
  by_cases h2:j=i
  · subst h2
    rw [pp ⟨If _,by omega⟩,alt (by omega)]
    simp
  rw [rc (by omega),am5 (by omega)]
theorem bO.mP {get get':Nat->Option Value} {sh esz i:Nat} {new rows:List Row} (h:bO get sh esz rows) (ly:i+amS new<=amS rows)
 (hl: ∀r∈new,amS r=esz) (hp: ∀r∈new,∀c∈r,c.plain=amV)
 (hg: ∀k,get' k=if sh+i*esz<=k/\k<sh+i*esz+amS new*esz then (new.flatMap aY)[k- (sh+i*esz)]? else get k):
 bO get' sh esz (mP i new rows):=by
 have TC:=dH hl;have old: ∀k r,rows[k]? =amT r->(k<i\/i+amS new<=k)->amS r=esz/\ ∀(j:Nat) (c:PV),r[j]? =amT c-> ∃v,jC c=amT v/\get' (sh+k*esz+j)=amT v:=by
  intro k r hk W9;obtain ⟨h1,h2⟩:=h k r hk;refine ⟨h1,fun j c hc=>?_⟩
  obtain ⟨v,hv,NY⟩:=h2 j c hc;refine ⟨v,hv,?_⟩;have hj:j<esz:=by
   rcases acl j (amS r) with h|h
   · omega
   rw [M2 h] at hc;cases hc
  rw [hg,rc]
  · exact NY
  rcases W9 with W9|W9
  · have:=UV esz (show k+1<=i from W9)
    rw [PP] at this;omega
  have:=UV esz W9
  rw [PP] at this;omega
 have Bp:bO get' (sh+i*esz) esz new:=bO.Ay hl hp fun j v hj=>by
  have N0:j<amS new*esz:=by
   rcases acl j (amS new*esz) with h|h
   · exact h
   rw [M2 (by omega)] at hj;cases hj
  rw [hg,pp ⟨by omega,by omega⟩,<- hj];congr 1;omega
 intro k r hk;rw [gW _ _ _ ly] at hk;split at hk
 · rename_i hc
   obtain ⟨h1,h2⟩:=Bp _ r hk;refine ⟨h1,fun j c CL=>?_⟩
   obtain ⟨v,hv,NY⟩:=h2 j c CL;refine ⟨v,hv,?_⟩;rw [<- NY];congr 1
   have:k*esz=i*esz+(k-i)*esz:=by rw [<- PP];congr 1;omega
   omega
 rename_i hc
 exact old k r hk (by omega)
theorem grownCap_ge (w:World) (N1 old:Nat) (e:TypeId):N1<=grownCap w N1 old e:=by
 unfold grownCap;simp [Question.cut]
theorem TD {N1 old bytes:Nat} (h:old<N1) (hn:N1<=1048576) (hb:bytes<=1048576):Builtin.nextslicecap N1 old*bytes<=281474976710656:=by
 have h1:=nextslicecap_le h;have h2:Builtin.nextslicecap N1 old<=2097152:=by omega
 have:=amI h2 hb
 omega
theorem ya (z:Array Value) (n:Nat):(Builtin.zeroCells z n).size=n*z.size:=by simp [Builtin.zeroCells]
section
variable {P : Program} {im : Im} {loc : Loc} {aD : cL} {fz : List Nat} {w : World}
theorem jt (t tx ty e:TypeId) (i:TypeInfo) (ht:P.underlying t=amT (.slice e)) (hi:P.info? e=amT i) (b off uM sCap:Nat) (x:Value) (n:Nat) (news:List Value) (hs:Src P i.size tx x n news w)
 (tN:uM+n<=sCap) {cur:Array Value} {el:TypeId} (hb:w.heap[b]? =amT (.cells cur el (0,0))) (ly:off+uM*i.size+amS news<=cur.size):
 (Builtin.append_ #[t,tx] ty #[.slice (amT ⟨b,off,amU⟩) uM sCap,x]).run P w=
  .ok (.slice (amT ⟨b,off,amU⟩) (uM+n) sCap) (w.setRow b (mP (off+uM*i.size) news cur.toList).toArray):=by
 have cq:=run_storeCells_at P b (off+uM*i.size) el news 0 cur w hb (by simpa using ly) hs.one
 simp only [amP] at cq;rcases hs.kind with ⟨e',hk⟩|hk<;>simp [Builtin.append_,run_underlying ht,run_underlying hk,sizeOf,typeInfo,hi,hs.len,tN,hs.cells,Addr.add_lit,cq,mP]
theorem CN {esz:Nat} {olds new:List Row} {rest:Array Value} {el:TypeId} {r:nY} {w':World} {nc:Nat} (hr:r.v= .own (amS aD) esz 0 (amS olds+amS new) (amS olds+amS new) amW)
 (hn:r.news=[.arr esz (olds++new)]) (hk:jn im loc aD w r) (ec:new≠[])
 (hh:w'.heap=w.heap.push (.cells (((olds.flatMap aY)++(new.flatMap aY)).toArray++rest) el))
 (HX: ∀r∈olds,amS r=esz) (hp1: ∀r∈olds,∀c∈r,c.plain=amV) (Ld: ∀r∈new,amS r=esz) (hp2: ∀r∈new,∀c∈r,c.plain=amV)
 (hnc:(amS olds)+amS new<=nc) (Xa:rest.size=(nc- (amS olds+amS new))*esz):
 ∃li:LI,li.dh=w.heap.size/\VR im (loc.set (amS aD) li) r.v (.slice (amT ⟨w.heap.size,0,amU⟩) (amS olds+amS new) nc)/\
  BR im (loc.set (amS aD) li) w' li (.arr esz (olds++new))/\mw loc (loc.set (amS aD) li):=by
 have arI:=dH HX;have arJ:=dH Ld;have qT:(((olds.flatMap aY)++(new.flatMap aY)).toArray++rest).size=nc*esz:=by
  simp only [Array.size_append,afy,afx,arI,arJ,Xa];rw [<- PP,<- PP];congr 1;omega
 let li:LI:=⟨w.heap.size,0,esz,(olds++new).length,nc*esz⟩
 refine ⟨li,rfl,?_,⟨rfl,rfl,fun _=>⟨_,el,by rw [hh];simp [li],qT,?_,?_⟩⟩,Loc.x5 li (by have:=hk.fresh 0 (by simp [hn]);simpa using this)⟩
 · rw [hr]
   have:=VR.own (im:=im) (loc:=loc.set (amS aD) li) (amS aD) esz 0 (amS olds+amS new) (amS olds+amS new) amW li (amT ⟨w.heap.size,0,amU⟩) nc
    (Loc.eX _ _ _) rfl (by simp [li]) (If _) hnc (by simp)
    (.inr ⟨by simp [li];intro _;exact ec,by simp [li],by simp [li]⟩)
   exact this
 · simp only [li]
   have:=UV esz hnc
   simp only [afx];omega
 refine bO.Ay (fun r hr=>?_) (fun r hr=>?_) (fun j v hj=>?_)
 · rcases afa.1 hr with h|h
   · exact HX r h
   exact Ld r h
 · rcases afa.1 hr with h|h
   · exact hp1 r h
   exact hp2 r h
 rw [amm] at hj
 simp only [li,alX];rw [Array.getElem?_append_left (by
  have:=(ae8.1 hj).1
  simpa using this)]
 simpa using hj
end
end Go.Vm
/- Operation by operation, sixth part: append, whole. -/
namespace Go.Vm
section
variable {P : Program} {im : Im} {loc : Loc} {aD : cL} {fz : List Nat} {w : World}
theorem E0 {t tx ty e:TypeId} {i:TypeInfo} {z:Value} {esz:Nat} (ht:P.underlying t=amT (.slice e)) (hi:P.info? e=amT i) (hz:i.zero=amT z) (Lf:z.cells.size=esz)
 (N2:i.bytes<=1048576) {o7:Option Addr} {uM sCap:Nat} {olds:List Row} {new:List Row} {x:Value}
 (uN:(Builtin.firstCells i.size uM (.slice o7 uM sCap)).run P w.drew= .ok (olds.flatMap aY).toArray w.drew)
 (hs:Src P i.size tx x (amS new) (new.flatMap aY) w) (hg:sCap<uM+amS new) (hm:uM+amS new<=1048576):
 ∃(nc:Nat) (rest:Array Value),uM+amS new<=nc/\rest.size=(nc- (uM+amS new))*esz/\
  (Builtin.append_ #[t,tx] ty #[.slice o7 uM sCap,x]).run P w= .ok (.slice (amT ⟨w.heap.size,0,amU⟩) (uM+amS new) nc)
   (w.drew.alloc (.cells (((olds.flatMap aY)++(new.flatMap aY)).toArray++rest) e)):=by
 refine ⟨_,_,grownCap_ge w (uM+amS new) sCap e,by rw [ya,Lf],
  run_append_grow_src w t tx ty e i z ht hi hz o7 uM sCap _ uN x _ _ hs hg (by omega) (TD hg hm N2)⟩
theorem E2 {t tx ty e e' : TypeId} {i : TypeInfo} {z : Value} {esz : Nat} (ht : P.underlying t = amT (.slice e)) (htx : P.underlying tx = amT (.slice e')) (hi : P.info? e = amT i) (qT : i.size = esz)
    (hz : i.zero = amT z) (Lf : z.cells.size = esz) (N2 : i.bytes <= 1048576)
    {x y : PV} {u v : Value} {r : nY} (hx : VR im loc x u) (hy : VR im loc y v) (h : iR aD fz esz x y = amT r) (hk : jn im loc aD w r) :
    ∃ v' w' bn, (Builtin.append_ #[t, tx] ty #[u, v]).run P w = .ok v' w' /\ VR im bn r.v v' /\ tK im loc aD w r im bn w' := by
  unfold iR at h
  cases Bh : rowsOf aD esz y with
  | none => rw [Bh] at h; cases h
  | some new =>
    rw [Bh] at h
    dsimp only at h
    cases new with
    | nil =>
      dsimp only at h
      have key : ∀ (a : Option Addr) (n cap : Nat), u = .slice a n cap -> n <= cap -> amT ({ v := x, rd := iQ y } : nY) = amT r ->
          ∃ v' w' bn, (Builtin.append_ #[t, tx] ty #[u, v]).run P w = .ok v' w' /\ VR im bn r.v v' /\ tK im loc aD w r im bn w' := by
        intro a n cap hu ly hr
        injection hr with hr; subst hr
        obtain ⟨hs, _, _⟩ := CK (P := P) (w := w) hy Bh htx hk.bH (fun t ht => hk.tok t (.inl ht))
        simp only [agG, am2] at hs
        subst hu
        rw [<- qT] at hs
        exact ⟨_, _, loc, run_append_nothing w t tx ty e i ht hi a n cap ly _ hs, hx, tK.none hk rfl rfl⟩
      have fresh : ∀ (a : Option Addr) (rd : List Nat), u = .slice a 0 0 -> (∀ t ∈ iQ y, t ∈ rd) -> amT ({ v := .own (amS aD) esz 0 0 0 amW, news := [.arr esz []], rd := rd } : nY) = amT r ->
          ∃ v' w' bn, (Builtin.append_ #[t, tx] ty #[u, v]).run P w = .ok v' w' /\ VR im bn r.v v' /\ tK im loc aD w r im bn w' := by
        intro a rd hu Hr hr
        injection hr with hr; subst hr
        obtain ⟨hs, _, _⟩ := CK (P := P) (w := w) hy Bh htx hk.bH (fun t ht => hk.tok t (.inl (Hr t ht)))
        simp only [agG, am2] at hs
        subst hu
        rw [<- qT] at hs
        exact ⟨_, _, _, run_append_nothing w t tx ty e i ht hi a 0 0 (If _) _ hs, .own _ esz 0 0 0 amW ⟨0, 0, esz, 0, 0⟩ a 0 (Loc.eX _ _ _) rfl (If _) (If _) (If _) (by simp) (.inl rfl), tK.Tz hk rfl rfl⟩
      cases x with
      | sl e qU rows =>
        obtain ⟨a, cap, hu, ly, Bg, _⟩ := hx.oe
        dsimp only at h
        split at h
        · rename_i hc
          simp only [ut, amB] at hc
          obtain ⟨hc, rfl⟩ := hc
          have := Bg hc
          simp at this
          subst this
          exact fresh a _ (by simpa using hu) (fun _ h => h) h
        exact key a _ cap hu ly h
      | own tk e off len cap ex =>
        obtain ⟨li, a, c7, hu, h1, h2, h3, h4, h5, h6, _⟩ := hx.gV
        dsimp only at h
        split at h
        · rename_i hc
          simp only [ut, af4] at hc
          obtain ⟨⟨rfl, rfl⟩, hc⟩ := hc
          have := h6 hc
          subst this
          exact fresh a _ hu (fun _ h => agj _ h) h
        exact key a _ c7 hu (by omega) h
      | _ => cases h
    | cons n0 ns =>
      dsimp only at h
      generalize Bp : n0 :: ns = new at h Bh
      have ec : new ≠ [] := by rw [<- Bp]; simp
      have Hs : 0 < (amS new) := by rw [<- Bp]; simp
      cases x with
      | sl e1 qU rows =>
        dsimp only at h
        split at h
        · rename_i hc
          simp only [ut, am3, af4, afB] at hc
          obtain ⟨⟨anc, Ea⟩, ij⟩ := hc
          injection h with h
          obtain ⟨a, cap, rfl, Ho, WN, lB⟩ := hx.oe
          have arK := WN anc
          have vz : jn im loc aD w { v := .own (amS aD) esz 0 ((amS rows) + (amS new)) ((amS rows) + (amS new)) amW, news := [.arr esz (rows ++ new)], rd := iQ y } := by rw [h]; exact hk
          obtain ⟨hs, Ht, Tm⟩ := CK (P := P) (w := w) hy Bh htx vz.bH (fun t ht => vz.tok t (.inl ht))
          rw [<- qT] at hs
          have uN : (Builtin.firstCells i.size (amS rows) (.slice a (amS rows) cap)).run P w.drew = .ok (rows.flatMap aY).toArray w.drew /\ (∀ r ∈ rows, (amS r) = esz) /\ (∀ r ∈ rows, ∀ c ∈ r, c.plain = amV) := by
            cases hrw : rows with
            | nil =>
              refine ⟨?_, by simp, by simp⟩
              cases a with
              | none => simpa using run_firstCells_none w.drew i.size 0 0 cap
              | some a => exact run_firstCells_some w.drew i.size 0 a 0 cap [] (by simp) (by simp)
            | cons r0 rs =>
              rw [<- hrw]
              have af2 : rows ≠ [] := by rw [hrw]; simp
              obtain ⟨b, o, rfl, de⟩ := lB af2
              have Tn : e1 = esz := by
                rcases Ea with h | h
                · exact h
                rw [hrw] at h; simp at h
              subst Tn
              refine ⟨run_firstCells_some w.drew i.size (amS rows) ⟨b, o, amU⟩ (amS rows) cap _ (by rw [qT]; exact dH de.og) (fun j v hj => ?_), de.og, de.plain⟩
              rw [qX]
              exact qt vz.bH (de.flat j v hj)
          obtain ⟨uN, hol, fF⟩ := uN
          obtain ⟨nc, rest, hnc, Xa, cy⟩ := E0 (P := P) (w := w) (tx := tx) (ty := ty) ht hi hz Lf N2 (sCap := cap) uN hs (by omega) (by simpa [eu] using ij)
          obtain ⟨li, hlb, oV, sD, ly⟩ := CN (im := im) (loc := loc) (r := { v := .own (amS aD) esz 0 ((amS rows) + (amS new)) ((amS rows) + (amS new)) amW, news := [.arr esz (rows ++ new)], rd := iQ y })
            (w' := w.drew.alloc (.cells (((rows.flatMap aY) ++ (new.flatMap aY)).toArray ++ rest) e)) rfl rfl vz ec rfl hol fF Ht Tm hnc Xa
          subst h
          exact ⟨_, _, _, cy, oV, tK.new vz li rfl rfl rfl rfl rfl rfl hlb sD⟩
        cases h
      | own tk e1 off len cap ex =>
        dsimp only at h
        obtain ⟨li, a, c7, rfl, hl, he, CJ, cY, Ho, hex, Bq⟩ := hx.gV
        cases cq : aD[tk]? with
        | none => rw [cq] at h; cases h
        | some dh =>
          rw [cq] at h
          cases dh with
          | arr e2 rows =>
            dsimp only at h
            split at h
            · cases h
            rename_i NW
            have NW : e1 = esz := by simpa using NW
            subst NW
            split at h
            ·
              rename_i tN
              have tN : len + (amS new) <= cap := by simpa using tN
              split at h
              · cases h
              rename_i Tl
              injection h with h
              subst h
              obtain ⟨hs, Ht, Tm⟩ := CK (P := P) (w := w) hy Bh htx hk.bH (fun t ht => hk.tok t (.inl ht))
              rw [<- qT] at hs
              obtain ⟨k, gS, hb⟩ := hk.tok tk (.inr ⟨_, ae3.2 rfl⟩) li hl
              rw [cq] at gS; injection gS with gS; subst gS
              obtain ⟨b1, b2, b3⟩ := hb
              have oi : rows ≠ [] := by intro e; subst e; simp at b2; omega
              have DI : e2 = e1 := by rw [<- b1, he]
              subst DI
              obtain ⟨arr, el, tM, Ji, KS, de⟩ := b3 oi
              rcases Bq with h0 | ⟨_, rfl, qY⟩
              · omega
              have Hu := dH Ht
              have Hq := UV e2 (show off + (len + (amS new)) <= (amS rows) by omega)
              have N3 : (off + (len + (amS new))) * e2 = off * e2 + len * e2 + (amS new) * e2 := by rw [PP, PP]; omega
              have E3 : li.sh + off * e2 + len * i.size + (new.flatMap aY).length <= arr.size := by rw [qT, Hu]; omega
              have cy := jt (P := P) (w := w) t tx ty e i ht hi li.dh (li.sh + off * e2) len c7 v (amS new) (new.flatMap aY) hs (by omega) tM E3
              refine ⟨_, _, loc, cy, ?_, ?_⟩
              · exact .own tk e2 off (len + (amS new)) cap ex li _ c7 hl he CJ tN Ho hex (.inr ⟨by omega, rfl, qY⟩)
              refine tK.write hk (t := tk) (k0 := .arr e2 rows) (li := li) rfl rfl hl cq (by cases rows with | nil => exact absurd rfl oi | cons _ _ => rfl) (bV tM) rfl rfl rfl ?_
              rw [x9 _ _ _ (by omega)]
              refine ⟨b1, by rw [c8 _ _ _ (by omega)]; exact b2, fun _ => ⟨(mP (li.sh + off * e2 + len * i.size) (new.flatMap aY) arr.toList).toArray, el, ?_, ?_, ?_, ?_⟩⟩
              · rw [bV tM]
                have dM := (IR.1 tM).1
                simp [dM]
              · rw [<- Ji]
                simp only [afy]
                rw [c8 _ _ _ (by simpa using E3)]; simp
              · rw [c8 _ _ _ (by omega)]; exact KS
              refine de.mP (by omega) Ht Tm (fun k => ?_)
              simp only [af5]
              rw [gW _ _ _ (by simpa using E3), Hu]
              have : li.sh + off * e2 + len * i.size = li.sh + (off + len) * e2 := by rw [qT, PP]; omega
              rw [this]
              simp
            rename_i tN
            have tN : ¬ (len + (amS new) <= cap) := by simpa using tN
            split at h
            · cases h
            rename_i ij
            have ij : len + (amS new) <= 1048576 := by simpa [eu] using ij
            have old : ∀ (rd : List Nat) (wr : List (Nat × jW)), (tk ∈ rd \/ ∃ k, (tk, k) ∈ wr) ->
                jn im loc aD w { v := .own (amS aD) e1 0 (len + (amS new)) (len + (amS new)) amW, news := [.arr e1 ((rows.drop off).take len ++ new)], wr := wr, rd := rd } ->
                (Builtin.firstCells i.size len (.slice a len c7)).run P w.drew = .ok (((rows.drop off).take len).flatMap aY).toArray w.drew /\ ((rows.drop off).take len).length = len /\
                  (∀ r ∈ (rows.drop off).take len, (amS r) = e1) /\ (∀ r ∈ (rows.drop off).take len, ∀ c ∈ r, c.plain = amV) := by
              intro rd wr zM vz
              obtain ⟨k, gS, hb⟩ := vz.tok tk zM li hl
              rw [cq] at gS; injection gS with gS; subst gS
              obtain ⟨b1, b2, b3⟩ := hb
              have DI : e2 = e1 := by rw [<- b1, he]
              subst DI
              have Az : ((rows.drop off).take len).length = len := by simp; omega
              by_cases KT : len = 0
              · subst KT
                refine ⟨?_, Az, by simp, by simp⟩
                simp only [List.take_zero, agG]
                cases a with
                | none => exact run_firstCells_none w.drew i.size 0 0 c7
                | some a => exact run_firstCells_some w.drew i.size 0 a 0 c7 [] (by simp) (by simp)
              have oi : rows ≠ [] := by intro e; subst e; simp at Az; omega
              obtain ⟨arr, el, tM, Ji, KS, de⟩ := b3 oi
              have wm := (de.drop off).take len
              rcases Bq with h0 | ⟨_, rfl, _⟩
              · omega
              refine ⟨run_firstCells_some w.drew i.size len _ len c7 _ (by rw [qT, dH wm.og, Az]) (fun j v hj => ?_), Az, wm.og, wm.plain⟩
              rw [qX]
              exact kV (w := w) tM (wm.flat j v hj)
            split at h
            ·
              rename_i anf
              injection h with h
              have vz : jn im loc aD w { v := .own (amS aD) e1 0 (len + (amS new)) (len + (amS new)) amW, news := [.arr e1 ((rows.drop off).take len ++ new)], wr := [], rd := tk :: iQ y } := by rw [h]; exact hk
              obtain ⟨uN, Az, hol, fF⟩ := old (tk :: iQ y) [] (.inl (by simp)) vz
              obtain ⟨hs, Ht, Tm⟩ := CK (P := P) (w := w) hy Bh htx vz.bH (fun t ht => vz.tok t (.inl (agj _ ht)))
              rw [<- qT] at hs
              have hce := hex anf
              obtain ⟨nc, rest, hnc, Xa, cy⟩ := E0 (P := P) (w := w) (tx := tx) (ty := ty) ht hi hz Lf N2 (sCap := c7) uN hs (by omega) ij
              obtain ⟨lj, hlb, oV, sD, ly⟩ := CN (im := im) (loc := loc) (olds := (rows.drop off).take len) (new := new) (r := { v := .own (amS aD) e1 0 (len + (amS new)) (len + (amS new)) amW, news := [.arr e1 ((rows.drop off).take len ++ new)], wr := [], rd := tk :: iQ y })
                (w' := w.drew.alloc (.cells (((((rows.drop off).take len).flatMap aY) ++ (new.flatMap aY)).toArray ++ rest) e)) (by rw [Az]) rfl vz ec rfl hol fF Ht Tm (by rw [Az]; exact hnc) (by rw [Az]; exact Xa)
              subst h
              rw [Az] at oV
              exact ⟨_, _, _, cy, oV, tK.new vz lj rfl rfl rfl rfl rfl rfl hlb sD⟩
            rename_i anf
            split at h
            · cases h
            rename_i Tl
            injection h with h
            have vz : jn im loc aD w { v := .own (amS aD) e1 0 (len + (amS new)) (len + (amS new)) amW, news := [.arr e1 ((rows.drop off).take len ++ new)], wr := [(tk, .dead)], rd := iQ y } := by rw [h]; exact hk
            obtain ⟨uN, Az, hol, fF⟩ := old (iQ y) [(tk, .dead)] (.inr ⟨_, ae3.2 rfl⟩) vz
            obtain ⟨hs, Ht, Tm⟩ := CK (P := P) (w := w) hy Bh htx vz.bH (fun t ht => vz.tok t (.inl ht))
            have vA := hs
            rw [<- qT] at hs
            subst h
            rcases acl c7 (len + (amS new)) with hg | hg
            ·
              obtain ⟨nc, rest, hnc, Xa, cy⟩ := E0 (P := P) (w := w) (tx := tx) (ty := ty) ht hi hz Lf N2 (sCap := c7) uN hs hg ij
              obtain ⟨lj, hlb, oV, sD, ly⟩ := CN (im := im) (loc := loc) (olds := (rows.drop off).take len) (new := new) (r := { v := .own (amS aD) e1 0 (len + (amS new)) (len + (amS new)) amW, news := [.arr e1 ((rows.drop off).take len ++ new)], wr := [(tk, .dead)], rd := iQ y })
                (w' := w.drew.alloc (.cells (((((rows.drop off).take len).flatMap aY) ++ (new.flatMap aY)).toArray ++ rest) e)) (by rw [Az]) rfl vz ec rfl hol fF Ht Tm (by rw [Az]; exact hnc) (by rw [Az]; exact Xa)
              rw [Az] at oV
              refine ⟨_, _, _, cy, oV, ?_⟩
              have o7 := tK.new (r := { v := .own (amS aD) e1 0 (len + (amS new)) (len + (amS new)) amW, news := [.arr e1 ((rows.drop off).take len ++ new)], wr := [], rd := iQ y })
                (w' := w.drew.alloc (.cells (((((rows.drop off).take len).flatMap aY) ++ (new.flatMap aY)).toArray ++ rest) e))
                ⟨vz.bH, fun t ht => vz.tok t (by rcases ht with ht | ⟨k, ht⟩; exact .inl ht; cases ht), fun t k h => absurd h (by simp), vz.fresh, fun t u li lj k k' h1 h2 => vz.iM t u li lj k k' (by rcases h1 with h | ⟨k, h⟩; exact .inl h; cases h) (by rcases h2 with h | ⟨k, h⟩; exact .inl h; cases h)⟩ lj rfl rfl rfl rfl rfl rfl hlb sD
              exact { gH := o7.gH, dV := o7.dV, bH := o7.bH, eg := o7.eg, os := o7.os, tape := o7.tape, output := o7.output, size := o7.size,
                      frame := fun b hb _ => o7.frame b hb (fun t k li k0 h => absurd h (by simp)),
                      RE := (fun t k hm hs => by
                        obtain ⟨rfl, rfl⟩ : t = tk /\ k = .dead := by simpa using hm
                        cases hs),
                      wr := fun t k li hm mC => by
                        obtain ⟨rfl, rfl⟩ : t = tk /\ k = .dead := by simpa using hm
                        trivial,
                      k9 := o7.k9,
                      news := fun j k li hj hl => by
                        obtain ⟨h2, h3⟩ := o7.news j k li hj hl
                        refine ⟨h2, fun hs => ⟨(h3 hs).1, ?_⟩⟩
                        rcases (h3 hs).2 with h | ⟨t, lt, k0, hm, _⟩
                        · exact .inl h
                        exact absurd hm (by simp),
                      distinct := o7.distinct }
            ·
              obtain ⟨k, gS, hb⟩ := vz.tok tk (.inr ⟨_, ae3.2 rfl⟩) li hl
              rw [cq] at gS; injection gS with gS; subst gS
              obtain ⟨b1, b2, b3⟩ := hb
              have DI : e2 = e1 := by rw [<- b1, he]
              subst DI
              rcases Bq with h0 | ⟨Xb, rfl, qY⟩
              · omega
              have oi : rows ≠ [] := by intro e; subst e; simp at b2; omega
              obtain ⟨arr, el, tM, Ji, KS, de⟩ := b3 oi
              have wm := (de.drop off).take len
              have Hu := dH Ht
              have ang := dH hol
              rw [Az] at ang
              have Hq := UV e2 (show off + (len + (amS new)) <= off + c7 by omega)
              have N3 : (off + (len + (amS new))) * e2 = off * e2 + len * e2 + (amS new) * e2 := by rw [PP, PP]; omega
              have E3 : li.sh + off * e2 + len * i.size + (new.flatMap aY).length <= arr.size := by rw [qT, Hu]; omega
              have cy := jt (P := P) (w := w) t tx ty e i ht hi li.dh (li.sh + off * e2) len c7 v (amS new) (new.flatMap aY) hs hg tM E3
              have P0 := bV (cs := (mP (li.sh + off * e2 + len * i.size) (new.flatMap aY) arr.toList).toArray) tM
              have dM := (IR.1 tM).1
              have AA : (jW.arr e2 rows).bM = amV := by cases rows with | nil => exact absurd rfl oi | cons _ _ => rfl
              have Br := vz.free tk .dead (ae3.2 rfl) li (.arr e2 rows) hl cq AA
              let lj : LI := ⟨li.dh, li.sh + off * e2, e2, ((rows.drop off).take len ++ new).length, li.sz⟩
              have TE : loc (amS aD) = amU := by have := vz.fresh 0 (by simp); simpa using this
              have hlj : lj.n = len + (amS new) := by simp only [lj, afx, Az]
              refine ⟨_, _, loc.set (amS aD) lj, cy, ?_, ?_⟩
              · exact .own (amS aD) e2 0 (len + (amS new)) (len + (amS new)) amW lj _ c7 (Loc.eX _ _ _) rfl (by omega) (If _) hg (by simp)
                  (.inr ⟨by omega, by simp [lj], by simp only [lj, alX]; rw [PP] at qY; omega⟩)
              have sD : BR im (loc.set (amS aD) lj) (w.setRow li.dh (mP (li.sh + off * e2 + len * i.size) (new.flatMap aY) arr.toList).toArray) lj (.arr e2 ((rows.drop off).take len ++ new)) := by
                refine ⟨rfl, rfl, fun _ => ⟨(mP (li.sh + off * e2 + len * i.size) (new.flatMap aY) arr.toList).toArray, el, by rw [P0]; simp [lj, dM], ?_, ?_, ?_⟩⟩
                · simp only [lj, afy]
                  rw [c8 _ _ _ (by simpa using E3)]; simpa using Ji
                · simp only [lj, afx, Az]
                  rw [PP]; rw [N3] at Hq; omega
                refine bO.Ay (fun r hr => ?_) (fun r hr => ?_) (fun j u hj => ?_)
                · rcases afa.1 hr with h | h
                  · exact hol r h
                  exact Ht r h
                · rcases afa.1 hr with h | h
                  · exact fF r h
                  exact Tm r h
                rw [amm] at hj
                simp only [lj, af5]
                rw [gW _ _ _ (by simpa using E3), Hu, qT]
                rcases acl j (len * e2) with N0 | N0
                · rw [adc (by omega)] at hj
                  rw [rc (by omega)]
                  have := wm.flat j u hj
                  simpa using this
                rw [WF (by omega), ang] at hj
                have hjb := (ae8.1 hj).1
                rw [pp ⟨by omega, by omega⟩, <- hj]
                congr 1
                omega
              exact { gH := .refl _, dV := Loc.x5 lj TE,
                      bH := fun b o hb => by
                        have h1 := vz.bH b o hb
                        have N4 : li.dh ≠ b := fun e => by rw [e, hb] at Br; cases Br
                        rw [P0, ae2, rc N4]; exact h1,
                      eg := fun _ _ h => .inl h, os := rfl, tape := rfl, output := rfl,
                      size := by rw [P0]; simp,
                      RE := (fun t k hm hs => by
                        obtain ⟨rfl, rfl⟩ : t = tk /\ k = .dead := by simpa using hm
                        cases hs),
                      frame := fun b _ hb => by
                        have N4 := hb tk .dead li _ (ae3.2 rfl) hl cq AA
                        rw [P0, ae2, rc N4],
                      wr := fun t k li hm mC => by
                        obtain ⟨rfl, rfl⟩ : t = tk /\ k = .dead := by simpa using hm
                        trivial,
                      k9 := fun t l h => by
                        unfold Loc.set at h
                        split at h
                        · rename_i e; subst e; exact .inr ⟨If _, by simp⟩
                        exact .inl h,
                      news := CI (fun j k hj => by
                        cases j with
                        | zero =>
                          simp at hj; subst hj
                          exact ⟨lj, Loc.eX _ _ _, sD, fun _ => ⟨Br, .inr ⟨tk, li, _, ae3.2 rfl, hl, cq, AA, rfl⟩⟩⟩
                        | succ j => simp at hj),
                      distinct := fun i j ki kj li lj h1 h2 _ _ _ _ _ => by
                        cases i <;> cases j <;> simp at h1 h2 <;> rfl }
          | _ => cases h
      | _ => cases h
end
end Go.Vm
/- Operation by operation, seventh part: aggregates and rows that are built, slices that are cut. -/
namespace Go.Vm
section
variable {P : Program} {im : Im} {loc : Loc} {aD : cL} {fz : List Nat} {w : World}
theorem vB {α β:Type} (f:α->Sem β) (g:α->β):
 ∀(xs:List α),(∀a∈xs,(f a).run P w= .ok (g a) w)-> ∀(acc:Array β),(xs.foldlM (fun bs a=>bs.push<$>f a) acc).run P w= .ok (acc++(xs.map g).toArray) w
 | [],_,acc=>by simp
 |x::xs,h,acc=>by
  simp only [amC,Do,Sem.run_map,h x (by simp),ww,vB f g xs (fun a ha=>h a (by simp [ha]))]
  congr 1
  apply ae9;simp
theorem RJ {α β:Type} (f:α->Sem β) (g:α->β) (xs:Array α) (h: ∀a∈xs,(f a).run P w= .ok (g a) w):(xs.mapM f).run P w= .ok (xs.map g) w:=by
 rw [Array.mapM_eq_foldlM,<- Array.foldlM_toList,vB f g xs.toList (fun a ha=>h a (by simpa using ha))]
 congr 1
 apply ae9;simp
theorem HY (off:Nat): ∀(xs:List Value) (k:Nat) (cells:Array Value),off+k+amS xs<=cells.size->
 ((xs.zipIdx k).foldl (fun (cs:Array Value) (p:Value×Nat)=>cs.setIfInBounds (off+p.2) p.1) cells).toList=mP (off+k) xs cells.toList
 | [],k,cells,_=>by simp [mP]
 |x::xs,k,cells,h=>by
  simp only [afj] at h;rw [List.zipIdx_cons,afM,HY off xs (k+1) _ (by simp;omega)]
  apply agy;intro j;rw [gW _ _ _ (by simp;omega),gW _ _ _ (by simp;omega)]
  simp only [afj,Array.toList_setIfInBounds]
  by_cases h1:off+(k+1)<=j/\j<off+(k+1)+amS xs
  · rw [pp h1,pp ⟨by omega,by omega⟩]
    obtain ⟨m,hm⟩: ∃m,j- (off+k)=m+1:=⟨j- (off+k) -1,by omega⟩
    rw [hm,show j- (off+(k+1))=m by omega];simp
  rw [rc h1]
  by_cases h2:j=off+k
  · subst h2
    rw [pp ⟨If _,by omega⟩,alt (by simp;omega)]
    simp
  rw [rc (by omega),am5 (by omega)]
theorem y8 {place:Nat->Option (Nat×Nat)} {i off size:Nat} {v:Value} {rest:List (Nat×Value)} {cells:Array Value} (hp:place i=amT (off,size)) (hs:v.cells.size=size)
 (hf:off+size<=cells.size):Instr.fill place cells ((i,v)::rest)=Instr.fill place ⟨mP off v.cells.toList cells.toList⟩ rest:=by
 have he:(v.cells.zipIdx.foldl (fun cs (c,j)=>cs.setIfInBounds (off+j) c) cells)=⟨mP off v.cells.toList cells.toList⟩:=by
  apply ae9;rw [<- Array.foldl_toList,Array.toList_zipIdx]
  have:=HY off v.cells.toList 0 cells (by simp;omega)
  simpa using this
 simp only [Instr.fill,hp];rw [rc (by simp [hs];omega),he]
inductive vC (im:Im) (loc:Loc) (place:Nat->Option (Nat×Nat)):List (Nat×Nat×PV)->List (Nat×Value)->Prop
 |nil:vC im loc place [] []
 |cons (off sz i:Nat) (x:PV) (v:Value) (r:List (Nat×Nat×PV)) (s:List (Nat×Value)) (hp:place i=amT (off,sz)) (hv:VR im loc x v) (h:vC im loc place r s):
  vC im loc place ((off,sz,x)::r) ((i,v)::s)
theorem Lg {place:Nat->Option (Nat×Nat)}: ∀{ps:List (Nat×Nat×PV)} {qs:List (Nat×Value)},vC im loc place ps qs-> ∀{cs HU:List PV} {vs:Array Value},
 fh im loc cs vs.toList->nv ps cs=amT HU-> ∃NN,Instr.fill place vs qs=amT NN/\fh im loc HU NN.toList
 |_,_,.nil,cs,HU,vs,h,hf=>by
  simp only [nv,v6] at hf;subst hf;exact ⟨vs,rfl,h⟩
 |_,_,.cons off sz i x v r s hp hv hr,cs,HU,vs,h,hf=>by
  simp only [nv] at hf;cases cq:x.stored with
  |none=>rw [cq] at hf;cases hf
  |some ws=>
   rw [cq] at hf;dsimp only at hf;split at hf
   · rename_i hc
     simp only [ut,af4,afB] at hc;obtain ⟨rfl,Bo⟩:=Ax cq;have PZ:=hv.cells Bo;have hl:=PZ.m9;have Bg:=h.m9;simp only [afg] at hl Bg;rw [y8 hp (by omega) (by omega)]
     exact Lg hr (fh.mP PZ h) hf
   cases hf
theorem E4 {t:TypeId} {fs:Array Field} (hu:P.underlying t=amT (.struct fs)) (hf: ∀f∈fs,(P.info? f.type).isSome=amV):
 (fs.mapM fun f=>do pure (f.offset,<- sizeOf f.type):Sem (Array (Nat×Nat))).run P w= .ok (fs.map fun f=>(f.offset,P.cellsOf f.type)) w/\
 (fun i=>(fs.map fun f=>(f.offset,P.cellsOf f.type))[i]?)=placeOf P t:=by
 constructor
 · refine RJ _ _ _ fun f hm=>?_
   obtain ⟨i,hi⟩:=afc.1 (hf f hm);simp [sizeOf,typeInfo,hi,Program.cellsOf]
 funext i
 unfold placeOf;rw [hu];cases hfi:fs[i]? with
 |none=>simp [hfi]
 |some f=>
  obtain ⟨j,hj⟩:=afc.1 (hf f (Array.mem_of_getElem? hfi));simp [hfi,hj,Program.cellsOf]
theorem RK {t:TypeId} {zero cs:List PV} {ps:List (Nat×Nat×PV)} {qs:Array (Nat×Value)} (hz:uL P t zero=amV)
 (nW:(match P.underlying t with|some (.struct fs)=>fs.all fun f=>(P.info? f.type).isSome|some (.array _ e)=>(P.info? e).isSome|_=>amW)=amV)
 (hr:vC im loc (placeOf P t) ps qs.toList) (hf:nv ps zero=amT cs): ∃v,(Instr.build t qs).run P w= .ok v w/\VR im loc (.agg cs) v:=by
 unfold uL at hz;cases hi:P.info? t with
 |none=>rw [hi] at hz;cases hz
 |some i=>
  rw [hi] at hz;cases Jj:i.zero with
  |none=>simp [Jj] at hz
  |some z=>
   simp [Jj] at hz;have P1:(zeroValue t).run P w= .ok z w:=by simp [zeroValue,typeInfo,hi,Jj]
   obtain ⟨NN,h1,h2⟩:=Lg hr (x4 hz) hf;refine ⟨.agg NN,?_,.agg cs NN.toList h2⟩;cases hu:P.underlying t with
   |none=>rw [hu] at nW;cases nW
   |some d=>
    rw [hu] at nW;cases d<;>first|cases nW|skip
    case array n e=>
     obtain ⟨j,hj⟩:=afc.1 nW;have hp:(fun i=>amT (i*j.size,j.size))=placeOf P t:=by funext i;unfold placeOf;rw [hu];simp [hj]
     have qT:(sizeOf e).run P w= .ok j.size w:=by simp [sizeOf,typeInfo,hj]
     simp only [Instr.build,Do,P1,run_underlying hu,ww,qT,hp,h1,EQ]
    case struct fs=>
     have rI: ∀f∈fs,(P.info? f.type).isSome=amV:=by
      intro f hf
      have:=Array.all_eq_true.1 nW
      obtain ⟨k,hk,rfl⟩:=Array.mem_iff_getElem.1 hf;exact this k hk
     obtain ⟨hm,hp⟩:=E4 (P:=P) (w:=w) hu rI;simp only [Instr.build,Do,P1,run_underlying hu,ww,hm,hp,h1,EQ]
theorem CO {zero:Row} {zs:Array Value} (h: ∀(j:Nat) (c:PV),zero[j]? =amT c-> ∃v,jC c=amT v/\zs[j]? =amT v) (hl:(amS zero)=zs.size) (n:Nat):
 bO (fun k=>((agz (n*zs.size)).map (zs[· %zs.size]!))[k]?) 0 zs.size (af3 n zero):=by
 intro i r hr;have hi:i<n:=by
  rcases acl i n with h|h
  · exact h
  rw [M2 (by simpa using h)] at hr;cases hr
 rw [List.getElem?_replicate,pp hi] at hr;injection hr with hr;subst hr;refine ⟨hl,fun j c hc=>?_⟩
 obtain ⟨v,hv,hz⟩:=h j c hc;refine ⟨v,hv,?_⟩;have hj:j<zs.size:=(IR.1 hz).1;have dM:i*zs.size+j<n*zs.size:=by
  have:=UV zs.size (show i+1<=n from hi)
  rw [PP] at this;omega
 have arN:(i*zs.size+j)%zs.size=j:=by rw [Nat.mul_comm,Nat.mul_add_mod];exact Nat.mod_eq_of_lt hj
 simp only [alX];rw [Array.getElem?_map,Array.getElem?_range,pp dM];simp only [amE,arN];rw [getElem!_pos zs j hj]
 have:=(IR.1 hz).2
 rw [this]
inductive yb (im:Im) (loc:Loc):List (Nat×PV)->List (Nat×Value)->Prop
 |nil:yb im loc [] []
 |cons (i:Nat) (x:PV) (v:Value) (r:List (Nat×PV)) (s:List (Nat×Value)) (hv:VR im loc x v) (h:yb im loc r s):yb im loc ((i,x)::r) ((i,v)::s)
theorem Bs {esz n : Nat} : ∀ {ps : List (Nat × PV)} {qs : List (Nat × Value)}, yb im loc ps qs -> ∀ {rows rA : List Row} {vs : Array Value},
    bO (fun k => vs[k]?) 0 esz rows -> vs.size = n * esz -> (amS rows) = n -> qk ps rows esz = amT rA ->
    ∃ NN, Instr.fill (fun i => amT (i * esz, esz)) vs qs = amT NN /\ bO (fun k => NN[k]?) 0 esz rA /\ NN.size = n * esz /\ (amS rA) = n
  | _, _, .nil, rows, rA, vs, h, hs, hn, hf => by
    simp only [qk, v6] at hf
    subst hf
    exact ⟨vs, rfl, h, hs, hn⟩
  | _, _, .cons i x v r s hv hr, rows, rA, vs, h, hs, hn, hf => by
    simp only [qk] at hf
    cases cq : x.cM with
    | none => rw [cq] at hf; cases hf
    | some ws =>
      rw [cq] at hf
      dsimp only at hf
      split at hf
      · rename_i hc
        have DJ : (amS ws) = esz := by simp only [ut, af4] at hc; exact hc.1
        have E5 : i < (amS rows) := by simp only [ut] at hc; simpa using hc.2
        obtain ⟨rfl, NZ⟩ := mQ cq
        have PZ := hv.cells (fun c hc => x8 (NZ c hc))
        have hl := PZ.m9
        simp only [afg] at hl
        have Hq := UV esz (show i + 1 <= n by omega)
        rw [PP] at Hq
        rw [y8 (place := fun i => amT (i * esz, esz)) rfl (by omega) (by omega)]
        have hgi : rows[i]? = amT rows[i] := NE E5
        have hil := (h i _ hgi).1
        have anh := h.store (get' := fun k => (⟨mP (i * esz) v.cells.toList vs.toList⟩ : Array Value)[k]?) (off := 0) (ws := x.cells) (vs := v.cells.toList) hgi (by omega) (PZ.HW NZ) (by simp; omega) (fun k => by
          simp only [af5]
          rw [gW _ _ _ (by simp; omega)]
          simp)
        have arO : mP 0 x.cells rows[i] = x.cells := by
          unfold mP; rw [afX (by omega)]; simp
        rw [arO] at anh
        exact Bs hr anh (by simp only [afy]; rw [c8 _ _ _ (by simp; omega)]; simpa using hs) (by simpa using hn) hf
      cases hf
end
end Go.Vm
/- Operation by operation, last part: all of them. -/
namespace Go.Vm
def k7.fA:k7->List fH
 | .Tj x| .un _ x| .conv _ x| .len x| .box x| .load _ x| .KY x| .KZ _ x| .iK _ _ x| .ext _ x=>[x]
 | .pick a b c=>[a,b,c]
 | .bin _ x y| .KX _ x y| .eqc _ _ x y| .store _ x y| .K0 _ x y| .DD _ _ x y| .idx _ _ _ x y| .K1 x y| .mks _ _ x y| .append _ x y| .copy _ x y=>[x,y]
 | .build _ ps=>ps.map (·.2.2)
 | .Bj _ _ _ ps=>ps.map (·.2)
 | .DC x y=>[x,y]
 | .RA _ x a b c=>x::(a.toList++b.toList++c.toList)
 | .mkf _ a b=>a++b
 | .lookup _ _ _ m k=>[m,k]
 | .I9 _ m k v=>[m,k,v]
 | .clear _ _ x=>[x]
 | .mm _ x xs=>x::xs
 | .call _ _ as=>as
 | .xB x as=>x::as
 | .NV _| .alloc _| .mkm _| .bad=>[]
section
variable {P : Program} {im : Im} {loc : Loc} {aD : cL} {fz : List Nat} {w : World} {e : Env} {ρ : Operand -> Value}
theorem nB: ∀{xs:List fH} {os:List Operand},(∀x∈xs,∀o,bE x o=amV->VR im loc (x.ev e) (ρ o))->fj xs os=amV->fh im loc (EO e xs) (os.map ρ)
 | [],[],_,_=> .nil
 |x::xs,o::os,h,hc=>by
  simp only [fj,ut] at hc;exact .cons _ _ _ _ (h x (by simp) o hc.1) (nB (fun y hy=>h y (by simp [hy])) hc.2)
 | [],_::_,_,hc=>by simp [fj] at hc
 |_::_,[],_,hc=>by simp [fj] at hc
theorem Bt {place:Nat->Option (Nat×Nat)}: ∀{ps:List (Nat×Nat×fH)} {qs:List (Nat×Operand)},(∀x∈ps.map (·.2.2),∀o,bE x o=amV->VR im loc (x.ev e) (ρ o))->vv place ps qs=amV->
 vC im loc place (ps.map fun p=>(p.1,p.2.1,p.2.2.ev e)) (qs.map fun (i,x)=>(i,ρ x))
 | [],[],_,_=> .nil
 |(off,sz,x)::r,(i,o)::s,h,hc=>by
  simp only [vv,ut] at hc;obtain ⟨⟨h1,h2⟩,h3⟩:=hc;refine .cons off sz i _ _ _ _ ?_ (h x (by simp) o h2) (Bt (fun y hy=>h y (by simp only [amM,afK];exact .inr hy)) h3)
  cases hp:place i with
  |none=>rw [hp] at h1;cases h1
  |some q=>
   rw [hp] at h1;simp only [ut,beq_iff_eq] at h1;obtain ⟨rfl,rfl⟩:=h1;rfl
 | [],_::_,_,hc=>by simp [vv] at hc
 |_::_,[],_,hc=>by simp [vv] at hc
theorem xG: ∀{ps:List (Nat×fH)} {qs:List (Nat×Operand)},(∀x∈ps.map (·.2),∀o,bE x o=amV->VR im loc (x.ev e) (ρ o))->nA ps qs=amV->
 yb im loc (ps.map fun p=>(p.1,p.2.ev e)) (qs.map fun (i,x)=>(i,ρ x))
 | [],[],_,_=> .nil
 |(i,x)::r,(j,o)::s,h,hc=>by
  simp only [nA,ut,beq_iff_eq] at hc;obtain ⟨⟨rfl,h2⟩,h3⟩:=hc;exact .cons i _ _ _ _ (h x (by simp) o h2) (xG (fun y hy=>h y (by simp only [amM,afK];exact .inr hy)) h3)
 | [],_::_,_,hc=>by simp [nA] at hc
 |_::_,[],_,hc=>by simp [nA] at hc
theorem E6 {t:TypeId} {zero:Row} (h:uL P t zero=amV) (hp:zero.all PV.plain=amV):
 ∃i z,P.info? t=amT i/\i.zero=amT z/\amS zero=z.cells.size/\ ∀(j:Nat) (c:PV),zero[j]? =amT c-> ∃v,jC c=amT v/\z.cells[j]? =amT v:=by
 unfold uL at h;cases hi:P.info? t with
 |none=>rw [hi] at h;cases h
 |some i=>
  rw [hi] at h;cases hz:i.zero with
  |none=>simp [hz] at h
  |some z=>
   simp [hz] at h;have hr:fh (fun _=>amU) (fun _=>amU) zero z.cells.toList:=x4 h
   refine ⟨i,z,rfl,hz,by simpa using hr.m9,fun j c hc=>?_⟩
   obtain ⟨v,hv,NY⟩:=hr.get j c hc;refine ⟨v,NY.plain ?_,by simpa using hv⟩
   have:=amD.1 hp c (afZ hc)
   exact this
theorem DK {esz n len cap:Nat} {rows:List Row} {vs:Array Value} {el:TypeId} {r:nY} (hr:r={v:= .own (amS aD) esz 0 len cap amV,news:=[.arr esz rows]}) (hk:jn im loc aD w r)
 (de:bO (fun k=>vs[k]?) 0 esz rows) (hs:vs.size=n*esz) (hn:(amS rows)=n) (hc:cap=n) (hl:len<=cap):
 ∃bn,VR im bn r.v (.slice (amT ⟨w.heap.size,0,amU⟩) len cap)/\tK im loc aD w r im bn {w with heap:=w.heap.push (.cells vs el)}:=by
 subst hr hc
 let li:LI:=⟨w.heap.size,0,esz,cap,vs.size⟩
 refine ⟨loc.set (amS aD) li,?_,?_⟩
 · refine .own (amS aD) esz 0 len cap amV li _ cap (Loc.eX _ _ _) rfl (by simp [li]) hl (If _) (fun _=>rfl) ?_
   rcases amq cap with h|h
   · exact .inl h
   exact .inr ⟨by simp [li];omega,by simp [li],by simp [li,hs]⟩
 exact tK.new hk li rfl rfl rfl rfl rfl rfl rfl ⟨rfl,hn.symm,fun _=>⟨vs,el,by simp [li],rfl,by simp [li,hs,hn],de⟩⟩
theorem P2 {isMax:Bool} {k:IntKind}: ∀{ys:List PV} {us:List Value},fh im loc ys us-> ∀{a:Int} {z:PV},mmE isMax k a ys=amT z->
 ∃b,z= .int k b/\(us.foldlM (if isMax then Builtin.max2 else Builtin.min2) (.int k a)).run P w= .ok (.int k b) w
 |_,_,.nil,a,z,h=>by
  simp only [mmE,v6] at h;exact ⟨a,h.symm,rfl⟩
 |_,_,.cons y u ys us hy hs,a,z,h=>by
  unfold mmE at h;cases y with
  |int l c=>
   obtain rfl:=hy.gu;dsimp only at h;cases To:fE k l with
   |false=>rw [To] at h;cases h
   |true=>
    have:=fu.1 To;subst this
    rw [To,pp rfl] at h;obtain ⟨b,hz,ih⟩:=P2 (isMax:=isMax) hs h;refine ⟨b,hz,?_⟩;rw [amC,Do];cases isMax with
    |true=>simp only [if_true] at ih ⊢;simp only [Builtin.max2,EQ,ww];exact ih
    |false=>simp only [adm,if_false] at ih ⊢;simp only [Builtin.min2,EQ,ww];exact ih
  |_=>cases h
end
end Go.Vm
/- Operation by operation: all that call nothing. -/
namespace Go.Vm
def TF (P:Program) (ρ:Operand->Value) (o:Oper) (im:Im) (loc:Loc) (aD:cL) (w:World) (r:nY):Prop:=
 ∃nx w' bn,(execOp ρ o).run P w= .ok nx w'/\((nx= .skip/\r.v= .undef)\/ ∃v,nx= .value v/\VR im bn r.v v)/\tK im loc aD w r im bn w'
section
variable {P : Program} {im : Im} {loc : Loc} {aD : cL} {fz : List Nat} {w : World} {e : Env} {ρ : Operand -> Value}
theorem TF.pure {o:Oper} {r:nY} {v:Value} (hk:jn im loc aD w r) (hn:r.news=[]) (hw:r.wr=[]) (h:(execOp ρ o).run P w= .ok (.value v) w) (hv:VR im loc r.v v):
 TF P ρ o im loc aD w r:=⟨_,w,loc,h,.inr ⟨v,rfl,hv⟩,tK.none hk hn hw⟩
theorem Jk {t:TypeId} (h:(P.underlying t matches amT .bool)=amV):P.underlying t=amT .bool:=by
 split at h
 · assumption
 cases h
theorem wq {x:Option fH} {o:Option Operand} {n:Option Nat} (oT: ∀y∈x.toList,∀o,bE y o=amV->VR im loc (y.ev e) (ρ o)) (hc:Jf x o=amV)
 (h:(match (generalizing:=false) x with|none=>some none|some a=>(jY (a.ev e)).map some)=some n):Aw (o.map ρ) n:=by
 cases x with
 |none=>
  cases o with
  |none=>injection h with h;subst h;trivial
  |some o=>cases hc
 |some a=>
  cases o with
  |none=>cases hc
  |some o=>
   simp only [AC] at h;obtain ⟨m,hm,rfl⟩:=h;exact o6 (oT a (by simp) o hc) hm
theorem tO {t el:TypeId} {esz:Nat} {a:Option Addr} {len cap l h m:Nat} {vl vh vm:Option Value} (hu:P.underlying t=amT (.slice el)) (hs:oU P el esz=amV)
 (hb:(Instr.sliceBounds amV len cap vl vh vm).run P w= .ok (l,h,m) w):
 (Instr.sliceAt t (.slice a len cap) vl vh vm).run P w= .ok (.slice (if m=l then a else a.map (·.add (l*esz))) (h-l) (m-l)) w:=by
 simp only [Instr.sliceAt,Do,run_underlying hu,ww,Instr.slice,hb,kL hs,EQ]
theorem RM {t el:TypeId} {esz:Nat} {x z:PV} {u:Value} {lo hi mx:Option Nat} {vl vh vm:Option Value} (hx:VR im loc x u) (hu:P.underlying t=amT (.slice el)) (hs:oU P el esz=amV)
 (h1:Aw vl lo) (h2:Aw vh hi) (h3:Aw vm mx) (hm:mx.isSome=amV->hi.isSome=amV) (Ea: ∀e c r,x= .sl e c r->r=[]\/e=esz) (ani: ∀tk e o l c ex,x= .own tk e o l c ex->e=esz)
 (h:qW x lo hi mx=amT z): ∃v,(Instr.sliceAt t u vl vh vm).run P w= .ok v w/\VR im loc z v:=by
 unfold qW at h;cases x with
 |sl e qU rows=>
  obtain ⟨a,cap,rfl,Ho,WN,lB⟩:=hx.oe;dsimp only at h;have sub: ∀(l h m:Nat) (P3:Bool),l<=h->h<=amS rows->h<=m->m<=cap->(P3=amV->m=h)->
   VR im loc (.sl e P3 ((rows.drop l).take (h-l))) (.slice (if m=l then a else a.map (·.add (l*esz))) (h-l) (m-l)):=by
   intro l h m P3 hlh hhr hhm hmc Bg;have cY:((rows.drop l).take (h-l)).length=h-l:=by simp;omega
   have:=VR.sl (im:=im) (loc:=loc) e P3 ((rows.drop l).take (h-l)) (if m=l then a else a.map (·.add (l*esz))) (m-l) (by omega) (fun hc=>by have:=Bg hc;omega) (fun ec=>by
    have dM:l<h:=by
     rcases acl l h with h'|h'
     · exact h'
     exfalso;apply ec;rw [show h-l=0 by omega];simp
    have oi:rows≠[]:=by intro e;subst e;simp at hhr;omega
    obtain ⟨b,o,rfl,de⟩:=lB oi;have he:e=esz:=(Ea e qU rows rfl).resolve_left oi;subst he;refine ⟨b,o+l*e,?_,(de.drop l).take _⟩;rw [rc (by omega)]
    simp [qX])
   rwa [cY] at this
  cases mx with
  |none=>
   dsimp only at h;split at h
   · rename_i hc
     simp only [ut,afB] at hc;injection h with h;subst h;have hb:=mO (P:=P) (w:=w) (len:=amS rows) (cap:=cap) h1 h2 h3 hm hc.1 (fun _=>by simp;omega) (by simp)
     simp only [afY] at hb;refine ⟨_,tO hu hs hb,sub _ _ cap _ hc.1 hc.2 (by omega) (If _) (fun Bg=>?_)⟩
     simp only [ut,af4] at Bg
     have:=WN Bg.1;omega
   cases h
  |some m=>
   dsimp only at h;split at h
   · rename_i hc
     simp only [ut,afB] at hc;injection h with h;subst h;have hb:=mO (P:=P) (w:=w) (len:=amS rows) (cap:=cap) h1 h2 h3 hm hc.1.1 (fun _=>hc.1.2) (by simp;omega)
     simp only [ae4] at hb;refine ⟨_,tO hu hs hb,sub _ _ m _ hc.1.1 (by omega) hc.1.2 (by omega) (fun Bg=>?_)⟩
     simp only [af4] at Bg;exact Bg.symm
   cases h
 |own tk e off len cap ex=>
  obtain ⟨li,a,c7,rfl,hl,he,CJ,cY,Ho,hex,Bq⟩:=hx.gV;have NW:=ani tk e off len cap ex rfl;subst NW;dsimp only at h;have sub: ∀(l h c m m':Nat) (ex':Bool),l<=h->h<=m->m<=cap->m<=m'->m'<=c7->(ex'=amV->m'=m)->
   VR im loc (.own tk e (off+l) (h-l) (m-l) ex') (.slice (if m'=l then a else a.map (·.add (l*e))) (h-l) (m'-l)):=by
   intro l h c m m' ex' hlh hhm hmc hmm aw2 arP;refine .own tk e (off+l) (h-l) (m-l) ex' li _ (m'-l) hl he (by omega) (by omega) (by omega) (fun hx=>by have:=arP hx;omega) ?_
   by_cases KU:m'=l
   · exact .inl (by omega)
   rw [rc KU]
   rcases Bq with h0|⟨Xb,rfl,qY⟩
   · exact .inl (by omega)
   refine .inr ⟨Xb,?_,?_⟩
   · simp only [amE,qX];congr 2;rw [PP];omega
   have:=UV e (show off+l+(m'-l)<=off+c7 by omega)
   omega
  cases mx with
  |none=>
   dsimp only at h;split at h
   · rename_i hc
     simp only [ut,afB] at hc;injection h with h;subst h;have hb:=mO (P:=P) (w:=w) (len:=len) (cap:=c7) h1 h2 h3 hm hc.1 (fun _=>by simp;omega) (by simp)
     simp only [afY] at hb;exact ⟨_,tO hu hs hb,sub _ _ 0 cap c7 ex hc.1 hc.2 (If _) Ho (If _) hex⟩
   cases h
  |some m=>
   dsimp only at h;split at h
   · rename_i hc
     simp only [ut,afB] at hc;injection h with h;subst h;have hb:=mO (P:=P) (w:=w) (len:=len) (cap:=c7) h1 h2 h3 hm hc.1.1 (fun _=>hc.1.2) (by simp;omega)
     simp only [ae4] at hb;exact ⟨_,tO hu hs hb,sub _ _ 0 m m amV hc.1.1 hc.1.2 hc.2 (If _) (by omega) (fun _=>rfl)⟩
   cases h
 |_=>cases h
end
end Go.Vm
/- Two aggregates of plain cells are compared cell by cell. -/
namespace Go.Vm
theorem yc: ∀(a b c d:List PV),amS a=amS b->dD (a++c) (b++d)=match dD a b with|some amV=>dD c d|x=>x
 | [],[],c,d,_=>by simp [dD]
 |x::xs,y::ys,c,d,h=>by
  simp only [List.cons_append,dD];cases qV x y with
  |none=>rfl
  |some r=>
   cases r with
   |false=>rfl
   |true=>exact yc xs ys c d (by simpa using h)
 | [],_::_,_,_,h=>by simp at h
 |_::_,[],_,_,h=>by simp at h
section
variable {P : Program} {im : Im} {loc : Loc} {w : World}
def whole (P:Program) (t:TypeId) (us:List Value):Value:=if gU P t then .agg ⟨us⟩ else us.getD 0 Go.undef
def iS (P:Program) (d:Nat) (r:Option Nat) (f:Field):Option Nat:=
 match r with
 |some n=>if f.offset==n&&f.name != "_" then (match flat P d f.type with
  |some m=>if oU P f.type m then amT (n+m) else amU
  |none=>amU) else amU
 |none=>amU
theorem pL {d:Nat}: ∀(fs:List Field),fs.foldl (iS P d) amU=amU
 | []=>rfl
 |f::fs=>by rw [afM];exact pL fs
theorem Jl {d:Nat} {t:TypeId} {n:Nat} (h:flat P d t=amT n) (hr:gU P t=amW):n=1:=by
 cases d with
 |zero=>cases h
 |succ d=>
  simp only [flat] at h;split at h
  · split at h
    · injection h with h;exact h.symm
    cases h
  · rename_i fs hu
    unfold gU at hr;rw [hu] at hr;cases hr
  cases h
theorem AB {d:Nat} {t:TypeId} {m k:Nat} {us:List Value} (h:flat P d t=amT m) (hs:oU P t m=amV) (hk:k+m<=amS us) (P4:(P.underlying t).isSome=amV):
 (Go.part t ⟨us⟩ k).run P w= .ok (whole P t ((us.drop k).take m)) w:=by
 unfold whole;cases hr:gU P t with
 |true=>
  simp only [Go.part,Do,CG hr,ww,if_true,kL hs,EQ]
  congr 2
  apply ae9;simp [agp]
 |false=>
  have h1:=Jl h hr;subst h1;simp only [Go.part,Do,CH P4 hr,ww,adm,if_false];have dM:k<(amS us):=by omega
  have:(⟨us⟩:Array Value)[k]? =amT us[k]:=by simp [dM]
  rw [this];simp [amO,dM]
theorem HZ {d:Nat} {t:TypeId} {n:Nat} (h:flat P d t=amT n):(P.underlying t).isSome=amV:=by
 cases d with
 |zero=>cases h
 |succ d=>
  simp only [flat] at h;cases hu:P.underlying t with
  |none=>rw [hu] at h;cases h
  |some _=>rfl
theorem E7 {d:Nat}: ∀{fs:List Field} {k n:Nat},fs.foldl (iS P d) (amT k)=amT n->k<=n
 | [],k,n,h=>by simp at h;omega
 |f::fs,k,n,h=>by
  rw [afM] at h;cases hs:iS P d (amT k) f with
  |none=>rw [hs,pL] at h;cases h
  |some k'=>
   rw [hs] at h
   have:=E7 h
   unfold iS at hs;dsimp only at hs;split at hs
   · split at hs
     · split at hs
       · injection hs with hs;omega
       cases hs
     cases hs
   cases hs
theorem Jm: ∀(d:Nat) (t:TypeId) (n:Nat),flat P d t=amT n-> ∀(D:Nat),d<=D-> ∀(xs ys:List PV) (us vs:List Value) (b:Bool),fh im loc xs us->fh im loc ys vs->amS xs=n->amS ys=n->
 dD xs ys=amT b->(Op.equalIn D t (whole P t us) (whole P t vs)).run P w= .ok b w
 |0,t,n,h,_,_,_,_,_,_,_,_,_,_,_,_=>by cases h
 |d+1,t,n,h,0,hD,_,_,_,_,_,_,_,_,_,_=>by omega
 |d+1,t,n,h,D+1,hD,xs,ys,us,vs,b,hx,hy,hxn,hyn,he=>by
  have Xc:gU P t=amW->n=1-> ∃x y u v,xs=[x]/\ys=[y]/\us=[u]/\vs=[v]/\VR im loc x u/\VR im loc y v/\qV x y=amT b:=by
   intro hr h1;subst h1
   match xs,us,ys,vs,hx,hy,hxn,hyn,he with
   | [x],[u],[y],[v],.cons _ _ _ _ h1 _,.cons _ _ _ _ h2 _,_,_,he=>
    refine ⟨x,y,u,v,rfl,rfl,rfl,rfl,h1,h2,?_⟩;simp only [dD] at he;cases hc:qV x y with
    |none=>rw [hc] at he;cases he
    |some r=>rw [hc] at he;cases r<;>simpa using he
  simp only [flat] at h;split at h
  · rename_i k hu
    have hr:gU P t=amW:=by unfold gU;rw [hu]
    split at h
    · injection h with h
      obtain ⟨x,y,u,v,rfl,rfl,rfl,rfl,h1,h2,h3⟩:=Xc hr h.symm;simp only [whole,hr,adm,if_false,amO,agK,ae4];unfold qV at h3;split at h3
      · split at h3
        · rename_i hk
          have:=fu.1 hk;subst this
          injection h3 with h3;subst h3;rw [h1.gu,h2.gu];exact run_equalIn_int w D t _ _ _ _ hu
        cases h3
      cases h3
    cases h
  · rename_i fs hu
    have hr:gU P t=amV:=by unfold gU;rw [hu]
    split at h
    · cases h
    rename_i cq
    have hf:P.fieldsOf t=fs:=by simp [Program.fieldsOf,hu]
    have cq:P.stoodInHeld t=amW:=by simpa using cq
    have hxl:=hx.m9;have hyl:=hy.m9;simp only [whole,hr,if_true];rw [run_equalIn_agg w D t _ _ (by rw [hf];exact hu) cq,hf]
    change (match fs.toList.foldl (iS P d) (amT 0) with|some n=>if oU P t n then amT n else amU|none=>amU)=amT n at h
    cases hfo:fs.toList.foldl (iS P d) (amT 0) with
    |none=>rw [hfo] at h;cases h
    |some n'=>
     rw [hfo] at h;dsimp only at h;split at h
     · injection h with h
       subst h;have key: ∀(l:List Field) (k:Nat),l.foldl (iS P d) (amT k)=amT n'-> ∀(b':Bool),dD (xs.drop k) (ys.drop k)=amT b'->
        (Op.eqFields D ⟨us⟩ ⟨vs⟩ l).run P w= .ok b' w:=by
        intro l
        induction l with
        |nil=>
         intro k hk b' Bf;simp only [List.foldl_nil,v6] at hk;subst hk;rw [afX (by omega),afX (by omega)] at Bf
         simp only [dD,v6] at Bf;subst Bf;simp [Op.eqFields]
        |cons f l ih=>
         intro k hk b' Bf;rw [afM] at hk;cases hs:iS P d (amT k) f with
         |none=>rw [hs,pL] at hk;cases hk
         |some k'=>
          rw [hs] at hk;have WQ:=E7 hk;unfold iS at hs;dsimp only at hs;split at hs
          · rename_i hc
            simp only [ut,beq_iff_eq,bne_iff_ne,ne_eq] at hc;split at hs
            · rename_i m hm
              split at hs
              · rename_i qT
                injection hs with hs;subst hs;have P4:=HZ hm;have e1:xs.drop k=(xs.drop k).take m++xs.drop (k+m):=by rw [<- amJ,am4]
                have e2:ys.drop k=(ys.drop k).take m++ys.drop (k+m):=by rw [<- amJ,am4]
                rw [e1,e2,yc _ _ _ _ (by simp;omega)] at Bf
                have ec:f.name≠ "_" :=hc.2;simp only [Op.eqFields,Do,ec,ne_eq,not_false_eq_true,if_true,hc.1];rw [AB (w:=w) hm qT (by omega) P4]
                simp only [ww];rw [AB (w:=w) hm qT (by omega) P4]
                simp only [ww];cases hq:dD ((xs.drop k).take m) ((ys.drop k).take m) with
                |none=>rw [hq] at Bf;cases Bf
                |some r=>
                 have E8:=Jm d f.type m hm D (by omega) _ _ _ _ r ((hx.drop k).take m) ((hy.drop k).take m) (by simp;omega) (by simp;omega) hq
                 rw [E8];simp only [ww];rw [hq] at Bf;cases r with
                 |false=>
                  simp only [v6] at Bf;subst Bf;simp
                 |true=>
                  dsimp only at Bf
                  have:=ih (k+m) hk b' Bf
                  simpa using this
              cases hs
            cases hs
          cases hs
       exact key fs.toList 0 hfo b (by simpa using he)
     cases h
  cases h
end
end Go.Vm
/- Maps; copy and clear. -/
namespace Go.Vm
theorem VR.yd {im:Im} {loc:Loc} {x:PV} {v:Value} (h:valOf x=amT v):VR im loc x v:=by
 cases x with
 |agg cs=>
  simp only [valOf,AC] at h;obtain ⟨vs,Jn,rfl⟩:=h;refine .agg cs vs ?_
  induction cs generalizing vs with
  |nil=>simp at Jn;subst Jn;exact .nil
  |cons c cs ih=>
   rw [amK] at Jn;simp only [Option.bind_eq_bind,Option.bind_eq_some_iff,Option.pure_def,v6] at Jn;obtain ⟨v,hv,us,xU,rfl⟩:=Jn;exact .cons _ _ _ _ (.EY hv) (ih us xU)
 |_=>exact .EY h
theorem Lh {im:Im} {loc:Loc} {x:PV} {v:Value} (h:VR im loc x v) (hp: ∀c∈x.cells,c.plain=amV):valOf x=amT v:=by
 cases x with
 |agg cs=>
  obtain ⟨vs,rfl,hr⟩:=h.pK;simp only [valOf,AC];refine ⟨vs,?_,rfl⟩;simp only [PV.cells] at hp;clear h
  induction cs generalizing vs with
  |nil=>cases hr;rfl
  |cons c cs ih=>
   cases hr with
   |cons _ v _ us h1 h2=>
    rw [amK];simp [h1.plain (hp c (by simp)),ih (fun d hd=>hp d (by simp [hd])) us h2]
 |_=>exact h.plain (hp _ (by simp [PV.cells]))
section
variable {P : Program} {im : Im} {loc : Loc} {aD : cL} {fz : List Nat} {w : World}
theorem wz: ∀{xs ys:List PV} {us vs:List Value},dD xs ys=amT amV->fh im loc xs us->fh im loc ys vs->us=vs/\ ∀u∈us,∃k n,u= .int k n
 | [],[],_,_,_,.nil,.nil=>⟨rfl,by simp⟩
 |x::xs,y::ys,_,_,h,.cons _ u _ us h1 h2,.cons _ v _ vs h3 h4=>by
  simp only [dD] at h;split at h
  · rename_i Xd
    obtain ⟨rfl,rI⟩:=wz h h2 h4;unfold qV at Xd;split at Xd
    · rename_i k a l b
      split at Xd
      · rename_i To
        have:=fu.1 To;subst this
        have RN:a=b:=by simpa using Xd
        subst RN;rw [h1.gu,h3.gu];exact ⟨rfl,by
         intro u hu;rcases afK.1 hu with rfl|hu
         · exact ⟨_,_,rfl⟩
         exact rI u hu⟩
      cases Xd
    cases Xd
  · cases h
  cases h
 | [],_::_,_,_,h,_,_=>by simp [dD] at h
 |_::_,[],_,_,h,_,_=>by simp [dD] at h
theorem zT: ∀(us:List Value) (n:Nat),(∀u∈us,∃k m,u= .int k m)->(us.zip us).all (fun (x,y)=>Instr.sameBits n x y)=amV
 | [],_,_=>rfl
 |u::us,n,h=>by
  obtain ⟨k,m,rfl⟩:=h u (by simp)
  simp only [List.zip_cons_cons,List.all_cons,ut];exact ⟨by cases n<;>simp [Instr.sameBits],zT us n fun u hu=>h u (by simp [hu])⟩
theorem jZ {n:Option Nat} {x:PV} {u:Value} (h:jB n x=amV) (hv:VR im loc x u):(n=amU/\ ∃k m,x= .int k m/\u= .int k m)\/(∃m cs us,n=amT m/\x= .agg cs/\amS cs=m/\u= .agg ⟨us⟩/\fh im loc cs us):=by
 unfold jB at h;split at h
 · exact .inl ⟨rfl,_,_,rfl,hv.gu⟩
 · rename_i m cs
   obtain ⟨us,rfl,hr⟩:=hv.pK;exact .inr ⟨m,cs,us,rfl,rfl,by simpa using h,rfl,hr⟩
 cases h
theorem TG {n:Option Nat} {x y:PV} {u v:Value} (hx:jB n x=amV) (hy:jB n y=amV) (h:dD x.cells y.cells=amT amV) (hu:VR im loc x u) (hv:VR im loc y v):
 u=v/\Instr.sameBits 10000 u u=amV:=by
 rcases jZ hx hu with ⟨rfl,k,m,rfl,rfl⟩|⟨m,cs,us,rfl,rfl,_,rfl,hr⟩
 · rcases jZ hy hv with ⟨_,l,m',rfl,rfl⟩|⟨_,_,_,h',_⟩
   · obtain ⟨h1,_⟩:=wz (im:=im) (loc:=loc) h (.cons _ _ _ _ (.int k m) .nil) (.cons _ _ _ _ (.int l m') .nil)
     injection h1 with h1;exact ⟨h1,by simp [Instr.sameBits]⟩
   cases h'
 rcases jZ hy hv with ⟨h',_⟩|⟨_,ds,vs,_,rfl,_,rfl,hs⟩
 · cases h'
 obtain ⟨rfl,h2⟩:=wz h hr hs
 refine ⟨rfl,?_⟩;simp only [Instr.sameBits,beq_self_eq_true,amL];exact zT us 9999 h2
theorem fJ.get: ∀{es:List (PV×PV)} {k8:List MapEntry},fJ es k8-> ∀{i:Nat} {p:PV×PV},es[i]? =amT p-> ∃e,k8[i]? =amT e/\valOf p.1=amT e.key/\valOf p.2=amT e.val
 |(k,v)::r,e::r',h,0,p,hp=>by
  simp at hp;subst hp;exact ⟨e,rfl,h.1,h.2.1⟩
 |(k,v)::r,e::r',h,i+1,p,hp=>by
  obtain ⟨e',h1,h2⟩:=fJ.get h.2.2 (i:=i) (p:=p) (by simpa using hp)
  exact ⟨e',by simpa using h1,h2⟩
 | [],[],h,i,p,hp=>by simp at hp
 | [],_::_,h,_,_,_=>by simp [fJ] at h
 |_::_,[],h,_,_,_=>by simp [fJ] at h
theorem Li {q:IntKind} {k:PV} {u:Value} (hu:VR im loc k u) (hk:jB amU k=amV): ∀{es:List (PV×PV)} {k8:List MapEntry} {i:Nat} {r:Option Nat},fJ es k8->fD amU k es i=amT r->
 ∃r',Instr.findNow (.int q) u k8 i=amT r'/\match r with|none=>r'=amU|some j=>i<=j/\ ∃p e,es[j-i]? =amT p/\k8[j-i]? =amT e/\r'=amT (j,e.val)/\jB amU p.1=amV/\dD k.cells p.1.cells=amT amV
 | [],[],i,r,_,h=>by
  simp only [fD,v6] at h;subst h;exact ⟨amU,rfl,rfl⟩
 |(a,v)::es,e::k8,i,r,hm,h=>by
  simp only [fD] at h;split at h
  case isFalse=>cases h
  rename_i hka;obtain ⟨h1,h2,h3⟩:=hm;obtain ⟨_,kk,kn,rfl,rfl⟩:_/\ ∃kk kn,k= .int kk kn/\u= .int kk kn:=by
   rcases jZ hk hu with ⟨_,kk,kn,e1,e2⟩|⟨_,_,_,e1,_⟩
   · exact ⟨trivial,kk,kn,e1,e2⟩
   cases e1
  obtain ⟨ak,an,rfl,hae⟩: ∃ak an,a= .int ak an/\e.key= .int ak an:=by
   rcases jZ (im:=im) (loc:=loc) hka (VR.yd h1) with ⟨_,kk,kn,e1,e2⟩|⟨_,_,_,e1,_⟩
   · exact ⟨kk,kn,e1,e2⟩
   cases e1
  simp only [PV.cells,dD,qV] at h;cases vz:fE kk ak with
  |false=>rw [vz] at h;simp at h
  |true=>
   have:=fu.1 vz;subst this
   rw [vz] at h;simp only [if_true] at h;simp only [Instr.findNow,hae,Instr.sameNow,if_true];cases hb:(kn==an) with
   |true=>
    rw [hb] at h;simp only [v6] at h;subst h;refine ⟨_,rfl,If _,(.int kk an,v),e,by simp,by simp,rfl,hka,?_⟩
    simp [PV.cells,dD,qV,vz,hb]
   |false=>
    rw [hb] at h;simp only at h;obtain ⟨r',g1,g2⟩:=Li (q:=q) (k:= .int kk kn) (.int kk kn) hk h3 h;refine ⟨r',g1,?_⟩;cases r with
    |none=>exact g2
    |some j=>
     obtain ⟨q1,p,e',q2,q3,q4,q5,q6⟩:=g2;refine ⟨by omega,p,e',?_,?_,q4,q5,q6⟩
     · rw [show j-i=(j- (i+1))+1 by omega];simpa using q2
     rw [show j-i=(j- (i+1))+1 by omega];simpa using q3
 | [],_::_,i,r,hm,h=>by simp [fJ] at hm
 |_::_,[],i,r,hm,h=>by simp [fJ] at hm
theorem Lj {n:Nat} {kt:TypeId} (vw:gU P kt=amV) (TC:flat P 100 kt=amT n) {k:PV} {u:Value} (hu:VR im loc k u) (hk:jB (amT n) k=amV): ∀{es:List (PV×PV)} {k8:List MapEntry} {i:Nat} {r:Option Nat},fJ es k8->fD (amT n) k es i=amT r->
 ∃r',(Instr.findAsking kt u k8 i).run P w= .ok r' w/\match r with|none=>r'=amU|some j=>i<=j/\ ∃p e,es[j-i]? =amT p/\k8[j-i]? =amT e/\r'=amT (j,e.val)/\jB (amT n) p.1=amV/\dD k.cells p.1.cells=amT amV
 | [],[],i,r,_,h=>by
  simp only [fD,v6] at h;subst h;exact ⟨amU,rfl,rfl⟩
 |(a,v)::es,e::k8,i,r,hm,h=>by
  simp only [fD] at h;split at h
  case isFalse=>cases h
  rename_i hka;obtain ⟨h1,h2,h3⟩:=hm;have hva:VR im loc a e.key:=VR.yd h1;have heq: ∀b,dD k.cells a.cells=amT b->(Op.equal kt u e.key).run P w= .ok b w:=by
   intro b hb;rcases jZ hk hu with ⟨h',_⟩|⟨m,cs,us,h',rfl,hl,rfl,hr⟩
   · cases h'
   injection h' with h';subst h'
   rcases jZ hka hva with ⟨h',_⟩|⟨m,ds,vs,h',rfl,mC,he,hs⟩
   · cases h'
   injection h' with h';subst h'
   rw [he]
   have:=Jm (P:=P) (w:=w) 100 kt n TC Op.maxDepth (by decide) cs ds us vs b hr hs hl mC hb
   simp only [whole,vw,if_true] at this;exact this
  cases hb:dD k.cells a.cells with
  |none=>rw [hb] at h;cases h
  |some b=>
   rw [hb] at h;have cy:=heq b hb;cases b with
   |true=>
    simp only [v6] at h;subst h;refine ⟨amT (i,e.val),by simp [Instr.findAsking,cy],If _,(a,v),e,by simp,by simp,rfl,hka,hb⟩
   |false=>
    simp only at h;obtain ⟨r',g1,g2⟩:=Lj vw TC hu hk h3 h;refine ⟨r',by simp [Instr.findAsking,cy,g1],?_⟩
    cases r with
    |none=>exact g2
    |some j=>
     obtain ⟨q1,p,e',q2,q3,q4,q5,q6⟩:=g2;refine ⟨by omega,p,e',?_,?_,q4,q5,q6⟩
     · rw [show j-i=(j- (i+1))+1 by omega];simpa using q2
     rw [show j-i=(j- (i+1))+1 by omega];simpa using q3
 | [],_::_,i,r,hm,h=>by simp [fJ] at hm
 |_::_,[],i,r,hm,h=>by simp [fJ] at hm
theorem E9: ∀(d:Nat) (t:TypeId) (n:Nat),flat P d t=amT n-> ∀(D:Nat),d<=D-> ∀(em:Bool) (xs:List PV) (us:List Value),fh im loc xs us->amS us=n->
 (Instr.checkKey em D t (whole P t us)).run P w= .ok () w
 |0,t,n,h,_,_,_,_,_,_,_=>by cases h
 |d+1,t,n,h,0,hD,_,_,_,_,_=>by omega
 |d+1,t,n,h,D+1,hD,em,xs,us,hx,hun=>by
  simp only [flat] at h;split at h
  · rename_i k hu
    have hr:gU P t=amW:=by unfold gU;rw [hu]
    split at h
    · injection h with h;subst h
      match us,xs,hx,hun with
      | [u],[x],.cons _ _ _ _ h1 _,_=>
       simp only [whole,hr,adm,if_false,amO,agK,ae4,Instr.checkKey,Do,run_underlying hu,ww];cases u<;>simp
    cases h
  · rename_i fs hu
    have hr:gU P t=amV:=by unfold gU;rw [hu]
    split at h
    · cases h
    change (match fs.toList.foldl (iS P d) (amT 0) with|some n=>if oU P t n then amT n else amU|none=>amU)=amT n at h
    cases hfo:fs.toList.foldl (iS P d) (amT 0) with
    |none=>rw [hfo] at h;cases h
    |some n'=>
     rw [hfo] at h;dsimp only at h;split at h
     · injection h with h;subst h
       simp only [whole,hr,if_true,Instr.checkKey,Do,run_underlying hu,ww];rw [<- Array.forIn_toList];have hk: ∃k,fs.toList.foldl (iS P d) (amT k)=amT n':=⟨0,hfo⟩;clear hfo;obtain ⟨k,hk⟩:=hk;generalize fs.toList=L at hk
       induction L generalizing k with
       |nil=>simp
       |cons f l ih=>
        rw [afM] at hk;cases hs:iS P d (amT k) f with
        |none=>rw [hs,pL] at hk;cases hk
        |some k'=>
         rw [hs] at hk;have WQ:=E7 hk;unfold iS at hs;dsimp only at hs;split at hs
         · rename_i hc
           simp only [ut,beq_iff_eq,bne_iff_ne,ne_eq] at hc;split at hs
           · rename_i m hm
             split at hs
             · rename_i qT
               injection hs with hs;subst hs;have p1:=AB (w:=w) (us:=us) hm qT (k:=k) (by omega) (HZ hm)
               have p2:=E9 d f.type m hm D (by omega) em ((xs.drop k).take m) ((us.drop k).take m) ((hx.drop k).take m) (by simp;omega)
               simp only [List.forIn_cons,Do,hc.2,ne_eq,not_false_eq_true,if_true,hc.1,p1,p2,ww,EQ];exact ih _ hk
             cases hs
           cases hs
         cases hs
     cases h
  cases h
theorem RO {kt:TypeId} {q:IntKind} (hq:P.underlying kt=amT (.int q)) (em:Bool) (n:Nat) (k:IntKind) (m:Int):(Instr.checkKey em (n+1) kt (.int k m)).run P w= .ok () w:=by
 simp [Instr.checkKey,run_underlying hq]
theorem wB {r:Nat} {es:Array MapEntry} {clock:Nat} (hb:w.heap[r]? =amT (.map es clock)):(getObj r).run P w= .ok (.map es clock) w:=by
 simp [getObj,Sem.run,hb]
theorem E' {r:Nat} {es:Array MapEntry} {clock:Nat} (o:Obj) (hb:w.heap[r]? =amT (.map es clock)):(setObj r o).run P w= .ok () {w with heap:=w.heap.setIfInBounds r o}:=by
 simp [setObj,Sem.run,hb]
theorem Lk {kt:TypeId} {d:TypeDesc} {k:Value} {l:List MapEntry} {a:Option (Nat×Value)} (hd:P.underlying kt=amT d) (h:Instr.findNow d k l 0=amT a):(Instr.findKey kt k l).run P w= .ok a w:=by
 simp [Instr.findKey,run_underlying hd,h]
theorem DL {kt:TypeId} {n:Option Nat} (h:x3 P kt n=amV) {k:PV} {u:Value} (hu:VR im loc k u) (hk:jB n k=amV) (em:Bool):(Instr.checkKey em 10000 kt u).run P w= .ok () w:=by
 rcases jZ hk hu with ⟨rfl,kk,m,rfl,rfl⟩|⟨m,cs,us,rfl,rfl,hl,rfl,hr⟩
 · simp only [x3] at h
   split at h
   · rename_i q hq
     exact RO hq em 9999 kk m
   cases h
 simp only [x3,ut,beq_iff_eq] at h
 have:=E9 (P:=P) (w:=w) 100 kt m h.2 10000 (by decide) em cs us hr (by rw [<- hr.m9];exact hl)
 simp only [whole,h.1,if_true] at this;exact this
theorem Fa {kt:TypeId} {n:Option Nat} (h:x3 P kt n=amV) {k:PV} {u:Value} (hu:VR im loc k u) (hk:jB n k=amV) {es:List (PV×PV)} {k8:List MapEntry} {r:Option Nat} (hm:fJ es k8) (hf:fD n k es 0=amT r):
 ∃r',(Instr.findKey kt u k8).run P w= .ok r' w/\match r with|none=>r'=amU|some j=> ∃p e,es[j]? =amT p/\k8[j]? =amT e/\r'=amT (j,e.val)/\jB n p.1=amV/\dD k.cells p.1.cells=amT amV:=by
 cases n with
 |none=>
  simp only [x3] at h;split at h
  · rename_i q hq
    obtain ⟨r',h1,h2⟩:=Li (q:=q) hu hk hm hf;refine ⟨r',Lk hq h1,?_⟩;cases r with
    |none=>exact h2
    |some j=>exact h2.2
  cases h
 |some m=>
  simp only [x3,ut,beq_iff_eq] at h;obtain ⟨r',h1,h2⟩:=Lj (P:=P) (w:=w) h.1 h.2 hu hk hm hf;refine ⟨r',?_,?_⟩
  · rw [run_findKey_eq w ?_ u k8]
    · exact h1
    have:=h.1
    unfold gU at this
    revert this
    cases P.underlying kt with
    |none=>exact id
    |some d=>cases d<;>exact id
  cases r with
  |none=>exact h2
  |some j=>exact h2.2
theorem VR.TH {t:Nat} {v:Value} (h:VR im loc (.mp t) v): ∃li,loc t=amT li/\v= .map (amT li.dh):=by
 cases h with|mp _ li h=>exact ⟨li,h,rfl⟩
theorem N5 {t kt et:TypeId} {n:Option Nat} {zero m k:PV} {ok:Bool} {um uk:Value} {r:nY} (ht:P.underlying t=amT (.map kt et)) (hkt:x3 P kt n=amV)
 (hz: ∃i z,P.info? et=amT i/\i.zero=amT z/\VR im loc zero z) (hm:VR im loc m um) (hk:VR im loc k uk)
 (h:tI aD n zero ok m k=amT r) (hkn:jn im loc aD w r):
 ∃v,(Instr.lookup t um uk ok).run P w= .ok v w/\VR im loc r.v v/\r.news=[]/\r.wr=[]:=by
 unfold tI at h;cases m with
 |mp tk=>
  dsimp only at h;obtain ⟨li,hl,rfl⟩:=hm.TH;cases hs:aD[tk]? with
  |none=>rw [hs] at h;cases h
  |some b=>
   rw [hs] at h;cases b with
   |map es=>
    dsimp only at h;split at h
    case isFalse=>cases h
    rename_i RP;cases hf:fD n k es 0 with
    |none=>rw [hf] at h;cases h
    |some q=>
     rw [hf] at h;have Hr:tk∈r.rd:=by
      revert h
      cases q with
      |none=>intro h;simp only [v6] at h;subst h;simp
      |some j=>
       dsimp only;cases es[j]? with
       |none=>intro h;cases h
       |some p=>intro h;simp only [v6] at h;subst h;simp
     obtain ⟨b',Ll,sD⟩:=hkn.tok tk (.inl Hr) li hl;rw [hs] at Ll;injection Ll with Ll;subst Ll;obtain ⟨k8,clock,hw,vD⟩:=sD;obtain ⟨r',sC,Hv⟩:=Fa (P:=P) (w:=w) hkt hk RP vD hf;have WN:=DL (P:=P) (w:=w) hkt hk RP (k8.isEmpty);obtain ⟨i,z,hi,hiz,hvz⟩:=hz;have P1:(zeroValue et).run P w= .ok z w:=by simp [zeroValue,typeInfo,hi,hiz]
     cases q with
     |none=>
      dsimp only at h Hv;subst Hv;injection h with h;subst h;refine ⟨if ok then .tuple #[z,.bool amW] else z,?_,?_,rfl,rfl⟩
      · simp only [Instr.lookup,Do,run_underlying ht,ww,wB hw,EQ,WN,sC,P1]
      cases ok with
      |true=>exact .cw _ _ (.cons _ _ _ _ hvz (.cons _ _ _ _ (.bool amW) .nil))
      |false=>exact hvz
     |some j=>
      dsimp only at h Hv;obtain ⟨p,e,h1,h2,rfl,h4,h5⟩:=Hv;rw [h1] at h;simp only [v6] at h;subst h;obtain ⟨e',Cw,NO,hv2⟩:=fJ.get vD h1;rw [h2] at Cw;injection Cw with Cw;subst Cw;refine ⟨if ok then .tuple #[e.val,.bool amV] else e.val,?_,?_,rfl,rfl⟩
      · simp only [Instr.lookup,Do,run_underlying ht,ww,wB hw,EQ,WN,sC]
      cases ok with
      |true=>exact .cw _ _ (.cons _ _ _ _ (.yd hv2) (.cons _ _ _ _ (.bool amV) .nil))
      |false=>exact .yd hv2
   |_=>cases h
 |_=>cases h
theorem fJ.snoc: ∀{es:List (PV×PV)} {k8:List MapEntry} {p:PV×PV} {e:MapEntry},fJ es k8->valOf p.1=amT e.key->valOf p.2=amT e.val->fJ (es++[p]) (k8++[e])
 | [],[],p,e,_,h1,h2=>⟨h1,h2,trivial⟩
 |(k,v)::r,e::r',p,e',h,h1,h2=>⟨h.1,h.2.1,fJ.snoc h.2.2 h1 h2⟩
 | [],_::_,_,_,h,_,_=>by simp [fJ] at h
 |_::_,[],_,_,h,_,_=>by simp [fJ] at h
theorem fJ.set: ∀{es:List (PV×PV)} {k8:List MapEntry} {i:Nat} {p:PV×PV} {f:MapEntry->MapEntry},fJ es k8->(∀e,valOf p.1=amT (f e).key/\valOf p.2=amT (f e).val)->fJ (es.set i p) (k8.modify i f)
 | [],[],i,p,f,h,_=>by simp [fJ]
 |(k,v)::r,e::r',0,p,f,h,h1=>⟨(h1 e).1,(h1 e).2,h.2.2⟩
 |(k,v)::r,e::r',i+1,p,f,h,h1=>by
  simp only [List.set_cons_succ,List.modify_succ_cons];exact ⟨h.1,h.2.1,fJ.set h.2.2 h1⟩
 | [],_::_,_,_,_,h,_=>by simp [fJ] at h
 |_::_,[],_,_,_,h,_=>by simp [fJ] at h
theorem Lm {t kt et:TypeId} {n:Option Nat} {m k x:PV} {um uk ux:Value} {r:nY} (ht:P.underlying t=amT (.map kt et)) (hkt:x3 P kt n=amV)
 (hm:VR im loc m um) (hk:VR im loc k uk) (hx:VR im loc x ux)
 (h:DF aD fz n m k x=amT r) (hkn:jn im loc aD w r):
 ∃w',(Instr.mapUpdate t um uk ux).run P w= .ok () w'/\tK im loc aD w r im loc w'/\r.v= .undef:=by
 unfold DF at h;cases m with
 |mp tk=>
  dsimp only at h;obtain ⟨li,hl,rfl⟩:=hm.TH;cases hs:aD[tk]? with
  |none=>rw [hs] at h;cases h
  |some b=>
   rw [hs] at h;cases b with
   |map es=>
    dsimp only at h;split at h
    case isFalse=>cases h
    rename_i RP;simp only [ut,ae5] at RP;obtain ⟨RP,hnf⟩:=RP;cases hkp:k.cM with
    |none=>rw [hkp] at h;cases h
    |some kc=>
     cases hxp:x.cM with
     |none=>rw [hkp,hxp] at h;cases h
     |some xc=>
      rw [hkp,hxp] at h;dsimp only at h;obtain ⟨_,arS⟩:=mQ hkp;obtain ⟨_,arT⟩:=mQ hxp;have vk:=Lh hk arS;have vx:=Lh hx arT;cases hf:fD n k es 0 with
      |none=>rw [hf] at h;cases h
      |some q=>
       rw [hf] at h;have hwr: ∃bb,r={v:= .undef,wr:=[(tk,bb)]}:=by
        revert h
        cases q with
        |none=>intro h;simp only [v6] at h;exact ⟨_,h.symm⟩
        |some j=>intro h;simp only [v6] at h;exact ⟨_,h.symm⟩
       obtain ⟨bb,hr⟩:=hwr;obtain ⟨b',Ll,sD⟩:=hkn.tok tk (.inr ⟨bb,by rw [hr];simp⟩) li hl
       rw [hs] at Ll;injection Ll with Ll;subst Ll;obtain ⟨k8,clock,hw,vD⟩:=sD;obtain ⟨r',sC,Hv⟩:=Fa (P:=P) (w:=w) hkt hk RP vD hf;have WN:=DL (P:=P) (w:=w) hkt hk RP amW;have dM:=(IR.1 hw).1;cases q with
       |none=>
        dsimp only at h Hv;subst Hv;injection h with h;refine ⟨{w with heap:=w.heap.setIfInBounds li.dh (.map (k8.push {key:=uk,val:=ux,born:=clock}) (clock+1))},?_,tK.write hkn (t:=tk) (k0:= .map es) (o:= .map (k8.push {key:=uk,val:=ux,born:=clock}) (clock+1)) (li:=li) (by rw [<- h]) (by rw [<- h]) hl hs rfl rfl rfl rfl rfl ?_,by rw [<- h]⟩
        · simp only [Instr.mapUpdate,Do,run_underlying ht,ww,wB hw,WN,sC]
          exact E' _ hw
        refine ⟨k8.push {key:=uk,val:=ux,born:=clock},clock+1,by simp [dM],?_⟩
        rw [Array.toList_push];exact vD.snoc vk vx
       |some j=>
        dsimp only at h Hv;obtain ⟨p,e,h1,h2,rfl,h4,h5⟩:=Hv;injection h with h;obtain ⟨e',Cw,NO,hv2⟩:=fJ.get vD h1;rw [h2] at Cw;injection Cw with Cw;subst Cw;obtain ⟨TI,anm⟩:=TG (im:=im) (loc:=loc) RP h4 h5 hk (.yd NO);have ann:((k8[j]?).map (·.key)).getD uk=uk:=by
         have:k8[j]? =amT e:=by simpa using h2
         rw [this];exact TI.symm
        refine ⟨{w with heap:=w.heap.setIfInBounds li.dh (.map (k8.modify j fun e=>{e with key:=uk,val:=ux}) clock)},?_,tK.write hkn (t:=tk) (k0:= .map es) (o:= .map (k8.modify j fun e=>{e with key:=uk,val:=ux}) clock) (li:=li) (by rw [<- h]) (by rw [<- h]) hl hs rfl rfl rfl rfl rfl ?_,by rw [<- h]⟩
        · simp only [Instr.mapUpdate,Do,run_underlying ht,ww,wB hw,WN,sC,ann,Instr.keyThatStays,anm,if_true,EQ]
          exact E' _ hw
        refine ⟨k8.modify j fun e=>{e with key:=uk,val:=ux},clock,by simp [dM],?_⟩
        rw [Array.toList_modify];exact vD.set fun e=>⟨vk,vx⟩
   |_=>cases h
 |_=>cases h
theorem N6 {esz:Nat} {y:PV} {u:Value} {new:List Row} (hy:VR im loc y u) (hr:rowsOf aD esz y=amT new) (n:Nat) (hn:n<=amS new)
 (bH: ∀b o,im b=amT o->w.heap[b]? =amT o) (tok: ∀t,t∈iQ y-> ∀li,loc t=amT li-> ∃k,aD[t]? =amT k/\BR im loc w li k):
 (Builtin.lenOf u).run P w= .ok (amS new) w/\(Builtin.firstCells esz n u).run P w= .ok ((new.take n).flatMap aY).toArray w/\(∀r∈new,amS r=esz)/\(∀r∈new,∀c∈r,c.plain=amV):=by
 have TJ: ∀(a:Option Addr) (l c:Nat),(Builtin.firstCells esz 0 (.slice a l c)).run P w= .ok #[] w:=by
  intro a l c;cases a with
  |none=>simp [Builtin.firstCells]
  |some a=>
   have:=run_loadCells_list (P:=P) w a [] (by simp)
   simpa [Builtin.firstCells] using this
 have get: ∀(rows:List Row) (b o l c:Nat) (g:Nat->Option Value),bO g o esz rows->(∀k v,g k=amT v->w.cell? ⟨b,k,amU⟩=amT v)->n<=amS rows->
  (Builtin.firstCells esz n (.slice (amT ⟨b,o,amU⟩) l c)).run P w= .ok ((rows.take n).flatMap aY).toArray w:=by
  intro rows b o l c g de hg Ht;have h1:=de.take n;have TC:=dH h1.og
  have:=run_loadCells_list (P:=P) w ⟨b,o,amU⟩ ((rows.take n).flatMap aY) (fun j v hj=>by rw [qX];exact hg _ _ (h1.flat j v hj))
  simp only [Builtin.firstCells];rw [show n*esz=((rows.take n).flatMap aY).length by rw [TC,aig,amF Ht]]
  exact this
 unfold rowsOf at hr;cases y with
 |sl e qU rows=>
  obtain ⟨a,cap,rfl,_,_,lB⟩:=hy.oe;cases rows with
  |nil=>
   simp at hr;subst hr
   have:n=0:=by simpa using hn
   subst this;exact ⟨rfl,by simpa using TJ a 0 cap,by simp,by simp⟩
  |cons r rs=>
   dsimp only at hr;split at hr
   · rename_i he
     have he:e=esz:=by simpa using he
     subst he;injection hr with hr;subst hr;obtain ⟨b,o,rfl,de⟩:=lB (by simp)
     exact ⟨rfl,get (r::rs) b o _ cap _ de (fun k v hk=>qt bH hk) hn,de.og,de.plain⟩
   cases hr
 |own t e off len cap ex=>
  dsimp only at hr;split at hr
  · rename_i he
    have he:e=esz:=by simpa using he
    subst he;obtain ⟨li,a,c7,rfl,hl,h2,h3,h4,h5,h6,h7⟩:=hy.gV;obtain ⟨k,gS,hb⟩:=tok t (by simp [iQ]) li hl
    rw [gS] at hr;cases k with
    |arr e' rows=>
     simp only [v6] at hr;subst hr;obtain ⟨b1,b2,b3⟩:=hb;have cY:((rows.drop off).take len).length=len:=by simp;omega
     have NW:e'=e:=by rw [<- b1,h2]
     subst NW;rw [cY] at hn ⊢;cases rows with
     |nil=>
      have:len=0:=by simp at b2;omega
      subst this
      have:n=0:=by omega
      subst this;exact ⟨rfl,by simpa using TJ a 0 c7,by simp,by simp⟩
     |cons r rs=>
      obtain ⟨arr,el,tM,Ji,KS,de⟩:=b3 (by simp)
      have wm:=(de.drop off).take len;refine ⟨rfl,?_,wm.og,wm.plain⟩;rcases amq n with h0|h0
      · subst h0;simpa using TJ a len c7
      rcases h7 with h7|⟨h7,rfl,h9⟩
      · omega
      exact get _ li.dh (li.sh+off*e') len c7 _ wm (fun k v hk=>kV tM hk) (by rw [cY];exact hn)
    |_=>cases hr
  cases hr
 |_=>cases hr
theorem Ln {esz:Nat} {t off len cap:Nat} {ex:Bool} {u:Value} {rows new:List Row} {r:nY} {d:List Nat} {v:PV} (hx:VR im loc (.own t esz off len cap ex) u) (hs:aD[t]? =amT (.arr esz rows)) (hn:new≠[]) (hl:(amS new)<=len)
 (Lb: ∀r∈new,amS r=esz) (Xe: ∀r∈new,∀c∈r,c.plain=amV) (hr:r={v:=v,wr:=[(t,.arr esz (la off new rows))],rd:=d}) (hk:jn im loc aD w r):
 ∃b o c w',u= .slice (amT ⟨b,o,amU⟩) len c/\(storeCells ⟨b,o,amU⟩ (new.flatMap aY)).run P w= .ok () w'/\tK im loc aD w r im loc w':=by
 obtain ⟨li,a,c7,rfl,mC,he,CJ,Ho,hex,hxk,Bq⟩:=hx.gV;obtain ⟨k,gS,hb⟩:=hk.tok t (.inr ⟨_,by rw [hr];simp;rfl⟩) li mC
 rw [hs] at gS;injection gS with gS;subst gS;obtain ⟨b1,b2,b3⟩:=hb;have Ht:0<(amS new):=List.length_pos_iff.2 hn;have oi:rows≠[]:=by intro e;subst e;simp at b2;omega
 obtain ⟨arr,el,tM,Ji,KS,de⟩:=b3 oi;rcases Bq with h0|⟨_,rfl,qY⟩
 · omega
 have Hu:=dH Lb
 have Hq:=UV esz (show off+amS new<=(amS rows) by omega)
 rw [PP] at Hq;have E3:li.sh+off*esz+(new.flatMap aY).length<=arr.size:=by rw [Hu];omega
 have cy:=run_storeCells_at P li.dh (li.sh+off*esz) el (new.flatMap aY) 0 arr w tM (by simpa using E3) (oh Xe)
 refine ⟨li.dh,li.sh+off*esz,c7,_,rfl,cy,?_⟩;refine tK.write hk (t:=t) (k0:= .arr esz rows) (li:=li) (by rw [hr]) (by rw [hr]) mC hs (by cases rows with|nil=>exact absurd rfl oi|cons _ _=>rfl) (bV tM) rfl rfl rfl ?_
 rw [x9 _ _ _ (by omega)]
 refine ⟨b1,by rw [c8 _ _ _ (by omega)];exact b2,fun _=>⟨(arr.toList.take (li.sh+off*esz+0)++new.flatMap aY++arr.toList.drop (li.sh+off*esz+0+(new.flatMap aY).length)).toArray,el,?_,?_,?_,?_⟩⟩
 · rw [bV tM]
   have dM:=(IR.1 tM).1;simp [dM]
 · rw [<- Ji]
   have:=c8 (li.sh+off*esz) (new.flatMap aY) arr.toList (by simpa using E3)
   simp only [mP] at this;simpa using this
 · rw [c8 _ _ _ (by omega)];exact KS
 refine de.mP (by omega) Lb Xe (fun k=>?_)
 have:=gW (li.sh+off*esz) (new.flatMap aY) arr.toList (by simpa using E3) k
 simp only [mP] at this;simp only [af5,amP];rw [this,Hu];simp
end
end Go.Vm
/- Operation by operation: the theorem. -/
namespace Go.Vm
section
variable {P : Program} {im : Im} {loc : Loc} {aD : cL} {fz : List Nat} {w : World} {e : Env} {ρ : Operand -> Value}
theorem TK {esz:Nat} {x:PV} (h:vp esz x=amV):(∀e c r,x= .sl e c r->r=[]\/e=esz)/\(∀tk e o l c ex,x= .own tk e o l c ex->e=esz):=by
 constructor
 · rintro e c r rfl
   simp only [vp,am3,af4,amB] at h;exact h.symm
 rintro tk e o l c ex rfl
 simpa [vp] using h
theorem eW {x:Sem Value} {v:Value} (h:x.run P w= .ok v w):(do pure (Next.value (<- x)):Sem Next).run P w= .ok (.value v) w:=by
 simp only [Do,h,ww,EQ]
theorem Lo {x y:fH} {l:List Operand} (h:fj [x,y] l=amV): ∃a b,l=[a,b]/\bE x a=amV/\bE y b=amV:=by
 match l,h with
 | [],h=>simp [fj] at h
 | [_],h=>simp [fj] at h
 | [a,b],h=>simp only [fj,ut,amN] at h;exact ⟨a,b,rfl,h.1,h.2⟩
 |_::_::_::_,h=>simp [fj] at h
theorem Lp {x:fH} {l:List Operand} (h:fj [x] l=amV): ∃a,l=[a]/\bE x a=amV:=by
 match l,h with
 | [],h=>simp [fj] at h
 | [a],h=>simp only [fj,amN] at h;exact ⟨a,rfl,h⟩
 |_::_::_,h=>simp [fj] at h
theorem TL {prims:FuncId->Bool} {x:k7} {o:Oper} {r:nY} (hc:xF P prims o.type x o.op=amV) (oT: ∀y∈x.fA,∀o',bE y o'=amV->VR im loc (y.ev e) (ρ o'))
 (h:bG e aD fz x=amT r) (hk:jn im loc aD w r):TF P ρ o im loc aD w r:=by
 unfold xF at hc;split at hc
 case h_1 x o' fF=>
  injection h with h;subst h;exact .pure hk rfl rfl (by simp [execOp,fF]) (oT x (by simp [k7.fA]) o' hc)
 case h_2 x o' fF=>
  injection h with h;subst h;exact .pure hk rfl rfl (by simp [execOp,fF]) (oT x (by simp [k7.fA]) o' hc)
 case h_3 c a b d e' f fF=>
  simp only [ut] at hc;have h1:=oT c (by simp [k7.fA]) d hc.1.1
  simp only [bG] at h;split at h
  · rename_i hb;rw [hb] at h1;have h1:=h1.jD
    injection h with h;subst h;exact .pure hk rfl rfl (by simp [execOp,fF,h1,asBool]) (oT a (by simp [k7.fA]) _ hc.1.2)
  · rename_i hb;rw [hb] at h1;have h1:=h1.jD
    injection h with h;subst h;exact .pure hk rfl rfl (by simp [execOp,fF,h1,asBool]) (oT b (by simp [k7.fA]) _ hc.2)
  cases h
 case h_4 op x y op' t a b u fF=>
  simp only [ut,beq_iff_eq] at hc;obtain ⟨⟨rfl,h1⟩,h2⟩:=hc;simp only [bG,AC] at h;obtain ⟨z,hz,rfl⟩:=h;obtain ⟨v,cy,hv⟩:=W7 (P:=P) (w:=w) (t:=t) (a:=a) (b:=b) (oT x (by simp [k7.fA]) a h1) (oT y (by simp [k7.fA]) b h2) hz
  exact .pure hk rfl rfl (by simp only [execOp,fF];exact eW cy) hv
 case h_5 neg x y op t a b u fF=>
  simp only [ut] at hc;obtain ⟨⟨⟨h0,ht⟩,h1⟩,h2⟩:=hc;have hx:=oT x (by simp [k7.fA]) a h1
  have hy:=oT y (by simp [k7.fA]) b h2
  simp only [bG] at h;split at h
  · rename_i p q hp hq
    rw [hp] at hx;rw [hq] at hy;injection h with h;subst h;have ho:op=if neg then .neq else .eql:=by cases neg<;>simpa using h0
    refine .pure (v:= .bool (if neg then !(p==q) else p==q)) hk rfl rfl ?_ (.bool _)
    simp only [execOp,fF,hx.jD,hy.jD];exact eW (Tx ho (Jk ht))
  cases h
 case h_6 n neg x y op t a b u fF=>
  simp only [ut,ae5,beq_iff_eq] at hc;obtain ⟨⟨⟨⟨⟨h0,hr⟩,hn⟩,hg⟩,h1⟩,h2⟩:=hc;have hx:=oT x (by simp [k7.fA]) a h1
  have hy:=oT y (by simp [k7.fA]) b h2
  simp only [bG] at h;split at h
  · rename_i p q hp hq
    rw [hp] at hx;rw [hq] at hy;obtain ⟨us,hu1,hu2⟩:=hx.pK;obtain ⟨vs,NO,hv2⟩:=hy.pK;split at h
    case isFalse=>cases h
    rename_i cY;simp only [ut,af4] at cY;rw [AC] at h;obtain ⟨c,NX,rfl⟩:=h;have ho:op=if neg then .neq else .eql:=by cases neg<;>simpa using h0
    have hq2:=Jm (P:=P) (w:=w) 100 t n hn 10000 (by omega) p q us vs c hu2 hv2 cY.1 cY.2 NX
    simp only [whole,hr,if_true] at hq2;refine .pure (v:= .bool (if neg then !c else c)) hk rfl rfl ?_ (.bool _)
    simp only [execOp,fF,hu1,NO];refine eW ?_;simp only [Do,run_eqGuard_agg w op t a b ⟨us⟩ ⟨vs⟩ hg,ww];cases neg with
    |true=>
     simp only [if_true] at ho ⊢;subst ho;rw [run_neq_struct,hq2];rfl
    |false=>
     simp only [adm,if_false] at ho ⊢;subst ho;rw [run_eql_struct,hq2];rfl
  cases h
 case h_7 op x op' t a fF=>
  simp only [ut,beq_iff_eq] at hc;obtain ⟨rfl,h1⟩:=hc;simp only [bG,AC] at h;obtain ⟨z,hz,rfl⟩:=h;obtain ⟨v,cy,hv⟩:=af1 (P:=P) (w:=w) (oT x (by simp [k7.fA]) a h1) hz
  exact .pure hk rfl rfl (by simp only [execOp,fF];exact eW cy) hv
 case h_8 k x s d a fF=>
  simp only [ut] at hc;obtain ⟨⟨hs,hd⟩,h1⟩:=hc;have hx:=oT x (by simp [k7.fA]) a h1
  obtain ⟨ds,Xf⟩:=afc.1 hs;simp only [bG] at h;split at h
  · rename_i k' n hp
    rw [hp] at hx;injection h with h;subst h;split at hd
    · rename_i l hl
      have:=fu.1 hd;subst this
      refine .pure hk rfl rfl ?_ (.int _ _);simp only [execOp,fF,hx.gu];exact eW (Ty Xf hl)
    cases hd
  cases h
 case h_9 x args argTypes fF=>
  simp only [ut] at hc;obtain ⟨ht,h1⟩:=hc;obtain ⟨a,ha,h1a⟩:=Lp h1;have lf:args= #[a]:=ae9 (by simpa using ha)
  subst lf;have hx:=oT x (by simp [k7.fA]) a h1a
  split at ht
  · rename_i t ht0
    unfold sA at ht;split at ht
    · rename_i el hu
      have cy: ∀{v:Value},(Builtin.len_ argTypes o.type #[ρ a]).run P w= .ok v w->(execOp ρ o).run P w= .ok (.value v) w:=by
       intro v hv;simp only [execOp,fF,resolve,Do,EQ,ww,invoke,builtin];rw [show afN ρ #[a]= #[ρ a] by simp,hv];rfl
      simp only [bG] at h;split at h
      · rename_i e' c rows hp
        rw [hp] at hx;obtain ⟨ad,cap,hv,_⟩:=hx.oe;injection h with h;subst h;exact .pure hk rfl rfl (cy (by simp [Builtin.len_,ht0,run_underlying hu,hv,goInt])) (.int _ _)
      · rename_i tk e' off len cap ex hp
        rw [hp] at hx;obtain ⟨li,ad,c7,hv,_⟩:=hx.gV;injection h with h;subst h;exact .pure hk rfl rfl (cy (by simp [Builtin.len_,ht0,run_underlying hu,hv,goInt])) (.int _ _)
      cases h
    cases ht
  cases ht
 case h_10 n args argTypes fF=>
  simp only [ut] at hc;obtain ⟨h0,ht⟩:=hc;have ec:args.size≠0:=by intro hz;have:args= #[]:=Array.eq_empty_of_size_eq_zero hz;subst this;simp at h0
  have ha0:(afN ρ args)[0]? =amT (ρ args[0]):=by simp [show 0<args.size by omega]
  simp only [bG,v6] at h;subst h;have cy: ∀{v:Value},(Builtin.len_ argTypes o.type (afN ρ args)).run P w= .ok v w->(execOp ρ o).run P w= .ok (.value v) w:=by
   intro v hv;simp only [execOp,fF,resolve,Do,EQ,ww,invoke,builtin,hv]
  refine .pure hk rfl rfl (cy ?_) (.int _ _);split at ht
  · rename_i t ht0
    split at ht
    · rename_i m el hu
      have hm:m=n:=by simpa using ht
      subst hm;simp only [Builtin.len_,ht0,ha0,Do,run_underlying hu,ww,goInt];cases ρ args[0]<;>rfl
    · rename_i el hu
      split at ht
      · rename_i m el2 hu2
        have hm:m=n:=by simpa using ht
        subst hm;simp only [Builtin.len_,ht0,ha0,Do,run_underlying hu,ww,goInt];cases ρ args[0]<;>simp [run_underlying hu2]
      cases ht
    cases ht
  cases ht
 case h_11 x el a fF=>
  have hx:=oT x (by simp [k7.fA]) a hc
  simp only [bG] at h;cases cq:(x.ev e).stored with
  |none=>rw [cq] at h;cases h
  |some cs=>
   rw [cq] at h;injection h with h;obtain ⟨rfl,Bo⟩:=Ax cq;obtain ⟨bn,hv,he⟩:=EZ (el:=el) (hx.cells Bo) h.symm hk;refine ⟨_,_,bn,?_,.inr ⟨_,rfl,hv⟩,he⟩;simp [execOp,fF,Instr.box,newVar,newRow]
 case h_12 cells t fF=>
  simp only [bG,v6] at h;unfold uL at hc;cases hi:P.info? t with
  |none=>rw [hi] at hc;cases hc
  |some i=>
   rw [hi] at hc;cases hz:i.zero with
   |none=>simp [hz] at hc
   |some z=>
    simp [hz] at hc;obtain ⟨bn,hv,he⟩:=EZ (el:=t) (x4 (im:=im) (loc:=loc) hc) h.symm hk;refine ⟨_,_,bn,?_,.inr ⟨_,rfl,hv⟩,he⟩;simp [execOp,fF,Instr.alloc,newVar,newRow,zeroValue,typeInfo,hi,hz]
 case h_13 zero parts t ps fF=>
  simp only [ut] at hc;obtain ⟨⟨⟨hz,_⟩,hp⟩,nW⟩:=hc;simp only [bG,AC] at h;obtain ⟨cs,mE,rfl⟩:=h;have vD:=Bt (im:=im) (loc:=loc) (e:=e) (ρ:=ρ) (fun y hy=>oT y (by simpa [k7.fA] using hy)) hp
  obtain ⟨v,cy,hv⟩:=RK (P:=P) (w:=w) (qs:=ps.map fun (i,x)=>(i,ρ x)) hz nW (by simpa using vD) mE
  exact .pure hk rfl rfl (by simp only [execOp,fF];exact eW cy) hv
 case h_14 esz n zero parts t m ps fF=>
  simp only [ut,beq_iff_eq] at hc;obtain ⟨⟨⟨⟨rfl,nW⟩,ly⟩,NZ⟩,hp⟩:=hc;split at nW
  · rename_i el hu
    simp only [ut,beq_iff_eq,ae5] at nW;obtain ⟨⟨⟨hs,hz⟩,hzl⟩,hnz⟩:=nW;simp only [bG,AC] at h;obtain ⟨rows,lB,h⟩:=h;obtain ⟨i,z,hi,Jj,cY,Lq⟩:=E6 hz NZ;have Ea:z.cells.size=esz:=by omega
    have de:=CO Lq cY n;rw [Ea] at de
    obtain ⟨NN,h1,h2,h3,h4⟩:=Bs (n:=n) (esz:=esz) (xG (im:=im) (loc:=loc) (e:=e) (ρ:=ρ) (fun y hy=>oT y (by simpa [k7.fA] using hy)) hp) de (by simp) (by simp) lB
    obtain ⟨bn,hv,he⟩:=DK (el:=el) h.symm hk h2 h3 h4 rfl (If _);refine ⟨_,_,bn,?_,.inr ⟨_,rfl,hv⟩,he⟩;have P1:(zeroValue el).run P w= .ok z w:=by simp [zeroValue,typeInfo,hi,Jj]
    have ly:n*esz<=1048576:=by simpa using ly
    have arV: ¬(n*esz>2^24):=by omega
    simp only [execOp,fF,Instr.buildSlice,Do,run_underlying hu,ww,kL hs,arV,if_false]
    by_cases h0:n*esz=0
    · have Xb:n=0:=by
       rcases amG.1 h0 with h|h
       · exact h
       rw [h] at hnz;simp at hnz
      subst Xb;simp only [amQ] at h1;simp only [amQ,if_true,Do,EQ,ww,aka];have e0:(afN (fun x=>(#[]:Array Value)[x%(#[]:Array Value).size]!) (agz 0))=(afN (fun x=>z.cells[x%esz]!) (agz 0)):=by simp
      rw [e0,h1];simp [newRow]
    simp only [h0,if_false,Do,P1,ww,EQ]
    simp only [Ea,aka,h1];simp [newRow]
  cases nW
 case h_15 agg p t a fF=>
  simp only [ut] at hc;have hx:=oT p (by simp [k7.fA]) a hc.2
  simp only [bG] at h;obtain ⟨v,cy,hv,hn,hw⟩:=K9 (P:=P) hx hc.1 h hk;exact .pure hk hn hw (by simp only [execOp,fF];exact eW cy) hv
 case h_16 sz p v t a b fF=>
  simp only [ut] at hc;simp only [bG] at h;obtain ⟨w',cy,xQ,hu⟩:=RH (P:=P) (oT p (by simp [k7.fA]) a hc.1.2) (oT v (by simp [k7.fA]) b hc.2) hc.1.1 h hk
  exact ⟨.skip,w',loc,by simp only [execOp,fF,Do,cy,ww,EQ],.inl ⟨rfl,hu⟩,xQ⟩
 case h_17 x a fF=>
  have hx:=oT x (by simp [k7.fA]) a hc
  simp only [bG] at h;split at h
  · rename_i t s r' o' hp
    rw [hp] at hx;injection h with h;subst h;obtain ⟨li,h1,h2,h3,hv⟩:=hx.y7;exact .pure hk rfl rfl (by simp only [execOp,fF,hv];rfl) (by rw [<- hv];exact hx)
  · rename_i c o' hp
    rw [hp] at hx;injection h with h;subst h;obtain ⟨b,o2,vs,h1,h2,hv⟩:=hx.x7;exact .pure hk rfl rfl (by simp only [execOp,fF,hv];rfl) (by rw [<- hv];exact hx)
  · rename_i f a' b' hp
    rw [hp] at hx;injection h with h;subst h;generalize hg:ρ a=g at hx;cases hx with
    |eV fn a b as bs ha hb=>
     exact .pure hk rfl rfl (by simp only [execOp,fF,hg];rfl) (.eV _ _ _ _ _ ha hb)
  cases h
 case h_18 off p t a f fF=>
  simp only [ut] at hc;obtain ⟨hc,h1⟩:=hc;have hx:=oT p (by simp [k7.fA]) a h1
  split at hc
  · rename_i fs hu
    split at hc
    · rename_i g hg
      simp only [ut,beq_iff_eq] at hc;obtain ⟨CJ,hi⟩:=hc;cases af6:P.info? g.type with
      |none=>rw [af6] at hi;cases hi
      |some i=>
       rw [af6] at hi;have hz:i.size≠0:=by simpa using hi
       simp only [bG] at h
       have: ∃z,(match p.ev e with| .ptr t s r o=>amT (PV.ptr t s r (o+off))| .bJ c o=>amT (PV.bJ c (o+off))|_=>amU)=amT z/\r={v:=z}:=by
        revert h
        cases p.ev e<;>intro h<;>first|(injection h with h;exact ⟨_,rfl,h.symm⟩)|cases h
       obtain ⟨z,hz',rfl⟩:=this;obtain ⟨v,cy,hv⟩:=TA (P:=P) (w:=w) hx hu hg CJ af6 hz hz';exact .pure hk rfl rfl (by simp only [execOp,fF];exact eW cy) hv
    cases hc
  cases hc
 case h_19 agg off x t a f fF=>
  simp only [ut] at hc;obtain ⟨hc,h1⟩:=hc;have hx:=oT x (by simp [k7.fA]) a h1
  split at hc
  · rename_i fs hu
    split at hc
    · rename_i g hg
      simp only [ut,beq_iff_eq] at hc;obtain ⟨CJ,hag⟩:=hc;simp only [bG] at h;split at h
      · rename_i cs hp
        rw [hp] at hx;obtain ⟨vs,hv,oV⟩:=hx.pK;rw [AC] at h;obtain ⟨z,hz,rfl⟩:=h;rw [<- CJ] at hz;obtain ⟨v,cy,NY⟩:=K8 (P:=P) (w:=w) hag oV hz;refine .pure hk rfl rfl ?_ NY;simp only [execOp,fF];exact eW (by simp only [Instr.field,Do,run_underlying hu,ww,hg,hv,asAgg,EQ,cy])
      cases h
    cases hc
  cases hc
 case h_20 esz x i t a j fF=>
  simp only [ut] at hc;obtain ⟨⟨hs,h1⟩,h2⟩:=hc;have hx:=oT x (by simp [k7.fA]) a h1
  have hi:=oT i (by simp [k7.fA]) j h2
  simp only [bG] at h;cases hn:jY (i.ev e) with
  |none=>rw [hn] at h;cases h
  |some n=>
   rw [hn] at h;dsimp only at h;obtain ⟨k,Cx⟩:=o6 hi hn;unfold y5 at hs;split at hs
   · rename_i el hu
     have: ∃z,(match x.ev e with
      | .sl s _ rows=>match rows[n]? with
       |some cs=>if F0s s esz then amT (PV.bJ cs 0) else amU
       |none=>amU
      | .own t s off len _ _=>if afW n len&&F0s s esz then amT (PV.ptr t s (off+n) 0) else amU
      |_=>amU)=amT z/\r={v:=z}:=by
      revert h
      cases x.ev e with
      |sl s c rows=>
       dsimp only;cases rows[n]? with
       |none=>intro h;cases h
       |some cs=>
        dsimp only;split
        · intro h;injection h with h;exact ⟨_,rfl,h.symm⟩
        intro h;cases h
      |own t s off len cap ex=>
       dsimp only;split
       · intro h;injection h with h;exact ⟨_,rfl,h.symm⟩
       intro h;cases h
      |_=>intro h;cases h
     obtain ⟨z,hz,rfl⟩:=this;obtain ⟨v,cy,hv⟩:=TB (P:=P) (w:=w) (k:=k) hx hu hs hz;exact .pure hk rfl rfl (by simp only [execOp,fF,Cx];exact eW cy) hv
   cases hs
 case h_21 n esz p i t a j fF=>
  simp only [ut] at hc;obtain ⟨⟨hs,h1⟩,h2⟩:=hc;have hx:=oT p (by simp [k7.fA]) a h1
  have hi:=oT i (by simp [k7.fA]) j h2
  simp only [bG] at h;cases hn:jY (i.ev e) with
  |none=>rw [hn] at h;cases h
  |some m=>
   rw [hn] at h;dsimp only at h;split at h
   · rename_i dM
     have dM:m<n:=by simpa using dM
     obtain ⟨k,Cx⟩:=o6 hi hn;unfold PY at hs;split at hs
     · rename_i m' el hu
       simp only [ut,beq_iff_eq] at hs;obtain ⟨rfl,hs⟩:=hs
       have: ∃z,(match p.ev e with| .ptr t s r o=>amT (PV.ptr t s r (o+m*esz))| .bJ c o=>amT (PV.bJ c (o+m*esz))|_=>amU)=amT z/\r={v:=z}:=by
        revert h
        cases p.ev e<;>intro h<;>first|(injection h with h;exact ⟨_,rfl,h.symm⟩)|cases h
       obtain ⟨z,hz,rfl⟩:=this;obtain ⟨v,cy,hv⟩:=RF (P:=P) (w:=w) (k:=k) hx hu hs dM hz;exact .pure hk rfl rfl (by simp only [execOp,fF,Cx];exact eW cy) hv
     cases hs
   cases h
 case h_22 n esz agg x i t a j fF=>
  simp only [ut] at hc;obtain ⟨⟨hs,h1⟩,h2⟩:=hc;have hx:=oT x (by simp [k7.fA]) a h1
  have hi:=oT i (by simp [k7.fA]) j h2
  simp only [bG] at h;cases hn:jY (i.ev e) with
  |none=>rw [hn] at h;cases h
  |some m=>
   rw [hn] at h;dsimp only at h;split at h
   · rename_i dM
     have dM:m<n:=by simpa using dM
     obtain ⟨k,Cx⟩:=o6 hi hn;split at hs
     · rename_i m' el hu
       simp only [ut,beq_iff_eq] at hs;obtain ⟨⟨rfl,hs⟩,hag⟩:=hs;split at h
       · rename_i cs hp
         rw [hp] at hx;obtain ⟨vs,hv,oV⟩:=hx.pK;rw [AC] at h;obtain ⟨z,hz,rfl⟩:=h;obtain ⟨v,cy,NY⟩:=K8 (P:=P) (w:=w) hag oV hz;refine .pure hk rfl rfl ?_ NY;have arX:(0:Int)<=(m:Int)/\(m:Int)<(m':Int):=by omega
         simp only [execOp,fF];exact eW (by simp only [Instr.index,Cx,asIntOf,Do,EQ,run_underlying hu,ww,hv,arX,and_self,if_true,kL hs,agB,cy])
       cases h
     cases hs
   cases h
 case h_23 x i t a j fF=>
  simp only [ut] at hc;obtain ⟨⟨hs,h1⟩,h2⟩:=hc;have hx:=oT x (by simp [k7.fA]) a h1
  have hi:=oT i (by simp [k7.fA]) j h2
  have hu:P.underlying t=amT .string:=by
   split at hs
   · assumption
   cases hs
  simp only [bG] at h;split at h
  · rename_i n s hn hp
    rw [hp] at hx;obtain ⟨k,Cx⟩:=o6 hi hn;split at h
    · rename_i b hb
      injection h with h;subst h;refine .pure hk rfl rfl ?_ (.int _ _);have h0:(0:Int)<=(n:Int):=by omega
      simp only [execOp,fF];exact eW (by simp only [Instr.index,Cx,asIntOf,Do,EQ,run_underlying hu,ww,hx.Er,h0,if_true,agB,hb])
    cases h
  cases h
 case h_24 esz x l hh m t a b c d fF=>
  simp only [ut] at hc;obtain ⟨⟨⟨⟨⟨h0,hs⟩,h1⟩,h2⟩,h3⟩,h4⟩:=hc;have hx:=oT x (by simp [k7.fA]) a h1
  simp only [bG] at h;split at h
  · cases h
  rename_i he
  have he:vp esz (x.ev e)=amV:=by simpa using he
  obtain ⟨Tn,DI⟩:=TK he;split at h
  · rename_i lo hi mx RQ hhi hmx
    rw [AC] at h;obtain ⟨z,hz,rfl⟩:=h;unfold y5 at hs;split at hs
    · rename_i el hu
      have b1:=wq (im:=im) (loc:=loc) (e:=e) (ρ:=ρ) (fun y hy=>oT y (by simp only [k7.fA,afK,afa];exact .inr (.inl (.inl hy)))) h2 RQ
      have b2:=wq (im:=im) (loc:=loc) (e:=e) (ρ:=ρ) (fun y hy=>oT y (by simp only [k7.fA,afK,afa];exact .inr (.inl (.inr hy)))) h3 hhi
      have b3:=wq (im:=im) (loc:=loc) (e:=e) (ρ:=ρ) (fun y hy=>oT y (by simp only [k7.fA,afK,afa];exact .inr (.inr hy))) h4 hmx
      have N7:mx.isSome=amV->hi.isSome=amV:=by
       intro hmm;cases m with
       |none=>simp at hmx;subst hmx;cases hmm
       |some mo=>
        cases hh with
        |none=>simp at h0
        |some ho=>
         simp only [AC] at hhi;obtain ⟨q,_,rfl⟩:=hhi;rfl
      obtain ⟨v,cy,hv⟩:=RM (P:=P) (w:=w) hx hu hs b1 b2 b3 N7 Tn DI hz;exact .pure hk rfl rfl (by simp only [execOp,fF];exact eW cy) hv
    cases hs
  cases h
 case h_25 esz zero l c t a b fF=>
  simp only [ut] at hc;obtain ⟨⟨⟨nW,NZ⟩,h1⟩,h2⟩:=hc;have hx:=oT l (by simp [k7.fA]) a h1
  have hy:=oT c (by simp [k7.fA]) b h2
  split at nW
  · rename_i el hu
    simp only [ut,beq_iff_eq,ae5] at nW;obtain ⟨⟨⟨⟨hs,hz⟩,hzl⟩,N2⟩,hnz⟩:=nW;simp only [bG] at h;split at h
    · rename_i n m hn hm
      obtain ⟨k1,gS⟩:=o6 hx hn;obtain ⟨k2,Cx⟩:=o6 hy hm;split at h
      · rename_i ly
        simp only [ut,afB] at ly;injection h with h;obtain ⟨i,z,hi,Jj,cY,Lq⟩:=E6 hz NZ;have Ea:z.cells.size=esz:=by omega
        have de:=CO Lq cY m;rw [Ea] at de
        have ij:m<=1048576:=by simpa [eu] using ly.2
        obtain ⟨bn,hv,he⟩:=DK (el:=el) h.symm hk de (by simp) (by simp) rfl ly.1
        refine ⟨_,_,bn,?_,.inr ⟨_,rfl,hv⟩,he⟩;have P1:(zeroValue el).run P w= .ok z w:=by simp [zeroValue,typeInfo,hi,Jj]
        have hti:(typeInfo el).run P w= .ok i w:=by simp [typeInfo,hi]
        have Tp:i.bytes<=1048576:=by
         unfold Eo at N2;rw [hi] at N2;simpa using N2
        have hw1:IntKind.i64.wrap (n:Int)=n:=Ep (by omega) (by omega)
        have Xg:IntKind.i64.wrap (m:Int)=m:=Ep (by omega) (by omega)
        have avt:i.bytes*m<=1099511627776:=by
         have:=amI Tp ij
         omega
        have DJ: ¬((i.bytes:Int)*(m:Int)>2^48):=by
         have:((i.bytes*m:Nat):Int)=(i.bytes:Int)*(m:Int):=by simp
         omega
        have N8:(sizeOf el).run P w= .ok esz w:=kL hs;simp only [execOp,fF,gS,Cx,Instr.makeSlice,asInt,asIntOf,Do,run_underlying hu,ww,EQ,hti,hw1,Xg];have P5:((amX ((m:Int)<0)||amX ((i.bytes:Int)*(m:Int)>2^48))||amX ((n:Int)<0)||amX ((n:Int)>(m:Int)))=amW:=by
         simp only [Bool.or_eq_false_iff,decide_eq_false_iff_not];refine ⟨⟨⟨by omega,DJ⟩,by omega⟩,by omega⟩
        rw [P5];simp only [adm,if_false,Do,run_askRoom,ww,N8,agB]
        by_cases h0:m*esz=0
        · have hm0:m=0:=by
           rcases amG.1 h0 with h|h
           · exact h
           rw [h] at hnz;simp at hnz
          subst hm0;simp [newRow]
          congr 2
          apply Array.ext<;>simp
        simp only [h0,if_false,Do,P1,ww,EQ,Ea]
        simp [newRow]
      cases h
    cases h
  cases nW
 case h_26 fn a b g c d fF=>
  simp only [ut,beq_iff_eq] at hc;obtain ⟨⟨rfl,h1⟩,h2⟩:=hc;simp only [bG,v6] at h;subst h;have r1:=nB (im:=im) (loc:=loc) (e:=e) (ρ:=ρ) (fun y hy=>oT y (by simp [k7.fA,hy])) h1
  have r2:=nB (im:=im) (loc:=loc) (e:=e) (ρ:=ρ) (fun y hy=>oT y (by simp [k7.fA,hy])) h2
  refine .pure (v:= .func (.func fn) (c.map ρ) (d.map ρ)) hk rfl rfl (by simp only [execOp,fF];exact eW rfl) ?_
  have:=VR.eV (im:=im) (loc:=loc) fn _ _ _ _ r1 r2
  have e1:(⟨c.toList.map ρ⟩:Array Value)=c.map ρ:=ae9 (by simp)
  have e2:(⟨d.toList.map ρ⟩:Array Value)=d.map ρ:=ae9 (by simp)
  rw [e1,e2] at this;exact this
 case h_27 t fF=>
  simp only [bG,v6] at h
  let li:LI:=⟨w.heap.size,0,0,0,0⟩
  refine ⟨.value (.map (amT w.heap.size)),{w with heap:=w.heap.push (.map #[] 0)},loc.set (amS aD) li,?_,.inr ⟨_,rfl,?_⟩,?_⟩
  · simp [execOp,fF,Instr.makeMap]
  · subst h;exact .mp (amS aD) li (Loc.eX _ _ _)
  refine tK.new hk (k:= .map []) (o:= .map #[] 0) li (by rw [<- h]) (by rw [<- h]) rfl rfl rfl rfl rfl ⟨#[],0,by simp [li],trivial⟩
 case h_28 i x a j fF=>
  simp only [ut,beq_iff_eq] at hc;obtain ⟨rfl,h1⟩:=hc;have hx:=oT x (by simp [k7.fA]) a h1
  simp only [bG] at h;split at h
  · rename_i vs hp
    rw [hp] at hx;obtain ⟨us,hv,oV⟩:=hx.Bn;rw [AC] at h;obtain ⟨z,hz,rfl⟩:=h;obtain ⟨u,hu,hur⟩:=oV.get i z hz;have Cy:(⟨us⟩:Array Value)[i]? =amT u:=by simpa using hu
    exact .pure hk rfl rfl (by simp only [execOp,fF];exact eW (by simp [Instr.extract,hv,Cy])) hur
  cases h
 case h_29 esz x y args argTypes fF=>
  simp only [ut] at hc;obtain ⟨nW,h1⟩:=hc;obtain ⟨a,b,RN,h1a,h1b⟩:=Lo h1;have lf:args= #[a,b]:=ae9 (by simpa using RN)
  subst lf;have hx:=oT x (by simp [k7.fA]) a h1a
  have hy:=oT y (by simp [k7.fA]) b h1b
  split at nW
  · rename_i t tx de
    have Fb:argTypes= #[t,tx]:=ae9 (by simpa using de)
    subst Fb;simp only [ut] at nW;obtain ⟨nW,WR⟩:=nW;unfold sA at WR;split at WR
    · rename_i e' htx
      split at nW
      · rename_i el hu
        simp only [ut] at nW;obtain ⟨⟨⟨hs,N2⟩,hnz⟩,hz⟩:=nW;cases hi:P.info? el with
        |none=>rw [hi] at hz;cases hz
        |some i=>
         rw [hi] at hz;cases Jj:i.zero with
         |none=>simp [Jj] at hz
         |some z=>
          have Lf:z.cells.size=esz:=by
           rw [amH,Jj,amH] at hz;simpa using hz
          have qT:i.size=esz:=by unfold oU at hs;rw [hi] at hs;simpa using hs
          have Tp:i.bytes<=1048576:=by unfold Eo at N2;rw [hi] at N2;simpa using N2
          simp only [bG] at h;obtain ⟨v',w',bn,cy,hv,xQ⟩:=E2 (P:=P) (ty:=o.type) hu htx hi qT Jj Lf Tp hx hy h hk;refine ⟨.value v',w',bn,?_,.inr ⟨v',rfl,hv⟩,xQ⟩;simp only [execOp,fF,resolve,Do,EQ,ww,invoke,builtin];rw [show afN ρ #[a,b]= #[ρ a,ρ b] by simp,cy];rfl
      cases nW
    cases WR
  cases nW
 case h_30 n zero ok m k t a b ok' fF=>
  simp only [ut,beq_iff_eq] at hc;obtain ⟨⟨⟨rfl,nW⟩,h1⟩,h2⟩:=hc;have hm:=oT m (by simp [k7.fA]) a h1
  have vz:=oT k (by simp [k7.fA]) b h2
  split at nW
  · rename_i kt et ht
    simp only [ut] at nW;obtain ⟨hkt,hz⟩:=nW;have hz': ∃i z,P.info? et=amT i/\i.zero=amT z/\VR im loc zero z:=by
     cases hi:P.info? et with
     |none=>rw [hi] at hz;cases hz
     |some i=>
      cases Jj:i.zero with
      |none=>rw [hi] at hz;simp [Jj] at hz
      |some z=>rw [hi] at hz;simp [Jj] at hz;exact ⟨i,z,rfl,Jj,Jh hz⟩
    simp only [bG] at h;obtain ⟨v,cy,hv,hn,hw⟩:=N5 (P:=P) ht hkt hz' hm vz h hk;exact .pure hk hn hw (by simp only [execOp,fF];exact eW cy) hv
  cases nW
 case h_31 n m k v t a b c fF=>
  simp only [ut] at hc;obtain ⟨⟨⟨nW,h1⟩,h2⟩,h3⟩:=hc;split at nW
  · rename_i kt et ht
    simp only [bG] at h;obtain ⟨w',cy,xQ,hu⟩:=Lm (P:=P) ht nW (oT m (by simp [k7.fA]) a h1) (oT k (by simp [k7.fA]) b h2) (oT v (by simp [k7.fA]) c h3) h hk
    exact ⟨.skip,w',loc,by simp only [execOp,fF,Do,cy,ww,EQ],.inl ⟨rfl,hu⟩,xQ⟩
  cases nW
 case h_32 esz x y args argTypes fF=>
  simp only [ut] at hc;obtain ⟨nW,h1⟩:=hc;obtain ⟨a,b,RN,h1a,h1b⟩:=Lo h1;have lf:args= #[a,b]:=ae9 (by simpa using RN)
  subst lf;have hx:=oT x (by simp [k7.fA]) a h1a
  have hy:=oT y (by simp [k7.fA]) b h1b
  split at nW
  · rename_i t tx de
    have Fb:argTypes= #[t,tx]:=ae9 (by simpa using de)
    subst Fb;simp only [ut] at nW;obtain ⟨WR,_⟩:=nW;unfold y5 at WR;split at WR
    · rename_i el hu
      have RR: ∀{v:Value} {w':World},(Builtin.copy_ #[t,tx] o.type #[ρ a,ρ b]).run P w= .ok v w'->(execOp ρ o).run P w= .ok (.value v) w':=by
       intro v w' hv;simp only [execOp,fF,resolve,Do,EQ,ww,invoke,builtin];rw [show afN ρ #[a,b]= #[ρ a,ρ b] by simp,hv];rfl
      simp only [bG] at h;split at h
      · rename_i src tk s off len cap ex Bh WT
        rw [WT] at hx;have af7:Nat.min (amS src) len=min (amS src) len:=rfl;have Hr:r.rd=iQ (y.ev e):=by
         split at h
         · injection h with h;rw [<- h]
         split at h
         · split at h
           · injection h with h;rw [<- h]
           cases h
         cases h
        obtain ⟨g1,g2,g3,g4⟩:=N6 (P:=P) (w:=w) hy Bh (min (amS src) len) (Nat.min_le_left _ _) hk.bH (fun t ht=>hk.tok t (.inl (by rw [Hr];exact ht)))
        have CP:(src.take (min (amS src) len))=src.take len:=by
         rcases Nat.le_total (amS src) len with h'|h'
         · rw [amF h',am0 (If _),am0 h']
         rw [Nat.min_eq_right h']
        rw [CP] at g2;have N8:(sizeOf el).run P w= .ok esz w:=kL WR;split at h
        · rename_i Hw
          injection h with h;subst h;rw [Hw] at g2;have h0:min (amS src) len=0:=by
           have:=congrArg amR Hw
           simp only [aig,am2] at this;omega
          obtain ⟨li,ad,c7,hv,_⟩:=hx.gV;refine .pure (v:= .int .i64 0) hk rfl rfl (RR ?_) (.int _ _);have g2':(Builtin.firstCells esz 0 (ρ b)).run P w= .ok #[] w:=by rw [h0] at g2;simpa using g2
          simp only [Builtin.copy_,hv];cases ad with
          |none=>simp [run_underlying hu,g1,af7,h0,N8,g2',goInt]
          |some ad=>simp [run_underlying hu,g1,af7,h0,N8,g2',goInt,storeCells]
        rename_i r1 rs TM
        split at h
        · rename_i s' rows cq
          split at h
          · rename_i NX
            simp only [ut,af4,ae5] at NX;obtain ⟨rfl,hnf⟩:=NX;injection h with h;have W8:s'=s:=by
             obtain ⟨li,ad,c7,hv,hl,he,_⟩:=hx.gV;obtain ⟨k,gS,hb⟩:=hk.tok tk (.inr ⟨_,by rw [<- h];simp;rfl⟩) li hl
             rw [cq] at gS;injection gS with gS;subst gS;rw [<- hb.1,he]
            subst W8;have wm: ∀q,q∈r1::rs->q∈src:=fun q hq=>by rw [<- TM] at hq;exact List.mem_of_mem_take hq
            have afd:min (amS src) len=amS rs+1:=by
             have:=congrArg amR TM
             simp only [aig,afj] at this;omega
            rw [TM] at g2;obtain ⟨b',o',c',w',hv,cy,xQ⟩:=Ln (P:=P) (new:=r1::rs) hx cq (by simp) (by simp;omega) (fun q hq=>g3 q (wm q hq)) (fun q hq=>g4 q (wm q hq)) h.symm hk
            refine ⟨.value (.int .i64 (Int.ofNat (amS rs+1))),w',loc,RR ?_,.inr ⟨_,rfl,by rw [<- h];exact .int _ _⟩,xQ⟩
            rw [afd] at g2;simp only [Builtin.copy_,hv];simp [run_underlying hu,g1,af7,afd,N8,g2,goInt,-afb];rw [cy];rfl
          cases h
        cases h
      cases h
    cases WR
  cases nW
 case h_33 esz zero x args argTypes fF=>
  simp only [ut] at hc;obtain ⟨nW,h1⟩:=hc;obtain ⟨a,ha,h1a⟩:=Lp h1;have lf:args= #[a]:=ae9 (by simpa using ha)
  subst lf;have hx:=oT x (by simp [k7.fA]) a h1a
  split at nW
  · rename_i t de
    have Fb:argTypes= #[t]:=ae9 (by simpa using de)
    subst Fb;split at nW
    · rename_i el hu
      simp only [ut,beq_iff_eq] at nW;obtain ⟨⟨⟨hs,hz⟩,hzl⟩,NZ⟩:=nW;have RR: ∀{v:Value} {w':World},(Builtin.clear_ #[t] o.type #[ρ a]).run P w= .ok v w'->(execOp ρ o).run P w= .ok (.value v) w':=by
       intro v w' hv;simp only [execOp,fF,resolve,Do,EQ,ww,invoke,builtin];rw [show afN ρ #[a]= #[ρ a] by simp,hv];rfl
      simp only [bG] at h;split at h
      · rename_i tk s off len cap ex WT
        rw [WT] at hx;split at h
        · injection h with h;subst h
          obtain ⟨li,ad,c7,hv,_⟩:=hx.gV;refine .pure (v:= .tuple #[]) hk rfl rfl (RR ?_) (.undef _);simp only [Builtin.clear_,hv];cases ad<;>simp [run_underlying hu]
        rename_i len
        split at h
        · rename_i s' rows cq
          split at h
          · rename_i NX
            simp only [ut,af4,ae5] at NX;obtain ⟨rfl,hnf⟩:=NX;injection h with h;have W8:s'=s:=by
             obtain ⟨li,ad,c7,hv,hl,he,_⟩:=hx.gV;obtain ⟨k,gS,hb⟩:=hk.tok tk (.inr ⟨_,by rw [<- h];simp;rfl⟩) li hl
             rw [cq] at gS;injection gS with gS;subst gS;rw [<- hb.1,he]
            subst W8;obtain ⟨i,z,hi,Jj,cY,Lq⟩:=E6 hz NZ;have Lb: ∀q∈af3 (len+1) zero,amS q=s':=fun q hq=>by rw [(amv.1 hq).2];exact hzl
            have Xe: ∀q∈af3 (len+1) zero,∀c∈q,c.plain=amV:=fun q hq c hc=>by rw [(amv.1 hq).2] at hc;exact amD.1 NZ c hc
            obtain ⟨b',o',c',w',hv,cy,xQ⟩:=Ln (P:=P) (new:=af3 (len+1) zero) hx cq (by simp) (by simp) Lb Xe h.symm hk
            refine ⟨.value (.tuple #[]),w',loc,RR ?_,.inr ⟨_,rfl,by rw [<- h];exact .undef _⟩,xQ⟩
            have P1:(zeroValue el).run P w= .ok z w:=by simp [zeroValue,typeInfo,hi,Jj]
            have hzc:(Builtin.zeroCells z.cells (len+1)).toList=(af3 (len+1) zero).flatMap aY:=by
             have de:=CO Lq cY (len+1);have TC:=dH Lb;have qT:=ya z.cells (len+1);apply agy;intro j;rcases acl j ((af3 (len+1) zero).flatMap aY).length with hj|hj
             · have hfj:=de.flat j _ (NE hj)
               rw [NE hj,<- hfj];simp only [Builtin.zeroCells,alX,Array.getElem?_toList]
             rw [M2 hj,M2]
             simp only [afg,qT];rw [TC] at hj;simp only [List.length_replicate] at hj;rw [<- cY,hzl];exact hj
            simp only [Builtin.clear_,hv];simp [run_underlying hu,P1,hzc,-afb];rw [cy];rfl
          cases h
        cases h
      · rename_i e1 c1 WT
        rw [WT] at hx;injection h with h;subst h;obtain ⟨ad,c7,hv,_⟩:=hx.oe;refine .pure (v:= .tuple #[]) hk rfl rfl (RR ?_) (.undef _);simp only [Builtin.clear_,hv];cases ad<;>simp [run_underlying hu]
      cases h
    cases nW
  cases nW
 case h_34 isMax x xs b args WU fF=>
  simp only [ut] at hc;obtain ⟨hb,h1⟩:=hc;simp only [bG] at h;have vD:=nB (im:=im) (loc:=loc) (e:=e) (ρ:=ρ) (fun y hy=>oT y (by simpa [k7.fA] using hy)) h1
  split at h
  · rename_i k a hp
    rw [AC] at h;obtain ⟨z,hz,rfl⟩:=h;have gx:EO e (x::xs)= .int k a::EO e xs:=by simp [EO,hp]
    rw [gx] at vD;generalize hl:args.toList.map ρ=l at vD;cases vD with
    |cons _ u _ us h1 h2=>
     obtain rfl:=h1.gu;obtain ⟨c,rfl,cy⟩:=P2 (P:=P) (w:=w) (isMax:=isMax) h2 hz;refine .pure hk rfl rfl ?_ (.int k c);have mC:(args.map ρ).toList= .int k a::us:=by simpa using hl
     have Tp:b=if isMax then .max else .min:=by cases isMax<;>simpa using hb
     subst Tp;cases isMax with
     |true=>
      simp only [if_true] at fF cy;simp only [execOp,fF,resolve,Do,EQ,ww,invoke,builtin,Builtin.max_,mC,cy]
     |false=>
      simp only [adm,if_false] at fF cy;simp only [execOp,fF,resolve,Do,EQ,ww,invoke,builtin,Builtin.min_,mC,cy]
  cases h
 case h_37 x y t m ps fF=>
  simp only [ut,beq_iff_eq] at hc;obtain ⟨⟨rfl,nW⟩,hp⟩:=hc;split at nW
  · rename_i el hu
    simp only [ut] at nW;obtain ⟨hs,hz⟩:=nW;split at hp
    · rename_i i a j b hps
      simp only [ut,beq_iff_eq] at hp;obtain ⟨⟨⟨rfl,rfl⟩,h1⟩,h2⟩:=hp;simp only [bG] at h;split at h
      · rename_i Bo
        simp only [ut] at Bo;injection h with h;have hx:=oT x (by simp [k7.fA]) a h1
        have hy:=oT y (by simp [k7.fA]) b h2
        obtain ⟨bn,hv,he⟩:=La (el:=el) hx hy h.symm hk;refine ⟨_,_,bn,?_,.inr ⟨_,rfl,hv⟩,he⟩;have Jj: ∃i z,P.info? el=amT i/\i.zero=amT z/\z.cells.size=1:=by
         cases hi:P.info? el with
         |none=>rw [hi] at hz;cases hz
         |some i=>
          cases hq:i.zero with
          |none=>rw [hi] at hz;simp [hq] at hz
          |some z=>rw [hi] at hz;simp [hq] at hz;exact ⟨i,z,rfl,hq,hz⟩
        obtain ⟨i,z,hi,hq,qT⟩:=Jj;have P1:(zeroValue el).run P w= .ok z w:=by simp [zeroValue,typeInfo,hi,hq]
        have c1:(ρ a).cells= #[ρ a]:=by
         obtain ⟨q1,q2⟩:=hx.Jg Bo.1;cases NO:ρ a<;>first|rfl|exact absurd NO (q1 _)|exact absurd NO (q2 _)
        have c2:(ρ b).cells= #[ρ b]:=by
         obtain ⟨q1,q2⟩:=hy.Jg Bo.2;cases NO:ρ b<;>first|rfl|exact absurd NO (q1 _)|exact absurd NO (q2 _)
        have fl: ∀q:Value,Instr.fill (fun i=>amT (i*1,1)) #[q,q] [(0,ρ a),(1,ρ b)]=amT #[ρ a,ρ b]:=fun q=>by
         have s1:(⟨mP (0*1) (ρ a).cells.toList (#[q,q]:Array Value).toList⟩:Array Value)= #[ρ a,q]:=by rw [c1];rfl
         have s2:(⟨mP (1*1) (ρ b).cells.toList (#[ρ a,q]:Array Value).toList⟩:Array Value)= #[ρ a,ρ b]:=by rw [c2];rfl
         rw [y8 (place:=fun i=>amT (i*1,1)) rfl (by rw [c1];rfl) (by simp),s1,y8 (place:=fun i=>amT (i*1,1)) rfl (by rw [c2];rfl) (by simp),s2]
         rfl
        simp only [execOp,fF,Instr.buildSlice,Do,run_underlying hu,ww,kL hs];have e0:(afN (fun x=>z.cells[x%z.cells.size]!) (agz (2*1)))= #[z.cells[0]!,z.cells[0]!]:=by
         rw [qT,show agz (2*1)= #[0,1] from by decide];simp [Nat.mod_one]
        have big: ¬(2*1>2^24):=by decide
        have nz: ¬(2*1=0):=by decide
        have ml:(ps.map fun (i,x)=>(i,ρ x)).toList=[(0,ρ a),(1,ρ b)]:=by rw [aka,hps];rfl
        simp only [big,nz,if_false,Do,P1,ww,EQ];rw [e0,ml,fl];simp [newRow]
      cases h
    cases hp
  cases nW
 case h_38 n m k v t a b c fF=>
  simp only [ut] at hc;obtain ⟨⟨⟨nW,h1⟩,h2⟩,h3⟩:=hc;split at nW
  · rename_i kt et ht
    simp only [bG] at h;obtain ⟨w',cy,xQ,hu⟩:=Lm (P:=P) ht nW (oT m (by simp [k7.fA]) a h1) (oT k (by simp [k7.fA]) b h2) (oT v (by simp [k7.fA]) c h3) h hk
    exact ⟨.skip,w',loc,by simp only [execOp,fF,Do,cy,ww,EQ],.inl ⟨rfl,hu⟩,xQ⟩
  cases nW
 all_goals first|(simp only [bG] at h;cases h;done)|(simp at hc;done)
end
end Go.Vm
/- What goes over the border of a pure call, and what comes back. -/
namespace Go.Vm
def gl:Loc:=fun _=>amU
def grow (im:Im) (w:World) (bs:List Nat):Im:=fun b=>match im b with
 |some o=>amT o
 |none=>if bs.contains b then w.heap[b]? else amU
theorem Jo (im:Im) (w:World) (bs:List Nat):od im (grow im w bs):=fun b o h=>by unfold grow;rw [h]
theorem P6 {im:Im} {w:World} {bs:List Nat} (h: ∀b o,im b=amT o->w.heap[b]? =amT o): ∀b o,grow im w bs b=amT o->w.heap[b]? =amT o:=by
 intro b o hb;unfold grow at hb;split at hb
 · rename_i o' ho;injection hb with hb;subst hb;exact h b _ ho
 split at hb
 · exact hb
 cases hb
theorem Xh {im:Im} {w:World} {bs:List Nat} (h: ∀b o,im b=amT o->w.heap[b]? =amT o) {b:Nat} (hb:b∈bs):grow im w bs b=w.heap[b]?:=by
 unfold grow;split
 · rename_i o ho;exact (h b o ho).symm
 rw [pp (by simpa using hb)]
theorem TN {im:Im} {w:World} {bs:List Nat} {b:Nat} {o:Obj} (h:grow im w bs b=amT o):im b=amT o\/b∈bs:=by
 unfold grow at h;split at h
 · rename_i o' ho;injection h with h;subst h;exact .inl ho
 split at h
 · rename_i hc;exact .inr (by simpa using hc)
 cases h
def AD (loc:Loc) (aD:cL) (tk:List Nat):List Nat:=tk.filterMap fun t=>if (aD[t]?).any jW.bM then (loc t).map (·.dh) else amU
theorem AE {loc:Loc} {aD:cL} {tk:List Nat} {b:Nat}:b∈AD loc aD tk↔ ∃t li k,t∈tk/\loc t=amT li/\aD[t]? =amT k/\k.bM=amV/\li.dh=b:=by
 unfold AD;rw [List.mem_filterMap];constructor
 · rintro ⟨t,ht,h⟩
   split at h
   · rename_i hs
     rw [AC] at h;obtain ⟨li,hl,rfl⟩:=h;cases hk:aD[t]? with
     |none=>rw [hk] at hs;cases hs
     |some k=>rw [hk] at hs;exact ⟨t,li,k,ht,hl,hk,hs,rfl⟩
   cases h
 rintro ⟨t,li,k,ht,hl,hk,hs,rfl⟩
 exact ⟨t,ht,by rw [hk,hl];simp [hs]⟩
theorem nC {e:Nat} {rows:List Row} (h:rows≠[]):(jW.arr e rows).bM=amV:=by
 cases rows with
 |nil=>exact absurd rfl h
 |cons _ _=>rfl
section
variable {im eH : Im} {loc : Loc} {aD : cL} {w : World}
def Over (im eH:Im) (loc:Loc) (aD:cL) (w:World) (t:Nat):Prop:=
 ∀li,loc t=amT li-> ∃k,aD[t]? =amT k/\BR im loc w li k/\(k.bM=amV->eH li.dh=w.heap[li.dh]?)
def af8 (eH:Im) (loc:Loc) (bx:Nat->Option (List PV)) (t:Nat):Prop:=
 ∀li cs,loc t=amT li->bx t=amT cs-> ∃vs,fh eH gl cs vs/\ ∀(j:Nat) (v:Value),vs[j]? =amT v->oc eH li.dh (li.sh+j)=amT v
theorem y9 {b o:Nat} {cs:Array Value} {el:TypeId} {fr:Nat×Nat} (h:im b=amT (.cells cs el fr)):oc im b o=cs[o]?:=by
 unfold oc;rw [h]
theorem bO.Lr {get:Nat->Option Value} {sh esz off len:Nat} {rows:List Row} (h:bO get sh esz rows):bO get (sh+off*esz) esz ((rows.drop off).take len):=(h.drop off).take len
mutual
theorem af9 (hi:od im eH) {bx:Nat->Option (List PV)} {tb:Nat->List Nat} (hb: ∀t,(∀u,u∈tb t->Over im eH loc aD w u)->Over im eH loc aD w t->af8 eH loc bx t):
 ∀{x y:PV} {v:Value},(∀t,t∈jc tb x->Over im eH loc aD w t)->VR im loc x v->CC aD bx x=amT y->VR eH gl y v
 | .undef,y,v,_,_,h=>by simp [CC] at h
 | .jA,y,v,_,_,h=>by simp [CC] at h
 | .int k n,y,v,_,hv,h=>by simp only [CC,v6] at h;subst h;rw [hv.gu];exact .int _ _
 | .bool b,y,v,_,hv,h=>by simp only [CC,v6] at h;subst h;rw [hv.jD];exact .bool _
 | .str b,y,v,_,hv,h=>by simp only [CC,v6] at h;subst h;rw [hv.Er];exact .str _
 | .agg cs,y,v,ht,hv,h=>by
  simp only [CC,AC] at h;obtain ⟨ys,TO,rfl⟩:=h;obtain ⟨vs,rfl,oV⟩:=hv.pK;exact .agg _ _ (ye hi hb (fun t h=>ht t (by simpa [jc] using h)) oV TO)
 | .cw cs,y,v,ht,hv,h=>by
  simp only [CC,AC] at h;obtain ⟨ys,TO,rfl⟩:=h;obtain ⟨vs,rfl,oV⟩:=hv.Bn;exact .cw _ _ (ye hi hb (fun t h=>ht t (by simpa [jc] using h)) oV TO)
 | .sl e c rows,y,v,_,hv,h=>by
  simp only [CC,v6] at h;subst h;obtain ⟨a,cap,rfl,h1,h2,h3⟩:=hv.oe;exact .sl e amW rows a cap h1 (by simp) fun ec=>let ⟨b,o,ha,hr⟩:=h3 ec;⟨b,o,ha,hr.mono fun _ _ e=>hi.cell e⟩
 | .own t e off len cap ex,y,v,ht,hv,h=>by
  obtain ⟨li,a,c7,rfl,hl,h2,h3,h4,h5,h6,h7⟩:=hv.gV;obtain ⟨k,hk,sD,Xi⟩:=ht t (by simp [jc]) li hl
  simp only [CC,hk] at h;cases k with
  |arr e' rows=>
   simp only [v6] at h;subst h;obtain ⟨b1,b2,b3⟩:=sD;have cY:((rows.drop off).take len).length=len:=by simp;omega
   have he:e'=e:=by rw [<- b1,h2]
   subst he
   have:=VR.sl (im:=eH) (loc:=gl) e' amW ((rows.drop off).take len) a c7 (by omega) (by simp) (fun ec=>by
    have oi:rows≠[]:=by intro e;subst e;simp at ec
    obtain ⟨arr,el,tM,Ji,KS,de⟩:=b3 oi;rcases h7 with h7|⟨_,rfl,_⟩
    · exfalso;apply ec;apply akb.1;omega
    refine ⟨_,_,rfl,de.Lr.mono fun k v hkv=>?_⟩
    rw [y9 (by rw [Xi (nC oi)];exact tM)];exact hkv)
   rwa [cY] at this
  |_=>cases h
 | .ptr t e row off,y,v,ht,hv,h=>by
  obtain ⟨li,hl,he,hn,rfl⟩:=hv.y7;obtain ⟨k,hk,sD,Xi⟩:=ht t (by simp [jc]) li hl
  simp only [CC,hk] at h;cases k with
  |arr e' rows=>
   simp only [AC] at h;obtain ⟨r,hr,rfl⟩:=h;obtain ⟨b1,b2,b3⟩:=sD;have oi:rows≠[]:=by intro e;subst e;simp at hr
   obtain ⟨arr,el,tM,Ji,KS,de⟩:=b3 oi;have NW:e'=e:=by rw [<- b1,he]
   subst NW;obtain ⟨h1,h2⟩:=tL (im:=eH) (loc:=gl) de hr;exact .bJ r off li.dh (li.sh+row*e') _ h1 fun j v hj=>by rw [y9 (by rw [Xi (nC oi)];exact tM)];exact h2 j v hj
  |box cs=>
   dsimp only at h;split at h
   · rename_i vw
     have vw:row=0:=by simpa using vw
     subst vw;rw [AC] at h;obtain ⟨ys,TO,rfl⟩:=h;obtain ⟨vs,h1,h2⟩:=hb t (fun u hu=>ht u (by simp [jc,hu])) (ht t (by simp [jc])) li ys hl TO
     exact .bJ ys off li.dh (li.sh+0*e) vs h1 fun j v hj=>by simpa using h2 j v hj
   cases h
  |_=>cases h
 | .bJ cs off,y,v,ht,hv,h=>by
  simp only [CC,AC] at h;obtain ⟨ys,TO,rfl⟩:=h;obtain ⟨b,o,vs,h1,h2,rfl⟩:=hv.x7;exact .bJ ys off b o vs (ye hi hb (fun t h=>ht t (by simpa [jc] using h)) h1 TO) fun j v hj=>hi.cell (h2 j v hj)
 | .mp t,y,v,_,_,h=>by simp [CC] at h
 | .eV fn a b,y,v,ht,hv,h=>by
  simp only [CC] at h;cases ha:CD aD bx a with
  |none=>rw [ha] at h;cases h
  |some a'=>
   cases Bf:CD aD bx b with
   |none=>rw [ha,Bf] at h;cases h
   |some b'=>
    rw [ha,Bf] at h;simp only [v6] at h;subst h;cases hv with
    |eV _ _ _ as bs h1 h2=>
     exact .eV fn a' b' as bs (ye hi hb (fun t h=>ht t (by simp [jc,h])) h1 ha) (ye hi hb (fun t h=>ht t (by simp [jc,h])) h2 Bf)
 | .dU,y,v,_,hv,h=>by
  simp only [CC,v6] at h;subst h;cases hv;exact .dU
theorem ye (hi:od im eH) {bx:Nat->Option (List PV)} {tb:Nat->List Nat} (hb: ∀t,(∀u,u∈tb t->Over im eH loc aD w u)->Over im eH loc aD w t->af8 eH loc bx t):
 ∀{x y:List PV} {v:List Value},(∀t,t∈dE tb x->Over im eH loc aD w t)->fh im loc x v->CD aD bx x=amT y->fh eH gl y v
 | [],y,v,_,hv,h=>by simp only [CD,v6] at h;subst h;cases hv;exact .nil
 |x::xs,y,v,ht,hv,h=>by
  simp only [CD] at h;cases hx:CC aD bx x with
  |none=>rw [hx] at h;cases h
  |some x'=>
   cases RI:CD aD bx xs with
   |none=>rw [hx,RI] at h;cases h
   |some xs'=>
    rw [hx,RI] at h;simp only [v6] at h;subst h;cases hv with
    |cons _ u _ us h1 h2=>
     exact .cons _ _ _ _ (af9 hi hb (fun t h=>ht t (by simp [dE,h])) h1 hx) (ye hi hb (fun t h=>ht t (by simp [dE,h])) h2 RI)
end
theorem P7 (hi:od im eH): ∀(n:Nat) (t:Nat),(∀u,u∈dj aD n t->Over im eH loc aD w u)->Over im eH loc aD w t->af8 eH loc (xX aD n) t
 |0,t,_,_=>by intro li cs _ h;cases h
 |n+1,t,ht,hto=>by
  intro li cs hl h;obtain ⟨k,hk,sD,Xi⟩:=hto li hl;simp only [xX,hk] at h;cases k with
  |box cells=>
   dsimp only at h;obtain ⟨b1,b2,b3,vs,el,h4,h5,h6⟩:=sD;refine ⟨vs,ye hi (fun t'=>P7 hi n t') (tb:=dj aD n) (fun u hu=>ht u (by simp [dj,hk,hu])) h6 h,fun j v hj=>?_⟩
   rw [y9 (by rw [Xi rfl];exact h4),b3]
   simpa using hj
  |_=>cases h
end
end Go.Vm
/- A pure call: what comes back. -/
namespace Go.Vm
section
variable {im eH : Im} {loc bn : Loc} {aD : cL} {w : World}
mutual
theorem Ls: ∀{x:PV} {v:Value},x.kJ=amV->VR im loc x v->VR eH bn x v
 | .int k n,v,_,h=>by rw [h.gu];exact .int _ _
 | .bool b,v,_,h=>by rw [h.jD];exact .bool _
 | .str s,v,_,h=>by rw [h.Er];exact .str _
 | .agg cs,v,hn,h=>by
  obtain ⟨vs,rfl,hr⟩:=h.pK;exact .agg _ _ (CQ (by simpa [PV.kJ] using hn) hr)
 | .cw cs,v,hn,h=>by
  obtain ⟨vs,rfl,hr⟩:=h.Bn;exact .cw _ _ (CQ (by simpa [PV.kJ] using hn) hr)
 | .undef,_,hn,_=>by simp [PV.kJ] at hn
 | .jA,_,hn,_=>by simp [PV.kJ] at hn
 | .sl ..,_,hn,_=>by simp [PV.kJ] at hn
 | .own ..,_,hn,_=>by simp [PV.kJ] at hn
 | .ptr ..,_,hn,_=>by simp [PV.kJ] at hn
 | .bJ ..,_,hn,_=>by simp [PV.kJ] at hn
 | .mp ..,_,hn,_=>by simp [PV.kJ] at hn
 | .eV ..,_,hn,_=>by simp [PV.kJ] at hn
 | .dU,_,hn,_=>by simp [PV.kJ] at hn
theorem CQ: ∀{x:List PV} {v:List Value},wc x=amV->fh im loc x v->fh eH bn x v
 | [],_,_,h=>by cases h;exact .nil
 |x::xs,_,hn,h=>by
  simp only [wc,ut] at hn;cases h with
  |cons _ u _ us h1 h2=>exact .cons _ _ _ _ (Ls hn.1 h1) (CQ hn.2 h2)
end
mutual
theorem TP (hi:od im eH): ∀{x y:PV} {v:Value},(∀t,t∈jc tz x->Over im eH loc aD w t)->VR im loc x v->y4 aD x=amT y->VR eH bn y v
 | .int k n,y,v,_,hv,h=>by simp only [y4,v6] at h;subst h;rw [hv.gu];exact .int _ _
 | .bool b,y,v,_,hv,h=>by simp only [y4,v6] at h;subst h;rw [hv.jD];exact .bool _
 | .str b,y,v,_,hv,h=>by simp only [y4,v6] at h;subst h;rw [hv.Er];exact .str _
 | .agg cs,y,v,ht,hv,h=>by
  simp only [y4,AC] at h;obtain ⟨ys,TO,rfl⟩:=h;obtain ⟨vs,rfl,oV⟩:=hv.pK;exact .agg _ _ (Jp hi (fun t h=>ht t (by simpa [jc] using h)) oV TO)
 | .cw cs,y,v,ht,hv,h=>by
  simp only [y4,AC] at h;obtain ⟨ys,TO,rfl⟩:=h;obtain ⟨vs,rfl,oV⟩:=hv.Bn;exact .cw _ _ (Jp hi (fun t h=>ht t (by simpa [jc] using h)) oV TO)
 | .sl e c rows,y,v,_,hv,h=>by
  simp only [y4,v6] at h;subst h;obtain ⟨a,cap,rfl,h1,h2,h3⟩:=hv.oe;exact .sl e amW rows a cap h1 (by simp) fun ec=>let ⟨b,o,ha,hr⟩:=h3 ec;⟨b,o,ha,hr.mono fun _ _ e=>hi.cell e⟩
 | .own t e off len cap ex,y,v,ht,hv,h=>by
  obtain ⟨li,a,c7,rfl,hl,h2,h3,h4,h5,h6,h7⟩:=hv.gV;obtain ⟨k,hk,sD,Xi⟩:=ht t (by simp [jc]) li hl
  simp only [y4,hk] at h;cases k with
  |arr e' rows=>
   simp only [v6] at h;subst h;obtain ⟨b1,b2,b3⟩:=sD;have cY:((rows.drop off).take len).length=len:=by simp;omega
   have he:e'=e:=by rw [<- b1,h2]
   subst he
   have:=VR.sl (im:=eH) (loc:=bn) e' amW ((rows.drop off).take len) a c7 (by omega) (by simp) (fun ec=>by
    have oi:rows≠[]:=by intro e;subst e;simp at ec
    obtain ⟨arr,el,tM,Ji,KS,de⟩:=b3 oi;rcases h7 with h7|⟨_,rfl,_⟩
    · exfalso;apply ec;apply akb.1;omega
    refine ⟨_,_,rfl,de.Lr.mono fun k v hkv=>?_⟩
    rw [y9 (by rw [Xi (nC oi)];exact tM)];exact hkv)
   rwa [cY] at this
  |_=>cases h
 | .undef,_,_,_,_,h=>by simp [y4] at h
 | .jA,_,_,_,_,h=>by simp [y4] at h
 | .ptr ..,_,_,_,_,h=>by simp [y4] at h
 | .bJ ..,_,_,_,_,h=>by simp [y4] at h
 | .mp ..,_,_,_,_,h=>by simp [y4] at h
 | .eV ..,_,_,_,_,h=>by simp [y4] at h
 | .dU,_,_,_,_,h=>by simp [y4] at h
theorem Jp (hi:od im eH): ∀{x y:List PV} {v:List Value},(∀t,t∈dE tz x->Over im eH loc aD w t)->fh im loc x v->I' aD x=amT y->fh eH bn y v
 | [],y,v,_,hv,h=>by simp only [I',v6] at h;subst h;cases hv;exact .nil
 |x::xs,y,v,ht,hv,h=>by
  simp only [I'] at h;cases hx:y4 aD x with
  |none=>rw [hx] at h;cases h
  |some x'=>
   cases RI:I' aD xs with
   |none=>rw [hx,RI] at h;cases h
   |some xs'=>
    rw [hx,RI] at h;simp only [v6] at h;subst h;cases hv with
    |cons _ u _ us h1 h2=>
     exact .cons _ _ _ _ (TP hi (fun t h=>ht t (by simp [dE,h])) h1 hx) (Jp hi (fun t h=>ht t (by simp [dE,h])) h2 RI)
end
theorem pM {l:List Nat} {t:Nat}:has l t=amV↔t∈l:=by
 unfold has;rw [List.any_eq_true];constructor
 · rintro ⟨x,hx,h⟩
   have:t=x:=by simpa using h
   subst this;exact hx
 intro h;exact ⟨t,h,by simp⟩
theorem jE {l:List Nat} {t:Nat}:has l t=amW↔t∉l:=by
 rw [<- pM];simp
def ar0:Im:=fun _=>amU
structure ImO (dm:Loc) (oj:cL) (Hk:List Nat) (w:World) (seen seen':List Nat) (news:cL) (Lt:List LI) (ts:List (Option Nat)):Prop where
 Jq:(amS Lt)=amS news
 K5:(amS ts)=amS news
 br: ∀(j:Nat) (k:jW) (li:LI),news[j]? =amT k->Lt[j]? =amT li->(∃e rows,k= .arr e rows)/\BR ar0 gl w li k
 own: ∀(j:Nat) (k:jW) (li:LI) (t:Nat),news[j]? =amT k->Lt[j]? =amT li->ts[j]? =amT (amT t)->dm t=amT li/\oj[t]? =amT k/\t∉Hk/\t∈seen'/\t∉seen
 dum: ∀(j:Nat) (k:jW),news[j]? =amT k->ts[j]? =amT amU->k.bM=amW
 inj: ∀(i j t:Nat),ts[i]? =amT (amT t)->ts[j]? =amT (amT t)->i=j
 sub: ∀t,t∈seen->t∈seen'
theorem ImO.none {dm:Loc} {oj:cL} {Hk:List Nat} {seen:List Nat}:ImO dm oj Hk w seen seen [] [] [] where
 Jq:=rfl
 K5:=rfl
 br:=fun j k li h=>by simp at h
 own:=fun j k li t h=>by simp at h
 dum:=fun j k h=>by simp at h
 inj:=fun i j t h=>by simp at h
 sub:=fun _ h=>h
theorem gy {α:Type} {a b:List α} {j:Nat} {x:α} (h:(a++b)[j]? =amT x):(j<amS a/\a[j]? =amT x)\/(amS a<=j/\b[j-(amS a)]? =amT x):=by
 rcases acl j (amS a) with hj|hj
 · rw [adc hj] at h;exact .inl ⟨hj,h⟩
 rw [WF hj] at h;exact .inr ⟨hj,h⟩
theorem ImO.append {dm:Loc} {oj:cL} {Hk s0 s1 s2:List Nat} {n1 n2:cL} {l1 l2:List LI} {t1 t2:List (Option Nat)} (h:ImO dm oj Hk w s0 s1 n1 l1 t1) (k:ImO dm oj Hk w s1 s2 n2 l2 t2):
 ImO dm oj Hk w s0 s2 (n1++n2) (l1++l2) (t1++t2):=by
 have e1:=h.Jq;have e2:=h.K5;have TQ: ∀(j t:Nat),t1[j]? =amT (amT t)->t∈s1:=by
  intro j t ht;have hj:=(ae8.1 ht).1;exact (h.own j n1[j] l1[j] t (NE (by omega)) (NE (by omega)) ht).2.2.2.1
 have P8: ∀(j t:Nat),t2[j]? =amT (amT t)->t∉s1:=by
  intro j t ht;have hj:=(ae8.1 ht).1
  have:=k.Jq;have:=k.K5
  exact (k.own j n2[j] l2[j] t (NE (by omega)) (NE (by omega)) ht).2.2.2.2
 refine ⟨by simp [e1,k.Jq],by simp [e2,k.K5],fun j b li hb hl=>?_,fun j b li t hb hl ht=>?_,fun j b hb ht=>?_,fun i j t hi hj=>?_,fun t ht=>k.sub t (h.sub t ht)⟩
 · rcases gy hb with ⟨h1,hb⟩|⟨h1,hb⟩
   · rcases gy hl with ⟨h2,hl⟩|⟨h2,hl⟩
     · exact h.br j b li hb hl
     omega
   rcases gy hl with ⟨h2,hl⟩|⟨h2,hl⟩
   · omega
   rw [e1] at hl;exact k.br _ b li hb hl
 · rcases gy hb with ⟨h1,hb⟩|⟨h1,hb⟩
   · rcases gy hl with ⟨h2,hl⟩|⟨h2,hl⟩
     · rcases gy ht with ⟨h3,ht⟩|⟨h3,ht⟩
       · obtain ⟨a1,a2,a3,a4,a5⟩:=h.own j b li t hb hl ht
         exact ⟨a1,a2,a3,k.sub t a4,a5⟩
       omega
     omega
   rcases gy hl with ⟨h2,hl⟩|⟨h2,hl⟩
   · omega
   rcases gy ht with ⟨h3,ht⟩|⟨h3,ht⟩
   · omega
   rw [e1] at hl;rw [e2] at ht
   obtain ⟨a1,a2,a3,a4,a5⟩:=k.own _ b li t hb hl ht;exact ⟨a1,a2,a3,a4,fun hs=>a5 (h.sub t hs)⟩
 · rcases gy hb with ⟨h1,hb⟩|⟨h1,hb⟩
   · rcases gy ht with ⟨h3,ht⟩|⟨h3,ht⟩
     · exact h.dum j b hb ht
     omega
   rcases gy ht with ⟨h3,ht⟩|⟨h3,ht⟩
   · omega
   rw [e2] at ht;exact k.dum _ b hb ht
 rcases gy hi with ⟨h1,hi⟩|⟨h1,hi⟩
 · rcases gy hj with ⟨h2,hj⟩|⟨h2,hj⟩
   · exact h.inj i j t hi hj
   exact absurd (TQ i t hi) (P8 _ t hj)
 rcases gy hj with ⟨h2,hj⟩|⟨h2,hj⟩
 · exact absurd (TQ j t hj) (P8 _ t hi)
 have:=k.inj _ _ t hi hj;omega
def aff (dm:Loc) (oj:cL) (Es:Im) (w:World):Prop:= ∀t li,dm t=amT li-> ∃k,oj[t]? =amT k/\BR Es dm w li k
mutual
theorem TR {Es:Im} {dm:Loc} {oj:cL} {Hk:List Nat} (hk:aff dm oj Es w): ∀{x y:PV} {v:Value} {nx:Nat} {seen seen':List Nat} {news:cL},
 VR Es dm x v->zQ oj Hk nx seen x=amT (y,news,seen')->
 ∃Lt ts,ImO dm oj Hk w seen seen' news Lt ts/\ ∀(Et:Im) (qZ:Loc),(∀(j:Nat) (li:LI),Lt[j]? =amT li->qZ (nx+j)=amT li)->VR Et qZ y v
 | .int k n,y,v,nx,seen,seen',news,hv,h=>by
  simp only [zQ,v6,afe] at h;obtain ⟨rfl,rfl,rfl⟩:=h;exact ⟨[],[],.none,fun _ _ _=>by rw [hv.gu];exact .int _ _⟩
 | .bool k,y,v,nx,seen,seen',news,hv,h=>by
  simp only [zQ,v6,afe] at h;obtain ⟨rfl,rfl,rfl⟩:=h;exact ⟨[],[],.none,fun _ _ _=>by rw [hv.jD];exact .bool _⟩
 | .agg cs,y,v,nx,seen,seen',news,hv,h=>by
  simp only [zQ,AC,afe] at h;obtain ⟨⟨ys,n2,s2⟩,hr,rfl,rfl,rfl⟩:=h;obtain ⟨vs,rfl,oV⟩:=hv.pK;obtain ⟨Lt,ts,h1,h2⟩:=Jr hk oV hr;exact ⟨Lt,ts,h1,fun Et qZ hl=> .agg _ _ (h2 Et qZ hl)⟩
 | .cw cs,y,v,nx,seen,seen',news,hv,h=>by
  simp only [zQ,AC,afe] at h;obtain ⟨⟨ys,n2,s2⟩,hr,rfl,rfl,rfl⟩:=h;obtain ⟨vs,rfl,oV⟩:=hv.Bn;obtain ⟨Lt,ts,h1,h2⟩:=Jr hk oV hr;exact ⟨Lt,ts,h1,fun Et qZ hl=> .cw _ _ (h2 Et qZ hl)⟩
 | .sl e c rows,y,v,nx,seen,seen',news,hv,h=>by
  obtain ⟨a,cap,rfl,h1,h2,h3⟩:=hv.oe;cases c with
  |false=>simp [zQ] at h
  |true=>
   cases rows with
   |cons r rs=>simp [zQ] at h
   |nil=>
    simp only [zQ,v6,afe] at h;obtain ⟨rfl,rfl,rfl⟩:=h;have Ho:cap=0:=h2 rfl;subst Ho;refine ⟨[⟨0,0,e,0,0⟩],[amU],⟨rfl,rfl,fun j k li hj hl=>?_,fun j k li t hj hl ht=>?_,fun j k hj ht=>?_,fun i j t hi hj=>?_,fun _ h=>h⟩,fun Et qZ hl=>?_⟩
    · cases j with
      |zero=>
       simp at hj hl;subst hj hl;exact ⟨⟨_,_,rfl⟩,rfl,rfl,fun ec=>absurd rfl ec⟩
      |succ j=>simp at hj
    · cases j<;>simp at ht
    · cases j with
      |zero=>simp at hj;subst hj;rfl
      |succ j=>simp at hj
    · cases i<;>simp at hi
    exact .own nx e 0 0 0 amW ⟨0,0,e,0,0⟩ a 0 (hl 0 _ rfl) rfl (If _) (If _) (If _) (by simp) (.inl rfl)
 | .own t e off len cap ex,y,v,nx,seen,seen',news,hv,h=>by
  obtain ⟨li,a,c7,rfl,hl,h2,h3,h4,h5,h6,h7⟩:=hv.gV;obtain ⟨k,vz,sD⟩:=hk t li hl;simp only [zQ,vz] at h;cases k with
  |arr e' rows=>
   dsimp only at h;split at h
   · cases h
   rename_i hs
   simp only [am3,not_or,Bool.not_eq_true] at hs;simp only [v6,afe] at h;obtain ⟨rfl,rfl,rfl⟩:=h;refine ⟨[li],[amT t],⟨rfl,rfl,fun j k li' hj mC=>?_,fun j k li' t' hj mC ht=>?_,fun j k hj ht=>?_,fun i j t hi hj=>?_,fun _ h=>agj _ h⟩,fun Et qZ Ld=>?_⟩
   · cases j with
     |zero=>simp at hj mC;subst hj mC;exact ⟨⟨_,_,rfl⟩,sD⟩
     |succ j=>simp at hj
   · cases j with
     |zero=>
      simp at hj mC ht;subst hj mC ht;exact ⟨hl,vz,jE.1 hs.2,by simp,jE.1 hs.1⟩
     |succ j=>simp at hj
   · cases j<;>simp at ht
   · cases i with
     |zero=>
      cases j with
      |zero=>rfl
      |succ j=>simp at hj
     |succ i=>simp at hi
   exact .own nx e off len cap amW li a c7 (Ld 0 _ rfl) h2 h3 h4 h5 (fun h=>by cases h) h7
  |_=>cases h
 | .str s,y,v,nx,seen,seen',news,hv,h=>by simp [zQ] at h
 | .undef,y,v,nx,seen,seen',news,hv,h=>by simp [zQ] at h
 | .jA,y,v,nx,seen,seen',news,hv,h=>by simp [zQ] at h
 | .ptr ..,y,v,nx,seen,seen',news,hv,h=>by simp [zQ] at h
 | .bJ ..,y,v,nx,seen,seen',news,hv,h=>by simp [zQ] at h
 | .mp ..,y,v,nx,seen,seen',news,hv,h=>by simp [zQ] at h
 | .eV ..,y,v,nx,seen,seen',news,hv,h=>by simp [zQ] at h
 | .dU,y,v,nx,seen,seen',news,hv,h=>by simp [zQ] at h
theorem Jr {Es:Im} {dm:Loc} {oj:cL} {Hk:List Nat} (hk:aff dm oj Es w): ∀{x y:List PV} {v:List Value} {nx:Nat} {seen seen':List Nat} {news:cL},
 fh Es dm x v->Ja oj Hk nx seen x=amT (y,news,seen')->
 ∃Lt ts,ImO dm oj Hk w seen seen' news Lt ts/\ ∀(Et:Im) (qZ:Loc),(∀(j:Nat) (li:LI),Lt[j]? =amT li->qZ (nx+j)=amT li)->fh Et qZ y v
 | [],y,v,nx,seen,seen',news,hv,h=>by
  simp only [Ja,v6,afe] at h;obtain ⟨rfl,rfl,rfl⟩:=h;cases hv;exact ⟨[],[],.none,fun _ _ _=> .nil⟩
 |x::xs,y,v,nx,seen,seen',news,hv,h=>by
  simp only [Ja] at h;cases h1:zQ oj Hk nx seen x with
  |none=>rw [h1] at h;cases h
  |some r1=>
   obtain ⟨y1,n1,s1⟩:=r1;rw [h1] at h;dsimp only at h;cases h2:Ja oj Hk (nx+amS n1) s1 xs with
   |none=>rw [h2] at h;cases h
   |some r2=>
    obtain ⟨y2,n2,s2⟩:=r2;rw [h2] at h;simp only [v6,afe] at h;obtain ⟨rfl,rfl,rfl⟩:=h;cases hv with
    |cons _ u _ us hx RI=>
     obtain ⟨l1,t1,a1,b1⟩:=TR hk hx h1;obtain ⟨l2,t2,a2,b2⟩:=Jr hk RI h2;refine ⟨l1++l2,t1++t2,a1.append a2,fun Et qZ hl=> .cons _ _ _ _ (b1 Et qZ fun j li hj=>?_) (b2 Et qZ fun j li hj=>?_)⟩
     · have:=(ae8.1 hj).1
       exact hl j li (by rw [adc this];exact hj)
     have:=hl (amS n1+j) li (by rw [WF (by rw [a1.Jq];omega),a1.Jq,show (amS n1)+j-(amS n1)=j by omega];exact hj)
     rwa [<- afJ] at this
end
end
end Go.Vm
