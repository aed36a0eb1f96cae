/- The logical machine, part 1: VmDef, VmWp, VmChk, VmRel, VmRen, VmOps1, VmEff, VmOps2, VmOps3, VmOps4, VmOps5, VmOps6, VmOps7, VmOps8, VmOps9, VmEq, VmMap, VmOpsA, VmCall, VmCall2. -/
import GoSem.Dispatch
import Derived.Laws.StructEq
import Derived.Calls
import Derived.Below
import Derived.Laws.CopyRow
import Derived.Deep.AppendSrc
import Derived.Deep.Upon
import Derived.WideKeyRuns
open Bool renaming and_eq_true->ut,false_eq_true->af2,not_eq_true'->afa,or_eq_true->am8,true_and->anz,and_true->anB,true->anJ,false->anK
open Option.some renaming injEq->v6
open Go.Result renaming andThen_ok->ww
open Option renaming map_eq_some_iff->AC,getD_some->af7,isSome_iff_exists->afk,getD_none->agc,isSome_some->an0,map_some->anr,any_some->anu,some->anH,none->anI
open Go.Sem renaming run_bind->Do,run_pure->EQ
open Nat renaming beq->F0s,le_refl->If,add_mul->PP,mul_le_mul_right->UV,lt_or_ge->adc,ble->af4,beq_eq->afg,ble_eq->afK,add_assoc->afR,blt->aga,le_max_right->agM,zero_add->aku,le_max_left->am1,eq_zero_or_pos->an1,min_eq_left->ans,mul_eq_zero->ant,mul_le_mul->anv,add_zero->anD,zero_mul->anE
open Array renaming getElem?_eq_some_iff->IR,getElem?_setIfInBounds->af5,ext'->afc,length_toList->afo,map->afV,range->agH,toList_map->aig,getElem?_eq_none->aks,getElem?_push->amW
open List renaming getElem?_eq_none->M2,getElem?_eq_getElem->NE,getElem?_append_right->acl,getElem?_append_left->ae9,mem_singleton->af6,getElem?_eq_some_iff->afb,replicate->aff,getElem?_toArray->afh,mem_append->afi,flatMap_cons->afj,length_cons->afE,length_append->afF,size_toArray->afI,getElem?_take_of_lt->afQ,mem_cons->afS,foldl_cons->afU,drop_eq_nil_of_le->agb,mem_of_getElem?->agd,mem_iff_getElem->agj,mem_cons_of_mem->agr,getElem?_drop->agt,extract_eq_take_drop->agx,ext_getElem?->agG,flatMap_nil->agO,getElem?_cons_zero->agS,length_take->agX,length_eq_zero_iff->akr,getElem?_set_self->akt,take_of_length_le->alt,length_nil->am6,take_append_drop->am9,getElem?_set_ne->amo,flatMap_append->amY,mem_replicate->an2,append_assoc->an4,isEmpty_iff->an9,foldlM_cons->anp,all_eq_true->anq,drop_drop->anw,mapM_cons->anx,map_cons->anA,getD->anC,length->anF,length->anG
open Prod.mk renaming injEq->afm
open Int renaming toNat_natCast->agJ
open Decidable renaming decide->anL
/- Definitions of a logical machine over pure values: what it computes is tied to the model's runs in VmSound. -/
namespace Go.Vm
universe u
theorem lw{α:Sort u}{a b:α}:cond anJ a b=a:=rfl
theorem ol{α:Sort u}{a b:α}:cond anK a b=b:=rfl
theorem pp{c:Prop}{h:Decidable c}(p:c){α:Sort u}{t e:α}:ite c t e=t:=if_pos p
theorem rc{c:Prop}{h:Decidable c}(p:¬c){α:Sort u}{t e:α}:ite c t e=e:=if_neg p
inductive PV where
 |undef
 |jB
 |int (k:IntKind) (n:Int)
 |bool (b:Bool)
 |str (s:ByteArray)
 |agg (cs:List PV)
 |cq (cs:List PV)
 |sl (esz:Nat) (qS:Bool) (rows:List (List PV))
 |own (t esz off len cap:Nat) (ex:Bool)
 |ptr (t esz row off:Nat)
 |bH (cells:List PV) (off:Nat)
 |mp (t:Nat)
 |eI (fn:FuncId) (fst cap:List PV)
 |dR
instance:Inhabited PV:=⟨.undef⟩
abbrev Row:=List PV
inductive jX where
 |arr (esz:Nat) (rows:List Row)
 |box (cells:List PV)
 |map (es:List (PV×PV))
 |dead
abbrev cH:=List jX
abbrev Env:=List (Nat×PV)
inductive fE where
 |t (n:Nat)
 |c (v:PV)
inductive CM where
 |WN|own|shr|fp
inductive k7 where
 |Ti (x:fE)
 |pick (c a b:fE)
 |bin (op:BinOp) (x y:fE)
 |KC (neg:Bool) (x y:fE)
 |eqc (n:Nat) (neg:Bool) (x y:fE)
 |un (op:UnOp) (x:fE)
 |conv (k:IntKind) (x:fE)
 |len (x:fE)
 |NG (n:Nat)
 |box (x:fE)
 |alloc (cells:List PV)
 |build (zero:List PV) (parts:List (Nat×Nat×fE))
 |A' (esz n:Nat) (zero:Row) (parts:List (Nat×fE))
 |Di (x y:fE)
 |load (agg:Option Nat) (p:fE)
 |store (sz:Nat) (p v:fE)
 |KD (x:fE)
 |KE (off:Nat) (p:fE)
 |ie (agg:Option Nat) (off:Nat) (x:fE)
 |KF (esz:Nat) (x i:fE)
 |Dj (n esz:Nat) (p i:fE)
 |idx (n esz:Nat) (agg:Option Nat) (x i:fE)
 |KG (x i:fE)
 |Ru (esz:Nat) (x:fE) (lo hi mx:Option fE)
 |mks (esz:Nat) (zero:Row) (len cap:fE)
 |mkf (fn:FuncId) (fst cap:List fE)
 |mkm (z:Option PV)
 |lookup (n:Option Nat) (zero:PV) (ok:Bool) (m k:fE)
 |IM (n:Option Nat) (m k v:fE)
 |ext (i:Nat) (x:fE)
 |append (esz:Nat) (x y:fE)
 |copy (esz:Nat) (x y:fE)
 |clear (esz:Nat) (zero:Row) (x:fE)
 |mm (isMax:Bool) (x:fE) (xs:List fE)
 |call (m:CM) (f:FuncId) (args:List fE)
 |xb (x:fE) (args:List fE)
 |bad
structure bU where
 dst:Option Nat
 op:k7
 guard:Option (Nat×Bool)
inductive jY where
 |skip
 |region (draw:Option (List Nat)) (ops:List bU) (fU:List Nat)
 |seq (a b:jY)
 |cond (c:fE) (a b:jY)
 |block (id:Nat) (b:jY)
 |loop (live:List (Nat×Option Nat)) (b:jY)
 |exit (id:Nat)
 |ret
inductive RV where
 |tmp (t:Nat)
 |cell (t:Nat) (agg:Option Nat)
structure aJ where
 Dk:Nat
 code:jY
 res:List RV
inductive Ent where
 |code (x:aJ)
 |kf (PF:Bool) (f:List PV->Option (PV×cH))
 |G6 (f:List PV->cH->List Nat->Option (PV×cH×List Nat))
abbrev mX:=FuncId->Option Ent
structure St where
 env:Env
 aE:cH
 fz:List Nat
 kn:Nat
inductive hJ where
 |normal
 |exit (id:Nat)
 |ret
def lk (t:Nat):Env->PV
 | []=> .undef
 |(s,v)::r=>if F0s s t then v else lk t r
def fE.ev (e:Env):fE->PV
 | .t n=>lk n e
 | .c v=>v
def PV.qj:PV->Bool
 | .undef| .jB| .agg _| .cq _=>anK
 |_=>anJ
def PV.plain:PV->Bool
 | .int _ _| .bool _| .str _=>anJ
 |_=>anK
def PV.cells:PV->List PV
 | .agg cs=>cs
 |v=>[v]
def PV.stored (v:PV):Option (List PV):=if v.cells.all PV.qj then anH v.cells else anI
def PV.cI (v:PV):Option (List PV):=if v.cells.all PV.plain then anH v.cells else anI
def part (agg:Option Nat) (off:Nat) (cs:List PV):Option PV:=
 match agg with
 |some s=>if off+s<=(anG cs) then anH (.agg ((cs.drop off).take s)) else anI
 |none=>cs[off]?
def nT (off:Nat) (new old:List PV):List PV:=old.take off++new++old.drop (off+anG new)
def aa (k:IntKind) (n:Int):Int:=
 match k,n with
 | .i64,.ofNat m=>if aga m 9223372036854775808 then .ofNat m else IntKind.wrap .i64 n
 | .i64,.negSucc m=>if aga m 9223372036854775808 then .negSucc m else IntKind.wrap .i64 n
 | .u64,.ofNat m=> .ofNat (Nat.mod m 18446744073709551616)
 |k,n=>IntKind.wrap k n
def arith (op:BinOp) (k:IntKind) (a b:Int):Option PV:=
 match op with
 | .add=>anH (.int k (aa k (a+b)))
 | .sub=>anH (.int k (aa k (a-b)))
 | .mul=>anH (.int k (aa k (a*b)))
 | .quo=>if b=0 then anI else anH (.int k (aa k (a.tdiv b)))
 | .rem=>if b=0 then anI else anH (.int k (a.tmod b))
 | .and=>anH (.int k (k.wrap (BitVec.ofInt k.bits a&&&BitVec.ofInt k.bits b).toNat))
 | .or=>anH (.int k (k.wrap (BitVec.ofInt k.bits a|||BitVec.ofInt k.bits b).toNat))
 | .xor=>anH (.int k (k.wrap (BitVec.ofInt k.bits a^^^BitVec.ofInt k.bits b).toNat))
 | .andNot=>anH (.int k (k.wrap (BitVec.ofInt k.bits a&&& ~~~ BitVec.ofInt k.bits b).toNat))
 | .eql=>anH (.bool (a==b))
 | .neq=>anH (.bool (a !=b))
 | .lss=>anH (.bool (anL (a<b)))
 | .leq=>anH (.bool (anL (a<=b)))
 | .gtr=>anH (.bool (anL (a>b)))
 | .geq=>anH (.bool (anL (a>=b)))
 | .shl| .shr=>anI
def Cn (op:BinOp) (k:IntKind) (a b:Int):Option PV:=
 if b<0 then anI else
 let n:=min b.toNat k.bits
 match op with
 | .shl=>anH (.int k (k.wrap (a*2^n)))
 | .shr=>anH (.int k (a.fdiv (2^n)))
 |_=>anI
def fA:IntKind->IntKind->Bool
 | .i8,.i8| .i16,.i16| .i32,.i32| .i64,.i64| .u8,.u8| .u16,.u16| .u32,.u32| .u64,.u64=>anJ
 |_,_=>anK
def Rv (op:BinOp) (x y:PV):Option PV:=
 match x,y with
 | .int k a,.int l b=>
  match op with
  | .shl=>Cn .shl k a b
  | .shr=>Cn .shr k a b
  |op=>if fA k l then arith op k a b else anI
 |_,_=>anI
def qT:PV->PV->Option Bool
 | .int k a,.int l b=>if fA k l then anH (a==b) else anI
 |_,_=>anI
def dC:List PV->List PV->Option Bool
 | [],[]=>anH anJ
 |x::xs,y::ys=>
  match qT x y with
  |some anJ=>dC xs ys
  |some anK=>anH anK
  |none=>anI
 |_,_=>anI
def unE (op:UnOp) (x:PV):Option PV:=
 match op,x with
 | .neg,.int k n=>anH (.int k (aa k (0-n)))
 | .not,.bool b=>anH (.bool !b)
 |_,_=>anI
def rowsOf (aE:cH) (esz:Nat):PV->Option (List Row)
 | .sl e _ rows=>match rows with
  | []=>anH []
  |_=>if F0s e esz then anH rows else anI
 | .own t e off len _ _=>if F0s e esz then (match aE[t]? with
  |some (.arr _ rows)=>anH ((rows.drop off).take len)
  |_=>anI) else anI
 |_=>anI
def iO:PV->List Nat
 | .own t _ _ _ _ _=>[t]
 |_=>[]
structure nU where
 v:PV
 news:cH:=[]
 wr:List (Nat×jX):=[]
 rd:List Nat:=[]
 fr:List Nat:=[]
def nm:List (Nat×Nat×PV)->List PV->Option (List PV)
 | [],cs=>anH cs
 |(off,sz,v)::r,cs=>
  match v.stored with
  |some w=>if F0s (anG w) sz&&af4 (off+sz) (anG cs) then nm r (nT off w cs) else anI
  |none=>anI
def qk:List (Nat×PV)->List Row->Nat->Option (List Row)
 | [],rows,_=>anH rows
 |(i,v)::r,rows,esz=>
  match v.cI with
  |some w=>if F0s (anG w) esz&&aga i (anG rows) then qk r (rows.set i w) esz else anI
  |none=>anI
def jZ:PV->Option Nat
 | .int _ n=>match n with
  | .ofNat m=>anH m
  | .negSucc _=>anI
 |_=>anI
def jC (n:Option Nat) (k:PV):Bool:=
 match n,k with
 |none,.int _ _=>anJ
 |some n,.agg cs=>F0s (anG cs) n
 |_,_=>anK
def fy (n:Option Nat) (k:PV):List (PV×PV)->Nat->Option (Option Nat)
 | [],_=>anH anI
 |(a,_)::r,i=>
  if jC n a then
   match dC k.cells a.cells with
   |some anJ=>anH (anH i)
   |some anK=>fy n k r (i+1)
   |none=>anI
  else anI
def eN:Nat:=1048576
def oY (aE:cH) (agg:Option Nat):PV->Option nU
 | .ptr t _ row off=>match aE[t]? with
  |some (.arr _ rows)=>match rows[row]? with
   |some cs=>(part agg off cs).map fun v=>{v,rd:=[t]}
   |none=>anI
  |some (.box cs)=>if F0s row 0 then (part agg off cs).map fun v=>{v,rd:=[t]} else anI
  |_=>anI
 | .bH cs off=>(part agg off cs).map fun v=>{v}
 |_=>anI
def has (l:List Nat) (t:Nat):Bool:=l.any (F0s t)
def sm (aE:cH) (fz:List Nat) (sz:Nat) (v:PV):PV->Option nU
 | .ptr t _ row off=>match aE[t]? with
  |some (.arr e rows)=>match rows[row]?,v.cI with
   |some cs,anH w=>if F0s (anG w) sz&&af4 (off+sz) (anG cs)&&!has fz t then
    anH {v:= .undef,wr:=[(t,.arr e (rows.set row (nT off w cs)))]} else anI
   |_,_=>anI
  |some (.box cs)=>match v.stored with
   |some w=>if F0s row 0&&F0s (anG w) sz&&af4 (off+sz) (anG cs)&&!has fz t then
    anH {v:= .undef,wr:=[(t,.box (nT off w cs))]} else anI
   |none=>anI
  |_=>anI
 |_=>anI
def uP (esz:Nat):PV->Bool
 | .sl e _ rows=>F0s e esz||rows.isEmpty
 | .own _ e _ _ _ _=>F0s e esz
 |_=>anK
def qU (x:PV) (lo hi mx:Option Nat):Option PV:=
 match x with
 | .sl e qS rows=>
  let l:=lo.getD 0
  let h:=hi.getD (anG rows)
  match mx with
  |none=>if af4 l h&&af4 h (anG rows) then anH (.sl e (qS&&F0s h (anG rows)) ((rows.drop l).take (h-l))) else anI
  |some m=>if af4 l h&&af4 h m&&af4 m (anG rows) then anH (.sl e (F0s h m) ((rows.drop l).take (h-l))) else anI
 | .own t e off len cap ex=>
  let l:=lo.getD 0
  let h:=hi.getD len
  match mx with
  |none=>if af4 l h&&af4 h cap then anH (.own t e (off+l) (h-l) (cap-l) ex) else anI
  |some m=>if af4 l h&&af4 h m&&af4 m cap then anH (.own t e (off+l) (h-l) (m-l) anJ) else anI
 |_=>anI
def la:Nat->List Row->List Row->List Row
 |_,[],rows=>rows
 |i,w::r,rows=>la (i+1) r (rows.set i w)
def iP (aE:cH) (fz:List Nat) (esz:Nat) (x y:PV):Option nU:=
 match rowsOf aE esz y with
 |none=>anI
 |some new=>
  match new with
  | []=>match x with
   | .sl _ qS rows=>if qS&&rows.isEmpty then anH {v:= .own (anG aE) esz 0 0 0 anK,news:=[.arr esz []],rd:=iO y} else anH {v:=x,rd:=iO y}
   | .own t _ _ len cap ex=>if F0s len 0&&F0s cap 0&&ex then anH {v:= .own (anG aE) esz 0 0 0 anK,news:=[.arr esz []],rd:=t::iO y} else anH {v:=x,rd:=iO y}
   |_=>anI
  |_=>
   let m:=anG new
   match x with
   | .sl e qS rows=>
    if qS&&(F0s e esz||F0s (anG rows) 0)&&af4 (anG rows+m) eN then
     anH {v:= .own (anG aE) esz 0 (anG rows+m) (anG rows+m) anK,news:=[.arr esz (rows++new)],rd:=iO y}
    else anI
   | .own t e off len cap ex=>
    match aE[t]? with
    |some (.arr _ rows)=>
     if !Nat.beq e esz then anI
     else if af4 (len+m) cap then
      if has fz t then anI else anH {v:= .own t e off (len+m) cap ex,wr:=[(t,.arr e (la (off+len) new rows))],rd:=iO y}
     else if !Nat.ble (len+m) eN then anI
     else if ex then
      anH {v:= .own (anG aE) e 0 (len+m) (len+m) anK,news:=[.arr e ((rows.drop off).take len++new)],rd:=t::iO y}
     else if has fz t then anI
     else anH {v:= .own (anG aE) e 0 (len+m) (len+m) anK,news:=[.arr e ((rows.drop off).take len++new)],wr:=[(t,.dead)],rd:=iO y}
    |_=>anI
   |_=>anI
def mmE (isMax:Bool) (k:IntKind):Int->List PV->Option PV
 |a,[]=>anH (.int k a)
 |a,x::r=>match x with
  | .int l b=>if fA k l then mmE isMax k (if isMax then (if b>a then b else a) else (if b<a then b else a)) r else anI
  |_=>anI
def EE (e:Env) (l:List fE):List PV:=l.map (fE.ev e)
def te (aE:cH) (n:Option Nat) (zero:PV) (ok:Bool) (m k:PV):Option nU:=
 match m with
 | .mp t=>match aE[t]? with
  |some (.map es)=>if jC n k then (match fy n k es 0 with
   |some (anH i)=>match es[i]? with
    |some p=>anH {v:=if ok then .cq [p.2,.bool anJ] else p.2,rd:=[t]}
    |none=>anI
   |some anI=>anH {v:=if ok then .cq [zero,.bool anK] else zero,rd:=[t]}
   |none=>anI) else anI
  |_=>anI
 |_=>anI
def Dl (aE:cH) (fz:List Nat) (n:Option Nat) (m k v:PV):Option nU:=
 match m with
 | .mp t=>match aE[t]? with
  |some (.map es)=>if jC n k&&!has fz t then (match k.cI,v.cI with
   |some _,anH _=>match fy n k es 0 with
    |some (anH i)=>anH {v:= .undef,wr:=[(t,.map (es.set i (k,v)))]}
    |some anI=>anH {v:= .undef,wr:=[(t,.map (es++[(k,v)]))]}
    |none=>anI
   |_,_=>anI) else anI
  |_=>anI
 |_=>anI
def bE (e:Env) (aE:cH) (fz:List Nat):k7->Option nU
 | .Ti x=>anH {v:=x.ev e}
 | .pick c a b=>match c.ev e with
  | .bool anJ=>anH {v:=a.ev e}
  | .bool anK=>anH {v:=b.ev e}
  |_=>anI
 | .bin op x y=>(Rv op (x.ev e) (y.ev e)).map fun v=>{v}
 | .KC neg x y=>match x.ev e,y.ev e with
  | .bool a,.bool b=>anH {v:= .bool (if neg then !(a==b) else a==b)}
  |_,_=>anI
 | .eqc n neg x y=>match x.ev e,y.ev e with
  | .agg xs,.agg ys=>if F0s (anG xs) n&&F0s (anG ys) n then (dC xs ys).map fun b=>{v:= .bool (if neg then !b else b)} else anI
  |_,_=>anI
 | .un op x=>(unE op (x.ev e)).map fun v=>{v}
 | .conv k x=>match x.ev e with
  | .int _ n=>anH {v:= .int k (aa k n)}
  |_=>anI
 | .len x=>match x.ev e with
  | .sl _ _ rows=>anH {v:= .int .i64 (.ofNat (anG rows))}
  | .own _ _ _ len _ _=>anH {v:= .int .i64 (.ofNat len)}
  |_=>anI
 | .NG n=>anH {v:= .int .i64 (.ofNat n)}
 | .box x=>match (x.ev e).stored with
  |some cs=>anH {v:= .ptr (anG aE) (anG cs) 0 0,news:=[.box cs]}
  |none=>anI
 | .alloc cells=>anH {v:= .ptr (anG aE) (anG cells) 0 0,news:=[.box cells]}
 | .build zero parts=>(nm (parts.map fun p=>(p.1,p.2.1,p.2.2.ev e)) zero).map fun cs=>{v:= .agg cs}
 | .A' esz n zero parts=>(qk (parts.map fun p=>(p.1,p.2.ev e)) (aff n zero) esz).map fun rows=>
  {v:= .own (anG aE) esz 0 n n anJ,news:=[.arr esz rows]}
 | .Di x y=>if (x.ev e).qj&&(y.ev e).qj then anH {v:= .own (anG aE) 1 0 2 2 anJ,news:=[.box [x.ev e,y.ev e]]} else anI
 | .load agg p=>oY aE agg (p.ev e)
 | .store sz p v=>sm aE fz sz (v.ev e) (p.ev e)
 | .KD x=>match x.ev e with
  | .ptr t s r o=>anH {v:= .ptr t s r o}
  | .bH c o=>anH {v:= .bH c o}
  | .eI f a b=>anH {v:= .eI f a b}
  |_=>anI
 | .KE off p=>match p.ev e with
  | .ptr t s r o=>anH {v:= .ptr t s r (o+off)}
  | .bH c o=>anH {v:= .bH c (o+off)}
  |_=>anI
 | .ie agg off x=>match x.ev e with
  | .agg cs=>(part agg off cs).map fun v=>{v}
  |_=>anI
 | .KF esz x i=>match jZ (i.ev e) with
  |none=>anI
  |some n=>match x.ev e with
   | .sl s _ rows=>match rows[n]? with
    |some cs=>if F0s s esz then anH {v:= .bH cs 0} else anI
    |none=>anI
   | .own t s off len _ _=>if aga n len&&F0s s esz then anH {v:= .ptr t s (off+n) 0} else anI
   |_=>anI
 | .Dj n esz p i=>match jZ (i.ev e) with
  |none=>anI
  |some j=>if aga j n then (match p.ev e with
   | .ptr t s r o=>anH {v:= .ptr t s r (o+j*esz)}
   | .bH c o=>anH {v:= .bH c (o+j*esz)}
   |_=>anI) else anI
 | .idx n esz agg x i=>match jZ (i.ev e) with
  |none=>anI
  |some j=>if aga j n then (match x.ev e with
   | .agg cs=>(part agg (j*esz) cs).map fun v=>{v}
   |_=>anI) else anI
 | .KG x i=>match jZ (i.ev e),x.ev e with
  |some j,.str s=>match s[j]? with
   |some b=>anH {v:= .int .u8 b.toNat}
   |none=>anI
  |_,_=>anI
 | .Ru esz x lo hi mx=>
  if !uP esz (x.ev e) then anI else
  match (match lo with|none=>anH anI|some a=>(jZ (a.ev e)).map anH),
   (match hi with|none=>anH anI|some a=>(jZ (a.ev e)).map anH),
   (match mx with|none=>anH anI|some a=>(jZ (a.ev e)).map anH) with
  |some l,anH h,anH m=>(qU (x.ev e) l h m).map fun v=>{v}
  |_,_,_=>anI
 | .mks esz zero l c=>match jZ (l.ev e),jZ (c.ev e) with
  |some n,anH m=>if af4 n m&&af4 m eN then
   anH {v:= .own (anG aE) esz 0 n m anJ,news:=[.arr esz (aff m zero)]} else anI
  |_,_=>anI
 | .mkf fn a b=>anH {v:= .eI fn (EE e a) (EE e b)}
 | .mkm _=>anH {v:= .mp (anG aE),news:=[.map []]}
 | .lookup n zero ok m k=>te aE n zero ok (m.ev e) (k.ev e)
 | .IM n m k v=>Dl aE fz n (m.ev e) (k.ev e) (v.ev e)
 | .ext i x=>match x.ev e with
  | .cq vs=>vs[i]?.map fun v=>{v}
  |_=>anI
 | .append esz x y=>iP aE fz esz (x.ev e) (y.ev e)
 | .copy esz x y=>match rowsOf aE esz (y.ev e),x.ev e with
  |some src,.own t s off len _ _=>match src.take len with
   | []=>anH {v:= .int .i64 0,rd:=iO (y.ev e)}
   |r::rs=>match aE[t]? with
    |some (.arr s' rows)=>
     if F0s s esz&&!has fz t then
      anH {v:= .int .i64 (.ofNat (anG rs+1)),wr:=[(t,.arr s' (la off (r::rs) rows))],rd:=iO (y.ev e)}
     else anI
    |_=>anI
  |_,_=>anI
 | .clear esz zero x=>match x.ev e with
  | .own t s off len _ _=>match len with
   |0=>anH {v:= .undef}
   |len+1=>match aE[t]? with
    |some (.arr s' rows)=>
     if F0s s esz&&!has fz t then
      anH {v:= .undef,wr:=[(t,.arr s' (la off (aff (len+1) zero) rows))]}
     else anI
    |_=>anI
  | .sl _ _ []=>anH {v:= .undef}
  |_=>anI
 | .mm isMax x xs=>match x.ev e with
  | .int k a=>(mmE isMax k a (EE e xs)).map fun v=>{v}
  |_=>anI
 | .call .. =>anI
 | .xb .. =>anI
 | .bad=>anI
mutual
def Co (aE:cH) (bx:Nat->Option (List PV)):PV->Option PV
 | .undef=>anI
 | .jB=>anI
 | .int k n=>anH (.int k n)
 | .bool b=>anH (.bool b)
 | .str s=>anH (.str s)
 | .agg cs=>(Cp aE bx cs).map .agg
 | .cq cs=>(Cp aE bx cs).map .cq
 | .sl e _ rows=>anH (.sl e anK rows)
 | .own t e off len _ _=>match aE[t]? with
  |some (.arr _ rows)=>anH (.sl e anK ((rows.drop off).take len))
  |_=>anI
 | .ptr t _ row off=>match aE[t]? with
  |some (.box _)=>if F0s row 0 then (bx t).map (.bH · off) else anI
  |some (.arr _ rows)=>rows[row]?.map (.bH · off)
  |_=>anI
 | .bH cs off=>(Cp aE bx cs).map (.bH · off)
 | .mp _=>anI
 | .eI f a b=>match Cp aE bx a,Cp aE bx b with
  |some a',anH b'=>anH (.eI f a' b')
  |_,_=>anI
 | .dR=>anH .dR
def Cp (aE:cH) (bx:Nat->Option (List PV)):List PV->Option (List PV)
 | []=>anH []
 |x::xs=>match Co aE bx x,Cp aE bx xs with
  |some y,anH ys=>anH (y::ys)
  |_,_=>anI
end
def xD (aE:cH):Nat->Nat->Option (List PV)
 |0,_=>anI
 |n+1,t=>match aE[t]? with
  |some (.box cs)=>Cp aE (xD aE n) cs
  |_=>anI
mutual
def jc (bx:Nat->List Nat):PV->List Nat
 | .agg cs=>dD bx cs
 | .cq cs=>dD bx cs
 | .own t _ _ _ _ _=>[t]
 | .ptr t _ _ _=>t::bx t
 | .bH cs _=>dD bx cs
 | .mp t=>[t]
 | .eI _ a b=>dD bx a++dD bx b
 | .undef| .jB| .int _ _| .bool _| .str _| .sl .. | .dR=>[]
def dD (bx:Nat->List Nat):List PV->List Nat
 | []=>[]
 |x::xs=>jc bx x++dD bx xs
end
def s6 (_:Nat):List Nat:=[]
def di (aE:cH):Nat->Nat->List Nat
 |0,_=>[]
 |n+1,t=>match aE[t]? with
  |some (.box cs)=>dD (di aE n) cs
  |_=>[]
mutual
def PV.kF:PV->Bool
 | .int _ _| .bool _| .str _=>anJ
 | .agg cs=>vH cs
 | .cq cs=>vH cs
 |_=>anK
def vH:List PV->Bool
 | []=>anJ
 |x::xs=>x.kF&&vH xs
end
mutual
def yN (aE:cH):PV->Option PV
 | .int k n=>anH (.int k n)
 | .bool b=>anH (.bool b)
 | .str s=>anH (.str s)
 | .agg cs=>(IN aE cs).map .agg
 | .cq cs=>(IN aE cs).map .cq
 | .sl e _ rows=>anH (.sl e anK rows)
 | .own t e off len _ _=>match aE[t]? with
  |some (.arr _ rows)=>anH (.sl e anK ((rows.drop off).take len))
  |_=>anI
 |_=>anI
def IN (aE:cH):List PV->Option (List PV)
 | []=>anH []
 |x::xs=>match yN aE x,IN aE xs with
  |some y,anH ys=>anH (y::ys)
  |_,_=>anI
end
mutual
def zG (aE:cH) (fz:List Nat):Nat->List Nat->PV->Option (PV×cH×List Nat)
 |_,seen,.int k n=>anH (.int k n,[],seen)
 |_,seen,.bool b=>anH (.bool b,[],seen)
 |nx,seen,.agg cs=>(IP aE fz nx seen cs).map fun r=>(.agg r.1,r.2)
 |nx,seen,.cq cs=>(IP aE fz nx seen cs).map fun r=>(.cq r.1,r.2)
 |nx,seen,.sl e anJ []=>anH (.own nx e 0 0 0 anK,[.arr e []],seen)
 |nx,seen,.own t e off len cap _=>match aE[t]? with
  |some (.arr e' rows)=>if has seen t||has fz t then anI else anH (.own nx e off len cap anK,[.arr e' rows],t::seen)
  |_=>anI
 |_,_,_=>anI
def IP (aE:cH) (fz:List Nat):Nat->List Nat->List PV->Option (List PV×cH×List Nat)
 |_,seen,[]=>anH ([],[],seen)
 |nx,seen,x::xs=>match zG aE fz nx seen x with
  |some (y,n1,anX)=>match IP aE fz (nx+anG n1) anX xs with
   |some (ys,n2,anY)=>anH (y::ys,n1++n2,anY)
   |none=>anI
  |none=>anI
end
def ry:jX->List Nat
 | .box cs=>dD s6 cs
 |_=>[]
def reach (aE:cH):Nat->List Nat->List Nat->Option (List Nat)
 |_,[],seen=>anH seen
 |0,_::_,_=>anI
 |n+1,t::ts,seen=>
  if has seen t then reach aE n ts seen
  else match aE[t]? with
   |some b=>reach aE n (ry b++ts) (seen++[t])
   |none=>anI
def idxOf (t:Nat):List Nat->Option Nat
 | []=>anI
 |s::r=>if F0s s t then anH 0 else (idxOf t r).map (· +1)
mutual
def zH (m:List Nat):PV->Option PV
 | .agg cs=>(zA m cs).map .agg
 | .cq cs=>(zA m cs).map .cq
 | .own t e off len cap ex=>(idxOf t m).map fun u=> .own u e off len cap ex
 | .ptr t e row off=>(idxOf t m).map fun u=> .ptr u e row off
 | .bH cs off=>(zA m cs).map (.bH · off)
 | .mp t=>(idxOf t m).map .mp
 | .eI f a b=>match zA m a,zA m b with
  |some a',anH b'=>anH (.eI f a' b')
  |_,_=>anI
 | .undef=>anH .undef
 | .jB=>anH .jB
 | .int k n=>anH (.int k n)
 | .bool b=>anH (.bool b)
 | .str s=>anH (.str s)
 | .sl e c rows=>anH (.sl e c rows)
 | .dR=>anH .dR
def zA (m:List Nat):List PV->Option (List PV)
 | []=>anH []
 |x::xs=>match zH m x,zA m xs with
  |some y,anH ys=>anH (y::ys)
  |_,_=>anI
end
def nV (m:List Nat):jX->Option jX
 | .box cs=>(zA m cs).map .box
 | .arr e rows=>anH (.arr e rows)
 | .map es=>anH (.map es)
 | .dead=>anH .dead
def xE (aE:cH) (m:List Nat):List Nat->Option cH
 | []=>anH []
 |t::ts=>match aE[t]? with
  |some b=>match nV m b,xE aE m ts with
   |some b',anH r=>anH (b'::r)
   |_,_=>anI
  |none=>anI
def xF (fz:List Nat):Nat->List Nat->List Nat
 |_,[]=>[]
 |i,t::ts=>if has fz t then i::xF fz (i+1) ts else xF fz (i+1) ts
def HA:Option Nat->PV->PV
 |some _,.own t e off len cap _=> .own t e off len cap anK
 |_,v=>v
def rz (e:Env) (m:List Nat):Nat->List (Nat×Option Nat)->Option (Env×cH)
 |_,[]=>anH ([],[])
 |nx,(s,k)::r=>
  match k,lk s e with
  |some esz,.sl _ anJ []=>(rz e m (nx+1) r).map fun p=>((s,.own nx esz 0 0 0 anK)::p.1,.arr esz []::p.2)
  |_,v=>match zH m v,rz e m nx r with
   |some v',anH p=>anH ((s,HA k v')::p.1,p.2)
   |_,_=>anI
def uQ:Nat->List Nat
 |0=>[]
 |n+1=>uQ n++[n]
def rA (st:St) (t c esz:Nat):St:=
 match st.aE[t]? with
 |some (.box cs)=>match cs[c]? with
  |some (.sl _ anJ [])=>{st with aE:=st.aE.set t (.box (cs.set c (.own (anG st.aE) esz 0 0 0 anK)))++[.arr esz []]}
  |_=>st
 |_=>st
def EF:PV->Option Nat
 | .ptr t _ 0 0=>anH t
 |_=>anI
def KH:PV->Option Nat
 | .eI _ _ (x::_)=>EF x
 |x=>EF x
def kG:List (Nat×Option Nat)->St->St
 | [],st=>st
 |(s,k)::r,st=>match k with
  |some n=>if af4 1000 n then (match KH (lk s st.env) with
   |some t=>kG r (rA st t (n / 1000-1) (n%1000))
   |none=>kG r st) else kG r st
  |none=>kG r st
def EG (live:List (Nat×Option Nat)) (st:St):Option St:=
 match reach st.aE 4096 ((st.aE.take st.kn).flatMap ry++live.flatMap fun p=>jc s6 (lk p.1 st.env)) (uQ st.kn) with
 |none=>anI
 |some m=>match xE st.aE m m,rz st.env m (anG m) live with
  |some s1,anH (e1,s2)=>anH (kG live {env:=e1,aE:=s1++s2,fz:=xF st.fz 0 m,kn:=st.kn})
  |_,_=>anI
def norm (live:List (Nat×Option Nat)) (st:St):Option St:=
 match EG live st with
 |some s=>if live.any fun p=>p.2.isSome then EG live s else anH s
 |none=>anI
inductive Task where
 |func (f:FuncId) (args:List PV) (aE:cH) (fz:List Nat)
 |loop (live:List (Nat×Option Nat)) (b:jY) (st:St)
inductive Out where
 |func (v:PV) (aE:cH) (fz:List Nat)
 |code (e:hJ) (st:St)
structure Tr where
 rd:List Nat
 wr:List Nat
 al:Bool
 KI:Bool
 cl:Bool
 lo:Nat
 hi:Nat
inductive XR where
 |loc (r:nU)
 |shr (v:PV) (aE:cH) (fz:List Nat)
def gj:List (Nat×jX)->cH->cH
 | [],s=>s
 |(t,b)::r,s=>gj r (s.set t b)
def EH:PV->Bool
 | .ptr .. =>anJ
 | .own .. =>anJ
 | .mp _=>anJ
 |_=>anK
def deep:Nat:=8
def dw (F:mX) (rec:Task->Option Out) (own:Bool) (f:FuncId) (args:List PV) (aE:cH) (fz:List Nat):Option nU:=
 match Cp aE (xD aE deep) args with
 |none=>anI
 |some np=>
  let tk:=dD (di aE deep) args
  match F f with
  |some (.kf PF p)=>match p np with
   |some (v,news)=>match zG news [] (anG aE) [] v with
    |some (v',n2,_)=>
     if PF then match args with
      | .own t _ _ _ _ _::r=>
       let tr:=dD (di aE deep) r
       if has fz t||has tr t then anI
       else anH {v:=v',news:=n2,wr:=[(t,.dead)],rd:=tr}
      |_=>anI
     else anH {v:=v',news:=n2,rd:=tk}
    |none=>anI
   |none=>anI
  |_=>match rec (.func f np [] []) with
   |some (.func v s1 z1)=>
    if own then match zG s1 z1 (anG aE) [] v with
     |some (v',n2,_)=>anH {v:=v',news:=n2,rd:=tk}
     |none=>anI
    else if v.kF then anH {v,rd:=tk}
    else match yN s1 v with
     |some v'=>anH {v:=v',rd:=tk,fr:=tk}
     |none=>anI
   |_=>anI
def jX.bL:jX->Bool
 | .dead=>anK
 | .arr _ []=>anK
 |_=>anJ
def oZ:List Nat->List Nat
 | []=>[]
 |t::r=>if has r t then oZ r else t::oZ r
mutual
def Cq (g:Nat->Nat):PV->PV
 | .agg cs=> .agg (xd g cs)
 | .cq cs=> .cq (xd g cs)
 | .own t e off len cap ex=> .own (g t) e off len cap ex
 | .ptr t e row off=> .ptr (g t) e row off
 | .bH cs off=> .bH (xd g cs) off
 | .mp t=> .mp (g t)
 | .eI f a b=> .eI f (xd g a) (xd g b)
 | .undef=> .undef
 | .jB=> .jB
 | .int k n=> .int k n
 | .bool b=> .bool b
 | .str s=> .str s
 | .sl e c rows=> .sl e c rows
 | .dR=> .dR
def xd (g:Nat->Nat):List PV->List PV
 | []=>[]
 |x::xs=>Cq g x::xd g xs
end
def zI (g:Nat->Nat):jX->jX
 | .box cs=> .box (xd g cs)
 |b=>b
def Ba (g:Nat->Nat):cH->cH
 | []=>[]
 |b::r=>zI g b::Ba g r
def kg (tk:List Nat) (n u:Nat):Nat:=
 match tk[u]? with
 |some t=>t
 |none=>n+(u-(anG tk))
def o6 (g:Nat->Nat):List Nat->cH->List (Nat×jX)
 |t::r,b::s=>(t,zI g b)::o6 g r s
 |_,_=>[]
def vI:cH->cH->Bool
 | [],_=>anJ
 |b::r,c::q=>(match b.bL,c.bL with|true,anJ=>anJ|false,anK=>anJ|_,_=>anK)&&vI r q
 |_::_,[]=>anK
def W4 (args:List PV) (aE:cH) (fz:List Nat) (tk:List Nat):Option (List PV×cH):=
 if tk.all fun t=>!has fz t then
  match zA tk args,xE aE tk tk with
  |some a,anH s=>anH (a,s)
  |_,_=>anI
 else anI
def ig (k:Nat) (v:PV) (s:cH):Bool:=(jc s6 v++(s.take k).flatMap ry).all fun t=>aga t k
def EI (tk:List Nat) (n:Nat) (s0:cH) (v:PV) (s:cH):Option nU:=
 if vI s0 s then anH {v:=Cq (kg tk n) v,news:=if ig (anG tk) v s then [] else Ba (kg tk n) (s.drop (anG tk)),wr:=o6 (kg tk n) tk s} else anI
def ua (rec:Task->Option Out) (f:FuncId) (args:List PV) (aE:cH) (fz:List Nat):Option nU:=
 match W4 args aE fz (oZ (dD (di aE deep) args)) with
 |none=>anI
 |some (a,s0)=>match rec (.func f a s0 []) with
  |some (.func v s [])=>EI (oZ (dD (di aE deep) args)) (anG aE) s0 v s
  |_=>anI
def fV (rec:Task->Option Out) (f:FuncId) (args:List PV) (aE:cH) (fz:List Nat):Option XR:=
 match rec (.func f args aE fz) with
 |some (.func v s z)=>if af4 (anG aE) (anG s)&&fz.all (has z) then anH (.shr v s z) else anI
 |_=>anI
def xe (F:mX) (rec:Task->Option Out) (e:Env) (aE:cH) (fz:List Nat):k7->Option XR
 | .call m f args=>match m with
  | .WN=>(dw F rec anK f (EE e args) aE fz).map .loc
  | .own=>(dw F rec anJ f (EE e args) aE fz).map .loc
  | .shr=>fV rec f (EE e args) aE fz
  | .fp=>(ua rec f (EE e args) aE fz).map .loc
 | .xb x args=>match x.ev e with
  | .eI f a b=>
   if (EE e args++b).any EH then fV rec f (a++EE e args++b) aE fz
   else (dw F rec anK f (a++EE e args++b) aE fz).map .loc
  |_=>anI
 |op=>(bE e aE fz op).map .loc
def iJ (d:Option Nat) (v:PV) (e:Env):Env:=
 match d with
 |some t=>(t,v)::e
 |none=>e
def KJ (s:cH):List jX->cH
 | []=>s
 |b::r=>s++b::r
theorem rB (s:cH) (l:List jX):KJ s l=s++l:=by
 cases l
 · exact (List.append_nil s).symm
 rfl
def XR.next (d:Option Nat) (st:St):XR->St
 | .loc r=>{env:=iJ d r.v st.env,aE:=KJ (gj r.wr st.aE) r.news,fz:=r.fr++st.fz,kn:=st.kn}
 | .shr v s z=>{env:=iJ d v st.env,aE:=s,fz:=z,kn:=st.kn}
def XR.tr (nx:Nat):XR->Tr
 | .loc r=>⟨r.rd++r.fr,r.wr.map (·.1),!r.news.isEmpty,anK,(r.rd++r.fr).all (aga · nx)&&r.wr.all (fun p=>aga p.1 nx),nx,nx+anG r.news⟩
 | .shr .. =>⟨[],[],anJ,anJ,anJ,0,0⟩
def vJ:List (Nat×jX)->Bool
 | []=>anJ
 |p::r=>(r.all fun q=>!Nat.beq q.1 p.1)&&vJ r
def XR.ok (fz:List Nat):XR->Bool
 | .loc r=>(r.wr.all fun p=>!has fz p.1)&&vJ r.wr
 | .shr .. =>anJ
def Tr.idle:Tr:=⟨[],[],anK,anK,anJ,0,0⟩
def wanted (g:Option (Nat×Bool)) (e:Env):Option Bool:=
 match g with
 |none=>anH anJ
 |some (s,want)=>match lk s e with
  | .bool b=>anH (b==want)
  | .jB=>anH anK
  |_=>anI
def mB (F:mX) (rec:Task->Option Out):List bU->St->List Tr->Option (St×List Tr)
 | [],st,tr=>anH (st,tr)
 |o::r,st,tr=>
  match wanted o.guard st.env with
  |some anJ=>match xe F rec st.env st.aE st.fz o.op with
   |some x=>if x.ok st.fz then mB F rec r (x.next o.dst st) (x.tr (anG st.aE)::tr) else anI
   |none=>anI
  |some anK=>mB F rec r {st with env:=iJ o.dst .jB st.env} (Tr.idle::tr)
  |none=>anI
def meets (a b:List Nat):Bool:=a.any (has b)
def Tr.gT (a:Tr):Bool:=!a.rd.isEmpty||!a.wr.isEmpty||a.al||a.KI
def Tr.uR (a b:Tr):Bool:=
 (a.KI&&b.gT)||(b.KI&&a.gT)||meets a.wr b.rd||meets a.wr b.wr||meets a.rd b.wr||
  b.wr.any fun t=>af4 a.lo t&&aga t a.hi
def vK (rows:List Row):Bool:=rows.all fun r=>F0s (anG r) 1&&r.all PV.plain
def IQ (args:List PV) (aE:cH) (fz:List Nat):Option (PV×cH×List Nat):=
 match args with
 | [.own t e off len _ _]=>match aE[t]? with
  |some (.box [.sl e1 _ x,.sl e2 _ y])=>if F0s e 1&&F0s off 0&&F0s len 2&&!has fz t&&vK x&&vK y&&af4 1 (anG x+anG y)&&af4 (anG x+anG y) eN&&(F0s e1 1||x.isEmpty)&&(F0s e2 1||y.isEmpty) then
   anH (.own (anG aE) 1 0 (x++y).length (x++y).length anK,aE.set t .dead++[.arr 1 (x++y)],fz)
   else anI
  |_=>anI
 |_=>anI
def IS (i:Nat) (a:Tr):List (Tr×Nat)->Bool
 | []=>anJ
 |(b,bf)::r=>(!a.uR b||bf.testBit i)&&IS i a r
def rC:Nat->List (Tr×Nat)->Bool
 |_,[]=>anJ
 |i,(a,_)::r=>a.cl&&IS i a r&&rC (i+1) r
def lz (F:mX) (rec:Task->Option Out) (draw:Option (List Nat)) (ops:List bU) (fU:List Nat) (st:St):Option St:=
 match mB F rec ops st [] with
 |none=>anI
 |some (kO,tr)=>
  let DZ:St:={kO with env:=fU.map fun s=>(s,lk s kO.env)}
  match draw with
  |none=>anH DZ
  |some bf=>if rC 0 (tr.reverse.zip bf) then anH DZ else anI
def s7 (F:mX) (rec:Task->Option Out):jY->St->Option (hJ×St)
 | .skip,st=>anH (.normal,st)
 | .region d ops fU,st=>(lz F rec d ops fU st).map fun s=>(.normal,s)
 | .seq a b,st=>match s7 F rec a st with
  |some (.normal,kO)=>s7 F rec b kO
  |r=>r
 | .cond c a b,st=>match c.ev st.env with
  | .bool anJ=>s7 F rec a st
  | .bool anK=>s7 F rec b st
  |_=>anI
 | .block id b,st=>match s7 F rec b st with
  |some (.exit j,kO)=>if F0s j id then anH (.normal,kO) else anH (.exit j,kO)
  |r=>r
 | .loop live b,st=>match rec (.loop live b st) with
  |some (.code e kO)=>anH (e,kO)
  |_=>anI
 | .exit id,st=>anH (.exit id,st)
 | .ret,st=>anH (.ret,st)
def EJ (st:St):RV->Option PV
 | .tmp t=>anH (lk t st.env)
 | .cell t agg=>(oY st.aE agg (lk t st.env)).map (·.v)
def nW (st:St):List RV->Option (List PV)
 | []=>anH []
 |r::rs=>match EJ st r,nW st rs with
  |some v,anH vs=>anH (v::vs)
  |_,_=>anI
def results1:List PV->PV
 | [v]=>v
 |vs=> .cq vs
def uT:Nat->List PV->Env
 |_,[]=>[]
 |i,v::r=>(i,v)::uT (i+1) r
def step (F:mX) (rec:Task->Option Out):Task->Option Out
 | .func f args aE fz=>match F f with
  |some (.code x)=>
   if F0s (anG args) x.Dk then
    match s7 F rec x.code {env:=uT 0 args,aE,fz,kn:=anG aE} with
    |some (.normal,st)=>(nW st x.res).map fun vs=> .func (results1 vs) st.aE st.fz
    |some (.ret,st)=>(nW st x.res).map fun vs=> .func (results1 vs) st.aE st.fz
    |_=>anI
   else anI
  |some (.G6 p)=>(p args aE fz).map fun r=> .func r.1 r.2.1 r.2.2
  |_=>anI
 | .loop live b st=>match norm live st with
  |none=>anI
  |some nX=>match s7 F rec b nX with
   |some (.normal,DZ)=>rec (.loop live b DZ)
   |some (e,DZ)=>anH (.code e DZ)
   |none=>anI
def fG (esz:Nat):List PV->Option (PV×cH)
 | [.sl e _ rows]=>match rows with
  | []=>anH (.own 1 esz 0 0 0 anK,[.arr esz [],.arr esz []])
  |r::rs=>if F0s e esz&&af4 (anG rs+1) eN then anH (.own 1 esz 0 (0+(anG rs+1)) (0+(anG rs+1)) anK,[.arr esz [],.arr esz (r::rs)]) else anI
 |_=>anI
def IT (esz:Nat) (args:List PV) (aE:cH) (fz:List Nat):Option (PV×cH×List Nat):=
 match args with
 | [.own t e off len _ _,.int .i64 i,.own u e2 anZ KK _ _]=>
  match aE[t]?,aE[u]? with
  |some (.arr _ rows),anH (.arr _ new)=>
   if F0s e esz&&F0s e2 esz&&F0s off 0&&F0s anZ 0&&F0s len (anG rows)&&F0s KK 1&&F0s (anG new) 1&&!Nat.beq t u&&!has fz t&&anL (0<=i)&&af4 i.toNat len&&af4 (len+1) eN then
    anH (.own (anG aE) esz 0 (len+1) (len+1) anK,aE.set t .dead++[.arr esz (rows.take i.toNat++new++rows.drop i.toNat)],fz)
   else anI
  |_,_=>anI
 |_=>anI
def Ai:List PV->Option (PV×cH)
 | [.int .u64 (.ofNat a),.int .u64 (.ofNat b),.int .u64 (.ofNat c)]=>
  if af4 c 1 then
   let s:=a+b+c
   anH (.cq [.int .u64 (.ofNat (s%18446744073709551616)),.int .u64 (.ofNat (s / 18446744073709551616))],[])
  else anI
 |_=>anI
noncomputable def run (F:mX) (n:Nat):Task->Option Out:=Nat.rec (fun _=>anI) (fun _ ih=>step F ih) n
end Go.Vm
/- Rules for the logical machine: what more fuel keeps, and a calculus of its runs. -/
namespace Go.Vm
def Le (r s:Task->Option Out):Prop:= ∀t o,r t=anH o->s t=anH o
theorem ud {F:mX} {r s:Task->Option Out} (h:Le r s) {own:Bool} {f:FuncId} {args:List PV} {aE:cH} {fz:List Nat} {x:nU}
 (hx:dw F r own f args aE fz=anH x):dw F s own f args aE fz=anH x:=by
 cases ha:Cp aE (xD aE deep) args with
 |none=>simp [dw,ha] at hx
 |some a=>
  simp only [dw,ha] at hx ⊢;cases hp:F f with
  |none=>
   rw [hp] at hx;dsimp only at hx ⊢;cases hr:r (.func f a [] []) with
   |none=>rw [hr] at hx;cases hx
   |some o=>rw [hr] at hx;rw [h _ _ hr];exact hx
  |some en=>
   rw [hp] at hx;cases en with
   |kf k p=>exact hx
   |code x=>
    dsimp only at hx ⊢;cases hr:r (.func f a [] []) with
    |none=>rw [hr] at hx;cases hx
    |some o=>rw [hr] at hx;rw [h _ _ hr];exact hx
   |G6 x=>
    dsimp only at hx ⊢;cases hr:r (.func f a [] []) with
    |none=>rw [hr] at hx;cases hx
    |some o=>rw [hr] at hx;rw [h _ _ hr];exact hx
theorem xf {r s:Task->Option Out} (h:Le r s) {f:FuncId} {args:List PV} {aE:cH} {fz:List Nat} {x:XR}
 (hx:fV r f args aE fz=anH x):fV s f args aE fz=anH x:=by
 unfold fV at hx ⊢;cases hr:r (.func f args aE fz) with
 |none=>rw [hr] at hx;cases hx
 |some o=>rw [hr] at hx;rw [h _ _ hr];exact hx
theorem KL {r s:Task->Option Out} (h:Le r s) {f:FuncId} {args:List PV} {aE:cH} {fz:List Nat} {x:nU}
 (hx:ua r f args aE fz=anH x):ua s f args aE fz=anH x:=by
 unfold ua at hx ⊢;cases hl:W4 args aE fz (oZ (dD (di aE deep) args)) with
 |none=>rw [hl] at hx;cases hx
 |some p=>
  rw [hl] at hx;dsimp only at hx ⊢;cases hr:r (.func f p.1 p.2 []) with
  |none=>rw [hr] at hx;cases hx
  |some o=>rw [hr] at hx;rw [h _ _ hr];exact hx
theorem KM {F:mX} {r s:Task->Option Out} (h:Le r s) {e:Env} {aE:cH} {fz:List Nat} {op:k7} {x:XR}
 (hx:xe F r e aE fz op=anH x):xe F s e aE fz op=anH x:=by
 cases op with
 |call m f args=>
  cases m with
  |WN=>
   simp only [xe,AC] at hx ⊢;obtain ⟨a,ha,rfl⟩:=hx;exact ⟨a,ud h ha,rfl⟩
  |own=>
   simp only [xe,AC] at hx ⊢;obtain ⟨a,ha,rfl⟩:=hx;exact ⟨a,ud h ha,rfl⟩
  |shr=>exact xf h hx
  |fp=>
   simp only [xe,AC] at hx ⊢;obtain ⟨a,ha,rfl⟩:=hx;exact ⟨a,KL h ha,rfl⟩
 |xb c args=>
  simp only [xe] at hx ⊢;split at hx
  · split at hx
    · rename_i hc;simp only [hc,if_true];exact xf h hx
    rename_i hc
    rw [rc hc];rw [AC] at hx ⊢;obtain ⟨a,ha,rfl⟩:=hx;exact ⟨a,ud h ha,rfl⟩
  cases hx
 |_=>exact hx
theorem EK {F:mX} {r s:Task->Option Out} (h:Le r s) (ops:List bU):
 ∀(st:St) (tr:List Tr) (x:St×List Tr),mB F r ops st tr=anH x->mB F s ops st tr=anH x:=by
 induction ops with
 |nil=>intro st tr x hx;exact hx
 |cons o l ih=>
  intro st tr x hx;simp only [mB] at hx ⊢;cases hw:wanted o.guard st.env with
  |none=>rw [hw] at hx;cases hx
  |some b=>
   rw [hw] at hx;cases b with
   |false=>exact ih _ _ _ hx
   |true=>
    dsimp only at hx ⊢;cases hy:xe F r st.env st.aE st.fz o.op with
    |none=>rw [hy] at hx;cases hx
    |some y=>
     rw [hy] at hx;rw [KM h hy];dsimp only at hx ⊢;split at hx
     · rename_i Aj;rw [pp Aj];exact ih _ _ _ hx
     cases hx
theorem G' {F:mX} {r s:Task->Option Out} (h:Le r s) {d:Option (List Nat)} {ops:List bU} {fU:List Nat} {st kO:St}
 (hx:lz F r d ops fU st=anH kO):lz F s d ops fU st=anH kO:=by
 unfold lz at hx ⊢;cases hy:mB F r ops st [] with
 |none=>rw [hy] at hx;cases hx
 |some y=>rw [hy] at hx;rw [EK h _ _ _ _ hy];exact hx
theorem qn {F:mX} {r s:Task->Option Out} (h:Le r s) (c:jY):
 ∀(st:St) (x:hJ×St),s7 F r c st=anH x->s7 F s c st=anH x:=by
 induction c with
 |skip=>intro st x hx;exact hx
 |region d ops fU=>
  intro st x hx;simp only [s7,AC] at hx ⊢;obtain ⟨a,ha,rfl⟩:=hx;exact ⟨a,G' h ha,rfl⟩
 |seq a b iha ihb=>
  intro st x hx;simp only [s7] at hx ⊢;cases hy:s7 F r a st with
  |none=>rw [hy] at hx;cases hx
  |some y=>
   rw [hy] at hx;rw [iha _ _ hy];obtain ⟨e,nX⟩:=y;cases e with
   |normal=>exact ihb _ _ hx
   |exit i=>exact hx
   |ret=>exact hx
 |cond c a b iha ihb=>
  intro st x hx;simp only [s7] at hx ⊢;split at hx
  · exact iha _ _ hx
  · exact ihb _ _ hx
  cases hx
 |block id b ih=>
  intro st x hx;simp only [s7] at hx ⊢;cases hy:s7 F r b st with
  |none=>rw [hy] at hx;cases hx
  |some y=>rw [hy] at hx;rw [ih _ _ hy];exact hx
 |loop live b _=>
  intro st x hx;simp only [s7] at hx ⊢;split at hx
  · rename_i e nX hr;rw [h _ _ hr];exact hx
  cases hx
 |exit id=>intro st x hx;exact hx
 |ret=>intro st x hx;exact hx
theorem Rw {F:mX} {r s:Task->Option Out} (h:Le r s):Le (step F r) (step F s):=by
 intro t o ho;cases t with
 |func f args aE fz=>
  simp only [step] at ho ⊢;split at ho
  · rename_i x hx
    split at ho
    · rename_i hl
      simp only [hl,if_true];split at ho
      · rename_i nX hc;rw [qn h _ _ _ hc];exact ho
      · rename_i nX hc;rw [qn h _ _ _ hc];exact ho
      cases ho
    cases ho
  · exact ho
  cases ho
 |loop live b st=>
  simp only [step] at ho ⊢;split at ho
  · cases ho
  rename_i nX hn
  split at ho
  · rename_i DZ hc;rw [qn h _ _ _ hc];exact h _ _ ho
  · rename_i e DZ dW hc
    rw [qn h _ _ _ hc];cases e with
    |normal=>exact absurd rfl (dW ·)
    |exit i=>exact ho
    |ret=>exact ho
  cases ho
theorem lA (F:mX) (n:Nat):run F (n+1)=step F (run F n):=rfl
theorem af8 (F:mX) (n:Nat):Le (run F n) (run F (n+1)):=by
 induction n with
 |zero=>intro t o h;cases h
 |succ n ih=>exact Rw ih
theorem qo (F:mX) {n m:Nat} (h:n<=m):Le (run F n) (run F m):=by
 induction h with
 |refl=>intro t o h;exact h
 |step _ ih=>intro t o h;exact af8 F _ _ _ (ih _ _ h)
def Fin (F:mX) (t:Task) (Q:Out->Prop):Prop:= ∃n o,run F n t=anH o/\Q o
def WP (F:mX) (c:jY) (st:St) (Q:hJ->St->Prop):Prop:= ∃n e s,s7 F (run F n) c st=anH (e,s)/\Q e s
def WO (F:mX) (ops:List bU) (st:St) (tr:List Tr) (Q:St->List Tr->Prop):Prop:=
 ∃n s t,mB F (run F n) ops st tr=anH (s,t)/\Q s t
variable {F : mX}
theorem Fin.mono {t:Task} {Q R:Out->Prop} (h:Fin F t Q) (hr: ∀o,Q o->R o):Fin F t R:=
 let ⟨n,o,e,q⟩:=h;⟨n,o,e,hr _ q⟩
theorem WP.mono {c:jY} {st:St} {Q R:hJ->St->Prop} (h:WP F c st Q) (hr: ∀e s,Q e s->R e s):WP F c st R:=
 let ⟨n,e,s,x,q⟩:=h;⟨n,e,s,x,hr _ _ q⟩
theorem WP.skip {st:St} {Q:hJ->St->Prop} (h:Q .normal st):WP F .skip st Q:=⟨0,_,_,rfl,h⟩
theorem WP.ret {st:St} {Q:hJ->St->Prop} (h:Q .ret st):WP F .ret st Q:=⟨0,_,_,rfl,h⟩
theorem WP.exit {id:Nat} {st:St} {Q:hJ->St->Prop} (h:Q (.exit id) st):WP F (.exit id) st Q:=⟨0,_,_,rfl,h⟩
def andThen (k:St->Prop) (Q:hJ->St->Prop):hJ->St->Prop
 | .normal,s=>k s
 |e,s=>Q e s
theorem WP.seq {a b:jY} {st:St} {Q:hJ->St->Prop} (h:WP F a st (andThen (fun s=>WP F b s Q) Q)):WP F (.seq a b) st Q:=by
 obtain ⟨n,e,s,he,hq⟩:=h;cases e with
 |normal=>
  obtain ⟨m,e',s',Cj,PG⟩:=hq;refine ⟨max n m,e',s',?_,PG⟩;simp only [s7];rw [qn (qo F (am1 n m)) _ _ _ he];exact qn (qo F (agM n m)) _ _ _ Cj
 |exit i=>exact ⟨n,_,s,by simp only [s7,he],hq⟩
 |ret=>exact ⟨n,_,s,by simp only [s7,he],hq⟩
theorem WP.afd {c:fE} {a b:jY} {st:St} {Q:hJ->St->Prop} (hc:c.ev st.env= .bool anJ) (h:WP F a st Q):WP F (.cond c a b) st Q:=by
 obtain ⟨n,e,s,he,hq⟩:=h;exact ⟨n,e,s,by simp only [s7,hc,he],hq⟩
theorem WP.afe {c:fE} {a b:jY} {st:St} {Q:hJ->St->Prop} (hc:c.ev st.env= .bool anK) (h:WP F b st Q):WP F (.cond c a b) st Q:=by
 obtain ⟨n,e,s,he,hq⟩:=h;exact ⟨n,e,s,by simp only [s7,hc,he],hq⟩
theorem WP.cond {c:fE} {a b:jY} {st:St} {Q:hJ->St->Prop} (t:Bool) (hc:c.ev st.env= .bool t)
 (ha:t=anJ->WP F a st Q) (hb:t=anK->WP F b st Q):WP F (.cond c a b) st Q:=by
 cases t
 · exact WP.afe hc (hb rfl)
 exact WP.afd hc (ha rfl)
def inBlock (id:Nat) (Q:hJ->St->Prop):hJ->St->Prop
 | .exit j,s=>if j=id then Q .normal s else Q (.exit j) s
 |e,s=>Q e s
theorem WP.block {id:Nat} {b:jY} {st:St} {Q:hJ->St->Prop} (h:WP F b st (inBlock id Q)):WP F (.block id b) st Q:=by
 obtain ⟨n,e,s,he,hq⟩:=h;cases e with
 |normal=>exact ⟨n,_,s,by simp only [s7,he],hq⟩
 |ret=>exact ⟨n,_,s,by simp only [s7,he],hq⟩
 |exit j=>
  by_cases hj:j=id
  · subst hj
    have PG:Q .normal s:=by simpa [inBlock] using hq
    exact ⟨n,.normal,s,by simp [s7,he],PG⟩
  have PG:Q (.exit j) s:=by simpa [inBlock,hj] using hq
  exact ⟨n,.exit j,s,by simp [s7,he,hj],PG⟩
def qp (fU:List Nat) (s:St):St:={s with env:=fU.map fun t=>(t,lk t s.env)}
theorem WP.region {ops:List bU} {fU:List Nat} {st:St} {Q:hJ->St->Prop}
 (h:WO F ops st [] (fun s _=>Q .normal (qp fU s))):WP F (.region anI ops fU) st Q:=by
 obtain ⟨n,s,t,he,hq⟩:=h;exact ⟨n,.normal,_,by simp only [s7,lz,he];rfl,hq⟩
theorem WP.W5 {bf:List Nat} {ops:List bU} {fU:List Nat} {st:St} {Q:hJ->St->Prop}
 (h:WO F ops st [] (fun s t=>rC 0 (t.reverse.zip bf)=anJ/\Q .normal (qp fU s))):WP F (.region (anH bf) ops fU) st Q:=by
 obtain ⟨n,s,t,he,ho,hq⟩:=h;exact ⟨n,.normal,qp fU s,by simp [s7,lz,he,ho,qp],hq⟩
theorem WO.nil {st:St} {tr:List Tr} {Q:St->List Tr->Prop} (h:Q st tr):WO F [] st tr Q:=⟨0,_,_,rfl,h⟩
theorem WO.op {o:bU} {r:List bU} {st:St} {tr:List Tr} {Q:St->List Tr->Prop} (x:nU)
 (hw:wanted o.guard st.env=anH anJ) (hx: ∀rec,xe F rec st.env st.aE st.fz o.op=anH (.loc x)) (Aj:(XR.loc x).ok st.fz=anJ)
 (h:WO F r ((XR.loc x).next o.dst st) ((XR.loc x).tr (anG st.aE)::tr) Q):WO F (o::r) st tr Q:=by
 obtain ⟨n,s,t,he,hq⟩:=h;exact ⟨n,s,t,by simp only [mB,hw,hx,Aj,if_true,he],hq⟩
theorem WO.skip {o:bU} {r:List bU} {st:St} {tr:List Tr} {Q:St->List Tr->Prop}
 (hw:wanted o.guard st.env=anH anK)
 (h:WO F r {st with env:=iJ o.dst .jB st.env} (Tr.idle::tr) Q):WO F (o::r) st tr Q:=by
 obtain ⟨n,s,t,he,hq⟩:=h;exact ⟨n,s,t,by simp only [mB,hw,he],hq⟩
theorem WO.call {o:bU} {r:List bU} {st:St} {tr:List Tr} {Q:St->List Tr->Prop} (x:XR)
 (hw:wanted o.guard st.env=anH anJ) (hx: ∃n,xe F (run F n) st.env st.aE st.fz o.op=anH x) (Aj:x.ok st.fz=anJ)
 (h:WO F r (x.next o.dst st) (x.tr (anG st.aE)::tr) Q):WO F (o::r) st tr Q:=by
 obtain ⟨n,s,t,he,hq⟩:=h;obtain ⟨m,hx⟩:=hx;refine ⟨max n m,s,t,?_,hq⟩;simp only [mB,hw];rw [KM (qo F (agM n m)) hx];dsimp only;rw [pp Aj];exact EK (qo F (am1 n m)) _ _ _ _ he
theorem WP.loop {α:Type} {live:List (Nat×Option Nat)} {b:jY} {st:St} {Q:hJ->St->Prop} (S:α->St) (I:α->Prop) (μ:α->Nat)
 (x:α) (h0:norm live st=anH (S x)) (hI:I x)
 (round: ∀x,I x->WP F b (S x) (andThen (fun s=> ∃y,norm live s=anH (S y)/\I y/\μ y<μ x) Q)):WP F (.loop live b) st Q:=by
 have key: ∀k x st,μ x=k->I x->norm live st=anH (S x)-> ∃n e s,run F n (.loop live b st)=anH (.code e s)/\Q e s:=by
  intro k
  induction k using Nat.strongRecOn with
  |_ k ih=>
   intro x st hk hI h0;obtain ⟨n,e,s,he,hq⟩:=round x hI;cases e with
   |normal=>
    obtain ⟨y,hy,hIy,dI⟩:=hq;obtain ⟨m,e',s',hr,PG⟩:=ih (μ y) (hk▸dI) y s rfl hIy hy;refine ⟨max n m+1,e',s',?_,PG⟩;rw [lA];simp only [step,h0];rw [qn (qo F (am1 n m)) _ _ _ he];exact qo F (agM n m) _ _ hr
   |exit i=>exact ⟨n+1,_,s,by rw [lA];simp only [step,h0,he],hq⟩
   |ret=>exact ⟨n+1,_,s,by rw [lA];simp only [step,h0,he],hq⟩
 obtain ⟨n,e,s,hr,hq⟩:=key _ x st rfl hI h0;exact ⟨n,e,s,by simp only [s7,hr],hq⟩
def IU (x:aJ) (R:PV->cH->List Nat->Prop):hJ->St->Prop
 | .normal,s=> ∃vs,nW s x.res=anH vs/\R (results1 vs) s.aE s.fz
 | .ret,s=> ∃vs,nW s x.res=anH vs/\R (results1 vs) s.aE s.fz
 | .exit _,_=>False
def Ak (F:mX) (f:FuncId) (args:List PV) (aE:cH) (fz:List Nat) (R:PV->cH->List Nat->Prop):Prop:=
 ∃n v s z,run F n (.func f args aE fz)=anH (.func v s z)/\R v s z
theorem Ak.of {f:FuncId} {x:aJ} {args:List PV} {aE:cH} {fz:List Nat} {R:PV->cH->List Nat->Prop}
 (hf:F f=anH (.code x)) (hn:F0s (anG args) x.Dk=anJ)
 (h:WP F x.code {env:=uT 0 args,aE,fz,kn:=anG aE} (IU x R)):Ak F f args aE fz R:=by
 obtain ⟨n,e,s,he,hq⟩:=h;cases e with
 |normal=>
  obtain ⟨vs,hv,hr⟩:=hq;exact ⟨n+1,_,_,_,by rw [lA];simp only [step,hf,hn,he,hv,if_true];rfl,hr⟩
 |ret=>
  obtain ⟨vs,hv,hr⟩:=hq;exact ⟨n+1,_,_,_,by rw [lA];simp only [step,hf,hn,he,hv,if_true];rfl,hr⟩
 |exit i=>exact hq.elim
def Pure (F:mX) (f:FuncId) (args:List PV) (v:PV):Prop:=
 (∀k p,F f≠anH (.kf k p))/\Ak F f args [] [] fun u _ _=>u.kF=anJ/\u=v
def PH (F:mX) (f:FuncId) (args:List PV) (v:PV):Prop:=
 (∀k p,F f≠anH (.kf k p))/\Ak F f args [] [] fun u s _=>u.kF=anK/\yN s u=anH v
theorem Pure.of {f:FuncId} {x:aJ} {args:List PV} {v:PV}
 (hf:F f=anH (.code x)) (hn:F0s (anG args) x.Dk=anJ)
 (h:WP F x.code {env:=uT 0 args,aE:=[],fz:=[],kn:=0} (IU x fun u _ _=>u.kF=anJ/\u=v)):
 Pure F f args v:=⟨fun k p e=>by (rw [hf] at e;cases e),Ak.of hf hn h⟩
theorem PH.of {f:FuncId} {x:aJ} {args:List PV} {v:PV}
 (hf:F f=anH (.code x)) (hn:F0s (anG args) x.Dk=anJ)
 (h:WP F x.code {env:=uT 0 args,aE:=[],fz:=[],kn:=0} (IU x fun u s _=>u.kF=anK/\yN s u=anH v)):
 PH F f args v:=⟨fun k p e=>by (rw [hf] at e;cases e),Ak.of hf hn h⟩
theorem Pure.dw {f:FuncId} {as args:List PV} {aE:cH} {fz:List Nat} {v:PV} (h:Pure F f args v)
 (ha:Cp aE (xD aE deep) as=anH args):
 ∃n,Vm.dw F (run F n) anK f as aE fz=anH {v,rd:=dD (di aE deep) as}:=by
 obtain ⟨hp,n,u,s,z,hr,h1,h2⟩:=h;subst h2;refine ⟨n,?_⟩;simp only [Vm.dw,ha];cases hf:F f with
 |none=>simp [hr,h1]
 |some en=>
  cases en with
  |kf k p=>exact absurd hf (hp k p)
  |code x=>simp [hr,h1]
  |G6 x=>simp [hr,h1]
theorem PH.dw {f:FuncId} {as args:List PV} {aE:cH} {fz:List Nat} {v:PV} (h:PH F f args v)
 (ha:Cp aE (xD aE deep) as=anH args):
 ∃n,Vm.dw F (run F n) anK f as aE fz=anH {v,rd:=dD (di aE deep) as,fr:=dD (di aE deep) as}:=by
 obtain ⟨hp,n,u,s,z,hr,h1,h2⟩:=h;refine ⟨n,?_⟩;simp only [Vm.dw,ha];cases hf:F f with
 |none=>simp [hr,h1,h2]
 |some en=>
  cases en with
  |kf k p=>exact absurd hf (hp k p)
  |code x=>simp [hr,h1,h2]
  |G6 x=>simp [hr,h1,h2]
theorem WO.pure {d:Option Nat} {g:Option (Nat×Bool)} {f:FuncId} {as:List fE} {r:List bU} {st:St} {tr:List Tr} {Q:St->List Tr->Prop}
 {args:List PV} {v:PV} (h:Pure F f args v)
 (hw:wanted g st.env=anH anJ) (ha:Cp st.aE (xD st.aE deep) (EE st.env as)=anH args)
 (k:WO F r ((XR.loc {v,rd:=dD (di st.aE deep) (EE st.env as)}).next d st) ((XR.loc {v,rd:=dD (di st.aE deep) (EE st.env as)}).tr (anG st.aE)::tr) Q):
 WO F (⟨d,.call .WN f as,g⟩::r) st tr Q:=by
 obtain ⟨n,hn⟩:=h.dw (fz:=st.fz) ha;exact WO.call _ hw ⟨n,by simp only [xe,hn];rfl⟩ rfl k
end Go.Vm
/- The look at an operation of the model: is the logical machine's operation its own? -/
namespace Go.Vm
mutual
def ug:PV->Value->Bool
 | .int k n,.int l m=>fA k l&&n==m
 | .bool a,.bool b=>a==b
 | .sl _ _ [],.slice anI 0 0=>anJ
 | .agg cs,.agg vs=>EL cs vs.toList
 | .dR,.nilFunc=>anJ
 | .str s,.string t=>s.data.toList==t.data.toList
 | .undef,_=>anJ
 |_,_=>anK
def EL:List PV->List Value->Bool
 | [],[]=>anJ
 |x::xs,v::vs=>ug x v&&EL xs vs
 |_,_=>anK
end
def bB:fE->Operand->Bool
 | .t n,.tmp m=>n==m
 | .c v,.const u=>ug v u
 | .c (.eI f [] []),.func g=>f==g
 | .c .undef,_=>anJ
 |_,_=>anK
def eW:List fE->List Operand->Bool
 | [],[]=>anJ
 |x::xs,o::os=>bB x o&&eW xs os
 |_,_=>anK
def IV:Option fE->Option Operand->Bool
 |none,anI=>anJ
 |some x,anH o=>bB x o
 |_,_=>anK
section
variable (P : Program)
def gU (t:TypeId):Bool:=
 match P.underlying t with
 |some (.struct _)|some (.array _ _)=>anJ
 |_=>anK
def oT (t:TypeId) (n:Nat):Bool:=(P.info? t).any fun i=>i.size==n
def Ef (t:TypeId):Bool:=(P.info? t).any fun i=>af4 i.bytes 1048576
def Bb (t:TypeId) (agg:Option Nat):Bool:=
 (P.underlying t).isSome&&match agg with
 |some n=>gU P t&&oT P t n
 |none=>!gU P t&&oT P t 1
def yO (t:TypeId) (esz:Nat):Bool:=
 match P.underlying t with
 |some (.slice e)=>oT P e esz
 |_=>anK
def sq (t:TypeId):Bool:=
 match P.underlying t with
 |some (.slice _)=>anJ
 |_=>anK
def PI (t:TypeId) (n esz:Nat):Bool:=
 match P.underlying t with
 |some (.array m e)=>m==n&&oT P e esz
 |_=>anK
def uh (t:TypeId) (cells:List PV):Bool:=
 match (P.info? t).bind (·.zero) with
 |some v=>EL cells v.cells.toList
 |none=>anK
def flat:Nat->TypeId->Option Nat
 |0,_=>anI
 |d+1,t=>
  match P.underlying t with
  |some (.int _)=>if oT P t 1 then anH 1 else anI
  |some (.struct fs)=>
   if P.stoodInHeld t then anI else
   match fs.toList.foldl (fun r f=>match r with
    |some n=>if f.offset==n&&f.name != "_" then (match flat d f.type with
     |some m=>if oT P f.type m then anH (n+m) else anI
     |none=>anI) else anI
    |none=>anI) (anH 0) with
   |some n=>if oT P t n then anH n else anI
   |none=>anI
  |_=>anI
def uU (place:Nat->Option (Nat×Nat)):List (Nat×Nat×fE)->List (Nat×Operand)->Bool
 | [],[]=>anJ
 |(off,sz,x)::r,(i,o)::s=>(match place i with|some (a,b)=>a==off&&b==sz|none=>anK)&&bB x o&&uU place r s
 |_,_=>anK
def nq:List (Nat×fE)->List (Nat×Operand)->Bool
 | [],[]=>anJ
 |(i,x)::r,(j,o)::s=>i==j&&bB x o&&nq r s
 |_,_=>anK
def placeOf (t:TypeId):Nat->Option (Nat×Nat):=
 match P.underlying t with
 |some (.struct fs)=>fun i=>(fs[i]?).bind fun f=>(P.info? f.type).map fun j=>(f.offset,j.size)
 |some (.array _ e)=>fun i=>(P.info? e).map fun j=>(i*j.size,j.size)
 |_=>fun _=>anI
def xG (t:TypeId) (n:Option Nat):Bool:=
 match n with
 |none=>(match P.underlying t with|some (.int _)=>anJ|_=>anK)
 |some n=>gU P t&&flat P 100 t==anH n
def W6 (f:FuncId):Bool:=(P.funcs[f]?).any fun fn=>fn.body.isSome&&!(fn.name== "runtime.NumGoroutine")
def xg (prims:FuncId->Bool) (ty:TypeId):k7->Op->Bool
 | .Ti x,.move o=>bB x o
 | .Ti x,.assign o=>bB x o
 | .pick c a b,.pick d e f=>bB c d&&bB a e&&bB b f
 | .bin op x y,.binOp op' _ a b _=>op==op'&&bB x a&&bB y b
 | .KC neg x y,.binOp op t a b _=>(if neg then op== .neq else op== .eql)&&P.underlying t matches anH .bool&&bB x a&&bB y b
 | .eqc n neg x y,.binOp op t a b _=>(if neg then op== .neq else op== .eql)&&gU P t&&flat P 100 t==anH n&&!P.eqGuardType P.depth t&&bB x a&&bB y b
 | .un op x,.unOp op' _ a=>op==op'&&bB x a
 | .conv k x,.convert s d a=>(P.underlying s).isSome&&(match P.underlying d with|some (.int l)=>fA k l|_=>anK)&&bB x a
 | .len x,.call {callee:= .builtin .len,args,argTypes}=>(match argTypes[0]? with|some t=>sq P t|none=>anK)&&eW [x] args.toList
 | .NG n,.call {callee:= .builtin .len,args,argTypes}=>!args.isEmpty&&(match argTypes[0]? with
  |some t=>(match P.underlying t with
   |some (.array m _)=>m==n
   |some (.pointer e)=>(match P.underlying e with|some (.array m _)=>m==n|_=>anK)
   |_=>anK)
  |none=>anK)
 | .box x,.box _ a=>bB x a
 | .alloc cells,.alloc t=>uh P t cells
 | .build zero parts,.build t ps=>uh P t zero&&gU P t&&uU (placeOf P t) parts ps.toList
  &&(match P.underlying t with|some (.struct fs)=>fs.all fun f=>(P.info? f.type).isSome|some (.array _ e)=>(P.info? e).isSome|_=>anK)
 | .A' esz n zero parts,.buildSlice t m ps=>n==m&&(match P.underlying t with|some (.slice e)=>oT P e esz&&uh P e zero&&(anG zero)==esz&&!(esz==0)|_=>anK)&&af4 (n*esz) 1048576&&zero.all PV.plain&&nq parts ps.toList
 | .load agg p,.load t a=>Bb P t agg&&bB p a
 | .store sz p v,.store t a b=>oT P t sz&&bB p a&&bB v b
 | .KD x,.nilCheck a=>bB x a
 | .KE off p,.fieldAddr t a f=>(match P.underlying t with
  |some (.struct fs)=>(match fs[f]? with|some g=>g.offset==off&&(P.info? g.type).any fun i=>!(i.size==0)|none=>anK)
  |_=>anK)&&bB p a
 | .ie agg off x,.field t a f=>(match P.underlying t with
  |some (.struct fs)=>(match fs[f]? with|some g=>g.offset==off&&Bb P g.type agg|none=>anK)
  |_=>anK)&&bB x a
 | .KF esz x i,.indexAddr t a j=>yO P t esz&&bB x a&&bB i j
 | .Dj n esz p i,.indexAddr t a j=>PI P t n esz&&bB p a&&bB i j
 | .idx n esz agg x i,.index t a j=>(match P.underlying t with|some (.array m e)=>m==n&&oT P e esz&&Bb P e agg|_=>anK)&&bB x a&&bB i j
 | .KG x i,.index t a j=>P.underlying t matches anH .string&&bB x a&&bB i j
 | .Ru esz x l h m,.slice t a b c d=>(m.isNone||h.isSome)&&yO P t esz&&bB x a&&IV l b&&IV h c&&IV m d
 | .mks esz zero l c,.makeSlice t a b=>(match P.underlying t with|some (.slice e)=>oT P e esz&&uh P e zero&&(anG zero)==esz&&Ef P e&&!(esz==0)|_=>anK)&&zero.all PV.plain&&bB l a&&bB c b
 | .mkf fn a b,.makeFunc (.func g) c d=>fn==g&&eW a c.toList&&eW b d.toList
 | .mkm _,.makeMap _ anI=>anJ
 | .ext i x,.extract a j=>i==j&&bB x a
 | .append esz x y,.call {callee:= .builtin .append,args,argTypes}=>(match argTypes.toList with
  | [t,u]=>(match P.underlying t with|some (.slice e)=>oT P e esz&&Ef P e&&!(esz==0)&&(P.info? e).any (fun i=>i.zero.any fun z=>z.cells.size==esz)|_=>anK)&&sq P u
  |_=>anK)&&eW [x,y] args.toList
 | .lookup n zero ok m k,.lookup t a b ok'=>ok==ok'&&(match P.underlying t with|some (.map kt et)=>xG P kt n&&(match (P.info? et).bind (·.zero) with|some v=>ug zero v|none=>anK)|_=>anK)&&bB m a&&bB k b
 | .IM n m k v,.mapUpdate t a b c=>(match P.underlying t with|some (.map kt _)=>xG P kt n|_=>anK)&&bB m a&&bB k b&&bB v c
 | .copy esz x y,.call {callee:= .builtin .copy,args,argTypes}=>(match argTypes.toList with| [t,u]=>yO P t esz&&sq P u|_=>anK)&&eW [x,y] args.toList
 | .clear esz zero x,.call {callee:= .builtin .clear,args,argTypes}=>(match argTypes.toList with
  | [t]=>(match P.underlying t with|some (.slice e)=>oT P e esz&&uh P e zero&&(anG zero)==esz&&zero.all PV.plain|_=>anK)
  |_=>anK)&&eW [x] args.toList
 | .mm isMax x xs,.call {callee:= .builtin b,args,argTypes:=_}=>(if isMax then b== .max else b== .min)&&eW (x::xs) args.toList
 | .call _ f args,.call {callee:= .value (.func g),args:=as,argTypes:=_}=>f==g&&(prims f||W6 P f)&&eW args as.toList
 | .xb x args,.call {callee:= .value (.tmp t),args:=as,argTypes:=_}=>bB x (.tmp t)&&eW args as.toList
 | .Di x y,.buildSlice t m ps=>m==2&&(match P.underlying t with|some (.slice e)=>oT P e 1&&(P.info? e).any (fun i=>i.zero.any fun z=>z.cells.size==1)|_=>anK)&&(match ps.toList with| [(i,a),(j,b)]=>i==0&&j==1&&bB x a&&bB y b|_=>anK)
 | .IM n m k v,.insert t a b c=>(match P.underlying t with|some (.map kt _)=>xG P kt n|_=>anK)&&bB m a&&bB k b&&bB v c
 | .bad,_=>anJ
 |_,_=>ty==0&&anK
end
end Go.Vm
/- What a pure value says of a value of the model, a block of the call's own of the memory. -/
namespace Go.Vm
structure LI where
 df:Nat
 sh:Nat
 esz:Nat
 n:Nat
 sz:Nat
abbrev Im:=Nat->Option Obj
abbrev Loc:=Nat->Option LI
def nY (im:Im) (b o:Nat):Option Value:=
 match im b with
 |some (.cells c _ _)=>c[o]?
 |_=>anI
def jD:PV->Option Value
 | .int k n=>anH (.int k n)
 | .bool b=>anH (.bool b)
 | .str s=>anH (.string s)
 |_=>anI
def bO (get:Nat->Option Value) (sh esz:Nat) (rows:List Row):Prop:=
 ∀(i:Nat) (r:Row),rows[i]? =anH r->anG r=esz/\ ∀(j:Nat) (c:PV),r[j]? =anH c-> ∃v,jD c=anH v/\get (sh+i*esz+j)=anH v
mutual
inductive VR (im:Im) (loc:Loc):PV->Value->Prop
 |undef (v:Value):VR im loc .undef v
 |jB:VR im loc .jB Go.undef
 |int (k:IntKind) (n:Int):VR im loc (.int k n) (.int k n)
 |bool (b:Bool):VR im loc (.bool b) (.bool b)
 |str (s:ByteArray):VR im loc (.str s) (.string s)
 |agg (cs:List PV) (vs:List Value) (h:eV im loc cs vs):VR im loc (.agg cs) (.agg ⟨vs⟩)
 |cq (cs:List PV) (vs:List Value) (h:eV im loc cs vs):VR im loc (.cq cs) (.tuple ⟨vs⟩)
 |sl (esz:Nat) (qS:Bool) (rows:List Row) (a:Option Addr) (cap:Nat) (hc:(anG rows)<=cap) (hk:qS=anJ->cap=anG rows)
  (h:rows≠[]-> ∃b o,a=anH ⟨b,o,anI⟩/\bO (nY im b) o esz rows):VR im loc (.sl esz qS rows) (.slice a (anG rows) cap)
 |own (t esz off len cap:Nat) (ex:Bool) (li:LI) (a:Option Addr) (cV:Nat) (hl:loc t=anH li) (he:li.esz=esz) (hn:off+cap<=li.n) (hc:len<=cap)
  (hx:cap<=cV) (hk:ex=anJ->cV=cap)
  (h:cV=0\/(li.n≠0/\a=anH ⟨li.df,li.sh+off*esz,anI⟩/\li.sh+(off+cV)*esz<=li.sz)):VR im loc (.own t esz off len cap ex) (.slice a len cV)
 |ptr (t esz row off:Nat) (li:LI) (hl:loc t=anH li) (he:li.esz=esz) (hn:row<li.n):
  VR im loc (.ptr t esz row off) (.pointer (anH ⟨li.df,li.sh+row*esz+off,anI⟩))
 |bH (cs:List PV) (off b o:Nat) (vs:List Value) (h:eV im loc cs vs) (hv: ∀(j:Nat) (v:Value),vs[j]? =anH v->nY im b (o+j)=anH v):
  VR im loc (.bH cs off) (.pointer (anH ⟨b,o+off,anI⟩))
 |mp (t:Nat) (li:LI) (hl:loc t=anH li):VR im loc (.mp t) (.map (anH li.df))
 |eI (fn:FuncId) (a b:List PV) (as bs:List Value) (ha:eV im loc a as) (hb:eV im loc b bs):VR im loc (.eI fn a b) (.func (.func fn) ⟨as⟩ ⟨bs⟩)
 |dR:VR im loc .dR .nilFunc
inductive eV (im:Im) (loc:Loc):List PV->List Value->Prop
 |nil:eV im loc [] []
 |cons (x:PV) (v:Value) (xs:List PV) (vs:List Value) (h:VR im loc x v) (hs:eV im loc xs vs):eV im loc (x::xs) (v::vs)
end
def nZ (im eA:Im):Prop:= ∀b o,im b=anH o->eA b=anH o
def mv (loc bo:Loc):Prop:= ∀t li,loc t=anH li->bo t=anH li
theorem nZ.refl (im:Im):nZ im im:=fun _ _ h=>h
theorem nZ.trans {a b c:Im} (h:nZ a b) (k:nZ b c):nZ a c:=fun x o e=>k x o (h x o e)
theorem mv.refl (loc:Loc):mv loc loc:=fun _ _ h=>h
theorem mv.trans {a b c:Loc} (h:mv a b) (k:mv b c):mv a c:=fun x o e=>k x o (h x o e)
theorem nZ.cell {im eA:Im} (h:nZ im eA) {b o:Nat} {v:Value} (hc:nY im b o=anH v):nY eA b o=anH v:=by
 unfold nY at hc ⊢;cases hb:im b with
 |none=>rw [hb] at hc;cases hc
 |some x=>rw [hb] at hc;rw [h b x hb];exact hc
theorem bO.mono {g g':Nat->Option Value} {sh esz:Nat} {rows:List Row} (h:bO g sh esz rows) (hg: ∀k v,g k=anH v->g' k=anH v):
 bO g' sh esz rows:=by
 intro i r hr;obtain ⟨h1,h2⟩:=h i r hr;exact ⟨h1,fun j c hc=>let ⟨v,hv,hw⟩:=h2 j c hc;⟨v,hv,hg _ _ hw⟩⟩
mutual
theorem VR.mono {im eA:Im} {loc bo:Loc} (hi:nZ im eA) (hl:mv loc bo): ∀{x:PV} {v:Value},VR im loc x v->VR eA bo x v
 |_,_,.undef v=> .undef v
 |_,_,.jB=> .jB
 |_,_,.int k n=> .int k n
 |_,_,.bool b=> .bool b
 |_,_,.str s=> .str s
 |_,_,.agg cs vs h=> .agg cs vs (eV.mono hi hl h)
 |_,_,.cq cs vs h=> .cq cs vs (eV.mono hi hl h)
 |_,_,.sl esz qS rows a cap hc hk h=> .sl esz qS rows a cap hc hk fun dW=>let ⟨b,o,ha,hr⟩:=h dW;⟨b,o,ha,hr.mono fun _ _ e=>hi.cell e⟩
 |_,_,.own t esz off len cap ex li a cV h1 h2 h3 h4 h5 h6 h7=> .own t esz off len cap ex li a cV (hl _ _ h1) h2 h3 h4 h5 h6 h7
 |_,_,.ptr t esz row off li h1 h2 h3=> .ptr t esz row off li (hl _ _ h1) h2 h3
 |_,_,.bH cs off b o vs h hv=> .bH cs off b o vs (eV.mono hi hl h) fun j v e=>hi.cell (hv j v e)
 |_,_,.mp t li h=> .mp t li (hl _ _ h)
 |_,_,.eI fn a b as bs ha hb=> .eI fn a b as bs (eV.mono hi hl ha) (eV.mono hi hl hb)
 |_,_,.dR=> .dR
theorem eV.mono {im eA:Im} {loc bo:Loc} (hi:nZ im eA) (hl:mv loc bo): ∀{x:List PV} {v:List Value},eV im loc x v->eV eA bo x v
 |_,_,.nil=> .nil
 |_,_,.cons x v xs vs h hs=> .cons x v xs vs (VR.mono hi hl h) (eV.mono hi hl hs)
end
theorem eV.mY {im:Im} {loc:Loc}: ∀{x:List PV} {v:List Value},eV im loc x v->anG x=anG v
 |_,_,.nil=>rfl
 |_,_,.cons _ _ _ _ _ hs=>by simp [hs.mY]
theorem eV.get {im:Im} {loc:Loc}: ∀{xs:List PV} {vs:List Value},eV im loc xs vs-> ∀(i:Nat) (x:PV),xs[i]? =anH x-> ∃v,vs[i]? =anH v/\VR im loc x v
 |_,_,.nil,i,x,h=>by simp at h
 |_,_,.cons y v xs vs h hs,0,x,e=>by simp at e;subst e;exact ⟨v,rfl,h⟩
 |_,_,.cons y v xs vs h hs,i+1,x,e=>by
  obtain ⟨u,hu,hr⟩:=hs.get i x (by simpa using e)
  exact ⟨u,by simpa using hu,hr⟩
theorem eV.append {im:Im} {loc:Loc}: ∀{xs:List PV} {vs:List Value},eV im loc xs vs-> ∀{ys:List PV} {us:List Value},eV im loc ys us->eV im loc (xs++ys) (vs++us)
 |_,_,.nil,_,_,k=>k
 |_,_,.cons y v xs vs h hs,_,_,k=> .cons _ _ _ _ h (hs.append k)
theorem eV.take {im:Im} {loc:Loc}: ∀{xs:List PV} {vs:List Value},eV im loc xs vs-> ∀n,eV im loc (xs.take n) (vs.take n)
 |_,_,.nil,n=>by simp;exact .nil
 |_,_,.cons y v xs vs h hs,0=> .nil
 |_,_,.cons y v xs vs h hs,n+1=> .cons _ _ _ _ h (hs.take n)
theorem eV.drop {im:Im} {loc:Loc}: ∀{xs:List PV} {vs:List Value},eV im loc xs vs-> ∀n,eV im loc (xs.drop n) (vs.drop n)
 |_,_,.nil,n=>by simp;exact .nil
 |_,_,.cons y v xs vs h hs,0=> .cons _ _ _ _ h hs
 |_,_,.cons y v xs vs h hs,n+1=>hs.drop n
theorem eV.of {im:Im} {loc:Loc}: ∀(xs:List PV) (vs:List Value),anG xs=anG vs->(∀(i:Nat) (x:PV) (v:Value),xs[i]? =anH x->vs[i]? =anH v->VR im loc x v)->eV im loc xs vs
 | [],[],_,_=> .nil
 |x::xs,v::vs,hl,h=> .cons x v xs vs (h 0 x v rfl rfl) (eV.of xs vs (by simpa using hl) fun i a b ha hb=>h (i+1) a b (by simpa using ha) (by simpa using hb))
theorem VR.plain {im:Im} {loc:Loc} {x:PV} {v:Value} (h:VR im loc x v) (hp:x.plain=anJ):jD x=anH v:=by
 cases h<;>first|rfl|cases hp
theorem VR.EM {im:Im} {loc:Loc} {x:PV} {v:Value} (h:jD x=anH v):VR im loc x v:=by
 cases x<;>simp only [jD,v6] at h<;>first|(subst h;constructor)|cases h
theorem VR.cells {im:Im} {loc:Loc} {x:PV} {v:Value} (h:VR im loc x v) (hs: ∀c∈x.cells,c.qj=anJ):eV im loc x.cells v.cells.toList:=by
 have one: ∀{y:PV} {u:Value},VR im loc y u->y.qj=anJ->(∀us,u≠ .agg us):=by
  intro y u hy ho us e;subst e;cases hy<;>cases ho
 cases h with
 |agg cs vs h=>exact h
 |undef v=>have:=hs .undef (by simp [PV.cells]);cases this
 |jB=>have:=hs .jB (by simp [PV.cells]);cases this
 |cq cs vs h=>have:=hs (.cq cs) (by simp [PV.cells]);cases this
 |int k n=>exact .cons _ _ _ _ (.int k n) .nil
 |bool b=>exact .cons _ _ _ _ (.bool b) .nil
 |str s=>exact .cons _ _ _ _ (.str s) .nil
 |sl esz qS rows a cap hc hk h=>exact .cons _ _ _ _ (.sl esz qS rows a cap hc hk h) .nil
 |own t esz off len cap ex li a cV h1 h2 h3 h4 h5 h6 h7=>exact .cons _ _ _ _ (.own t esz off len cap ex li a cV h1 h2 h3 h4 h5 h6 h7) .nil
 |ptr t esz row off li h1 h2 h3=>exact .cons _ _ _ _ (.ptr t esz row off li h1 h2 h3) .nil
 |bH cs off b o vs h hv=>exact .cons _ _ _ _ (.bH cs off b o vs h hv) .nil
 |mp t li h=>exact .cons _ _ _ _ (.mp t li h) .nil
 |eI fn a b as bs ha hb=>exact .cons _ _ _ _ (.eI fn a b as bs ha hb) .nil
 |dR=>exact .cons _ _ _ _ .dR .nil
theorem VR.IW {im:Im} {loc:Loc} {x:PV} {v:Value} (h:VR im loc x v) (hs:x.qj=anJ):(∀us,v≠ .agg us)/\ ∀us,v≠ .tuple us:=by
 cases h<;>first|(simp [PV.qj] at hs;done)|simp
def valOf:PV->Option Value
 | .agg cs=>(cs.mapM jD).map fun vs=> .agg ⟨vs⟩
 |x=>jD x
def fH:List (PV×PV)->List MapEntry->Prop
 | [],[]=>True
 |(k,v)::r,e::r'=>valOf k=anH e.key/\valOf v=anH e.val/\fH r r'
 |_,_=>False
def BR (im:Im) (loc:Loc) (w:World) (li:LI):jX->Prop
 | .arr e rows=>li.esz=e/\li.n=anG rows/\(rows≠[]-> ∃cs el,w.heap[li.df]? =anH (.cells cs el (0,0))/\cs.size=li.sz/\li.sh+anG rows*e<=li.sz/\bO (fun k=>cs[k]?) li.sh e rows)
 | .box cells=>(li.esz=anG cells/\li.n=1\/li.esz=1/\li.n=anG cells)/\True/\li.sh=0/\ ∃vs el,w.heap[li.df]? =anH (.cells ⟨vs⟩ el (0,0))/\anG vs=li.sz/\eV im loc cells vs
 | .map es=> ∃k8 clock,w.heap[li.df]? =anH (.map k8 clock)/\fH es k8.toList
 | .dead=>True
theorem BR.mono {im eA:Im} {loc bo:Loc} {w w':World} {li:LI} {k:jX} (h:BR im loc w li k) (hi:nZ im eA) (hl:mv loc bo)
 (hw:w'.heap[li.df]? =w.heap[li.df]?):BR eA bo w' li k:=by
 cases k with
 |arr e rows=>exact ⟨h.1,h.2.1,fun dW=>let ⟨cs,el,h1,h2,h3⟩:=h.2.2 dW;⟨cs,el,by rw [hw];exact h1,h2,h3⟩⟩
 |box cells=>obtain ⟨h1,h2,h3,vs,el,h4,h5,h6⟩:=h;exact ⟨h1,h2,h3,vs,el,by rw [hw];exact h4,h5,h6.mono hi hl⟩
 |map es=>obtain ⟨en,cl,h1,h2⟩:=h;exact ⟨en,cl,by rw [hw];exact h1,h2⟩
 |dead=>trivial
theorem BR.lt {im:Im} {loc:Loc} {w:World} {li:LI} {k:jX} (h:BR im loc w li k) (hs:k.bL=anJ):li.df<w.heap.size:=by
 have get: ∀{o:Obj},w.heap[li.df]? =anH o->li.df<w.heap.size:=fun e=>by
  rcases adc li.df w.heap.size with h|h
  · exact h
  simp [aks h] at e
 cases k with
 |arr e rows=>
  cases rows with
  |nil=>cases hs
  |cons r rs=>obtain ⟨cs,el,h1,_⟩:=h.2.2 (by simp);exact get h1
 |box cells=>obtain ⟨_,_,_,vs,el,h4,_⟩:=h;exact get h4
 |map es=>obtain ⟨en,cl,h1,h2⟩:=h;exact get h1
 |dead=>cases hs
structure SR (im:Im) (loc:Loc) (aE:cH) (fz:List Nat) (w:World):Prop where
 bG: ∀b o,im b=anH o->w.heap[b]? =anH o
 df: ∀t li,loc t=anH li-> ∃k,aE[t]? =anH k/\BR im loc w li k
 iK: ∀t u li lj k k',loc t=anH li->loc u=anH lj->aE[t]? =anH k->aE[u]? =anH k'->k.bL=anJ->k'.bL=anJ->li.df=lj.df->t=u
 free: ∀t li k,loc t=anH li->aE[t]? =anH k->k.bL=anJ->has fz t=anK->im li.df=anI
def ER (im:Im) (loc:Loc) (e:Env) (tmps:Array Value):Prop:= ∀t,VR im loc (lk t e) (tmps.getD t Go.undef)
theorem ER.mono {im eA:Im} {loc bo:Loc} (hi:nZ im eA) (hl:mv loc bo) {e:Env} {tmps:Array Value} (h:ER im loc e tmps):ER eA bo e tmps:=
 fun t=>(h t).mono hi hl
theorem rD (t s:Nat) (v:PV) (e:Env):lk t ((s,v)::e)=if s=t then v else lk t e:=by
 simp only [lk]
 by_cases h:s=t<;>simp [h]
theorem ER.put {im:Im} {loc:Loc} {e:Env} {tmps:Array Value} (h:ER im loc e tmps) {d:Nat} {x:PV} {v:Value} (hd:d<tmps.size) (hv:VR im loc x v):
 ER im loc ((d,x)::e) (tmps.setIfInBounds d v):=by
 intro t;rw [rD]
 by_cases hdt:d=t
 · subst hdt
   simpa [hd] using hv
 rw [rc hdt]
 have:=h t
 simpa [af5,hdt] using this
end Go.Vm
/- Renaming the blocks. -/
namespace Go.Vm
theorem yP {t:Nat}: ∀{m:List Nat} {u:Nat},idxOf t m=anH u->m[u]? =anH t
 | [],u,h=>by simp [idxOf] at h
 |s::r,u,h=>by
  simp only [idxOf] at h;split at h
  · rename_i e
    injection h with h;subst h
    have:s=t:=by simpa using e
    simp [this]
  rw [AC] at h
  obtain ⟨v,hv,rfl⟩:=h;simpa using yP hv
section
variable {im : Im} {loc dj : Loc} {m : List Nat}
def Ren (m:List Nat) (loc dj:Loc):Prop:= ∀(u t:Nat),m[u]? =anH t->dj u=loc t
mutual
theorem Tu (hm:Ren m loc dj): ∀{x y:PV} {v:Value},VR im loc x v->zH m x=anH y->VR im dj y v
 | .undef,y,v,h,hr=>by simp only [zH,v6] at hr;subst hr;exact .undef _
 | .jB,y,v,h,hr=>by simp only [zH,v6] at hr;subst hr;cases h;exact .jB
 | .int k n,y,v,h,hr=>by simp only [zH,v6] at hr;subst hr;cases h;exact .int _ _
 | .bool b,y,v,h,hr=>by simp only [zH,v6] at hr;subst hr;cases h;exact .bool _
 | .str b,y,v,h,hr=>by simp only [zH,v6] at hr;subst hr;cases h;exact .str _
 | .dR,y,v,h,hr=>by simp only [zH,v6] at hr;subst hr;cases h;exact .dR
 | .agg cs,y,v,h,hr=>by
  simp only [zH,AC] at hr;obtain ⟨HB,h1,rfl⟩:=hr;cases h with|agg _ vs h=>exact .agg _ _ (tf hm h h1)
 | .cq cs,y,v,h,hr=>by
  simp only [zH,AC] at hr;obtain ⟨HB,h1,rfl⟩:=hr;cases h with|cq _ vs h=>exact .cq _ _ (tf hm h h1)
 | .sl e c rows,y,v,h,hr=>by
  simp only [zH,v6] at hr;subst hr;cases h with|sl _ _ _ a cap h1 h2 h3=>exact .sl _ _ _ a cap h1 h2 h3
 | .own t e off len cap ex,y,v,h,hr=>by
  simp only [zH,AC] at hr;obtain ⟨u,h1,rfl⟩:=hr;cases h with|own _ _ _ _ _ _ li a cV g1 g2 g3 g4 g5 g6 g7=>exact .own _ _ _ _ _ _ li a cV (by rw [hm u t (yP h1)];exact g1) g2 g3 g4 g5 g6 g7
 | .ptr t e row off,y,v,h,hr=>by
  simp only [zH,AC] at hr;obtain ⟨u,h1,rfl⟩:=hr;cases h with|ptr _ _ _ _ li g1 g2 g3=>exact .ptr _ _ _ _ li (by rw [hm u t (yP h1)];exact g1) g2 g3
 | .bH cs off,y,v,h,hr=>by
  simp only [zH,AC] at hr;obtain ⟨HB,h1,rfl⟩:=hr;cases h with|bH _ _ b o vs h hv=>exact .bH _ _ b o vs (tf hm h h1) hv
 | .mp t,y,v,h,hr=>by
  simp only [zH,AC] at hr;obtain ⟨u,h1,rfl⟩:=hr;cases h with|mp _ li g1=>exact .mp _ li (by rw [hm u t (yP h1)];exact g1)
 | .eI f a b,y,v,h,hr=>by
  simp only [zH] at hr;split at hr
  · rename_i a' b' ha hb
    injection hr with hr;subst hr;cases h with|eI _ _ _ as bs h1 h2=>exact .eI _ _ _ _ _ (tf hm h1 ha) (tf hm h2 hb)
  cases hr
theorem tf (hm:Ren m loc dj): ∀{x y:List PV} {v:List Value},eV im loc x v->zA m x=anH y->eV im dj y v
 | [],y,v,h,hr=>by simp only [zA,v6] at hr;subst hr;cases h;exact .nil
 |x::xs,y,v,h,hr=>by
  simp only [zA] at hr;split at hr
  · rename_i x' xs' h1 h2
    injection hr with hr;subst hr;cases h with|cons _ u _ us g1 g2=>exact .cons _ _ _ _ (Tu hm g1 h1) (tf hm g2 h2)
  cases hr
end
theorem Dm: ∀{x y:List PV},zA m x=anH y->anG y=anG x
 | [],y,h=>by simp only [zA,v6] at h;subst h;rfl
 |x::xs,y,h=>by
  simp only [zA] at h;split at h
  · rename_i x' xs' h1 h2
    injection h with h;subst h;simp [Dm h2]
  cases h
theorem HC {w:World} {li:LI} {k k':jX} (hm:Ren m loc dj) (hr:nV m k=anH k') (h:BR im loc w li k):BR im dj w li k':=by
 cases k with
 |arr e rows=>simp only [nV,v6] at hr;subst hr;exact h
 |map es=>simp only [nV,v6] at hr;subst hr;exact h
 |dead=>simp only [nV,v6] at hr;subst hr;trivial
 |box cs=>
  simp only [nV,AC] at hr;obtain ⟨HB,h1,rfl⟩:=hr;obtain ⟨g1,g2,g3,vs,el,g4,g5,g6⟩:=h;exact ⟨by rw [Dm h1];exact g1,g2,g3,vs,el,g4,g5,tf hm g6 h1⟩
theorem Bc {k k':jX} (hr:nV m k=anH k'):k'.bL=k.bL:=by
 cases k with
 |arr e rows=>simp only [nV,v6] at hr;subst hr;rfl
 |map es=>simp only [nV,v6] at hr;subst hr;rfl
 |dead=>simp only [nV,v6] at hr;subst hr;rfl
 |box cs=>
  simp only [nV,AC] at hr;obtain ⟨HB,h1,rfl⟩:=hr;rfl
theorem Cr {aE:cH}: ∀{l:List Nat} {s1:cH},xE aE m l=anH s1->anG s1=anG l/\ ∀(u t:Nat),l[u]? =anH t-> ∃k k',aE[t]? =anH k/\nV m k=anH k'/\s1[u]? =anH k'
 | [],s1,h=>by simp only [xE,v6] at h;subst h;exact ⟨rfl,fun u t h=>by simp at h⟩
 |t::ts,s1,h=>by
  simp only [xE] at h;split at h
  · rename_i b hb
    split at h
    · rename_i b' r h1 h2
      injection h with h;subst h;obtain ⟨g1,g2⟩:=Cr h2;refine ⟨by simp [g1],fun u t' ht=>?_⟩
      cases u with
      |zero=>simp at ht;subst ht;exact ⟨b,b',hb,h1,rfl⟩
      |succ u=>simpa using g2 u t' (by simpa using ht)
    cases h
  cases h
end
end Go.Vm
/- Operation by operation: the model's run gives what the logical machine says. First part: what reads no memory. -/
namespace Go.Vm
theorem fj {k l:IntKind}:fA k l=anJ↔k=l:=by
 cases k<;>cases l<;>simp [fA]
theorem Eg {n:Int} (h1: -9223372036854775808<=n) (h2:n<9223372036854775808):IntKind.wrap .i64 n=n:=by
 simp only [IntKind.wrap,IntKind.bits,IntKind.signed,anz];have e1:(2:Int)^64=18446744073709551616:=by decide
 have e2:(2:Int)^(64-1)=9223372036854775808:=by decide
 simp only [e1,e2,decide_eq_true_eq];split<;>omega
theorem ss (k:IntKind) (n:Int):aa k n=k.wrap n:=by
 unfold aa;split
 · rename_i m
   split
   · rename_i h
     have h:m<9223372036854775808:=by simpa using h
     have e:Int.ofNat m=(m:Int):=rfl;exact (Eg (by rw [e];omega) (by rw [e];omega)).symm
   rfl
 · rename_i m
   split
   · rename_i h
     have h:m<9223372036854775808:=by simpa using h
     exact (Eg (by omega) (by omega)).symm
   rfl
 · rename_i m
   simp only [IntKind.wrap,IntKind.bits,IntKind.signed,Bool.false_and];have e1:(2:Int)^64=18446744073709551616:=by decide
   simp only [e1];rfl
 rfl
section
variable {P : Program} {im : Im} {loc : Loc} {w : World}
theorem VR.gx {k:IntKind} {n:Int} {v:Value} (h:VR im loc (.int k n) v):v= .int k n:=by cases h;rfl
theorem VR.jE {b:Bool} {v:Value} (h:VR im loc (.bool b) v):v= .bool b:=by cases h;rfl
theorem VR.Eh {b:ByteArray} {v:Value} (h:VR im loc (.str b) v):v= .string b:=by cases h;rfl
theorem VR.pM {cs:List PV} {v:Value} (h:VR im loc (.agg cs) v): ∃vs,v= .agg ⟨vs⟩/\eV im loc cs vs:=by cases h with|agg _ vs h=>exact ⟨vs,rfl,h⟩
theorem VR.Bd {cs:List PV} {v:Value} (h:VR im loc (.cq cs) v): ∃vs,v= .tuple ⟨vs⟩/\eV im loc cs vs:=by cases h with|cq _ vs h=>exact ⟨vs,rfl,h⟩
mutual
theorem IX: ∀{x:PV} {v:Value},ug x v=anJ->VR im loc x v
 | .int k n,v,h=>by
  cases v<;>simp only [ug] at h<;>first|cases h|skip
  simp only [ut,beq_iff_eq,fj] at h;obtain ⟨rfl,rfl⟩:=h;exact .int _ _
 | .bool a,v,h=>by
  cases v<;>simp only [ug] at h<;>first|cases h|skip
  rename_i b;have:a=b:=by simpa using h
  subst this;exact .bool _
 | .str a,v,h=>by
  cases v<;>simp only [ug] at h<;>first|cases h|skip
  rename_i b;have h1:a.data.toList=b.data.toList:=by simpa using h
  obtain ⟨⟨x⟩⟩:=a;obtain ⟨⟨y⟩⟩:=b;have h2:x=y:=h1;subst h2;exact .str _
 | .sl e c [],v,h=>by
  cases v with
  |slice a n cap=>
   cases a with
   |none=>
    cases n with
    |zero=>
     cases cap with
     |zero=>exact .sl e c [] anI 0 (Nat.zero_le _) (fun _=>rfl) (fun dW=>absurd rfl dW)
     |succ c=>simp [ug] at h
    |succ n=>simp [ug] at h
   |some a=>simp [ug] at h
  |_=>simp [ug] at h
 | .sl e c (_::_),v,h=>by simp [ug] at h
 | .agg cs,v,h=>by
  cases v<;>simp only [ug] at h<;>first|cases h|skip
  rename_i vs;exact .agg cs vs.toList (xH h)
 | .dR,v,h=>by
  cases v<;>simp only [ug] at h<;>first|cases h|skip
  exact .dR
 | .undef,v,_=> .undef v
 | .jB,v,h=>by simp [ug] at h
 | .cq _,v,h=>by simp [ug] at h
 | .own ..,v,h=>by simp [ug] at h
 | .ptr ..,v,h=>by simp [ug] at h
 | .bH ..,v,h=>by simp [ug] at h
 | .mp _,v,h=>by simp [ug] at h
 | .eI ..,v,h=>by simp [ug] at h
theorem xH: ∀{x:List PV} {v:List Value},EL x v=anJ->eV im loc x v
 | [],[],_=> .nil
 |x::xs,v::vs,h=>by
  simp only [EL,ut] at h;exact .cons _ _ _ _ (IX h.1) (xH h.2)
 | [],_::_,h=>by simp [EL] at h
 |_::_,[],h=>by simp [EL] at h
end
theorem W7 {op : BinOp} {t : TypeId} {a b : Operand} {x y : PV} {u v : Value} {z : PV} (hx : VR im loc x u) (hy : VR im loc y v) (h : Rv op x y = anH z) :
    ∃ r, (do eqGuard op t a b u v; binOp op t u v : Sem Value).run P w = .ok r w /\ VR im loc z r := by
  unfold Rv at h
  split at h
  · rename_i k a l b
    obtain rfl := hx.gx
    obtain rfl := hy.gx
    have hg : ∀ (k l : IntKind) (a b : Int) (o p : Operand), (eqGuard op t o p (.int k a) (.int l b)).run P w = .ok () w := by
      intros; unfold eqGuard; cases op <;> simp
    split at h
    · simp only [Cn] at h
      split at h
      · cases h
      rename_i hb
      injection h with h; subst h
      refine ⟨_, ?_, .int _ _⟩
      simp only [Do, hg, ww, binOp, Op.shift, hb, if_false]
      rfl
    · simp only [Cn] at h
      split at h
      · cases h
      rename_i hb
      injection h with h; subst h
      refine ⟨_, ?_, .int _ _⟩
      simp only [Do, hg, ww, binOp, Op.shift, hb, if_false]
      rfl
    split at h
    · rename_i axV axW hk
      have := fj.1 hk; subst this
      unfold arith at h
      split at h
      all_goals first
        | (injection h with h; subst h
           first
             | (refine ⟨_, ?_, .int _ _⟩
                simp only [Do, hg, ww, binOp, Op.intArith, Op.intBits, ss, ne_eq, not_true_eq_false, if_false]
                rfl)
             | (refine ⟨_, ?_, .bool _⟩
                simp only [Do, hg, ww, binOp, Op.intCmp, ne_eq, not_true_eq_false, if_false]
                rfl))
        | (split at h
           · cases h
           rename_i hb
           injection h with h; subst h
           refine ⟨_, ?_, .int _ _⟩
           simp only [Do, hg, ww, binOp, Op.intDiv, ss, ne_eq, not_true_eq_false, if_false, hb]
           rfl)
        | cases h
    cases h
  cases h
theorem Tv {neg:Bool} {op:BinOp} {t:TypeId} {p q:Operand} {a b:Bool} (ho:op=if neg then .neq else .eql) (ht:P.underlying t=anH .bool):
 (do eqGuard op t p q (.bool a) (.bool b);binOp op t (.bool a) (.bool b):Sem Value).run P w= .ok (.bool (if neg then !(a==b) else a==b)) w:=by
 have h1:(Op.equal t (.bool a) (.bool b)).run P w= .ok (a==b) w:=run_equalIn_bool' w 9999 t a b ht;cases neg<;>simp only [af2,if_false,if_true] at ho<;>subst ho<;>simp [eqGuard,binOp,h1]
theorem af9 {op:UnOp} {x z:PV} {u:Value} (hx:VR im loc x u) (h:unE op x=anH z): ∃r,(Op.unary op u).run P w= .ok r w/\VR im loc z r:=by
 unfold unE at h;split at h
 · injection h with h;subst h
   obtain rfl:=hx.gx;exact ⟨_,rfl,by rw [ss];exact .int _ _⟩
 · injection h with h;subst h
   obtain rfl:=hx.jE;exact ⟨_,rfl,.bool _⟩
 cases h
theorem Tw {s d:TypeId} {k k':IntKind} {n:Int} {ds:TypeDesc} (hs:P.underlying s=anH ds) (hd:P.underlying d=anH (.int k)):
 (convert s d (.int k' n)).run P w= .ok (.int k (aa k n)) w:=by
 simp only [convert,Do,run_underlying hs,run_underlying hd,ww,ss];cases ds<;>rfl
theorem Cs {t:TypeId} (h:gU P t=anJ):(isAgg t).run P w= .ok anJ w:=by
 unfold gU at h;split at h
 · rename_i f hu;simp [isAgg,run_underlying hu]
 · rename_i n f hu;simp [isAgg,run_underlying hu]
 cases h
theorem Ct {t:TypeId} (hs:(P.underlying t).isSome=anJ) (h:gU P t=anK):(isAgg t).run P w= .ok anK w:=by
 cases hu:P.underlying t with
 |none=>rw [hu] at hs;cases hs
 |some d=>
  unfold gU at h;rw [hu] at h;cases d<;>first|(simp [isAgg,run_underlying hu];done)|cases h
theorem kH {t:TypeId} {n:Nat} (h:oT P t n=anJ):(sizeOf t).run P w= .ok n w:=by
 unfold oT at h;cases hi:P.info? t with
 |none=>rw [hi] at h;cases h
 |some i=>
  rw [hi] at h
  have:i.size=n:=by simpa using h
  simp [sizeOf,typeInfo,hi,this]
theorem KN {agg:Option Nat} {t:TypeId} {off:Nat} {cs:List PV} {vs:List Value} {x:PV} (ha:Bb P t agg=anJ) (h:eV im loc cs vs)
 (hp:part agg off cs=anH x): ∃v,(Go.part t ⟨vs⟩ off).run P w= .ok v w/\VR im loc x v:=by
 unfold Bb at ha;simp only [ut] at ha;obtain ⟨hs,ha⟩:=ha;cases agg with
 |some n=>
  simp only [ut] at ha;simp only [part] at hp;split at hp
  · rename_i ly
    injection hp with hp;subst hp;refine ⟨.agg ⟨(vs.drop off).take n⟩,?_,.agg _ _ ((h.drop off).take n)⟩;simp only [Go.part,Do,Cs ha.1,ww,if_true,kH ha.2,EQ]
    congr 2
    apply afc;simp [agx]
  cases hp
 |none=>
  simp only [ut,afa] at ha;simp only [part] at hp;obtain ⟨v,hv,hr⟩:=h.get off x hp;refine ⟨v,?_,hr⟩;simp only [Go.part,Do,Ct hs ha.1,ww,af2,if_false]
  have:(⟨vs⟩:Array Value)[off]? =anH v:=by simpa using hv
  simp [this]
theorem vL {agg:Option Nat} {t:TypeId} {b o off:Nat} {cs:List PV} {vs:List Value} {x:PV} (ha:Bb P t agg=anJ) (h:eV im loc cs vs)
 (hm: ∀(j:Nat) (v:Value),vs[j]? =anH v->w.cell? ⟨b,o+j,anI⟩=anH v)
 (hp:part agg off cs=anH x): ∃v,(loadVar t ⟨b,o+off,anI⟩).run P w= .ok v w/\VR im loc x v:=by
 unfold Bb at ha;simp only [ut] at ha;obtain ⟨hs,ha⟩:=ha;have asA: ∀k j:Nat,(⟨b,k,anI⟩:Addr).add j=⟨b,k+j,anI⟩:=by
  intro k j;unfold Addr.add;split
  · rename_i h;subst h;rfl
  rfl
 cases agg with
 |some n=>
  simp only [ut] at ha;simp only [part] at hp;split at hp
  · rename_i ly
    injection hp with hp;subst hp;refine ⟨.agg ⟨(vs.drop off).take n⟩,?_,.agg _ _ ((h.drop off).take n)⟩;have hl:((vs.drop off).take n).length=n:=by
     have:=h.mY
     simp;omega
    have:=run_loadCells_list (P:=P) w ⟨b,o+off,anI⟩ ((vs.drop off).take n) (by
     intro j v hj;rw [asA];have hj':j<n:=by
      rcases adc j n with h|h
      · exact h
      rw [M2 (by omega)] at hj;cases hj
     rw [afQ hj',agt] at hj
     have:=hm _ _ hj
     rwa [show o+(off+j)=o+off+j by omega] at this)
    rw [hl] at this;simp only [loadVar,Do,Cs ha.1,ww,if_true,kH ha.2,this,EQ]
  cases hp
 |none=>
  simp only [ut,afa] at ha;simp only [part] at hp;obtain ⟨v,hv,hr⟩:=h.get off x hp;refine ⟨v,?_,hr⟩;simp only [loadVar,Do,Ct hs ha.1,ww,af2,if_false];rw [run_load,hm off v hv]
end
end Go.Vm
/- What an operation does to the memory, and the shapes in which it does it. -/
namespace Go.Vm
structure tg (im:Im) (loc:Loc) (aE:cH) (w:World) (r:nU) (eA:Im) (bo:Loc) (w':World):Prop where
 gG:nZ im eA
 dS:mv loc bo
 bG: ∀b o,eA b=anH o->w'.heap[b]? =anH o
 dX: ∀b o,eA b=anH o->im b=anH o\/w.heap.size<=b\/ ∃t li k,has r.fr t=anJ/\loc t=anH li/\aE[t]? =anH k/\k.bL=anJ/\li.df=b
 os:w'.os=w.os
 tape:w'.tape=w.tape
 output:w'.output=w.output
 size:w.heap.size<=w'.heap.size
 frame: ∀b,b<w.heap.size->(∀t k li k0,(t,k)∈r.wr->loc t=anH li->aE[t]? =anH k0->k0.bL=anJ->li.df≠b)->w'.heap[b]? =w.heap[b]?
 Rx: ∀t k,(t,k)∈r.wr->k.bL=anJ-> ∃k0,aE[t]? =anH k0/\k0.bL=anJ
 wr: ∀t k li,(t,k)∈r.wr->loc t=anH li->BR eA bo w' li k
 k9: ∀t li,bo t=anH li->loc t=anH li\/(anG aE<=t/\t<anG aE+anG r.news)
 news: ∀(j:Nat) (k:jX) (li:LI),r.news[j]? =anH k->bo (anG aE+j)=anH li->BR eA bo w' li k/\
  (k.bL=anJ->eA li.df=anI/\(w.heap.size<=li.df\/ ∃t lt k0,(t,jX.dead)∈r.wr/\loc t=anH lt/\aE[t]? =anH k0/\k0.bL=anJ/\lt.df=li.df))
 distinct: ∀(i j:Nat) (ki kj:jX) (li lj:LI),r.news[i]? =anH ki->r.news[j]? =anH kj->ki.bL=anJ->kj.bL=anJ->
  bo (anG aE+i)=anH li->bo (anG aE+j)=anH lj->li.df=lj.df->i=j
theorem Cu {α:Type} {n:Nat} {l:List α} {loc:Loc} {A:LI->α->Prop} (h: ∀(j:Nat) (k:α),l[j]? =anH k-> ∃li,loc (n+j)=anH li/\A li k):
 ∀(j:Nat) (k:α) (li:LI),l[j]? =anH k->loc (n+j)=anH li->A li k:=fun j k li hj hl=>by
 obtain ⟨li',h1,h2⟩:=h j k hj;rw [hl] at h1;injection h1 with h1;subst h1;exact h2
structure jo (im:Im) (loc:Loc) (aE:cH) (w:World) (r:nU):Prop where
 bG: ∀b o,im b=anH o->w.heap[b]? =anH o
 tok: ∀t,t∈r.rd\/(∃k,(t,k)∈r.wr)-> ∀li,loc t=anH li-> ∃k,aE[t]? =anH k/\BR im loc w li k
 free: ∀t k,(t,k)∈r.wr-> ∀li k',loc t=anH li->aE[t]? =anH k'->k'.bL=anJ->im li.df=anI
 fresh: ∀j,j<anG r.news->loc (anG aE+j)=anI
 iK: ∀t u li lj k k',(t∈r.rd\/ ∃b,(t,b)∈r.wr)->(u∈r.rd\/ ∃b,(u,b)∈r.wr)->loc t=anH li->loc u=anH lj->aE[t]? =anH k->aE[u]? =anH k'->k.bL=anJ->k'.bL=anJ->li.df=lj.df->t=u
section
variable {im : Im} {loc : Loc} {aE : cH} {w : World} {r : nU}
theorem tg.none (hk:jo im loc aE w r) (hn:r.news=[]) (hw:r.wr=[]):tg im loc aE w r im loc w where
 gG:= .refl _
 dS:= .refl _
 bG:=hk.bG
 dX:=fun _ _ h=> .inl h
 os:=rfl
 tape:=rfl
 output:=rfl
 size:=If _
 frame:=fun _ _ _=>rfl
 Rx:=fun t k h=>by rw [hw] at h;cases h
 wr:=fun t k li h=>by rw [hw] at h;cases h
 k9:=fun _ _ h=> .inl h
 news:=fun j k li h=>by rw [hn] at h;simp at h
 distinct:=fun i j ki kj li lj h=>by rw [hn] at h;simp at h
def Loc.set (loc:Loc) (t:Nat) (li:LI):Loc:=fun u=>if u=t then anH li else loc u
theorem Loc.eQ (loc:Loc) (t:Nat) (li:LI):loc.set t li t=anH li:=by simp [Loc.set]
theorem Loc.xI {loc:Loc} {t:Nat} (li:LI) (h:loc t=Option.none):mv loc (loc.set t li):=by
 intro u l hu;unfold Loc.set;split
 · rename_i e;subst e;rw [h] at hu;cases hu
 exact hu
theorem tg.new (hk:jo im loc aE w r) {k:jX} {o:Obj} {w':World} (li:LI) (hn:r.news=[k]) (hw:r.wr=[])
 (hh:w'.heap=w.heap.push o) (ho:w'.os=w.os) (ht:w'.tape=w.tape) (hp:w'.output=w.output) (hl:li.df=w.heap.size)
 (hb:BR im (loc.set (anG aE) li) w' li k):tg im loc aE w r im (loc.set (anG aE) li) w' where
 gG:= .refl _
 dS:=Loc.xI li (by have:=hk.fresh 0 (by simp [hn]);simpa using this)
 bG:=fun b o h=>by
  have h1:=hk.bG b o h;have dI:b<w.heap.size:=by
   rcases adc b w.heap.size with h|h
   · exact h
   simp [aks h] at h1
  rw [hh,amW,rc (by omega)];exact h1
 dX:=fun _ _ h=> .inl h
 os:=ho
 tape:=ht
 output:=hp
 size:=by rw [hh];simp
 frame:=fun b A6 _=>by rw [hh,amW,rc (by omega)]
 Rx:=fun t k h=>by rw [hw] at h;cases h
 wr:=fun t k li h=>by rw [hw] at h;cases h
 k9:=fun t l h=>by
  unfold Loc.set at h;split at h
  · rename_i e;subst e;exact .inr ⟨If _,by simp [hn]⟩
  exact .inl h
 news:=Cu fun j k' h=>by
  rw [hn] at h;cases j with
  |zero=>
   simp at h;subst h;refine ⟨li,Loc.eQ _ _ _,hb,fun _=>⟨?_,.inl (by omega)⟩⟩
   cases hi:im li.df with
   |none=>rfl
   |some o=>have:=hk.bG _ _ hi;rw [hl] at this;simp at this
  |succ j=>simp at h
 distinct:=fun i j ki kj li lj h1 h2 _ _ _ _ _=>by
  rw [hn] at h1 h2;cases i<;>cases j<;>simp at h1 h2<;>rfl
theorem tg.Tx (hk:jo im loc aE w r) {esz:Nat} (hn:r.news=[.arr esz []]) (hw:r.wr=[]):tg im loc aE w r im (loc.set (anG aE) ⟨0,0,esz,0,0⟩) w where
 gG:= .refl _
 dS:=Loc.xI _ (by have:=hk.fresh 0 (by simp [hn]);simpa using this)
 bG:=hk.bG
 dX:=fun _ _ h=> .inl h
 os:=rfl
 tape:=rfl
 output:=rfl
 size:=If _
 frame:=fun _ _ _=>rfl
 Rx:=fun t k h=>by rw [hw] at h;cases h
 wr:=fun t k li h=>by rw [hw] at h;cases h
 k9:=fun t l h=>by
  unfold Loc.set at h;split at h
  · rename_i e;subst e;exact .inr ⟨If _,by simp [hn]⟩
  exact .inl h
 news:=Cu fun j k' h=>by
  rw [hn] at h;cases j with
  |zero=>
   simp at h;subst h;exact ⟨_,Loc.eQ _ _ _,⟨rfl,rfl,fun dW=>absurd rfl dW⟩,fun hs=>by cases hs⟩
  |succ j=>simp at h
 distinct:=fun i j ki kj li lj h1 h2 _ _ _ _ _=>by
  rw [hn] at h1 h2;cases i<;>cases j<;>simp at h1 h2<;>rfl
theorem tg.write (hk:jo im loc aE w r) {t:Nat} {k k0:jX} {o:Obj} {w':World} {li:LI} (hn:r.news=[]) (hw:r.wr=[(t,k)])
 (hl:loc t=anH li) (h0:aE[t]? =anH k0) (hs:k0.bL=anJ)
 (hh:w'.heap=w.heap.setIfInBounds li.df o) (ho:w'.os=w.os) (ht:w'.tape=w.tape) (hp:w'.output=w.output)
 (hb:BR im loc w' li k):tg im loc aE w r im loc w' where
 gG:= .refl _
 dS:= .refl _
 bG:=fun b o' h=>by
  have h1:=hk.bG b o' h;have sx:=hk.free t k (by simp [hw]) li k0 hl h0 hs
  have dW:li.df≠b:=fun e=>by rw [e,h] at sx;cases sx
  rw [hh,af5,rc dW];exact h1
 dX:=fun _ _ h=> .inl h
 os:=ho
 tape:=ht
 output:=hp
 size:=by rw [hh];simp
 frame:=fun b _ h=>by
  have dW:=h t k li k0 (by simp [hw]) hl h0 hs
  rw [hh,af5,rc dW]
 Rx:=fun t' k' hm _=>by
  rw [hw] at hm;simp at hm;exact ⟨k0,by rw [hm.1];exact h0,hs⟩
 wr:=fun t' k' li' h h'=>by
  rw [hw] at h;simp at h;obtain ⟨rfl,rfl⟩:=h;rw [hl] at h';injection h' with h';subst h';exact hb
 k9:=fun _ _ h=> .inl h
 news:=fun j k li h=>by rw [hn] at h;simp at h
 distinct:=fun i j ki kj li lj h=>by rw [hn] at h;simp at h
end
end Go.Vm
/- Operation by operation, second part: addresses, reads, new blocks. -/
namespace Go.Vm
section
variable {P : Program} {im : Im} {loc : Loc} {aE : cH} {w : World}
theorem qV (b o n:Nat):(⟨b,o,anI⟩:Addr).add n=⟨b,o+n,anI⟩:=by
 unfold Addr.add;split
 · rename_i h;subst h;rfl
 rfl
theorem VR.yQ {t e r o:Nat} {v:Value} (h:VR im loc (.ptr t e r o) v):
 ∃li,loc t=anH li/\li.esz=e/\r<li.n/\v= .pointer (anH ⟨li.df,li.sh+r*e+o,anI⟩):=by
 cases h with|ptr _ _ _ _ li h1 h2 h3=>exact ⟨li,h1,h2,h3,rfl⟩
theorem VR.xJ {cs:List PV} {off:Nat} {v:Value} (h:VR im loc (.bH cs off) v):
 ∃b o vs,eV im loc cs vs/\(∀(j:Nat) (v:Value),vs[j]? =anH v->nY im b (o+j)=anH v)/\v= .pointer (anH ⟨b,o+off,anI⟩):=by
 cases h with|bH _ _ b o vs h1 h2=>exact ⟨b,o,vs,h1,h2,rfl⟩
theorem kQ {b o:Nat} {cs:Array Value} {el:TypeId} {fr:Nat×Nat} {v:Value} (h:w.heap[b]? =anH (.cells cs el fr)) (hc:cs[o]? =anH v):
 w.cell? ⟨b,o,anI⟩=anH v:=by simp [World.cell?,h,hc]
theorem qt (hk: ∀b o,im b=anH o->w.heap[b]? =anH o) {b o:Nat} {v:Value} (h:nY im b o=anH v):w.cell? ⟨b,o,anI⟩=anH v:=by
 unfold nY at h;cases hb:im b with
 |none=>rw [hb] at h;cases h
 |some x=>
  rw [hb] at h;cases x<;>first|exact kQ (hk b _ hb) h|cases h
def aV (r:Row):List Value:=r.map fun c=>(jD c).getD Go.undef
theorem th {get:Nat->Option Value} {sh esz:Nat} {rows:List Row} (h:bO get sh esz rows) {i:Nat} {r:Row} (hr:rows[i]? =anH r):
 eV im loc r (aV r)/\ ∀(j:Nat) (v:Value),(aV r)[j]? =anH v->get (sh+i*esz+j)=anH v:=by
 obtain ⟨_,hc⟩:=h i r hr;constructor
 · refine eV.of _ _ (by simp [aV]) fun j x v hx hv=>?_
   obtain ⟨u,hu,_⟩:=hc j x hx;simp [aV,hx,hu] at hv;subst hv;exact VR.EM hu
 intro j v hv
 cases hx:r[j]? with
 |none=>simp [aV,hx] at hv
 |some x=>
  obtain ⟨u,hu,hg⟩:=hc j x hx;simp [aV,hx,hu] at hv;subst hv;exact hg
theorem KO {agg:Option Nat} {t:TypeId} {p:PV} {u:Value} {r:nU} (hp:VR im loc p u) (ha:Bb P t agg=anJ) (h:oY aE agg p=anH r)
 (hk:jo im loc aE w r): ∃v,(Instr.loadAt t u).run P w= .ok v w/\VR im loc r.v v/\r.news=[]/\r.wr=[]:=by
 unfold oY at h;split at h
 · rename_i tk e row off
   obtain ⟨li,hl,he,hn,rfl⟩:=hp.yQ;split at h
   · rename_i e' rows hs
     split at h
     · rename_i cs mZ
       rw [AC] at h;obtain ⟨x,hx,rfl⟩:=h;obtain ⟨k,gS,hb⟩:=hk.tok tk (.inl (by simp)) li hl
       rw [hs] at gS;injection gS with gS;subst gS;have dW:rows≠[]:=by intro e;subst e;simp at mZ
       obtain ⟨h1,h2,h3⟩:=hb;obtain ⟨arr,el,ti,_,_,lB⟩:=h3 dW;obtain ⟨hv,hg⟩:=th (im:=im) (loc:=loc) lB mZ;have NH:e'=e:=by rw [<- h1,he]
       subst NH;obtain ⟨v,cu,oU⟩:=vL (P:=P) (w:=w) (b:=li.df) (o:=li.sh+row*e') ha hv
        (fun j v hj=>kQ ti (hg j v hj)) hx
       exact ⟨v,by simp only [Instr.loadAt,Instr.sureAddr,Do,EQ,ww,cu],oU,rfl,rfl⟩
     cases h
   · rename_i cs hs
     split at h
     · rename_i uW
       have uW:row=0:=by simpa using uW
       subst uW;rw [AC] at h;obtain ⟨x,hx,rfl⟩:=h;obtain ⟨k,gS,hb⟩:=hk.tok tk (.inl (by simp)) li hl
       rw [hs] at gS;injection gS with gS;subst gS;obtain ⟨h1,h2,h3,vs,el,h4,h5,h6⟩:=hb;obtain ⟨v,cu,oU⟩:=vL (P:=P) (w:=w) (b:=li.df) (o:=li.sh+0*e) ha h6
        (fun j v hj=>kQ h4 (by simpa [h3] using hj)) hx
       exact ⟨v,by simp only [Instr.loadAt,Instr.sureAddr,Do,EQ,ww,cu],oU,rfl,rfl⟩
     cases h
   cases h
 · rename_i cs off
   obtain ⟨b,o,vs,h1,h2,rfl⟩:=hp.xJ;rw [AC] at h;obtain ⟨x,hx,rfl⟩:=h;obtain ⟨v,cu,oU⟩:=vL (P:=P) (w:=w) (b:=b) (o:=o) ha h1 (fun j v hj=>qt hk.bG (h2 j v hj)) hx
   exact ⟨v,by simp only [Instr.loadAt,Instr.sureAddr,Do,EQ,ww,cu],oU,rfl,rfl⟩
 cases h
theorem EN {cs:List PV} {vs:List Value} {el:TypeId} {r:nU} (h:eV im loc cs vs) (hr:r={v:= .ptr (anG aE) (anG cs) 0 0,news:=[.box cs]}) (hk:jo im loc aE w r):
 ∃bo,VR im bo r.v (.pointer (anH ⟨w.heap.size,0,anI⟩))/\tg im loc aE w r im bo {w with heap:=w.heap.push (.cells ⟨vs⟩ el)}:=by
 subst hr
 let li:LI:=⟨w.heap.size,0,anG cs,1,anG vs⟩
 refine ⟨loc.set (anG aE) li,?_,?_⟩
 · have:=VR.ptr (im:=im) (loc:=loc.set (anG aE) li) (anG aE) (anG cs) 0 0 li (Loc.eQ _ _ _) rfl (Nat.zero_lt_one)
   simpa [li] using this
 refine tg.new hk li rfl rfl rfl rfl rfl rfl rfl ⟨.inl ⟨rfl,rfl⟩,trivial,rfl,vs,el,?_,rfl,h.mono (.refl _) (Loc.xI li (by have:=hk.fresh 0 (by simp);simpa using this))⟩
 simp [li]
theorem KP {x y:PV} {u v:Value} {el:TypeId} {r:nU} (hx:VR im loc x u) (hy:VR im loc y v) (hr:r={v:= .own (anG aE) 1 0 2 2 anJ,news:=[.box [x,y]]}) (hk:jo im loc aE w r):
 ∃bo,VR im bo r.v (.slice (anH ⟨w.heap.size,0,anI⟩) 2 2)/\tg im loc aE w r im bo {w with heap:=w.heap.push (.cells #[u,v] el)}:=by
 subst hr
 let li:LI:=⟨w.heap.size,0,1,2,2⟩
 refine ⟨loc.set (anG aE) li,?_,?_⟩
 · exact .own (anG aE) 1 0 2 2 anJ li _ 2 (Loc.eQ _ _ _) rfl (If _) (If _) (If _) (fun _=>rfl) (.inr ⟨by simp [li],by simp [li],by simp [li]⟩)
 refine tg.new hk li rfl rfl rfl rfl rfl rfl rfl ⟨.inr ⟨rfl,rfl⟩,trivial,rfl,[u,v],el,?_,rfl,(eV.cons _ _ _ _ hx (.cons _ _ _ _ hy .nil)).mono (.refl _) (Loc.xI li (by have:=hk.fresh 0 (by simp);simpa using this))⟩
 simp [li]
theorem Ty {off:Nat} {t:TypeId} {f:Nat} {fs:Array Field} {g:Field} {i:TypeInfo} {p z:PV} {u:Value} (hp:VR im loc p u)
 (hu:P.underlying t=anH (.struct fs)) (hf:fs[f]? =anH g) (ho:g.offset=off) (hi:P.info? g.type=anH i) (hz:i.size≠0)
 (h:(match (generalizing:=false) p with| .ptr t s r o=>some (PV.ptr t s r (o+off))| .bH c o=>some (PV.bH c (o+off))|_=>none)=some z):
 ∃v,(Instr.fieldAt t u f).run P w= .ok v w/\VR im loc z v:=by
 have qR:(sizeOf g.type).run P w= .ok i.size w:=by simp [sizeOf,typeInfo,hi]
 cases p with
 |ptr tk s r o=>
  injection h with h;subst h;obtain ⟨li,hl,he,hn,rfl⟩:=hp.yQ;refine ⟨_,?_,.ptr tk s r (o+off) li hl he hn⟩;simp [Instr.fieldAt,run_underlying hu,hf,Instr.sureAddr,fieldPlace,qR,hz,qV,ho,afR]
 |bH cs o=>
  injection h with h;subst h;obtain ⟨b,o',vs,h1,h2,rfl⟩:=hp.xJ;refine ⟨_,?_,.bH cs (o+off) b o' vs h1 h2⟩;simp [Instr.fieldAt,run_underlying hu,hf,Instr.sureAddr,fieldPlace,qR,hz,qV,ho,afR]
 |_=>cases h
theorem o7 {x:PV} {n:Nat} {u:Value} (hx:VR im loc x u) (h:jZ x=anH n): ∃k,u= .int k (n:Int):=by
 unfold jZ at h;split at h
 · rename_i k m
   obtain rfl:=hx.gx;split at h
   · rename_i m';injection h with h;subst h;exact ⟨k,rfl⟩
   cases h
 cases h
theorem Ry {n esz j:Nat} {t e:TypeId} {p z:PV} {u:Value} {k:IntKind} (hp:VR im loc p u)
 (hu:P.underlying t=anH (.array n e)) (hs:oT P e esz=anJ) (hj:j<n)
 (h:(match (generalizing:=false) p with| .ptr t s r o=>some (PV.ptr t s r (o+j*esz))| .bH c o=>some (PV.bH c (o+j*esz))|_=>none)=some z):
 ∃v,(Instr.indexAt t u (.int k j)).run P w= .ok v w/\VR im loc z v:=by
 have qR:=kH (P:=P) (w:=w) hs;cases p with
 |ptr tk s r o=>
  injection h with h;subst h;obtain ⟨li,hl,he,hn,rfl⟩:=hp.yQ;refine ⟨_,?_,.ptr tk s r (o+j*esz) li hl he hn⟩;simp [Instr.indexAt,asIntOf,run_underlying hu,Instr.sureAddr,qR,qV,afR];intro h;omega
 |bH cs o=>
  injection h with h;subst h;obtain ⟨b,o',vs,h1,h2,rfl⟩:=hp.xJ;refine ⟨_,?_,.bH cs (o+j*esz) b o' vs h1 h2⟩;simp [Instr.indexAt,asIntOf,run_underlying hu,Instr.sureAddr,qR,qV,afR];intro h;omega
 |_=>cases h
theorem VR.oa {esz:Nat} {qS:Bool} {rows:List Row} {v:Value} (h:VR im loc (.sl esz qS rows) v):
 ∃a cap,v= .slice a (anG rows) cap/\anG rows<=cap/\(qS=anJ->cap=anG rows)/\(rows≠[]-> ∃b o,a=anH ⟨b,o,anI⟩/\bO (nY im b) o esz rows):=by
 cases h with|sl _ _ _ a cap hc hk h=>exact ⟨a,cap,rfl,hc,hk,h⟩
theorem VR.gV {t esz off len cap:Nat} {ex:Bool} {v:Value} (h:VR im loc (.own t esz off len cap ex) v):
 ∃li a cV,v= .slice a len cV/\loc t=anH li/\li.esz=esz/\off+cap<=li.n/\len<=cap/\cap<=cV/\(ex=anJ->cV=cap)/\
  (cV=0\/(li.n≠0/\a=anH ⟨li.df,li.sh+off*esz,anI⟩/\li.sh+(off+cV)*esz<=li.sz)):=by
 cases h with|own _ _ _ _ _ _ li a cV h1 h2 h3 h4 h5 h6 h7=>exact ⟨li,a,cV,rfl,h1,h2,h3,h4,h5,h6,h7⟩
theorem run_indexAt_slice {t e:TypeId} {esz j len cap b o:Nat} {k:IntKind} (hu:P.underlying t=anH (.slice e)) (hs:oT P e esz=anJ) (hj:j<len):
 (Instr.indexAt t (.slice (anH ⟨b,o,anI⟩) len cap) (.int k j)).run P w= .ok (.pointer (anH ⟨b,o+j*esz,anI⟩)) w:=by
 have qR:=kH (P:=P) (w:=w) hs;have dI: ¬(len<=j):=by omega
 simp [Instr.indexAt,asIntOf,run_underlying hu,qR,qV];intro h;exact absurd h dI
theorem Tz {esz n:Nat} {t e:TypeId} {x z:PV} {u:Value} {k:IntKind} (hx:VR im loc x u)
 (hu:P.underlying t=anH (.slice e)) (hs:oT P e esz=anJ)
 (h:(match (generalizing:=false) x with
  | .sl s _ rows=>match rows[n]? with
   |some cs=>if F0s s esz then anH (PV.bH cs 0) else anI
   |none=>anI
  | .own t s off len _ _=>if aga n len&&F0s s esz then anH (PV.ptr t s (off+n) 0) else anI
  |_=>anI)=anH z):
 ∃v,(Instr.indexAt t u (.int k n)).run P w= .ok v w/\VR im loc z v:=by
 cases x with
 |sl s qS rows=>
  dsimp only at h;cases mZ:rows[n]? with
  |none=>rw [mZ] at h;cases h
  |some cs=>
   rw [mZ] at h;dsimp only at h;split at h
   · rename_i W8
     have W8:s=esz:=by simpa using W8
     subst W8;injection h with h;subst h;obtain ⟨a,cap,rfl,_,_,hr⟩:=hx.oa;have dW:rows≠[]:=by intro e;subst e;simp at mZ
     obtain ⟨b,o,rfl,lB⟩:=hr dW;have hn:n<(anG rows):=by
      rcases adc n (anG rows) with h|h
      · exact h
      rw [M2 h] at mZ;cases mZ
     refine ⟨_,run_indexAt_slice hu hs hn,?_⟩;obtain ⟨hv,hg⟩:=th (im:=im) (loc:=loc) lB mZ
     have:=VR.bH (im:=im) (loc:=loc) cs 0 b (o+n*s) (aV cs) hv hg
     simpa using this
   cases h
 |own tk s off len cap ex=>
  dsimp only at h;split at h
  · rename_i hc
    simp only [ut] at hc;have hn:n<len:=by simpa using hc.1
    have W8:s=esz:=by simpa using hc.2
    subst W8;injection h with h;subst h;obtain ⟨li,a,cV,rfl,hl,he,Cv,cT,Ha,_,hd⟩:=hx.gV;rcases hd with hd|⟨dW,rfl,_⟩
    · omega
    refine ⟨_,run_indexAt_slice hu hs hn,?_⟩
    have:=VR.ptr (im:=im) (loc:=loc) tk s (off+n) 0 li hl he (by omega)
    rw [show li.sh+(off+n)*s+0=li.sh+off*s+n*s by rw [PP];omega] at this
    exact this
  cases h
 |_=>cases h
theorem run_sliceBound {x k:Nat} {kd:IntKind} {code:BoundsCode} (h:x<=k):(Instr.sliceBound (.int kd x) k code).run P w= .ok x w:=by
 have:(0:Int)<=(x:Int)/\(x:Int)<=(k:Int):=by omega
 simp [Instr.sliceBound,asIntOf,this]
def Al (v:Option Value) (n:Option Nat):Prop:=
 match v,n with
 |none,anI=>True
 |some v,anH n=> ∃k,v= .int k (n:Int)
 |_,_=>False
theorem mL {len cap:Nat} {lo hi mx:Option Nat} {vl vh vm:Option Value} (h1:Al vl lo) (h2:Al vh hi) (h3:Al vm mx)
 (hm:mx.isSome=anJ->hi.isSome=anJ) (ly:lo.getD 0<=hi.getD len) (hhm:hi.isSome=anJ->hi.getD len<=mx.getD cap) (hmc:mx.getD cap<=cap):
 (Instr.sliceBounds anJ len cap vl vh vm).run P w= .ok (lo.getD 0,hi.getD len,mx.getD cap) w:=by
 cases mx with
 |none=>
  cases vm with
  |some v=>exact h3.elim
  |none=>
   cases hi with
   |none=>
    cases vh with
    |some v=>exact h2.elim
    |none=>
     cases lo with
     |none=>
      cases vl with
      |some v=>exact h1.elim
      |none=>simp [Instr.sliceBounds]
     |some l=>
      cases vl with
      |none=>exact h1.elim
      |some v=>
       obtain ⟨k,rfl⟩:=h1;simp only [af7,agc] at ly;simp [Instr.sliceBounds,run_sliceBound ly]
   |some hh=>
    cases vh with
    |none=>exact h2.elim
    |some v=>
     obtain ⟨k,rfl⟩:=h2;simp only [af7,agc,an0,true_implies] at ly hhm;cases lo with
     |none=>
      cases vl with
      |some v=>exact h1.elim
      |none=>simp [Instr.sliceBounds,run_sliceBound hhm]
     |some l=>
      cases vl with
      |none=>exact h1.elim
      |some v=>
       obtain ⟨k,rfl⟩:=h1;simp only [af7] at ly;simp [Instr.sliceBounds,run_sliceBound hhm,run_sliceBound ly]
 |some m=>
  cases vm with
  |none=>exact h3.elim
  |some v=>
   obtain ⟨k,rfl⟩:=h3;cases hi with
   |none=>simp at hm
   |some hh=>
    cases vh with
    |none=>exact h2.elim
    |some v=>
     obtain ⟨k,rfl⟩:=h2;simp only [af7,an0,true_implies] at ly hhm hmc;cases lo with
     |none=>
      cases vl with
      |some v=>exact h1.elim
      |none=>simp [Instr.sliceBounds,run_sliceBound hhm,run_sliceBound hmc]
     |some l=>
      cases vl with
      |none=>exact h1.elim
      |some v=>
       obtain ⟨k,rfl⟩:=h1;simp only [af7] at ly;simp [Instr.sliceBounds,run_sliceBound hhm,run_sliceBound ly,run_sliceBound hmc]
end
end Go.Vm
/- Operation by operation, third part: stores, aggregates. -/
namespace Go.Vm
def mM {α:Type} (off:Nat) (new old:List α):List α:=old.take off++new++old.drop (off+anG new)
theorem gW {α:Type} (off:Nat) (new old:List α) (h:off+anG new<=anG old) (j:Nat):
 (mM off new old)[j]? =if off<=j/\j<off+(anG new) then new[j-off]? else old[j]?:=by
 unfold mM;have hl:(old.take off).length=off:=by simp;omega
 by_cases h1:j<off
 · rw [rc (by omega),an4,ae9 (by omega),afQ h1]
 by_cases h2:j<off+anG new
 · rw [pp ⟨by omega,h2⟩,an4,acl (by omega),hl,ae9 (by omega)]
 rw [rc (by omega),acl (by simp;omega),agt]
 congr 1
 simp;omega
theorem cW {α:Type} (off:Nat) (new old:List α) (h:off+anG new<=anG old):(mM off new old).length=(anG old):=by
 unfold mM;simp;omega
theorem eV.mM {im:Im} {loc:Loc} {off:Nat} {xs ys:List PV} {vs us:List Value} (h:eV im loc xs vs) (k:eV im loc ys us):
 eV im loc (Vm.mM off xs ys) (Vm.mM off vs us):=by
 unfold Vm.mM;rw [<- h.mY];exact ((k.take off).append h).append (k.drop _)
theorem eV.HD {im:Im} {loc:Loc}: ∀{xs:List PV} {vs:List Value},eV im loc xs vs->(∀c∈xs,c.plain=anJ)->
 ∀(j:Nat) (c:PV),xs[j]? =anH c-> ∃v,jD c=anH v/\vs[j]? =anH v:=by
 intro xs vs h hp j c hc;obtain ⟨v,hv,hr⟩:=h.get j c hc;exact ⟨v,hr.plain (hp c (agd hc)),hv⟩
theorem Rz {i row esz j off n sh:Nat} (dW:i≠row) (hj:j<esz) (hn:off+n<=esz):
 ¬(sh+row*esz+off<=sh+i*esz+j/\sh+i*esz+j<sh+row*esz+off+n):=by
 rcases Nat.lt_or_gt_of_ne dW with h|h
 · have:=UV esz (show i+1<=row from h)
   rw [PP] at this;omega
 have:=UV esz (show row+1<=i from h)
 rw [PP] at this;omega
theorem bO.store {get get':Nat->Option Value} {sh esz row off:Nat} {rows:List Row} {cs ws:List PV} {vs:List Value}
 (h:bO get sh esz rows) (hr:rows[row]? =anH cs) (ly:off+anG ws<=anG cs)
 (hw: ∀(j:Nat) (c:PV),ws[j]? =anH c-> ∃v,jD c=anH v/\vs[j]? =anH v) (hl:(anG vs)=anG ws)
 (hg: ∀k,get' k=if sh+row*esz+off<=k/\k<sh+row*esz+off+(anG vs) then vs[k- (sh+row*esz+off)]? else get k):
 bO get' sh esz (rows.set row (mM off ws cs)):=by
 intro i r hi;rw [List.getElem?_set] at hi;have uW:row<(anG rows):=by
  rcases adc row (anG rows) with h|h
  · exact h
  rw [M2 h] at hr;cases hr
 obtain ⟨A7,NI⟩:=h row cs hr;split at hi
 · rename_i e
   subst e;injection hi with hi;subst hi;refine ⟨by rw [cW _ _ _ ly];exact A7,fun j c hc=>?_⟩
   rw [gW _ _ _ ly] at hc;rw [hg];split at hc
   · rename_i hj
     obtain ⟨v,hv,NJ⟩:=hw _ _ hc;refine ⟨v,hv,?_⟩;rw [pp ⟨by omega,by omega⟩,<- NJ]
     congr 1
     omega
   rename_i hj
   obtain ⟨v,hv,NJ⟩:=NI j c hc;refine ⟨v,hv,?_⟩;rw [rc (by omega)]
   exact NJ
 rename_i dW
 obtain ⟨KQ,hrc⟩:=h i r hi;refine ⟨KQ,fun j c hc=>?_⟩
 obtain ⟨v,hv,NJ⟩:=hrc j c hc;refine ⟨v,hv,?_⟩;have hj:j<esz:=by
  rcases adc j (anG r) with h|h
  · omega
  rw [M2 h] at hc;cases hc
 rw [hg,rc (Rz (fun e=>dW e.symm) hj (by omega))]
 exact NJ
section
variable {P : Program} {im : Im} {loc : Loc} {aE : cH} {fz : List Nat} {w : World}
theorem bV {g:Nat} {cur cs:Array Value} {t:TypeId} (hg:w.heap[g]? =anH (.cells cur t (0,0))):
 (w.setRow g cs).heap=w.heap.setIfInBounds g (.cells cs t (0,0)):=by
 have dI:g<w.heap.size:=(IR.1 hg).1;have hv:w.heap[g]= .cells cur t (0,0):=(IR.1 hg).2;unfold World.setRow;apply Array.ext
 · simp
 intro k h1 h2
 rw [Array.getElem_setIfInBounds];simp only [Array.getElem_modify];split
 · rename_i hk;subst hk;simp [hv]
 rfl
theorem KR {v:Value} (h:(∀us,v≠ .agg us)/\ ∀us,v≠ .tuple us):v.oneCell'=anJ:=by
 cases v<;>first|rfl|exact absurd rfl (h.1 _)|exact absurd rfl (h.2 _)
theorem eV.one: ∀{xs:List PV} {vs:List Value},eV im loc xs vs->(∀c∈xs,c.qj=anJ)-> ∀v∈vs,v.oneCell'=anJ
 |_,_,.nil,_,_,hv=>by cases hv
 |_,_,.cons x u xs vs h hs,ho,v,hv=>by
  cases hv with
  |head=>exact KR (h.IW (ho x (by simp)))
  |tail _ hm=>exact eV.one hs (fun c hc=>ho c (by simp [hc])) v hm
theorem xK {c:PV} (h:c.plain=anJ):c.qj=anJ:=by cases c<;>first|rfl|cases h
theorem Am {v:PV} {ws:List PV} (h:v.stored=anH ws):ws=v.cells/\ ∀c∈v.cells,c.qj=anJ:=by
 unfold PV.stored at h;split at h
 · rename_i ha;injection h with h;exact ⟨h.symm,by simpa using ha⟩
 cases h
theorem mN {v:PV} {ws:List PV} (h:v.cI=anH ws):ws=v.cells/\ ∀c∈v.cells,c.plain=anJ:=by
 unfold PV.cI at h;split at h
 · rename_i ha;injection h with h;exact ⟨h.symm,by simpa using ha⟩
 cases h
theorem Dn {t el:TypeId} {sz b o:Nat} {x:Value} {cur:Array Value} (hs:oT P t sz=anJ) (hb:w.heap[b]? =anH (.cells cur el (0,0)))
 (hx:x.cells.size=sz) (ly:o+sz<=cur.size) (h1: ∀v∈x.cells.toList,v.oneCell'=anJ):
 (Instr.storeAt t (.pointer (anH ⟨b,o,anI⟩)) x).run P w= .ok () (w.setRow b (mM o x.cells.toList cur.toList).toArray):=by
 have:=run_storeCells_at P b o el x.cells.toList 0 cur w hb (by simp;omega) h1
 simp only [Instr.storeAt,Instr.sureAddr,Do,EQ,ww,storeVar,kH hs,hx,ne_eq,not_true_eq_false,if_false];simpa [mM] using this
theorem RA {t:TypeId} {sz:Nat} {p v:PV} {u x:Value} {r:nU} (hp:VR im loc p u) (hv:VR im loc v x) (hs:oT P t sz=anJ)
 (h:sm aE fz sz v p=anH r) (hk:jo im loc aE w r):
 ∃w',(Instr.storeAt t u x).run P w= .ok () w'/\tg im loc aE w r im loc w'/\r.v= .undef:=by
 unfold sm at h;cases p with
 |ptr tk e row off=>
  dsimp only at h;obtain ⟨li,hl,he,hn,rfl⟩:=hp.yQ;cases qu:aE[tk]? with
  |none=>rw [qu] at h;cases h
  |some df=>
   rw [qu] at h;cases df with
   |arr e' rows=>
    dsimp only at h;cases mZ:rows[row]? with
    |none=>rw [mZ] at h;cases h
    |some cs=>
     cases hw:v.cI with
     |none=>rw [mZ,hw] at h;cases h
     |some ws=>
      rw [mZ,hw] at h;dsimp only at h;split at h
      · rename_i hc
        simp only [ut,afg,afK] at hc;obtain ⟨⟨cT,ly⟩,Tj⟩:=hc;obtain ⟨rfl,NK⟩:=mN hw;injection h with h;subst h;obtain ⟨k,gS,hb⟩:=hk.tok tk (.inr ⟨_,af6.2 rfl⟩) li hl;rw [qu] at gS;injection gS with gS;subst gS;have dW:rows≠[]:=by intro e;subst e;simp at mZ
        obtain ⟨h1,h2,h3⟩:=hb;obtain ⟨arr,el,ti,IY,Kx,lB⟩:=h3 dW;have NH:e'=e:=by rw [<- h1,he]
        subst NH;have A7:(anG cs)=e':=(lB row cs mZ).1;have PJ:=hv.cells (fun c hc=>xK (NK c hc))
        have RC:x.cells.size=sz:=by have:=PJ.mY;simp only [afo] at this;omega
        have KQ:row<(anG rows):=by
         rcases adc row (anG rows) with h|h
         · exact h
         rw [M2 h] at mZ;cases mZ
        have Hb:=UV e' (show row+1<=(anG rows) from KQ);rw [PP] at Hb;have qW:li.sh+row*e'+off+sz<=arr.size:=by omega
        have cu:=Dn (P:=P) (w:=w) (t:=t) (b:=li.df) (o:=li.sh+row*e'+off) hs ti RC qW (PJ.one (fun c hc=>xK (NK c hc)))
        refine ⟨_,cu,?_,rfl⟩;refine tg.write hk (t:=tk) (k0:= .arr e' rows) (li:=li) rfl rfl hl qu (by cases rows with|nil=>exact absurd rfl dW|cons _ _=>rfl) (bV ti) rfl rfl rfl ?_
        refine ⟨h1,by simpa using h2,fun _=>⟨(mM (li.sh+row*e'+off) x.cells.toList arr.toList).toArray,el,?_,?_,by simpa using Kx,?_⟩⟩
        · rw [bV ti]
          have dI:=(IR.1 ti).1;simp [dI]
        · rw [<- IY]
          simp only [afI];rw [cW _ _ _ (by simp;omega)];simp
        refine lB.store mZ (by omega) (PJ.HD NK) PJ.mY.symm (fun k=>?_)
        simp only [afh];rw [gW _ _ _ (by simp;omega)]
        simp
      cases h
   |box cs=>
    dsimp only at h;cases hw:v.stored with
    |none=>rw [hw] at h;cases h
    |some ws=>
     rw [hw] at h;dsimp only at h;split at h
     · rename_i hc
       simp only [ut,afg,afK] at hc;obtain ⟨⟨⟨uW,cT⟩,ly⟩,Tj⟩:=hc;subst uW;obtain ⟨rfl,Be⟩:=Am hw;injection h with h;subst h;obtain ⟨k,gS,hb⟩:=hk.tok tk (.inr ⟨_,af6.2 rfl⟩) li hl;rw [qu] at gS;injection gS with gS;subst gS;obtain ⟨h1,h2,h3,vs,el,h4,h5,h6⟩:=hb;have PJ:=hv.cells Be
       have RC:x.cells.size=sz:=by have:=PJ.mY;simp only [afo] at this;omega
       have hcv:=h6.mY;have cu:=Dn (P:=P) (w:=w) (t:=t) (b:=li.df) (o:=li.sh+0*e+off) hs h4 RC (by simp [h3];omega) (PJ.one Be)
       refine ⟨_,cu,?_,rfl⟩;refine tg.write hk (t:=tk) (k0:= .box cs) (li:=li) rfl rfl hl qu rfl (bV h4) rfl rfl rfl ?_;refine ⟨by rw [show (nT off v.cells cs).length=(anG cs) by have:=cW off v.cells cs (by omega);unfold mM at this;simpa [nT] using this];exact h1,h2,h3,mM off x.cells.toList vs,el,?_,?_,?_⟩
       · rw [bV h4]
         have dI:=(IR.1 h4).1;simp [dI,h3]
       · rw [cW _ _ _ (by simp;omega)];exact h5
       exact eV.mM PJ h6
     cases h
   |_=>cases h
 |_=>cases h
end
end Go.Vm
/- Operation by operation, fourth part: aggregates, rows, slices. -/
namespace Go.Vm
theorem bO.tail {get:Nat->Option Value} {sh esz:Nat} {r:Row} {rs:List Row} (h:bO get sh esz (r::rs)):bO get (sh+esz) esz rs:=by
 intro i x hx;obtain ⟨h1,h2⟩:=h (i+1) x (by simpa using hx)
 refine ⟨h1,fun j c hc=>?_⟩
 obtain ⟨v,hv,hg⟩:=h2 j c hc;refine ⟨v,hv,?_⟩;rw [<- hg];congr 1;rw [PP];omega
theorem bO.drop {get:Nat->Option Value} {sh esz:Nat} {rows:List Row} (h:bO get sh esz rows) (n:Nat):bO get (sh+n*esz) esz (rows.drop n):=by
 intro i x hx;rw [agt] at hx;obtain ⟨h1,h2⟩:=h (n+i) x hx;refine ⟨h1,fun j c hc=>?_⟩
 obtain ⟨v,hv,hg⟩:=h2 j c hc;refine ⟨v,hv,?_⟩;rw [<- hg];congr 1;rw [PP];omega
theorem bO.take {get:Nat->Option Value} {sh esz:Nat} {rows:List Row} (h:bO get sh esz rows) (n:Nat):bO get sh esz (rows.take n):=by
 intro i x hx;have hi:i<n:=by
  rcases adc i n with h|h
  · exact h
  rw [M2 (by simp;omega)] at hx;cases hx
 rw [afQ hi] at hx;exact h i x hx
theorem bO.append {get:Nat->Option Value} {sh esz:Nat} {xs ys:List Row} (h:bO get sh esz xs) (k:bO get (sh+anG xs*esz) esz ys):bO get sh esz (xs++ys):=by
 intro i r hr;rcases adc i (anG xs) with hi|hi
 · rw [ae9 hi] at hr;exact h i r hr
 rw [acl hi] at hr
 obtain ⟨h1,h2⟩:=k _ r hr;refine ⟨h1,fun j c hc=>?_⟩
 obtain ⟨v,hv,hg⟩:=h2 j c hc;refine ⟨v,hv,?_⟩;rw [<- hg];congr 1
 have:i*esz=anG xs*esz+(i-(anG xs))*esz:=by rw [<- PP];congr 1;omega
 omega
theorem bO.ob {get:Nat->Option Value} {sh esz:Nat} {rows:List Row} (h:bO get sh esz rows): ∀r∈rows,anG r=esz:=by
 intro r hr;obtain ⟨i,hi,rfl⟩:=agj.1 hr;exact (h i _ (NE hi)).1
theorem lC (r:Row):(aV r).length=(anG r):=by simp [aV]
theorem dF {esz:Nat}: ∀{rows:List Row},(∀r∈rows,anG r=esz)->(rows.flatMap aV).length=anG rows*esz
 | [],_=>by simp
 |r::rs,h=>by
  have ih:=dF (esz:=esz) (rows:=rs) (fun x hx=>h x (by simp [hx]))
  simp only [afj,afF,ih,lC,h r (by simp),afE,PP]
  omega
theorem bO.flat {get:Nat->Option Value} {esz:Nat}: ∀{rows:List Row} {sh:Nat},bO get sh esz rows-> ∀(j:Nat) (v:Value),(rows.flatMap aV)[j]? =anH v->get (sh+j)=anH v
 | [],_,_,j,v,h=>by simp at h
 |r::rs,sh,hr,j,v,h=>by
  rw [afj] at h;have hl:(aV r).length=esz:=by rw [lC];exact hr.ob r (by simp)
  rcases adc j esz with hj|hj
  · rw [ae9 (by omega)] at h
    have:=(th (im:=fun _=>anI) (loc:=fun _=>anI) hr (i:=0) rfl).2 j v h
    simpa using this
  rw [acl (by omega),hl] at h
  have:=bO.flat hr.tail (j-esz) v h
  rw [show sh+esz+(j-esz)=sh+j by omega] at this
  exact this
theorem bO.Ao {esz:Nat}: ∀{rows:List Row} {get:Nat->Option Value} {sh:Nat},(∀r∈rows,anG r=esz)->(∀r∈rows,∀c∈r,c.plain=anJ)->
 (∀(j:Nat) (v:Value),(rows.flatMap aV)[j]? =anH v->get (sh+j)=anH v)->bO get sh esz rows
 | [],_,_,_,_,_=>by intro i r h;simp at h
 |r::rs,get,sh,hl,hp,hg=>by
  have KQ:(aV r).length=esz:=by rw [lC];exact hl r (by simp)
  have h1:bO get sh esz [r]:=by
   intro i x hx;cases i with
   |succ i=>simp at hx
   |zero=>
    simp at hx;subst hx;refine ⟨hl r (by simp),fun j c hc=>?_⟩
    have hcp:=hp r (by simp) c (agd hc)
    obtain ⟨v,hv⟩: ∃v,jD c=anH v:=by cases c<;>first|exact ⟨_,rfl⟩|cases hcp
    refine ⟨v,hv,?_⟩;have hj:j<esz:=by
     rcases adc j (anG r) with h|h
     · have:=hl r (by simp);omega
     rw [M2 h] at hc;cases hc
    have:=hg j v (by
     rw [afj,ae9 (by omega)]
     simp [aV,hc,hv])
    simpa using this
  have h2:bO get (sh+esz) esz rs:=bO.Ao (fun x hx=>hl x (by simp [hx])) (fun x hx=>hp x (by simp [hx])) (fun j v hj=>by
   have:=hg (esz+j) v (by
    rw [afj,acl (by omega),KQ,show esz+j-esz=j by omega];exact hj)
   rwa [<- afR] at this)
  have:=h1.append (ys:=rs) (by simpa using h2)
  simpa using this
theorem bO.plain {get:Nat->Option Value} {sh esz:Nat} {rows:List Row} (h:bO get sh esz rows): ∀r∈rows,∀c∈r,c.plain=anJ:=by
 intro r hr c hc;obtain ⟨i,hi,rfl⟩:=agj.1 hr;obtain ⟨j,hj,rfl⟩:=agj.1 hc;obtain ⟨v,hv,_⟩:=(h i _ (NE hi)).2 j _ (NE hj);cases hh:rows[i][j]<;>rw [hh] at hv<;>first|rfl|cases hv
theorem oc {rows:List Row} (hp: ∀r∈rows,∀c∈r,c.plain=anJ): ∀u∈rows.flatMap aV,u.oneCell'=anJ:=by
 intro u hu;obtain ⟨r,hr,hu⟩:=List.mem_flatMap.1 hu;obtain ⟨c,hc,rfl⟩:=List.mem_map.1 hu
 have:=hp r hr c hc
 cases c<;>first|rfl|cases this
section
variable {P : Program} {im : Im} {loc : Loc} {aE : cH} {fz : List Nat} {w : World}
theorem Cw {esz:Nat} {y:PV} {u:Value} {new:List Row} {tx e':TypeId} (hy:VR im loc y u) (hr:rowsOf aE esz y=anH new) (hx:P.underlying tx=anH (.slice e'))
 (bG: ∀b o,im b=anH o->w.heap[b]? =anH o) (tok: ∀t,t∈iO y-> ∀li,loc t=anH li-> ∃k,aE[t]? =anH k/\BR im loc w li k):
 Src P esz tx u (anG new) (new.flatMap aV) w/\(∀r∈new,anG r=esz)/\(∀r∈new,∀c∈r,c.plain=anJ):=by
 unfold rowsOf at hr;cases y with
 |sl e qS rows=>
  obtain ⟨a,cap,rfl,_,_,lB⟩:=hy.oa;cases rows with
  |nil=>
   simp at hr;subst hr;refine ⟨?_,by simp,by simp⟩
   cases a with
   |none=>exact Src.ofNil w hx cap
   |some a=>exact Src.ofSlice w hx a 0 cap [] (by simp) (by simp) (by simp)
  |cons r rs=>
   dsimp only at hr;split at hr
   · rename_i he
     have he:e=esz:=by simpa using he
     subst he;injection hr with hr;subst hr;obtain ⟨b,o,rfl,db⟩:=lB (by simp)
     refine ⟨Src.ofSlice w hx ⟨b,o,anI⟩ _ cap _ (dF db.ob) (fun j v hj=>?_) (oc db.plain),db.ob,db.plain⟩
     rw [qV];exact qt bG (db.flat j v hj)
   cases hr
 |own t e off len cap ex=>
  dsimp only at hr;split at hr
  · rename_i he
    have he:e=esz:=by simpa using he
    subst he;obtain ⟨li,a,cV,rfl,hl,h2,h3,h4,h5,h6,h7⟩:=hy.gV;obtain ⟨k,gS,hb⟩:=tok t (by simp [iO]) li hl
    rw [gS] at hr;cases k with
    |arr e' rows=>
     simp only [v6] at hr;subst hr;obtain ⟨b1,b2,b3⟩:=hb;have cT:((rows.drop off).take len).length=len:=by simp;omega
     have NH:e'=e:=by rw [<- b1,h2]
     subst NH;cases rows with
     |nil=>
      have:len=0:=by simp at b2;omega
      subst this;refine ⟨?_,by simp,by simp⟩
      simp;cases a with
      |none=>exact Src.ofNil w hx cV
      |some a=>exact Src.ofSlice w hx a 0 cV [] (by simp) (by simp) (by simp)
     |cons r rs=>
      obtain ⟨arr,el,ti,IY,Kx,db⟩:=b3 (by simp)
      have vM:=(db.drop off).take len;rcases h7 with h7|⟨h7,rfl,h9⟩
      · have:len=0:=by omega
        subst this;refine ⟨?_,by simp,by simp⟩
        simp;cases a with
        |none=>exact Src.ofNil w hx cV
        |some a=>exact Src.ofSlice w hx a 0 cV [] (by simp) (by simp) (by simp)
      rw [cT]
      refine ⟨Src.ofSlice w hx ⟨li.df,li.sh+off*e',anI⟩ len cV _ (by rw [dF vM.ob,cT]) (fun j v hj=>?_) (oc vM.plain),vM.ob,vM.plain⟩
      rw [qV];exact kQ ti (vM.flat j v hj)
    |_=>cases hr
  cases hr
 |_=>cases hr
end
end Go.Vm
/- Operation by operation, fifth part: append. -/
namespace Go.Vm
theorem xL: ∀(new:List Row) (i:Nat) (rows:List Row),i+anG new<=anG rows->la i new rows=mM i new rows
 | [],i,rows,h=>by simp [la,mM]
 |r::rs,i,rows,h=>by
  simp only [afE] at h;rw [la,xL rs (i+1) (rows.set i r) (by simp;omega)]
  apply agG;intro j;rw [gW _ _ _ (by simp;omega),gW _ _ _ (by simp;omega)]
  simp only [afE]
  by_cases h1:i+1<=j/\j<i+1+anG rs
  · rw [pp h1,pp ⟨by omega,by omega⟩]
    obtain ⟨k,hk⟩: ∃k,j-i=k+1:=⟨j-i-1,by omega⟩
    rw [hk,show j- (i+1)=k by omega];simp
  rw [rc h1]
  by_cases h2:j=i
  · subst h2
    rw [pp ⟨If _,by omega⟩,akt (by omega)]
    simp
  rw [rc (by omega),amo (by omega)]
theorem bO.mM {get get':Nat->Option Value} {sh esz i:Nat} {new rows:List Row} (h:bO get sh esz rows) (ly:i+anG new<=anG rows)
 (hl: ∀r∈new,anG r=esz) (hp: ∀r∈new,∀c∈r,c.plain=anJ)
 (hg: ∀k,get' k=if sh+i*esz<=k/\k<sh+i*esz+anG new*esz then (new.flatMap aV)[k- (sh+i*esz)]? else get k):
 bO get' sh esz (mM i new rows):=by
 have TA:=dF hl;have old: ∀k r,rows[k]? =anH r->(k<i\/i+anG new<=k)->anG r=esz/\ ∀(j:Nat) (c:PV),r[j]? =anH c-> ∃v,jD c=anH v/\get' (sh+k*esz+j)=anH v:=by
  intro k r hk W9;obtain ⟨h1,h2⟩:=h k r hk;refine ⟨h1,fun j c hc=>?_⟩
  obtain ⟨v,hv,NJ⟩:=h2 j c hc;refine ⟨v,hv,?_⟩;have hj:j<esz:=by
   rcases adc j (anG r) with h|h
   · omega
   rw [M2 h] at hc;cases hc
  rw [hg,rc]
  · exact NJ
  rcases W9 with W9|W9
  · have:=UV esz (show k+1<=i from W9)
    rw [PP] at this;omega
  have:=UV esz W9
  rw [PP] at this;omega
 have Bf:bO get' (sh+i*esz) esz new:=bO.Ao hl hp fun j v hj=>by
  have NL:j<anG new*esz:=by
   rcases adc j (anG new*esz) with h|h
   · exact h
   rw [M2 (by omega)] at hj;cases hj
  rw [hg,pp ⟨by omega,by omega⟩,<- hj];congr 1;omega
 intro k r hk;rw [gW _ _ _ ly] at hk;split at hk
 · rename_i hc
   obtain ⟨h1,h2⟩:=Bf _ r hk;refine ⟨h1,fun j c Cx=>?_⟩
   obtain ⟨v,hv,NJ⟩:=h2 j c Cx;refine ⟨v,hv,?_⟩;rw [<- NJ];congr 1
   have:k*esz=i*esz+(k-i)*esz:=by rw [<- PP];congr 1;omega
   omega
 rename_i hc
 exact old k r hk (by omega)
theorem grownCap_ge (w:World) (NM old:Nat) (e:TypeId):NM<=grownCap w NM old e:=by
 unfold grownCap;simp [Question.cut]
theorem TB {NM old bytes:Nat} (h:old<NM) (hn:NM<=1048576) (hb:bytes<=1048576):Builtin.nextslicecap NM old*bytes<=281474976710656:=by
 have h1:=nextslicecap_le h;have h2:Builtin.nextslicecap NM old<=2097152:=by omega
 have:=anv h2 hb
 omega
theorem xM (z:Array Value) (n:Nat):(Builtin.zeroCells z n).size=n*z.size:=by simp [Builtin.zeroCells]
section
variable {P : Program} {im : Im} {loc : Loc} {aE : cH} {fz : List Nat} {w : World}
theorem ju (t tx ty e:TypeId) (i:TypeInfo) (ht:P.underlying t=anH (.slice e)) (hi:P.info? e=anH i) (b off ui sCap:Nat) (x:Value) (n:Nat) (news:List Value) (hs:Src P i.size tx x n news w)
 (tj:ui+n<=sCap) {cur:Array Value} {el:TypeId} (hb:w.heap[b]? =anH (.cells cur el (0,0))) (ly:off+ui*i.size+anG news<=cur.size):
 (Builtin.append_ #[t,tx] ty #[.slice (anH ⟨b,off,anI⟩) ui sCap,x]).run P w=
  .ok (.slice (anH ⟨b,off,anI⟩) (ui+n) sCap) (w.setRow b (mM (off+ui*i.size) news cur.toList).toArray):=by
 have ck:=run_storeCells_at P b (off+ui*i.size) el news 0 cur w hb (by simpa using ly) hs.one
 simp only [anD] at ck;rcases hs.kind with ⟨e',hk⟩|hk<;>simp [Builtin.append_,run_underlying ht,run_underlying hk,sizeOf,typeInfo,hi,hs.len,tj,hs.cells,Addr.add_lit,ck,mM]
theorem Cy {esz:Nat} {olds new:List Row} {rest:Array Value} {el:TypeId} {r:nU} {w':World} {nc:Nat} (hr:r.v= .own (anG aE) esz 0 (anG olds+anG new) (anG olds+anG new) anK)
 (hn:r.news=[.arr esz (olds++new)]) (hk:jo im loc aE w r) (dW:new≠[])
 (hh:w'.heap=w.heap.push (.cells (((olds.flatMap aV)++(new.flatMap aV)).toArray++rest) el))
 (HE: ∀r∈olds,anG r=esz) (hp1: ∀r∈olds,∀c∈r,c.plain=anJ) (KS: ∀r∈new,anG r=esz) (hp2: ∀r∈new,∀c∈r,c.plain=anJ)
 (hnc:(anG olds)+anG new<=nc) (Xa:rest.size=(nc- (anG olds+anG new))*esz):
 ∃li:LI,li.df=w.heap.size/\VR im (loc.set (anG aE) li) r.v (.slice (anH ⟨w.heap.size,0,anI⟩) (anG olds+anG new) nc)/\
  BR im (loc.set (anG aE) li) w' li (.arr esz (olds++new))/\mv loc (loc.set (anG aE) li):=by
 have asD:=dF HE;have asE:=dF KS;have qR:(((olds.flatMap aV)++(new.flatMap aV)).toArray++rest).size=nc*esz:=by
  simp only [Array.size_append,afI,afF,asD,asE,Xa];rw [<- PP,<- PP];congr 1;omega
 let li:LI:=⟨w.heap.size,0,esz,(olds++new).length,nc*esz⟩
 refine ⟨li,rfl,?_,⟨rfl,rfl,fun _=>⟨_,el,by rw [hh];simp [li],qR,?_,?_⟩⟩,Loc.xI li (by have:=hk.fresh 0 (by simp [hn]);simpa using this)⟩
 · rw [hr]
   have:=VR.own (im:=im) (loc:=loc.set (anG aE) li) (anG aE) esz 0 (anG olds+anG new) (anG olds+anG new) anK li (anH ⟨w.heap.size,0,anI⟩) nc
    (Loc.eQ _ _ _) rfl (by simp [li]) (If _) hnc (by simp)
    (.inr ⟨by simp [li];intro _;exact dW,by simp [li],by simp [li]⟩)
   exact this
 · simp only [li]
   have:=UV esz hnc
   simp only [afF];omega
 refine bO.Ao (fun r hr=>?_) (fun r hr=>?_) (fun j v hj=>?_)
 · rcases afi.1 hr with h|h
   · exact HE r h
   exact KS r h
 · rcases afi.1 hr with h|h
   · exact hp1 r h
   exact hp2 r h
 rw [amY] at hj
 simp only [li,aku];rw [Array.getElem?_append_left (by
  have:=(afb.1 hj).1
  simpa using this)]
 simpa using hj
end
end Go.Vm
/- Operation by operation, sixth part: append, whole. -/
namespace Go.Vm
section
variable {P : Program} {im : Im} {loc : Loc} {aE : cH} {fz : List Nat} {w : World}
theorem EO {t tx ty e:TypeId} {i:TypeInfo} {z:Value} {esz:Nat} (ht:P.underlying t=anH (.slice e)) (hi:P.info? e=anH i) (hz:i.zero=anH z) (KT:z.cells.size=esz)
 (NN:i.bytes<=1048576) {od:Option Addr} {ui sCap:Nat} {olds:List Row} {new:List Row} {x:Value}
 (uj:(Builtin.firstCells i.size ui (.slice od ui sCap)).run P w.drew= .ok (olds.flatMap aV).toArray w.drew)
 (hs:Src P i.size tx x (anG new) (new.flatMap aV) w) (hg:sCap<ui+anG new) (hm:ui+anG new<=1048576):
 ∃(nc:Nat) (rest:Array Value),ui+anG new<=nc/\rest.size=(nc- (ui+anG new))*esz/\
  (Builtin.append_ #[t,tx] ty #[.slice od ui sCap,x]).run P w= .ok (.slice (anH ⟨w.heap.size,0,anI⟩) (ui+anG new) nc)
   (w.drew.alloc (.cells (((olds.flatMap aV)++(new.flatMap aV)).toArray++rest) e)):=by
 refine ⟨_,_,grownCap_ge w (ui+anG new) sCap e,by rw [xM,KT],
  run_append_grow_src w t tx ty e i z ht hi hz od ui sCap _ uj x _ _ hs hg (by omega) (TB hg hm NN)⟩
theorem EP {t tx ty e e' : TypeId} {i : TypeInfo} {z : Value} {esz : Nat} (ht : P.underlying t = anH (.slice e)) (htx : P.underlying tx = anH (.slice e')) (hi : P.info? e = anH i) (qR : i.size = esz)
    (hz : i.zero = anH z) (KT : z.cells.size = esz) (NN : i.bytes <= 1048576)
    {x y : PV} {u v : Value} {r : nU} (hx : VR im loc x u) (hy : VR im loc y v) (h : iP aE fz esz x y = anH r) (hk : jo im loc aE w r) :
    ∃ v' w' bo, (Builtin.append_ #[t, tx] ty #[u, v]).run P w = .ok v' w' /\ VR im bo r.v v' /\ tg im loc aE w r im bo w' := by
  unfold iP at h
  cases A8 : rowsOf aE esz y with
  | none => rw [A8] at h; cases h
  | some new =>
    rw [A8] at h
    dsimp only at h
    cases new with
    | nil =>
      dsimp only at h
      have key : ∀ (a : Option Addr) (n cap : Nat), u = .slice a n cap -> n <= cap -> anH ({ v := x, rd := iO y } : nU) = anH r ->
          ∃ v' w' bo, (Builtin.append_ #[t, tx] ty #[u, v]).run P w = .ok v' w' /\ VR im bo r.v v' /\ tg im loc aE w r im bo w' := by
        intro a n cap hu ly hr
        injection hr with hr; subst hr
        obtain ⟨hs, _, _⟩ := Cw (P := P) (w := w) hy A8 htx hk.bG (fun t ht => hk.tok t (.inl ht))
        simp only [agO, am6] at hs
        subst hu
        rw [<- qR] at hs
        exact ⟨_, _, loc, run_append_nothing w t tx ty e i ht hi a n cap ly _ hs, hx, tg.none hk rfl rfl⟩
      have fresh : ∀ (a : Option Addr) (rd : List Nat), u = .slice a 0 0 -> (∀ t ∈ iO y, t ∈ rd) -> anH ({ v := .own (anG aE) esz 0 0 0 anK, news := [.arr esz []], rd := rd } : nU) = anH r ->
          ∃ v' w' bo, (Builtin.append_ #[t, tx] ty #[u, v]).run P w = .ok v' w' /\ VR im bo r.v v' /\ tg im loc aE w r im bo w' := by
        intro a rd hu Hc hr
        injection hr with hr; subst hr
        obtain ⟨hs, _, _⟩ := Cw (P := P) (w := w) hy A8 htx hk.bG (fun t ht => hk.tok t (.inl (Hc t ht)))
        simp only [agO, am6] at hs
        subst hu
        rw [<- qR] at hs
        exact ⟨_, _, _, run_append_nothing w t tx ty e i ht hi a 0 0 (If _) _ hs, .own _ esz 0 0 0 anK ⟨0, 0, esz, 0, 0⟩ a 0 (Loc.eQ _ _ _) rfl (If _) (If _) (If _) (by simp) (.inl rfl), tg.Tx hk rfl rfl⟩
      cases x with
      | sl e qS rows =>
        obtain ⟨a, cap, hu, ly, A7, _⟩ := hx.oa
        dsimp only at h
        split at h
        · rename_i hc
          simp only [ut, an9] at hc
          obtain ⟨hc, rfl⟩ := hc
          have := A7 hc
          simp at this
          subst this
          exact fresh a _ (by simpa using hu) (fun _ h => h) h
        exact key a _ cap hu ly h
      | own tk e off len cap ex =>
        obtain ⟨li, a, cV, hu, h1, h2, h3, h4, h5, h6, _⟩ := hx.gV
        dsimp only at h
        split at h
        · rename_i hc
          simp only [ut, afg] at hc
          obtain ⟨⟨rfl, rfl⟩, hc⟩ := hc
          have := h6 hc
          subst this
          exact fresh a _ hu (fun _ h => agr _ h) h
        exact key a _ cV hu (by omega) h
      | _ => cases h
    | cons n0 ns =>
      dsimp only at h
      generalize Bf : n0 :: ns = new at h A8
      have dW : new ≠ [] := by rw [<- Bf]; simp
      have Hd : 0 < (anG new) := by rw [<- Bf]; simp
      cases x with
      | sl e1 qS rows =>
        dsimp only at h
        split at h
        · rename_i hc
          simp only [ut, am8, afg, afK] at hc
          obtain ⟨⟨an3, D0⟩, ij⟩ := hc
          injection h with h
          obtain ⟨a, cap, rfl, Ha, WQ, lB⟩ := hx.oa
          have asF := WQ an3
          have uX : jo im loc aE w { v := .own (anG aE) esz 0 ((anG rows) + (anG new)) ((anG rows) + (anG new)) anK, news := [.arr esz (rows ++ new)], rd := iO y } := by rw [h]; exact hk
          obtain ⟨hs, He, Tk⟩ := Cw (P := P) (w := w) hy A8 htx uX.bG (fun t ht => uX.tok t (.inl ht))
          rw [<- qR] at hs
          have uj : (Builtin.firstCells i.size (anG rows) (.slice a (anG rows) cap)).run P w.drew = .ok (rows.flatMap aV).toArray w.drew /\ (∀ r ∈ rows, (anG r) = esz) /\ (∀ r ∈ rows, ∀ c ∈ r, c.plain = anJ) := by
            cases hrw : rows with
            | nil =>
              refine ⟨?_, by simp, by simp⟩
              cases a with
              | none => simpa using run_firstCells_none w.drew i.size 0 0 cap
              | some a => exact run_firstCells_some w.drew i.size 0 a 0 cap [] (by simp) (by simp)
            | cons r0 rs =>
              rw [<- hrw]
              have af' : rows ≠ [] := by rw [hrw]; simp
              obtain ⟨b, o, rfl, db⟩ := lB af'
              have Tl : e1 = esz := by
                rcases D0 with h | h
                · exact h
                rw [hrw] at h; simp at h
              subst Tl
              refine ⟨run_firstCells_some w.drew i.size (anG rows) ⟨b, o, anI⟩ (anG rows) cap _ (by rw [qR]; exact dF db.ob) (fun j v hj => ?_), db.ob, db.plain⟩
              rw [qV]
              exact qt uX.bG (db.flat j v hj)
          obtain ⟨uj, hol, fB⟩ := uj
          obtain ⟨nc, rest, hnc, Xa, cu⟩ := EO (P := P) (w := w) (tx := tx) (ty := ty) ht hi hz KT NN (sCap := cap) uj hs (by omega) (by simpa [eN] using ij)
          obtain ⟨li, hlb, oU, sy, ly⟩ := Cy (im := im) (loc := loc) (r := { v := .own (anG aE) esz 0 ((anG rows) + (anG new)) ((anG rows) + (anG new)) anK, news := [.arr esz (rows ++ new)], rd := iO y })
            (w' := w.drew.alloc (.cells (((rows.flatMap aV) ++ (new.flatMap aV)).toArray ++ rest) e)) rfl rfl uX dW rfl hol fB He Tk hnc Xa
          subst h
          exact ⟨_, _, _, cu, oU, tg.new uX li rfl rfl rfl rfl rfl rfl hlb sy⟩
        cases h
      | own tk e1 off len cap ex =>
        dsimp only at h
        obtain ⟨li, a, cV, rfl, hl, he, Cv, cT, Ha, hex, Bg⟩ := hx.gV
        cases ck : aE[tk]? with
        | none => rw [ck] at h; cases h
        | some df =>
          rw [ck] at h
          cases df with
          | arr e2 rows =>
            dsimp only at h
            split at h
            · cases h
            rename_i NH
            have NH : e1 = esz := by simpa using NH
            subst NH
            split at h
            ·
              rename_i tj
              have tj : len + (anG new) <= cap := by simpa using tj
              split at h
              · cases h
              rename_i Tj
              injection h with h
              subst h
              obtain ⟨hs, He, Tk⟩ := Cw (P := P) (w := w) hy A8 htx hk.bG (fun t ht => hk.tok t (.inl ht))
              rw [<- qR] at hs
              obtain ⟨k, gS, hb⟩ := hk.tok tk (.inr ⟨_, af6.2 rfl⟩) li hl
              rw [ck] at gS; injection gS with gS; subst gS
              obtain ⟨b1, b2, b3⟩ := hb
              have oe : rows ≠ [] := by intro e; subst e; simp at b2; omega
              have Dp : e2 = e1 := by rw [<- b1, he]
              subst Dp
              obtain ⟨arr, el, ti, IY, Kx, db⟩ := b3 oe
              rcases Bg with h0 | ⟨_, rfl, qW⟩
              · omega
              have Hf := dF He
              have Hb := UV e2 (show off + (len + (anG new)) <= (anG rows) by omega)
              have NO : (off + (len + (anG new))) * e2 = off * e2 + len * e2 + (anG new) * e2 := by rw [PP, PP]; omega
              have ES : li.sh + off * e2 + len * i.size + (new.flatMap aV).length <= arr.size := by rw [qR, Hf]; omega
              have cu := ju (P := P) (w := w) t tx ty e i ht hi li.df (li.sh + off * e2) len cV v (anG new) (new.flatMap aV) hs (by omega) ti ES
              refine ⟨_, _, loc, cu, ?_, ?_⟩
              · exact .own tk e2 off (len + (anG new)) cap ex li _ cV hl he Cv tj Ha hex (.inr ⟨by omega, rfl, qW⟩)
              refine tg.write hk (t := tk) (k0 := .arr e2 rows) (li := li) rfl rfl hl ck (by cases rows with | nil => exact absurd rfl oe | cons _ _ => rfl) (bV ti) rfl rfl rfl ?_
              rw [xL _ _ _ (by omega)]
              refine ⟨b1, by rw [cW _ _ _ (by omega)]; exact b2, fun _ => ⟨(mM (li.sh + off * e2 + len * i.size) (new.flatMap aV) arr.toList).toArray, el, ?_, ?_, ?_, ?_⟩⟩
              · rw [bV ti]
                have dI := (IR.1 ti).1
                simp [dI]
              · rw [<- IY]
                simp only [afI]
                rw [cW _ _ _ (by simpa using ES)]; simp
              · rw [cW _ _ _ (by omega)]; exact Kx
              refine db.mM (by omega) He Tk (fun k => ?_)
              simp only [afh]
              rw [gW _ _ _ (by simpa using ES), Hf]
              have : li.sh + off * e2 + len * i.size = li.sh + (off + len) * e2 := by rw [qR, PP]; omega
              rw [this]
              simp
            rename_i tj
            have tj : ¬ (len + (anG new) <= cap) := by simpa using tj
            split at h
            · cases h
            rename_i ij
            have ij : len + (anG new) <= 1048576 := by simpa [eN] using ij
            have old : ∀ (rd : List Nat) (wr : List (Nat × jX)), (tk ∈ rd \/ ∃ k, (tk, k) ∈ wr) ->
                jo im loc aE w { v := .own (anG aE) e1 0 (len + (anG new)) (len + (anG new)) anK, news := [.arr e1 ((rows.drop off).take len ++ new)], wr := wr, rd := rd } ->
                (Builtin.firstCells i.size len (.slice a len cV)).run P w.drew = .ok (((rows.drop off).take len).flatMap aV).toArray w.drew /\ ((rows.drop off).take len).length = len /\
                  (∀ r ∈ (rows.drop off).take len, (anG r) = e1) /\ (∀ r ∈ (rows.drop off).take len, ∀ c ∈ r, c.plain = anJ) := by
              intro rd wr zB uX
              obtain ⟨k, gS, hb⟩ := uX.tok tk zB li hl
              rw [ck] at gS; injection gS with gS; subst gS
              obtain ⟨b1, b2, b3⟩ := hb
              have Dp : e2 = e1 := by rw [<- b1, he]
              subst Dp
              have Ap : ((rows.drop off).take len).length = len := by simp; omega
              by_cases Ky : len = 0
              · subst Ky
                refine ⟨?_, Ap, by simp, by simp⟩
                simp only [List.take_zero, agO]
                cases a with
                | none => exact run_firstCells_none w.drew i.size 0 0 cV
                | some a => exact run_firstCells_some w.drew i.size 0 a 0 cV [] (by simp) (by simp)
              have oe : rows ≠ [] := by intro e; subst e; simp at Ap; omega
              obtain ⟨arr, el, ti, IY, Kx, db⟩ := b3 oe
              have vM := (db.drop off).take len
              rcases Bg with h0 | ⟨_, rfl, _⟩
              · omega
              refine ⟨run_firstCells_some w.drew i.size len _ len cV _ (by rw [qR, dF vM.ob, Ap]) (fun j v hj => ?_), Ap, vM.ob, vM.plain⟩
              rw [qV]
              exact kQ (w := w) ti (vM.flat j v hj)
            split at h
            ·
              rename_i an5
              injection h with h
              have uX : jo im loc aE w { v := .own (anG aE) e1 0 (len + (anG new)) (len + (anG new)) anK, news := [.arr e1 ((rows.drop off).take len ++ new)], wr := [], rd := tk :: iO y } := by rw [h]; exact hk
              obtain ⟨uj, Ap, hol, fB⟩ := old (tk :: iO y) [] (.inl (by simp)) uX
              obtain ⟨hs, He, Tk⟩ := Cw (P := P) (w := w) hy A8 htx uX.bG (fun t ht => uX.tok t (.inl (agr _ ht)))
              rw [<- qR] at hs
              have hce := hex an5
              obtain ⟨nc, rest, hnc, Xa, cu⟩ := EO (P := P) (w := w) (tx := tx) (ty := ty) ht hi hz KT NN (sCap := cV) uj hs (by omega) ij
              obtain ⟨lj, hlb, oU, sy, ly⟩ := Cy (im := im) (loc := loc) (olds := (rows.drop off).take len) (new := new) (r := { v := .own (anG aE) e1 0 (len + (anG new)) (len + (anG new)) anK, news := [.arr e1 ((rows.drop off).take len ++ new)], wr := [], rd := tk :: iO y })
                (w' := w.drew.alloc (.cells (((((rows.drop off).take len).flatMap aV) ++ (new.flatMap aV)).toArray ++ rest) e)) (by rw [Ap]) rfl uX dW rfl hol fB He Tk (by rw [Ap]; exact hnc) (by rw [Ap]; exact Xa)
              subst h
              rw [Ap] at oU
              exact ⟨_, _, _, cu, oU, tg.new uX lj rfl rfl rfl rfl rfl rfl hlb sy⟩
            rename_i an5
            split at h
            · cases h
            rename_i Tj
            injection h with h
            have uX : jo im loc aE w { v := .own (anG aE) e1 0 (len + (anG new)) (len + (anG new)) anK, news := [.arr e1 ((rows.drop off).take len ++ new)], wr := [(tk, .dead)], rd := iO y } := by rw [h]; exact hk
            obtain ⟨uj, Ap, hol, fB⟩ := old (iO y) [(tk, .dead)] (.inr ⟨_, af6.2 rfl⟩) uX
            obtain ⟨hs, He, Tk⟩ := Cw (P := P) (w := w) hy A8 htx uX.bG (fun t ht => uX.tok t (.inl ht))
            have uY := hs
            rw [<- qR] at hs
            subst h
            rcases adc cV (len + (anG new)) with hg | hg
            ·
              obtain ⟨nc, rest, hnc, Xa, cu⟩ := EO (P := P) (w := w) (tx := tx) (ty := ty) ht hi hz KT NN (sCap := cV) uj hs hg ij
              obtain ⟨lj, hlb, oU, sy, ly⟩ := Cy (im := im) (loc := loc) (olds := (rows.drop off).take len) (new := new) (r := { v := .own (anG aE) e1 0 (len + (anG new)) (len + (anG new)) anK, news := [.arr e1 ((rows.drop off).take len ++ new)], wr := [(tk, .dead)], rd := iO y })
                (w' := w.drew.alloc (.cells (((((rows.drop off).take len).flatMap aV) ++ (new.flatMap aV)).toArray ++ rest) e)) (by rw [Ap]) rfl uX dW rfl hol fB He Tk (by rw [Ap]; exact hnc) (by rw [Ap]; exact Xa)
              rw [Ap] at oU
              refine ⟨_, _, _, cu, oU, ?_⟩
              have od := tg.new (r := { v := .own (anG aE) e1 0 (len + (anG new)) (len + (anG new)) anK, news := [.arr e1 ((rows.drop off).take len ++ new)], wr := [], rd := iO y })
                (w' := w.drew.alloc (.cells (((((rows.drop off).take len).flatMap aV) ++ (new.flatMap aV)).toArray ++ rest) e))
                ⟨uX.bG, fun t ht => uX.tok t (by rcases ht with ht | ⟨k, ht⟩; exact .inl ht; cases ht), fun t k h => absurd h (by simp), uX.fresh, fun t u li lj k k' h1 h2 => uX.iK t u li lj k k' (by rcases h1 with h | ⟨k, h⟩; exact .inl h; cases h) (by rcases h2 with h | ⟨k, h⟩; exact .inl h; cases h)⟩ lj rfl rfl rfl rfl rfl rfl hlb sy
              exact { gG := od.gG, dS := od.dS, bG := od.bG, dX := od.dX, os := od.os, tape := od.tape, output := od.output, size := od.size,
                      frame := fun b hb _ => od.frame b hb (fun t k li k0 h => absurd h (by simp)),
                      Rx := (fun t k hm hs => by
                        obtain ⟨rfl, rfl⟩ : t = tk /\ k = .dead := by simpa using hm
                        cases hs),
                      wr := fun t k li hm mA => by
                        obtain ⟨rfl, rfl⟩ : t = tk /\ k = .dead := by simpa using hm
                        trivial,
                      k9 := od.k9,
                      news := fun j k li hj hl => by
                        obtain ⟨h2, h3⟩ := od.news j k li hj hl
                        refine ⟨h2, fun hs => ⟨(h3 hs).1, ?_⟩⟩
                        rcases (h3 hs).2 with h | ⟨t, lt, k0, hm, _⟩
                        · exact .inl h
                        exact absurd hm (by simp),
                      distinct := od.distinct }
            ·
              obtain ⟨k, gS, hb⟩ := uX.tok tk (.inr ⟨_, af6.2 rfl⟩) li hl
              rw [ck] at gS; injection gS with gS; subst gS
              obtain ⟨b1, b2, b3⟩ := hb
              have Dp : e2 = e1 := by rw [<- b1, he]
              subst Dp
              rcases Bg with h0 | ⟨Xb, rfl, qW⟩
              · omega
              have oe : rows ≠ [] := by intro e; subst e; simp at b2; omega
              obtain ⟨arr, el, ti, IY, Kx, db⟩ := b3 oe
              have vM := (db.drop off).take len
              have Hf := dF He
              have an6 := dF hol
              rw [Ap] at an6
              have Hb := UV e2 (show off + (len + (anG new)) <= off + cV by omega)
              have NO : (off + (len + (anG new))) * e2 = off * e2 + len * e2 + (anG new) * e2 := by rw [PP, PP]; omega
              have ES : li.sh + off * e2 + len * i.size + (new.flatMap aV).length <= arr.size := by rw [qR, Hf]; omega
              have cu := ju (P := P) (w := w) t tx ty e i ht hi li.df (li.sh + off * e2) len cV v (anG new) (new.flatMap aV) hs hg ti ES
              have PK := bV (cs := (mM (li.sh + off * e2 + len * i.size) (new.flatMap aV) arr.toList).toArray) ti
              have dI := (IR.1 ti).1
              have Aq : (jX.arr e2 rows).bL = anJ := by cases rows with | nil => exact absurd rfl oe | cons _ _ => rfl
              have Bh := uX.free tk .dead (af6.2 rfl) li (.arr e2 rows) hl ck Aq
              let lj : LI := ⟨li.df, li.sh + off * e2, e2, ((rows.drop off).take len ++ new).length, li.sz⟩
              have TC : loc (anG aE) = anI := by have := uX.fresh 0 (by simp); simpa using this
              have hlj : lj.n = len + (anG new) := by simp only [lj, afF, Ap]
              refine ⟨_, _, loc.set (anG aE) lj, cu, ?_, ?_⟩
              · exact .own (anG aE) e2 0 (len + (anG new)) (len + (anG new)) anK lj _ cV (Loc.eQ _ _ _) rfl (by omega) (If _) hg (by simp)
                  (.inr ⟨by omega, by simp [lj], by simp only [lj, aku]; rw [PP] at qW; omega⟩)
              have sy : BR im (loc.set (anG aE) lj) (w.setRow li.df (mM (li.sh + off * e2 + len * i.size) (new.flatMap aV) arr.toList).toArray) lj (.arr e2 ((rows.drop off).take len ++ new)) := by
                refine ⟨rfl, rfl, fun _ => ⟨(mM (li.sh + off * e2 + len * i.size) (new.flatMap aV) arr.toList).toArray, el, by rw [PK]; simp [lj, dI], ?_, ?_, ?_⟩⟩
                · simp only [lj, afI]
                  rw [cW _ _ _ (by simpa using ES)]; simpa using IY
                · simp only [lj, afF, Ap]
                  rw [PP]; rw [NO] at Hb; omega
                refine bO.Ao (fun r hr => ?_) (fun r hr => ?_) (fun j u hj => ?_)
                · rcases afi.1 hr with h | h
                  · exact hol r h
                  exact He r h
                · rcases afi.1 hr with h | h
                  · exact fB r h
                  exact Tk r h
                rw [amY] at hj
                simp only [lj, afh]
                rw [gW _ _ _ (by simpa using ES), Hf, qR]
                rcases adc j (len * e2) with NL | NL
                · rw [ae9 (by omega)] at hj
                  rw [rc (by omega)]
                  have := vM.flat j u hj
                  simpa using this
                rw [acl (by omega), an6] at hj
                have hjb := (afb.1 hj).1
                rw [pp ⟨by omega, by omega⟩, <- hj]
                congr 1
                omega
              exact { gG := .refl _, dS := Loc.xI lj TC,
                      bG := fun b o hb => by
                        have h1 := uX.bG b o hb
                        have NP : li.df ≠ b := fun e => by rw [e, hb] at Bh; cases Bh
                        rw [PK, af5, rc NP]; exact h1,
                      dX := fun _ _ h => .inl h, os := rfl, tape := rfl, output := rfl,
                      size := by rw [PK]; simp,
                      Rx := (fun t k hm hs => by
                        obtain ⟨rfl, rfl⟩ : t = tk /\ k = .dead := by simpa using hm
                        cases hs),
                      frame := fun b _ hb => by
                        have NP := hb tk .dead li _ (af6.2 rfl) hl ck Aq
                        rw [PK, af5, rc NP],
                      wr := fun t k li hm mA => by
                        obtain ⟨rfl, rfl⟩ : t = tk /\ k = .dead := by simpa using hm
                        trivial,
                      k9 := fun t l h => by
                        unfold Loc.set at h
                        split at h
                        · rename_i e; subst e; exact .inr ⟨If _, by simp⟩
                        exact .inl h,
                      news := Cu (fun j k hj => by
                        cases j with
                        | zero =>
                          simp at hj; subst hj
                          exact ⟨lj, Loc.eQ _ _ _, sy, fun _ => ⟨Bh, .inr ⟨tk, li, _, af6.2 rfl, hl, ck, Aq, rfl⟩⟩⟩
                        | succ j => simp at hj),
                      distinct := fun i j ki kj li lj h1 h2 _ _ _ _ _ => by
                        cases i <;> cases j <;> simp at h1 h2 <;> rfl }
          | _ => cases h
      | _ => cases h
end
end Go.Vm
/- Operation by operation, seventh part: aggregates and rows that are built, slices that are cut. -/
namespace Go.Vm
section
variable {P : Program} {im : Im} {loc : Loc} {aE : cH} {fz : List Nat} {w : World}
theorem uZ {α β:Type} (f:α->Sem β) (g:α->β):
 ∀(xs:List α),(∀a∈xs,(f a).run P w= .ok (g a) w)-> ∀(acc:Array β),(xs.foldlM (fun bs a=>bs.push<$>f a) acc).run P w= .ok (acc++(xs.map g).toArray) w
 | [],_,acc=>by simp
 |x::xs,h,acc=>by
  simp only [anp,Do,Sem.run_map,h x (by simp),ww,uZ f g xs (fun a ha=>h a (by simp [ha]))]
  congr 1
  apply afc;simp
theorem RD {α β:Type} (f:α->Sem β) (g:α->β) (xs:Array α) (h: ∀a∈xs,(f a).run P w= .ok (g a) w):(xs.mapM f).run P w= .ok (xs.map g) w:=by
 rw [Array.mapM_eq_foldlM,<- Array.foldlM_toList,uZ f g xs.toList (fun a ha=>h a (by simpa using ha))]
 congr 1
 apply afc;simp
theorem HF (off:Nat): ∀(xs:List Value) (k:Nat) (cells:Array Value),off+k+anG xs<=cells.size->
 ((xs.zipIdx k).foldl (fun (cs:Array Value) (p:Value×Nat)=>cs.setIfInBounds (off+p.2) p.1) cells).toList=mM (off+k) xs cells.toList
 | [],k,cells,_=>by simp [mM]
 |x::xs,k,cells,h=>by
  simp only [afE] at h;rw [List.zipIdx_cons,afU,HF off xs (k+1) _ (by simp;omega)]
  apply agG;intro j;rw [gW _ _ _ (by simp;omega),gW _ _ _ (by simp;omega)]
  simp only [afE,Array.toList_setIfInBounds]
  by_cases h1:off+(k+1)<=j/\j<off+(k+1)+anG xs
  · rw [pp h1,pp ⟨by omega,by omega⟩]
    obtain ⟨m,hm⟩: ∃m,j- (off+k)=m+1:=⟨j- (off+k) -1,by omega⟩
    rw [hm,show j- (off+(k+1))=m by omega];simp
  rw [rc h1]
  by_cases h2:j=off+k
  · subst h2
    rw [pp ⟨If _,by omega⟩,akt (by simp;omega)]
    simp
  rw [rc (by omega),amo (by omega)]
theorem yR {place:Nat->Option (Nat×Nat)} {i off size:Nat} {v:Value} {rest:List (Nat×Value)} {cells:Array Value} (hp:place i=anH (off,size)) (hs:v.cells.size=size)
 (hf:off+size<=cells.size):Instr.fill place cells ((i,v)::rest)=Instr.fill place ⟨mM off v.cells.toList cells.toList⟩ rest:=by
 have he:(v.cells.zipIdx.foldl (fun cs (c,j)=>cs.setIfInBounds (off+j) c) cells)=⟨mM off v.cells.toList cells.toList⟩:=by
  apply afc;rw [<- Array.foldl_toList,Array.toList_zipIdx]
  have:=HF off v.cells.toList 0 cells (by simp;omega)
  simpa using this
 simp only [Instr.fill,hp];rw [rc (by simp [hs];omega),he]
inductive u4 (im:Im) (loc:Loc) (place:Nat->Option (Nat×Nat)):List (Nat×Nat×PV)->List (Nat×Value)->Prop
 |nil:u4 im loc place [] []
 |cons (off sz i:Nat) (x:PV) (v:Value) (r:List (Nat×Nat×PV)) (s:List (Nat×Value)) (hp:place i=anH (off,sz)) (hv:VR im loc x v) (h:u4 im loc place r s):
  u4 im loc place ((off,sz,x)::r) ((i,v)::s)
theorem KU {place:Nat->Option (Nat×Nat)}: ∀{ps:List (Nat×Nat×PV)} {qs:List (Nat×Value)},u4 im loc place ps qs-> ∀{cs HB:List PV} {vs:Array Value},
 eV im loc cs vs.toList->nm ps cs=anH HB-> ∃Nz,Instr.fill place vs qs=anH Nz/\eV im loc HB Nz.toList
 |_,_,.nil,cs,HB,vs,h,hf=>by
  simp only [nm,v6] at hf;subst hf;exact ⟨vs,rfl,h⟩
 |_,_,.cons off sz i x v r s hp hv hr,cs,HB,vs,h,hf=>by
  simp only [nm] at hf;cases ck:x.stored with
  |none=>rw [ck] at hf;cases hf
  |some ws=>
   rw [ck] at hf;dsimp only at hf;split at hf
   · rename_i hc
     simp only [ut,afg,afK] at hc;obtain ⟨rfl,Be⟩:=Am ck;have PJ:=hv.cells Be;have hl:=PJ.mY;have A7:=h.mY;simp only [afo] at hl A7;rw [yR hp (by omega) (by omega)]
     exact KU hr (eV.mM PJ h) hf
   cases hf
theorem ET {t:TypeId} {fs:Array Field} (hu:P.underlying t=anH (.struct fs)) (hf: ∀f∈fs,(P.info? f.type).isSome=anJ):
 (fs.mapM fun f=>do pure (f.offset,<- sizeOf f.type):Sem (Array (Nat×Nat))).run P w= .ok (fs.map fun f=>(f.offset,P.cellsOf f.type)) w/\
 (fun i=>(fs.map fun f=>(f.offset,P.cellsOf f.type))[i]?)=placeOf P t:=by
 constructor
 · refine RD _ _ _ fun f hm=>?_
   obtain ⟨i,hi⟩:=afk.1 (hf f hm);simp [sizeOf,typeInfo,hi,Program.cellsOf]
 funext i
 unfold placeOf;rw [hu];cases hfi:fs[i]? with
 |none=>simp [hfi]
 |some f=>
  obtain ⟨j,hj⟩:=afk.1 (hf f (Array.mem_of_getElem? hfi));simp [hfi,hj,Program.cellsOf]
theorem RE {t:TypeId} {zero cs:List PV} {ps:List (Nat×Nat×PV)} {qs:Array (Nat×Value)} (hz:uh P t zero=anJ)
 (nS:(match P.underlying t with|some (.struct fs)=>fs.all fun f=>(P.info? f.type).isSome|some (.array _ e)=>(P.info? e).isSome|_=>anK)=anJ)
 (hr:u4 im loc (placeOf P t) ps qs.toList) (hf:nm ps zero=anH cs): ∃v,(Instr.build t qs).run P w= .ok v w/\VR im loc (.agg cs) v:=by
 unfold uh at hz;cases hi:P.info? t with
 |none=>rw [hi] at hz;cases hz
 |some i=>
  rw [hi] at hz;cases IZ:i.zero with
  |none=>simp [IZ] at hz
  |some z=>
   simp [IZ] at hz;have PL:(zeroValue t).run P w= .ok z w:=by simp [zeroValue,typeInfo,hi,IZ]
   obtain ⟨Nz,h1,h2⟩:=KU hr (xH hz) hf;refine ⟨.agg Nz,?_,.agg cs Nz.toList h2⟩;cases hu:P.underlying t with
   |none=>rw [hu] at nS;cases nS
   |some d=>
    rw [hu] at nS;cases d<;>first|cases nS|skip
    case array n e=>
     obtain ⟨j,hj⟩:=afk.1 nS;have hp:(fun i=>anH (i*j.size,j.size))=placeOf P t:=by funext i;unfold placeOf;rw [hu];simp [hj]
     have qR:(sizeOf e).run P w= .ok j.size w:=by simp [sizeOf,typeInfo,hj]
     simp only [Instr.build,Do,PL,run_underlying hu,ww,qR,hp,h1,EQ]
    case struct fs=>
     have rE: ∀f∈fs,(P.info? f.type).isSome=anJ:=by
      intro f hf
      have:=Array.all_eq_true.1 nS
      obtain ⟨k,hk,rfl⟩:=Array.mem_iff_getElem.1 hf;exact this k hk
     obtain ⟨hm,hp⟩:=ET (P:=P) (w:=w) hu rE;simp only [Instr.build,Do,PL,run_underlying hu,ww,hm,hp,h1,EQ]
theorem Cz {zero:Row} {zs:Array Value} (h: ∀(j:Nat) (c:PV),zero[j]? =anH c-> ∃v,jD c=anH v/\zs[j]? =anH v) (hl:(anG zero)=zs.size) (n:Nat):
 bO (fun k=>((agH (n*zs.size)).map (zs[· %zs.size]!))[k]?) 0 zs.size (aff n zero):=by
 intro i r hr;have hi:i<n:=by
  rcases adc i n with h|h
  · exact h
  rw [M2 (by simpa using h)] at hr;cases hr
 rw [List.getElem?_replicate,pp hi] at hr;injection hr with hr;subst hr;refine ⟨hl,fun j c hc=>?_⟩
 obtain ⟨v,hv,hz⟩:=h j c hc;refine ⟨v,hv,?_⟩;have hj:j<zs.size:=(IR.1 hz).1;have dI:i*zs.size+j<n*zs.size:=by
  have:=UV zs.size (show i+1<=n from hi)
  rw [PP] at this;omega
 have asI:(i*zs.size+j)%zs.size=j:=by rw [Nat.mul_comm,Nat.mul_add_mod];exact Nat.mod_eq_of_lt hj
 simp only [aku];rw [Array.getElem?_map,Array.getElem?_range,pp dI];simp only [anr,asI];rw [getElem!_pos zs j hj]
 have:=(IR.1 hz).2
 rw [this]
inductive xN (im:Im) (loc:Loc):List (Nat×PV)->List (Nat×Value)->Prop
 |nil:xN im loc [] []
 |cons (i:Nat) (x:PV) (v:Value) (r:List (Nat×PV)) (s:List (Nat×Value)) (hv:VR im loc x v) (h:xN im loc r s):xN im loc ((i,x)::r) ((i,v)::s)
theorem Bi {esz n : Nat} : ∀ {ps : List (Nat × PV)} {qs : List (Nat × Value)}, xN im loc ps qs -> ∀ {rows rq : List Row} {vs : Array Value},
    bO (fun k => vs[k]?) 0 esz rows -> vs.size = n * esz -> (anG rows) = n -> qk ps rows esz = anH rq ->
    ∃ Nz, Instr.fill (fun i => anH (i * esz, esz)) vs qs = anH Nz /\ bO (fun k => Nz[k]?) 0 esz rq /\ Nz.size = n * esz /\ (anG rq) = n
  | _, _, .nil, rows, rq, vs, h, hs, hn, hf => by
    simp only [qk, v6] at hf
    subst hf
    exact ⟨vs, rfl, h, hs, hn⟩
  | _, _, .cons i x v r s hv hr, rows, rq, vs, h, hs, hn, hf => by
    simp only [qk] at hf
    cases ck : x.cI with
    | none => rw [ck] at hf; cases hf
    | some ws =>
      rw [ck] at hf
      dsimp only at hf
      split at hf
      · rename_i hc
        have Dq : (anG ws) = esz := by simp only [ut, afg] at hc; exact hc.1
        have CA : i < (anG rows) := by simp only [ut] at hc; simpa using hc.2
        obtain ⟨rfl, NK⟩ := mN ck
        have PJ := hv.cells (fun c hc => xK (NK c hc))
        have hl := PJ.mY
        simp only [afo] at hl
        have Hb := UV esz (show i + 1 <= n by omega)
        rw [PP] at Hb
        rw [yR (place := fun i => anH (i * esz, esz)) rfl (by omega) (by omega)]
        have hgi : rows[i]? = anH rows[i] := NE CA
        have hil := (h i _ hgi).1
        have an7 := h.store (get' := fun k => (⟨mM (i * esz) v.cells.toList vs.toList⟩ : Array Value)[k]?) (off := 0) (ws := x.cells) (vs := v.cells.toList) hgi (by omega) (PJ.HD NK) (by simp; omega) (fun k => by
          simp only [afh]
          rw [gW _ _ _ (by simp; omega)]
          simp)
        have asJ : mM 0 x.cells rows[i] = x.cells := by
          unfold mM; rw [agb (by omega)]; simp
        rw [asJ] at an7
        exact Bi hr an7 (by simp only [afI]; rw [cW _ _ _ (by simp; omega)]; simpa using hs) (by simpa using hn) hf
      cases hf
end
end Go.Vm
/- Operation by operation, last part: all of them. -/
namespace Go.Vm
def k7.fo:k7->List fE
 | .Ti x| .un _ x| .conv _ x| .len x| .box x| .load _ x| .KD x| .KE _ x| .ie _ _ x| .ext _ x=>[x]
 | .pick a b c=>[a,b,c]
 | .bin _ x y| .KC _ x y| .eqc _ _ x y| .store _ x y| .KF _ x y| .Dj _ _ x y| .idx _ _ _ x y| .KG x y| .mks _ _ x y| .append _ x y| .copy _ x y=>[x,y]
 | .build _ ps=>ps.map (·.2.2)
 | .A' _ _ _ ps=>ps.map (·.2)
 | .Di x y=>[x,y]
 | .Ru _ x a b c=>x::(a.toList++b.toList++c.toList)
 | .mkf _ a b=>a++b
 | .lookup _ _ _ m k=>[m,k]
 | .IM _ m k v=>[m,k,v]
 | .clear _ _ x=>[x]
 | .mm _ x xs=>x::xs
 | .call _ _ as=>as
 | .xb x as=>x::as
 | .NG _| .alloc _| .mkm _| .bad=>[]
section
variable {P : Program} {im : Im} {loc : Loc} {aE : cH} {fz : List Nat} {w : World} {e : Env} {ρ : Operand -> Value}
theorem nu: ∀{xs:List fE} {os:List Operand},(∀x∈xs,∀o,bB x o=anJ->VR im loc (x.ev e) (ρ o))->eW xs os=anJ->eV im loc (EE e xs) (os.map ρ)
 | [],[],_,_=> .nil
 |x::xs,o::os,h,hc=>by
  simp only [eW,ut] at hc;exact .cons _ _ _ _ (h x (by simp) o hc.1) (nu (fun y hy=>h y (by simp [hy])) hc.2)
 | [],_::_,_,hc=>by simp [eW] at hc
 |_::_,[],_,hc=>by simp [eW] at hc
theorem Bj {place:Nat->Option (Nat×Nat)}: ∀{ps:List (Nat×Nat×fE)} {qs:List (Nat×Operand)},(∀x∈ps.map (·.2.2),∀o,bB x o=anJ->VR im loc (x.ev e) (ρ o))->uU place ps qs=anJ->
 u4 im loc place (ps.map fun p=>(p.1,p.2.1,p.2.2.ev e)) (qs.map fun (i,x)=>(i,ρ x))
 | [],[],_,_=> .nil
 |(off,sz,x)::r,(i,o)::s,h,hc=>by
  simp only [uU,ut] at hc;obtain ⟨⟨h1,h2⟩,h3⟩:=hc;refine .cons off sz i _ _ _ _ ?_ (h x (by simp) o h2) (Bj (fun y hy=>h y (by simp only [anA,afS];exact .inr hy)) h3)
  cases hp:place i with
  |none=>rw [hp] at h1;cases h1
  |some q=>
   rw [hp] at h1;simp only [ut,beq_iff_eq] at h1;obtain ⟨rfl,rfl⟩:=h1;rfl
 | [],_::_,_,hc=>by simp [uU] at hc
 |_::_,[],_,hc=>by simp [uU] at hc
theorem xh: ∀{ps:List (Nat×fE)} {qs:List (Nat×Operand)},(∀x∈ps.map (·.2),∀o,bB x o=anJ->VR im loc (x.ev e) (ρ o))->nq ps qs=anJ->
 xN im loc (ps.map fun p=>(p.1,p.2.ev e)) (qs.map fun (i,x)=>(i,ρ x))
 | [],[],_,_=> .nil
 |(i,x)::r,(j,o)::s,h,hc=>by
  simp only [nq,ut,beq_iff_eq] at hc;obtain ⟨⟨rfl,h2⟩,h3⟩:=hc;exact .cons i _ _ _ _ (h x (by simp) o h2) (xh (fun y hy=>h y (by simp only [anA,afS];exact .inr hy)) h3)
 | [],_::_,_,hc=>by simp [nq] at hc
 |_::_,[],_,hc=>by simp [nq] at hc
theorem EU {t:TypeId} {zero:Row} (h:uh P t zero=anJ) (hp:zero.all PV.plain=anJ):
 ∃i z,P.info? t=anH i/\i.zero=anH z/\anG zero=z.cells.size/\ ∀(j:Nat) (c:PV),zero[j]? =anH c-> ∃v,jD c=anH v/\z.cells[j]? =anH v:=by
 unfold uh at h;cases hi:P.info? t with
 |none=>rw [hi] at h;cases h
 |some i=>
  rw [hi] at h;cases hz:i.zero with
  |none=>simp [hz] at h
  |some z=>
   simp [hz] at h;have hr:eV (fun _=>anI) (fun _=>anI) zero z.cells.toList:=xH h
   refine ⟨i,z,rfl,hz,by simpa using hr.mY,fun j c hc=>?_⟩
   obtain ⟨v,hv,NJ⟩:=hr.get j c hc;refine ⟨v,NJ.plain ?_,by simpa using hv⟩
   have:=anq.1 hp c (agd hc)
   exact this
theorem Dr {esz n len cap:Nat} {rows:List Row} {vs:Array Value} {el:TypeId} {r:nU} (hr:r={v:= .own (anG aE) esz 0 len cap anJ,news:=[.arr esz rows]}) (hk:jo im loc aE w r)
 (db:bO (fun k=>vs[k]?) 0 esz rows) (hs:vs.size=n*esz) (hn:(anG rows)=n) (hc:cap=n) (hl:len<=cap):
 ∃bo,VR im bo r.v (.slice (anH ⟨w.heap.size,0,anI⟩) len cap)/\tg im loc aE w r im bo {w with heap:=w.heap.push (.cells vs el)}:=by
 subst hr hc
 let li:LI:=⟨w.heap.size,0,esz,cap,vs.size⟩
 refine ⟨loc.set (anG aE) li,?_,?_⟩
 · refine .own (anG aE) esz 0 len cap anJ li _ cap (Loc.eQ _ _ _) rfl (by simp [li]) hl (If _) (fun _=>rfl) ?_
   rcases an1 cap with h|h
   · exact .inl h
   exact .inr ⟨by simp [li];omega,by simp [li],by simp [li,hs]⟩
 exact tg.new hk li rfl rfl rfl rfl rfl rfl rfl ⟨rfl,hn.symm,fun _=>⟨vs,el,by simp [li],rfl,by simp [li,hs,hn],db⟩⟩
theorem PM {isMax:Bool} {k:IntKind}: ∀{ys:List PV} {us:List Value},eV im loc ys us-> ∀{a:Int} {z:PV},mmE isMax k a ys=anH z->
 ∃b,z= .int k b/\(us.foldlM (if isMax then Builtin.max2 else Builtin.min2) (.int k a)).run P w= .ok (.int k b) w
 |_,_,.nil,a,z,h=>by
  simp only [mmE,v6] at h;exact ⟨a,h.symm,rfl⟩
 |_,_,.cons y u ys us hy hs,a,z,h=>by
  unfold mmE at h;cases y with
  |int l c=>
   obtain rfl:=hy.gx;dsimp only at h;cases Tm:fA k l with
   |false=>rw [Tm] at h;cases h
   |true=>
    have:=fj.1 Tm;subst this
    rw [Tm,pp rfl] at h;obtain ⟨b,hz,ih⟩:=PM (isMax:=isMax) hs h;refine ⟨b,hz,?_⟩;rw [anp,Do];cases isMax with
    |true=>simp only [if_true] at ih ⊢;simp only [Builtin.max2,EQ,ww];exact ih
    |false=>simp only [af2,if_false] at ih ⊢;simp only [Builtin.min2,EQ,ww];exact ih
  |_=>cases h
end
end Go.Vm
/- Operation by operation: all that call nothing. -/
namespace Go.Vm
def TD (P:Program) (ρ:Operand->Value) (o:Oper) (im:Im) (loc:Loc) (aE:cH) (w:World) (r:nU):Prop:=
 ∃nx w' bo,(execOp ρ o).run P w= .ok nx w'/\((nx= .skip/\r.v= .undef)\/ ∃v,nx= .value v/\VR im bo r.v v)/\tg im loc aE w r im bo w'
section
variable {P : Program} {im : Im} {loc : Loc} {aE : cH} {fz : List Nat} {w : World} {e : Env} {ρ : Operand -> Value}
theorem TD.pure {o:Oper} {r:nU} {v:Value} (hk:jo im loc aE w r) (hn:r.news=[]) (hw:r.wr=[]) (h:(execOp ρ o).run P w= .ok (.value v) w) (hv:VR im loc r.v v):
 TD P ρ o im loc aE w r:=⟨_,w,loc,h,.inr ⟨v,rfl,hv⟩,tg.none hk hn hw⟩
theorem I0 {t:TypeId} (h:(P.underlying t matches anH .bool)=anJ):P.underlying t=anH .bool:=by
 split at h
 · assumption
 cases h
theorem vN {x:Option fE} {o:Option Operand} {n:Option Nat} (oS: ∀y∈x.toList,∀o,bB y o=anJ->VR im loc (y.ev e) (ρ o)) (hc:IV x o=anJ)
 (h:(match (generalizing:=false) x with|none=>some none|some a=>(jZ (a.ev e)).map some)=some n):Al (o.map ρ) n:=by
 cases x with
 |none=>
  cases o with
  |none=>injection h with h;subst h;trivial
  |some o=>cases hc
 |some a=>
  cases o with
  |none=>cases hc
  |some o=>
   simp only [AC] at h;obtain ⟨m,hm,rfl⟩:=h;exact o7 (oS a (by simp) o hc) hm
theorem tn {t el:TypeId} {esz:Nat} {a:Option Addr} {len cap l h m:Nat} {vl vh vm:Option Value} (hu:P.underlying t=anH (.slice el)) (hs:oT P el esz=anJ)
 (hb:(Instr.sliceBounds anJ len cap vl vh vm).run P w= .ok (l,h,m) w):
 (Instr.sliceAt t (.slice a len cap) vl vh vm).run P w= .ok (.slice (if m=l then a else a.map (·.add (l*esz))) (h-l) (m-l)) w:=by
 simp only [Instr.sliceAt,Do,run_underlying hu,ww,Instr.slice,hb,kH hs,EQ]
theorem RF {t el:TypeId} {esz:Nat} {x z:PV} {u:Value} {lo hi mx:Option Nat} {vl vh vm:Option Value} (hx:VR im loc x u) (hu:P.underlying t=anH (.slice el)) (hs:oT P el esz=anJ)
 (h1:Al vl lo) (h2:Al vh hi) (h3:Al vm mx) (hm:mx.isSome=anJ->hi.isSome=anJ) (D0: ∀e c r,x= .sl e c r->r=[]\/e=esz) (an8: ∀tk e o l c ex,x= .own tk e o l c ex->e=esz)
 (h:qU x lo hi mx=anH z): ∃v,(Instr.sliceAt t u vl vh vm).run P w= .ok v w/\VR im loc z v:=by
 unfold qU at h;cases x with
 |sl e qS rows=>
  obtain ⟨a,cap,rfl,Ha,WQ,lB⟩:=hx.oa;dsimp only at h;have sub: ∀(l h m:Nat) (PN:Bool),l<=h->h<=anG rows->h<=m->m<=cap->(PN=anJ->m=h)->
   VR im loc (.sl e PN ((rows.drop l).take (h-l))) (.slice (if m=l then a else a.map (·.add (l*esz))) (h-l) (m-l)):=by
   intro l h m PN hlh hhr hhm hmc A7;have cT:((rows.drop l).take (h-l)).length=h-l:=by simp;omega
   have:=VR.sl (im:=im) (loc:=loc) e PN ((rows.drop l).take (h-l)) (if m=l then a else a.map (·.add (l*esz))) (m-l) (by omega) (fun hc=>by have:=A7 hc;omega) (fun dW=>by
    have dI:l<h:=by
     rcases adc l h with h'|h'
     · exact h'
     exfalso;apply dW;rw [show h-l=0 by omega];simp
    have oe:rows≠[]:=by intro e;subst e;simp at hhr;omega
    obtain ⟨b,o,rfl,db⟩:=lB oe;have he:e=esz:=(D0 e qS rows rfl).resolve_left oe;subst he;refine ⟨b,o+l*e,?_,(db.drop l).take _⟩;rw [rc (by omega)]
    simp [qV])
   rwa [cT] at this
  cases mx with
  |none=>
   dsimp only at h;split at h
   · rename_i hc
     simp only [ut,afK] at hc;injection h with h;subst h;have hb:=mL (P:=P) (w:=w) (len:=anG rows) (cap:=cap) h1 h2 h3 hm hc.1 (fun _=>by simp;omega) (by simp)
     simp only [agc] at hb;refine ⟨_,tn hu hs hb,sub _ _ cap _ hc.1 hc.2 (by omega) (If _) (fun A7=>?_)⟩
     simp only [ut,afg] at A7
     have:=WQ A7.1;omega
   cases h
  |some m=>
   dsimp only at h;split at h
   · rename_i hc
     simp only [ut,afK] at hc;injection h with h;subst h;have hb:=mL (P:=P) (w:=w) (len:=anG rows) (cap:=cap) h1 h2 h3 hm hc.1.1 (fun _=>hc.1.2) (by simp;omega)
     simp only [af7] at hb;refine ⟨_,tn hu hs hb,sub _ _ m _ hc.1.1 (by omega) hc.1.2 (by omega) (fun A7=>?_)⟩
     simp only [afg] at A7;exact A7.symm
   cases h
 |own tk e off len cap ex=>
  obtain ⟨li,a,cV,rfl,hl,he,Cv,cT,Ha,hex,Bg⟩:=hx.gV;have NH:=an8 tk e off len cap ex rfl;subst NH;dsimp only at h;have sub: ∀(l h c m m':Nat) (ex':Bool),l<=h->h<=m->m<=cap->m<=m'->m'<=cV->(ex'=anJ->m'=m)->
   VR im loc (.own tk e (off+l) (h-l) (m-l) ex') (.slice (if m'=l then a else a.map (·.add (l*e))) (h-l) (m'-l)):=by
   intro l h c m m' ex' hlh hhm hmc hmm ax0 asK;refine .own tk e (off+l) (h-l) (m-l) ex' li _ (m'-l) hl he (by omega) (by omega) (by omega) (fun hx=>by have:=asK hx;omega) ?_
   by_cases Kz:m'=l
   · exact .inl (by omega)
   rw [rc Kz]
   rcases Bg with h0|⟨Xb,rfl,qW⟩
   · exact .inl (by omega)
   refine .inr ⟨Xb,?_,?_⟩
   · simp only [anr,qV];congr 2;rw [PP];omega
   have:=UV e (show off+l+(m'-l)<=off+cV by omega)
   omega
  cases mx with
  |none=>
   dsimp only at h;split at h
   · rename_i hc
     simp only [ut,afK] at hc;injection h with h;subst h;have hb:=mL (P:=P) (w:=w) (len:=len) (cap:=cV) h1 h2 h3 hm hc.1 (fun _=>by simp;omega) (by simp)
     simp only [agc] at hb;exact ⟨_,tn hu hs hb,sub _ _ 0 cap cV ex hc.1 hc.2 (If _) Ha (If _) hex⟩
   cases h
  |some m=>
   dsimp only at h;split at h
   · rename_i hc
     simp only [ut,afK] at hc;injection h with h;subst h;have hb:=mL (P:=P) (w:=w) (len:=len) (cap:=cV) h1 h2 h3 hm hc.1.1 (fun _=>hc.1.2) (by simp;omega)
     simp only [af7] at hb;exact ⟨_,tn hu hs hb,sub _ _ 0 m m anJ hc.1.1 hc.1.2 hc.2 (If _) (by omega) (fun _=>rfl)⟩
   cases h
 |_=>cases h
end
end Go.Vm
/- Two aggregates of plain cells are compared cell by cell. -/
namespace Go.Vm
theorem xO: ∀(a b c d:List PV),anG a=anG b->dC (a++c) (b++d)=match dC a b with|some anJ=>dC c d|x=>x
 | [],[],c,d,_=>by simp [dC]
 |x::xs,y::ys,c,d,h=>by
  simp only [List.cons_append,dC];cases qT x y with
  |none=>rfl
  |some r=>
   cases r with
   |false=>rfl
   |true=>exact xO xs ys c d (by simpa using h)
 | [],_::_,_,_,h=>by simp at h
 |_::_,[],_,_,h=>by simp at h
section
variable {P : Program} {im : Im} {loc : Loc} {w : World}
def whole (P:Program) (t:TypeId) (us:List Value):Value:=if gU P t then .agg ⟨us⟩ else us.getD 0 Go.undef
def iQ (P:Program) (d:Nat) (r:Option Nat) (f:Field):Option Nat:=
 match r with
 |some n=>if f.offset==n&&f.name != "_" then (match flat P d f.type with
  |some m=>if oT P f.type m then anH (n+m) else anI
  |none=>anI) else anI
 |none=>anI
theorem pN {d:Nat}: ∀(fs:List Field),fs.foldl (iQ P d) anI=anI
 | []=>rfl
 |f::fs=>by rw [afU];exact pN fs
theorem I1 {d:Nat} {t:TypeId} {n:Nat} (h:flat P d t=anH n) (hr:gU P t=anK):n=1:=by
 cases d with
 |zero=>cases h
 |succ d=>
  simp only [flat] at h;split at h
  · split at h
    · injection h with h;exact h.symm
    cases h
  · rename_i fs hu
    unfold gU at hr;rw [hu] at hr;cases hr
  cases h
theorem Ar {d:Nat} {t:TypeId} {m k:Nat} {us:List Value} (h:flat P d t=anH m) (hs:oT P t m=anJ) (hk:k+m<=anG us) (PO:(P.underlying t).isSome=anJ):
 (Go.part t ⟨us⟩ k).run P w= .ok (whole P t ((us.drop k).take m)) w:=by
 unfold whole;cases hr:gU P t with
 |true=>
  simp only [Go.part,Do,Cs hr,ww,if_true,kH hs,EQ]
  congr 2
  apply afc;simp [agx]
 |false=>
  have h1:=I1 h hr;subst h1;simp only [Go.part,Do,Ct PO hr,ww,af2,if_false];have dI:k<(anG us):=by omega
  have:(⟨us⟩:Array Value)[k]? =anH us[k]:=by simp [dI]
  rw [this];simp [anC,dI]
theorem HG {d:Nat} {t:TypeId} {n:Nat} (h:flat P d t=anH n):(P.underlying t).isSome=anJ:=by
 cases d with
 |zero=>cases h
 |succ d=>
  simp only [flat] at h;cases hu:P.underlying t with
  |none=>rw [hu] at h;cases h
  |some _=>rfl
theorem EV {d:Nat}: ∀{fs:List Field} {k n:Nat},fs.foldl (iQ P d) (anH k)=anH n->k<=n
 | [],k,n,h=>by simp at h;omega
 |f::fs,k,n,h=>by
  rw [afU] at h;cases hs:iQ P d (anH k) f with
  |none=>rw [hs,pN] at h;cases h
  |some k'=>
   rw [hs] at h
   have:=EV h
   unfold iQ at hs;dsimp only at hs;split at hs
   · split at hs
     · split at hs
       · injection hs with hs;omega
       cases hs
     cases hs
   cases hs
theorem I2: ∀(d:Nat) (t:TypeId) (n:Nat),flat P d t=anH n-> ∀(D:Nat),d<=D-> ∀(xs ys:List PV) (us vs:List Value) (b:Bool),eV im loc xs us->eV im loc ys vs->anG xs=n->anG ys=n->
 dC xs ys=anH b->(Op.equalIn D t (whole P t us) (whole P t vs)).run P w= .ok b w
 |0,t,n,h,_,_,_,_,_,_,_,_,_,_,_,_=>by cases h
 |d+1,t,n,h,0,hD,_,_,_,_,_,_,_,_,_,_=>by omega
 |d+1,t,n,h,D+1,hD,xs,ys,us,vs,b,hx,hy,hxn,hyn,he=>by
  have Xc:gU P t=anK->n=1-> ∃x y u v,xs=[x]/\ys=[y]/\us=[u]/\vs=[v]/\VR im loc x u/\VR im loc y v/\qT x y=anH b:=by
   intro hr h1;subst h1
   match xs,us,ys,vs,hx,hy,hxn,hyn,he with
   | [x],[u],[y],[v],.cons _ _ _ _ h1 _,.cons _ _ _ _ h2 _,_,_,he=>
    refine ⟨x,y,u,v,rfl,rfl,rfl,rfl,h1,h2,?_⟩;simp only [dC] at he;cases hc:qT x y with
    |none=>rw [hc] at he;cases he
    |some r=>rw [hc] at he;cases r<;>simpa using he
  simp only [flat] at h;split at h
  · rename_i k hu
    have hr:gU P t=anK:=by unfold gU;rw [hu]
    split at h
    · injection h with h
      obtain ⟨x,y,u,v,rfl,rfl,rfl,rfl,h1,h2,h3⟩:=Xc hr h.symm;simp only [whole,hr,af2,if_false,anC,agS,af7];unfold qT at h3;split at h3
      · split at h3
        · rename_i hk
          have:=fj.1 hk;subst this
          injection h3 with h3;subst h3;rw [h1.gx,h2.gx];exact run_equalIn_int w D t _ _ _ _ hu
        cases h3
      cases h3
    cases h
  · rename_i fs hu
    have hr:gU P t=anJ:=by unfold gU;rw [hu]
    split at h
    · cases h
    rename_i ck
    have hf:P.fieldsOf t=fs:=by simp [Program.fieldsOf,hu]
    have ck:P.stoodInHeld t=anK:=by simpa using ck
    have hxl:=hx.mY;have hyl:=hy.mY;simp only [whole,hr,if_true];rw [run_equalIn_agg w D t _ _ (by rw [hf];exact hu) ck,hf]
    change (match fs.toList.foldl (iQ P d) (anH 0) with|some n=>if oT P t n then anH n else anI|none=>anI)=anH n at h
    cases hfo:fs.toList.foldl (iQ P d) (anH 0) with
    |none=>rw [hfo] at h;cases h
    |some n'=>
     rw [hfo] at h;dsimp only at h;split at h
     · injection h with h
       subst h;have key: ∀(l:List Field) (k:Nat),l.foldl (iQ P d) (anH k)=anH n'-> ∀(b':Bool),dC (xs.drop k) (ys.drop k)=anH b'->
        (Op.eqFields D ⟨us⟩ ⟨vs⟩ l).run P w= .ok b' w:=by
        intro l
        induction l with
        |nil=>
         intro k hk b' A6;simp only [List.foldl_nil,v6] at hk;subst hk;rw [agb (by omega),agb (by omega)] at A6
         simp only [dC,v6] at A6;subst A6;simp [Op.eqFields]
        |cons f l ih=>
         intro k hk b' A6;rw [afU] at hk;cases hs:iQ P d (anH k) f with
         |none=>rw [hs,pN] at hk;cases hk
         |some k'=>
          rw [hs] at hk;have WR:=EV hk;unfold iQ at hs;dsimp only at hs;split at hs
          · rename_i hc
            simp only [ut,beq_iff_eq,bne_iff_ne,ne_eq] at hc;split at hs
            · rename_i m hm
              split at hs
              · rename_i qR
                injection hs with hs;subst hs;have PO:=HG hm;have e1:xs.drop k=(xs.drop k).take m++xs.drop (k+m):=by rw [<- anw,am9]
                have e2:ys.drop k=(ys.drop k).take m++ys.drop (k+m):=by rw [<- anw,am9]
                rw [e1,e2,xO _ _ _ _ (by simp;omega)] at A6
                have dW:f.name≠ "_" :=hc.2;simp only [Op.eqFields,Do,dW,ne_eq,not_false_eq_true,if_true,hc.1];rw [Ar (w:=w) hm qR (by omega) PO]
                simp only [ww];rw [Ar (w:=w) hm qR (by omega) PO]
                simp only [ww];cases hq:dC ((xs.drop k).take m) ((ys.drop k).take m) with
                |none=>rw [hq] at A6;cases A6
                |some r=>
                 have EW:=I2 d f.type m hm D (by omega) _ _ _ _ r ((hx.drop k).take m) ((hy.drop k).take m) (by simp;omega) (by simp;omega) hq
                 rw [EW];simp only [ww];rw [hq] at A6;cases r with
                 |false=>
                  simp only [v6] at A6;subst A6;simp
                 |true=>
                  dsimp only at A6
                  have:=ih (k+m) hk b' A6
                  simpa using this
              cases hs
            cases hs
          cases hs
       exact key fs.toList 0 hfo b (by simpa using he)
     cases h
  cases h
end
end Go.Vm
/- Maps; copy and clear. -/
namespace Go.Vm
theorem VR.xP {im:Im} {loc:Loc} {x:PV} {v:Value} (h:valOf x=anH v):VR im loc x v:=by
 cases x with
 |agg cs=>
  simp only [valOf,AC] at h;obtain ⟨vs,I3,rfl⟩:=h;refine .agg cs vs ?_
  induction cs generalizing vs with
  |nil=>simp at I3;subst I3;exact .nil
  |cons c cs ih=>
   rw [anx] at I3;simp only [Option.bind_eq_bind,Option.bind_eq_some_iff,Option.pure_def,v6] at I3;obtain ⟨v,hv,us,xA,rfl⟩:=I3;exact .cons _ _ _ _ (.EM hv) (ih us xA)
 |_=>exact .EM h
theorem KV {im:Im} {loc:Loc} {x:PV} {v:Value} (h:VR im loc x v) (hp: ∀c∈x.cells,c.plain=anJ):valOf x=anH v:=by
 cases x with
 |agg cs=>
  obtain ⟨vs,rfl,hr⟩:=h.pM;simp only [valOf,AC];refine ⟨vs,?_,rfl⟩;simp only [PV.cells] at hp;clear h
  induction cs generalizing vs with
  |nil=>cases hr;rfl
  |cons c cs ih=>
   cases hr with
   |cons _ v _ us h1 h2=>
    rw [anx];simp [h1.plain (hp c (by simp)),ih (fun d hd=>hp d (by simp [hd])) us h2]
 |_=>exact h.plain (hp _ (by simp [PV.cells]))
section
variable {P : Program} {im : Im} {loc : Loc} {aE : cH} {fz : List Nat} {w : World}
theorem vO: ∀{xs ys:List PV} {us vs:List Value},dC xs ys=anH anJ->eV im loc xs us->eV im loc ys vs->us=vs/\ ∀u∈us,∃k n,u= .int k n
 | [],[],_,_,_,.nil,.nil=>⟨rfl,by simp⟩
 |x::xs,y::ys,_,_,h,.cons _ u _ us h1 h2,.cons _ v _ vs h3 h4=>by
  simp only [dC] at h;split at h
  · rename_i Xd
    obtain ⟨rfl,rE⟩:=vO h h2 h4;unfold qT at Xd;split at Xd
    · rename_i k a l b
      split at Xd
      · rename_i Tm
        have:=fj.1 Tm;subst this
        have RG:a=b:=by simpa using Xd
        subst RG;rw [h1.gx,h3.gx];exact ⟨rfl,by
         intro u hu;rcases afS.1 hu with rfl|hu
         · exact ⟨_,_,rfl⟩
         exact rE u hu⟩
      cases Xd
    cases Xd
  · cases h
  cases h
 | [],_::_,_,_,h,_,_=>by simp [dC] at h
 |_::_,[],_,_,h,_,_=>by simp [dC] at h
theorem zJ: ∀(us:List Value) (n:Nat),(∀u∈us,∃k m,u= .int k m)->(us.zip us).all (fun (x,y)=>Instr.sameBits n x y)=anJ
 | [],_,_=>rfl
 |u::us,n,h=>by
  obtain ⟨k,m,rfl⟩:=h u (by simp)
  simp only [List.zip_cons_cons,List.all_cons,ut];exact ⟨by cases n<;>simp [Instr.sameBits],zJ us n fun u hu=>h u (by simp [hu])⟩
theorem j0 {n:Option Nat} {x:PV} {u:Value} (h:jC n x=anJ) (hv:VR im loc x u):(n=anI/\ ∃k m,x= .int k m/\u= .int k m)\/(∃m cs us,n=anH m/\x= .agg cs/\anG cs=m/\u= .agg ⟨us⟩/\eV im loc cs us):=by
 unfold jC at h;split at h
 · exact .inl ⟨rfl,_,_,rfl,hv.gx⟩
 · rename_i m cs
   obtain ⟨us,rfl,hr⟩:=hv.pM;exact .inr ⟨m,cs,us,rfl,rfl,by simpa using h,rfl,hr⟩
 cases h
theorem TE {n:Option Nat} {x y:PV} {u v:Value} (hx:jC n x=anJ) (hy:jC n y=anJ) (h:dC x.cells y.cells=anH anJ) (hu:VR im loc x u) (hv:VR im loc y v):
 u=v/\Instr.sameBits 10000 u u=anJ:=by
 rcases j0 hx hu with ⟨rfl,k,m,rfl,rfl⟩|⟨m,cs,us,rfl,rfl,_,rfl,hr⟩
 · rcases j0 hy hv with ⟨_,l,m',rfl,rfl⟩|⟨_,_,_,h',_⟩
   · obtain ⟨h1,_⟩:=vO (im:=im) (loc:=loc) h (.cons _ _ _ _ (.int k m) .nil) (.cons _ _ _ _ (.int l m') .nil)
     injection h1 with h1;exact ⟨h1,by simp [Instr.sameBits]⟩
   cases h'
 rcases j0 hy hv with ⟨h',_⟩|⟨_,ds,vs,_,rfl,_,rfl,hs⟩
 · cases h'
 obtain ⟨rfl,h2⟩:=vO h hr hs
 refine ⟨rfl,?_⟩;simp only [Instr.sameBits,beq_self_eq_true,anz];exact zJ us 9999 h2
theorem fH.get: ∀{es:List (PV×PV)} {k8:List MapEntry},fH es k8-> ∀{i:Nat} {p:PV×PV},es[i]? =anH p-> ∃e,k8[i]? =anH e/\valOf p.1=anH e.key/\valOf p.2=anH e.val
 |(k,v)::r,e::r',h,0,p,hp=>by
  simp at hp;subst hp;exact ⟨e,rfl,h.1,h.2.1⟩
 |(k,v)::r,e::r',h,i+1,p,hp=>by
  obtain ⟨e',h1,h2⟩:=fH.get h.2.2 (i:=i) (p:=p) (by simpa using hp)
  exact ⟨e',by simpa using h1,h2⟩
 | [],[],h,i,p,hp=>by simp at hp
 | [],_::_,h,_,_,_=>by simp [fH] at h
 |_::_,[],h,_,_,_=>by simp [fH] at h
theorem KW {q:IntKind} {k:PV} {u:Value} (hu:VR im loc k u) (hk:jC anI k=anJ): ∀{es:List (PV×PV)} {k8:List MapEntry} {i:Nat} {r:Option Nat},fH es k8->fy anI k es i=anH r->
 ∃r',Instr.findNow (.int q) u k8 i=anH r'/\match r with|none=>r'=anI|some j=>i<=j/\ ∃p e,es[j-i]? =anH p/\k8[j-i]? =anH e/\r'=anH (j,e.val)/\jC anI p.1=anJ/\dC k.cells p.1.cells=anH anJ
 | [],[],i,r,_,h=>by
  simp only [fy,v6] at h;subst h;exact ⟨anI,rfl,rfl⟩
 |(a,v)::es,e::k8,i,r,hm,h=>by
  simp only [fy] at h;split at h
  case isFalse=>cases h
  rename_i hka;obtain ⟨h1,h2,h3⟩:=hm;obtain ⟨_,kk,kn,rfl,rfl⟩:_/\ ∃kk kn,k= .int kk kn/\u= .int kk kn:=by
   rcases j0 hk hu with ⟨_,kk,kn,e1,e2⟩|⟨_,_,_,e1,_⟩
   · exact ⟨trivial,kk,kn,e1,e2⟩
   cases e1
  obtain ⟨ak,an,rfl,hae⟩: ∃ak an,a= .int ak an/\e.key= .int ak an:=by
   rcases j0 (im:=im) (loc:=loc) hka (VR.xP h1) with ⟨_,kk,kn,e1,e2⟩|⟨_,_,_,e1,_⟩
   · exact ⟨kk,kn,e1,e2⟩
   cases e1
  simp only [PV.cells,dC,qT] at h;cases uX:fA kk ak with
  |false=>rw [uX] at h;simp at h
  |true=>
   have:=fj.1 uX;subst this
   rw [uX] at h;simp only [if_true] at h;simp only [Instr.findNow,hae,Instr.sameNow,if_true];cases hb:(kn==an) with
   |true=>
    rw [hb] at h;simp only [v6] at h;subst h;refine ⟨_,rfl,If _,(.int kk an,v),e,by simp,by simp,rfl,hka,?_⟩
    simp [PV.cells,dC,qT,uX,hb]
   |false=>
    rw [hb] at h;simp only at h;obtain ⟨r',g1,g2⟩:=KW (q:=q) (k:= .int kk kn) (.int kk kn) hk h3 h;refine ⟨r',g1,?_⟩;cases r with
    |none=>exact g2
    |some j=>
     obtain ⟨q1,p,e',q2,q3,q4,q5,q6⟩:=g2;refine ⟨by omega,p,e',?_,?_,q4,q5,q6⟩
     · rw [show j-i=(j- (i+1))+1 by omega];simpa using q2
     rw [show j-i=(j- (i+1))+1 by omega];simpa using q3
 | [],_::_,i,r,hm,h=>by simp [fH] at hm
 |_::_,[],i,r,hm,h=>by simp [fH] at hm
theorem KX {n:Nat} {kt:TypeId} (uW:gU P kt=anJ) (TA:flat P 100 kt=anH n) {k:PV} {u:Value} (hu:VR im loc k u) (hk:jC (anH n) k=anJ): ∀{es:List (PV×PV)} {k8:List MapEntry} {i:Nat} {r:Option Nat},fH es k8->fy (anH n) k es i=anH r->
 ∃r',(Instr.findAsking kt u k8 i).run P w= .ok r' w/\match r with|none=>r'=anI|some j=>i<=j/\ ∃p e,es[j-i]? =anH p/\k8[j-i]? =anH e/\r'=anH (j,e.val)/\jC (anH n) p.1=anJ/\dC k.cells p.1.cells=anH anJ
 | [],[],i,r,_,h=>by
  simp only [fy,v6] at h;subst h;exact ⟨anI,rfl,rfl⟩
 |(a,v)::es,e::k8,i,r,hm,h=>by
  simp only [fy] at h;split at h
  case isFalse=>cases h
  rename_i hka;obtain ⟨h1,h2,h3⟩:=hm;have hva:VR im loc a e.key:=VR.xP h1;have heq: ∀b,dC k.cells a.cells=anH b->(Op.equal kt u e.key).run P w= .ok b w:=by
   intro b hb;rcases j0 hk hu with ⟨h',_⟩|⟨m,cs,us,h',rfl,hl,rfl,hr⟩
   · cases h'
   injection h' with h';subst h'
   rcases j0 hka hva with ⟨h',_⟩|⟨m,ds,vs,h',rfl,mA,he,hs⟩
   · cases h'
   injection h' with h';subst h'
   rw [he]
   have:=I2 (P:=P) (w:=w) 100 kt n TA Op.maxDepth (by decide) cs ds us vs b hr hs hl mA hb
   simp only [whole,uW,if_true] at this;exact this
  cases hb:dC k.cells a.cells with
  |none=>rw [hb] at h;cases h
  |some b=>
   rw [hb] at h;have cu:=heq b hb;cases b with
   |true=>
    simp only [v6] at h;subst h;refine ⟨anH (i,e.val),by simp [Instr.findAsking,cu],If _,(a,v),e,by simp,by simp,rfl,hka,hb⟩
   |false=>
    simp only at h;obtain ⟨r',g1,g2⟩:=KX uW TA hu hk h3 h;refine ⟨r',by simp [Instr.findAsking,cu,g1],?_⟩
    cases r with
    |none=>exact g2
    |some j=>
     obtain ⟨q1,p,e',q2,q3,q4,q5,q6⟩:=g2;refine ⟨by omega,p,e',?_,?_,q4,q5,q6⟩
     · rw [show j-i=(j- (i+1))+1 by omega];simpa using q2
     rw [show j-i=(j- (i+1))+1 by omega];simpa using q3
 | [],_::_,i,r,hm,h=>by simp [fH] at hm
 |_::_,[],i,r,hm,h=>by simp [fH] at hm
theorem EX: ∀(d:Nat) (t:TypeId) (n:Nat),flat P d t=anH n-> ∀(D:Nat),d<=D-> ∀(em:Bool) (xs:List PV) (us:List Value),eV im loc xs us->anG us=n->
 (Instr.checkKey em D t (whole P t us)).run P w= .ok () w
 |0,t,n,h,_,_,_,_,_,_,_=>by cases h
 |d+1,t,n,h,0,hD,_,_,_,_,_=>by omega
 |d+1,t,n,h,D+1,hD,em,xs,us,hx,hun=>by
  simp only [flat] at h;split at h
  · rename_i k hu
    have hr:gU P t=anK:=by unfold gU;rw [hu]
    split at h
    · injection h with h;subst h
      match us,xs,hx,hun with
      | [u],[x],.cons _ _ _ _ h1 _,_=>
       simp only [whole,hr,af2,if_false,anC,agS,af7,Instr.checkKey,Do,run_underlying hu,ww];cases u<;>simp
    cases h
  · rename_i fs hu
    have hr:gU P t=anJ:=by unfold gU;rw [hu]
    split at h
    · cases h
    change (match fs.toList.foldl (iQ P d) (anH 0) with|some n=>if oT P t n then anH n else anI|none=>anI)=anH n at h
    cases hfo:fs.toList.foldl (iQ P d) (anH 0) with
    |none=>rw [hfo] at h;cases h
    |some n'=>
     rw [hfo] at h;dsimp only at h;split at h
     · injection h with h;subst h
       simp only [whole,hr,if_true,Instr.checkKey,Do,run_underlying hu,ww];rw [<- Array.forIn_toList];have hk: ∃k,fs.toList.foldl (iQ P d) (anH k)=anH n':=⟨0,hfo⟩;clear hfo;obtain ⟨k,hk⟩:=hk;generalize fs.toList=L at hk
       induction L generalizing k with
       |nil=>simp
       |cons f l ih=>
        rw [afU] at hk;cases hs:iQ P d (anH k) f with
        |none=>rw [hs,pN] at hk;cases hk
        |some k'=>
         rw [hs] at hk;have WR:=EV hk;unfold iQ at hs;dsimp only at hs;split at hs
         · rename_i hc
           simp only [ut,beq_iff_eq,bne_iff_ne,ne_eq] at hc;split at hs
           · rename_i m hm
             split at hs
             · rename_i qR
               injection hs with hs;subst hs;have p1:=Ar (w:=w) (us:=us) hm qR (k:=k) (by omega) (HG hm)
               have p2:=EX d f.type m hm D (by omega) em ((xs.drop k).take m) ((us.drop k).take m) ((hx.drop k).take m) (by simp;omega)
               simp only [List.forIn_cons,Do,hc.2,ne_eq,not_false_eq_true,if_true,hc.1,p1,p2,ww,EQ];exact ih _ hk
             cases hs
           cases hs
         cases hs
     cases h
  cases h
theorem RH {kt:TypeId} {q:IntKind} (hq:P.underlying kt=anH (.int q)) (em:Bool) (n:Nat) (k:IntKind) (m:Int):(Instr.checkKey em (n+1) kt (.int k m)).run P w= .ok () w:=by
 simp [Instr.checkKey,run_underlying hq]
theorem vP {r:Nat} {es:Array MapEntry} {clock:Nat} (hb:w.heap[r]? =anH (.map es clock)):(getObj r).run P w= .ok (.map es clock) w:=by
 simp [getObj,Sem.run,hb]
theorem EY {r:Nat} {es:Array MapEntry} {clock:Nat} (o:Obj) (hb:w.heap[r]? =anH (.map es clock)):(setObj r o).run P w= .ok () {w with heap:=w.heap.setIfInBounds r o}:=by
 simp [setObj,Sem.run,hb]
theorem KY {kt:TypeId} {d:TypeDesc} {k:Value} {l:List MapEntry} {a:Option (Nat×Value)} (hd:P.underlying kt=anH d) (h:Instr.findNow d k l 0=anH a):(Instr.findKey kt k l).run P w= .ok a w:=by
 simp [Instr.findKey,run_underlying hd,h]
theorem Ds {kt:TypeId} {n:Option Nat} (h:xG P kt n=anJ) {k:PV} {u:Value} (hu:VR im loc k u) (hk:jC n k=anJ) (em:Bool):(Instr.checkKey em 10000 kt u).run P w= .ok () w:=by
 rcases j0 hk hu with ⟨rfl,kk,m,rfl,rfl⟩|⟨m,cs,us,rfl,rfl,hl,rfl,hr⟩
 · simp only [xG] at h
   split at h
   · rename_i q hq
     exact RH hq em 9999 kk m
   cases h
 simp only [xG,ut,beq_iff_eq] at h
 have:=EX (P:=P) (w:=w) 100 kt m h.2 10000 (by decide) em cs us hr (by rw [<- hr.mY];exact hl)
 simp only [whole,h.1,if_true] at this;exact this
theorem EZ {kt:TypeId} {n:Option Nat} (h:xG P kt n=anJ) {k:PV} {u:Value} (hu:VR im loc k u) (hk:jC n k=anJ) {es:List (PV×PV)} {k8:List MapEntry} {r:Option Nat} (hm:fH es k8) (hf:fy n k es 0=anH r):
 ∃r',(Instr.findKey kt u k8).run P w= .ok r' w/\match r with|none=>r'=anI|some j=> ∃p e,es[j]? =anH p/\k8[j]? =anH e/\r'=anH (j,e.val)/\jC n p.1=anJ/\dC k.cells p.1.cells=anH anJ:=by
 cases n with
 |none=>
  simp only [xG] at h;split at h
  · rename_i q hq
    obtain ⟨r',h1,h2⟩:=KW (q:=q) hu hk hm hf;refine ⟨r',KY hq h1,?_⟩;cases r with
    |none=>exact h2
    |some j=>exact h2.2
  cases h
 |some m=>
  simp only [xG,ut,beq_iff_eq] at h;obtain ⟨r',h1,h2⟩:=KX (P:=P) (w:=w) h.1 h.2 hu hk hm hf;refine ⟨r',?_,?_⟩
  · rw [run_findKey_eq w ?_ u k8]
    · exact h1
    have:=h.1
    unfold gU at this
    revert this
    cases P.underlying kt with
    |none=>exact id
    |some d=>cases d<;>exact id
  cases r with
  |none=>exact h2
  |some j=>exact h2.2
theorem VR.TF {t:Nat} {v:Value} (h:VR im loc (.mp t) v): ∃li,loc t=anH li/\v= .map (anH li.df):=by
 cases h with|mp _ li h=>exact ⟨li,h,rfl⟩
theorem NQ {t kt et:TypeId} {n:Option Nat} {zero m k:PV} {ok:Bool} {um uk:Value} {r:nU} (ht:P.underlying t=anH (.map kt et)) (hkt:xG P kt n=anJ)
 (hz: ∃i z,P.info? et=anH i/\i.zero=anH z/\VR im loc zero z) (hm:VR im loc m um) (hk:VR im loc k uk)
 (h:te aE n zero ok m k=anH r) (hkn:jo im loc aE w r):
 ∃v,(Instr.lookup t um uk ok).run P w= .ok v w/\VR im loc r.v v/\r.news=[]/\r.wr=[]:=by
 unfold te at h;cases m with
 |mp tk=>
  dsimp only at h;obtain ⟨li,hl,rfl⟩:=hm.TF;cases hs:aE[tk]? with
  |none=>rw [hs] at h;cases h
  |some b=>
   rw [hs] at h;cases b with
   |map es=>
    dsimp only at h;split at h
    case isFalse=>cases h
    rename_i RI;cases hf:fy n k es 0 with
    |none=>rw [hf] at h;cases h
    |some q=>
     rw [hf] at h;have Hc:tk∈r.rd:=by
      revert h
      cases q with
      |none=>intro h;simp only [v6] at h;subst h;simp
      |some j=>
       dsimp only;cases es[j]? with
       |none=>intro h;cases h
       |some p=>intro h;simp only [v6] at h;subst h;simp
     obtain ⟨b',KZ,sy⟩:=hkn.tok tk (.inl Hc) li hl;rw [hs] at KZ;injection KZ with KZ;subst KZ;obtain ⟨k8,clock,hw,u5⟩:=sy;obtain ⟨r',sx,Hg⟩:=EZ (P:=P) (w:=w) hkt hk RI u5 hf;have WQ:=Ds (P:=P) (w:=w) hkt hk RI (k8.isEmpty);obtain ⟨i,z,hi,hiz,hvz⟩:=hz;have PL:(zeroValue et).run P w= .ok z w:=by simp [zeroValue,typeInfo,hi,hiz]
     cases q with
     |none=>
      dsimp only at h Hg;subst Hg;injection h with h;subst h;refine ⟨if ok then .tuple #[z,.bool anK] else z,?_,?_,rfl,rfl⟩
      · simp only [Instr.lookup,Do,run_underlying ht,ww,vP hw,EQ,WQ,sx,PL]
      cases ok with
      |true=>exact .cq _ _ (.cons _ _ _ _ hvz (.cons _ _ _ _ (.bool anK) .nil))
      |false=>exact hvz
     |some j=>
      dsimp only at h Hg;obtain ⟨p,e,h1,h2,rfl,h4,h5⟩:=Hg;rw [h1] at h;simp only [v6] at h;subst h;obtain ⟨e',Cj,NA,hv2⟩:=fH.get u5 h1;rw [h2] at Cj;injection Cj with Cj;subst Cj;refine ⟨if ok then .tuple #[e.val,.bool anJ] else e.val,?_,?_,rfl,rfl⟩
      · simp only [Instr.lookup,Do,run_underlying ht,ww,vP hw,EQ,WQ,sx]
      cases ok with
      |true=>exact .cq _ _ (.cons _ _ _ _ (.xP hv2) (.cons _ _ _ _ (.bool anJ) .nil))
      |false=>exact .xP hv2
   |_=>cases h
 |_=>cases h
theorem fH.snoc: ∀{es:List (PV×PV)} {k8:List MapEntry} {p:PV×PV} {e:MapEntry},fH es k8->valOf p.1=anH e.key->valOf p.2=anH e.val->fH (es++[p]) (k8++[e])
 | [],[],p,e,_,h1,h2=>⟨h1,h2,trivial⟩
 |(k,v)::r,e::r',p,e',h,h1,h2=>⟨h.1,h.2.1,fH.snoc h.2.2 h1 h2⟩
 | [],_::_,_,_,h,_,_=>by simp [fH] at h
 |_::_,[],_,_,h,_,_=>by simp [fH] at h
theorem fH.set: ∀{es:List (PV×PV)} {k8:List MapEntry} {i:Nat} {p:PV×PV} {f:MapEntry->MapEntry},fH es k8->(∀e,valOf p.1=anH (f e).key/\valOf p.2=anH (f e).val)->fH (es.set i p) (k8.modify i f)
 | [],[],i,p,f,h,_=>by simp [fH]
 |(k,v)::r,e::r',0,p,f,h,h1=>⟨(h1 e).1,(h1 e).2,h.2.2⟩
 |(k,v)::r,e::r',i+1,p,f,h,h1=>by
  simp only [List.set_cons_succ,List.modify_succ_cons];exact ⟨h.1,h.2.1,fH.set h.2.2 h1⟩
 | [],_::_,_,_,_,h,_=>by simp [fH] at h
 |_::_,[],_,_,_,h,_=>by simp [fH] at h
theorem K0 {t kt et:TypeId} {n:Option Nat} {m k x:PV} {um uk ux:Value} {r:nU} (ht:P.underlying t=anH (.map kt et)) (hkt:xG P kt n=anJ)
 (hm:VR im loc m um) (hk:VR im loc k uk) (hx:VR im loc x ux)
 (h:Dl aE fz n m k x=anH r) (hkn:jo im loc aE w r):
 ∃w',(Instr.mapUpdate t um uk ux).run P w= .ok () w'/\tg im loc aE w r im loc w'/\r.v= .undef:=by
 unfold Dl at h;cases m with
 |mp tk=>
  dsimp only at h;obtain ⟨li,hl,rfl⟩:=hm.TF;cases hs:aE[tk]? with
  |none=>rw [hs] at h;cases h
  |some b=>
   rw [hs] at h;cases b with
   |map es=>
    dsimp only at h;split at h
    case isFalse=>cases h
    rename_i RI;simp only [ut,afa] at RI;obtain ⟨RI,hnf⟩:=RI;cases hkp:k.cI with
    |none=>rw [hkp] at h;cases h
    |some kc=>
     cases hxp:x.cI with
     |none=>rw [hkp,hxp] at h;cases h
     |some xc=>
      rw [hkp,hxp] at h;dsimp only at h;obtain ⟨_,asN⟩:=mN hkp;obtain ⟨_,asO⟩:=mN hxp;have vk:=KV hk asN;have vx:=KV hx asO;cases hf:fy n k es 0 with
      |none=>rw [hf] at h;cases h
      |some q=>
       rw [hf] at h;have hwr: ∃bb,r={v:= .undef,wr:=[(tk,bb)]}:=by
        revert h
        cases q with
        |none=>intro h;simp only [v6] at h;exact ⟨_,h.symm⟩
        |some j=>intro h;simp only [v6] at h;exact ⟨_,h.symm⟩
       obtain ⟨bb,hr⟩:=hwr;obtain ⟨b',KZ,sy⟩:=hkn.tok tk (.inr ⟨bb,by rw [hr];simp⟩) li hl
       rw [hs] at KZ;injection KZ with KZ;subst KZ;obtain ⟨k8,clock,hw,u5⟩:=sy;obtain ⟨r',sx,Hg⟩:=EZ (P:=P) (w:=w) hkt hk RI u5 hf;have WQ:=Ds (P:=P) (w:=w) hkt hk RI anK;have dI:=(IR.1 hw).1;cases q with
       |none=>
        dsimp only at h Hg;subst Hg;injection h with h;refine ⟨{w with heap:=w.heap.setIfInBounds li.df (.map (k8.push {key:=uk,val:=ux,born:=clock}) (clock+1))},?_,tg.write hkn (t:=tk) (k0:= .map es) (o:= .map (k8.push {key:=uk,val:=ux,born:=clock}) (clock+1)) (li:=li) (by rw [<- h]) (by rw [<- h]) hl hs rfl rfl rfl rfl rfl ?_,by rw [<- h]⟩
        · simp only [Instr.mapUpdate,Do,run_underlying ht,ww,vP hw,WQ,sx]
          exact EY _ hw
        refine ⟨k8.push {key:=uk,val:=ux,born:=clock},clock+1,by simp [dI],?_⟩
        rw [Array.toList_push];exact u5.snoc vk vx
       |some j=>
        dsimp only at h Hg;obtain ⟨p,e,h1,h2,rfl,h4,h5⟩:=Hg;injection h with h;obtain ⟨e',Cj,NA,hv2⟩:=fH.get u5 h1;rw [h2] at Cj;injection Cj with Cj;subst Cj;obtain ⟨TG,aob⟩:=TE (im:=im) (loc:=loc) RI h4 h5 hk (.xP NA);have aoc:((k8[j]?).map (·.key)).getD uk=uk:=by
         have:k8[j]? =anH e:=by simpa using h2
         rw [this];exact TG.symm
        refine ⟨{w with heap:=w.heap.setIfInBounds li.df (.map (k8.modify j fun e=>{e with key:=uk,val:=ux}) clock)},?_,tg.write hkn (t:=tk) (k0:= .map es) (o:= .map (k8.modify j fun e=>{e with key:=uk,val:=ux}) clock) (li:=li) (by rw [<- h]) (by rw [<- h]) hl hs rfl rfl rfl rfl rfl ?_,by rw [<- h]⟩
        · simp only [Instr.mapUpdate,Do,run_underlying ht,ww,vP hw,WQ,sx,aoc,Instr.keyThatStays,aob,if_true,EQ]
          exact EY _ hw
        refine ⟨k8.modify j fun e=>{e with key:=uk,val:=ux},clock,by simp [dI],?_⟩
        rw [Array.toList_modify];exact u5.set fun e=>⟨vk,vx⟩
   |_=>cases h
 |_=>cases h
theorem NR {esz:Nat} {y:PV} {u:Value} {new:List Row} (hy:VR im loc y u) (hr:rowsOf aE esz y=anH new) (n:Nat) (hn:n<=anG new)
 (bG: ∀b o,im b=anH o->w.heap[b]? =anH o) (tok: ∀t,t∈iO y-> ∀li,loc t=anH li-> ∃k,aE[t]? =anH k/\BR im loc w li k):
 (Builtin.lenOf u).run P w= .ok (anG new) w/\(Builtin.firstCells esz n u).run P w= .ok ((new.take n).flatMap aV).toArray w/\(∀r∈new,anG r=esz)/\(∀r∈new,∀c∈r,c.plain=anJ):=by
 have TH: ∀(a:Option Addr) (l c:Nat),(Builtin.firstCells esz 0 (.slice a l c)).run P w= .ok #[] w:=by
  intro a l c;cases a with
  |none=>simp [Builtin.firstCells]
  |some a=>
   have:=run_loadCells_list (P:=P) w a [] (by simp)
   simpa [Builtin.firstCells] using this
 have get: ∀(rows:List Row) (b o l c:Nat) (g:Nat->Option Value),bO g o esz rows->(∀k v,g k=anH v->w.cell? ⟨b,k,anI⟩=anH v)->n<=anG rows->
  (Builtin.firstCells esz n (.slice (anH ⟨b,o,anI⟩) l c)).run P w= .ok ((rows.take n).flatMap aV).toArray w:=by
  intro rows b o l c g db hg He;have h1:=db.take n;have TA:=dF h1.ob
  have:=run_loadCells_list (P:=P) w ⟨b,o,anI⟩ ((rows.take n).flatMap aV) (fun j v hj=>by rw [qV];exact hg _ _ (h1.flat j v hj))
  simp only [Builtin.firstCells];rw [show n*esz=((rows.take n).flatMap aV).length by rw [TA,agX,ans He]]
  exact this
 unfold rowsOf at hr;cases y with
 |sl e qS rows=>
  obtain ⟨a,cap,rfl,_,_,lB⟩:=hy.oa;cases rows with
  |nil=>
   simp at hr;subst hr
   have:n=0:=by simpa using hn
   subst this;exact ⟨rfl,by simpa using TH a 0 cap,by simp,by simp⟩
  |cons r rs=>
   dsimp only at hr;split at hr
   · rename_i he
     have he:e=esz:=by simpa using he
     subst he;injection hr with hr;subst hr;obtain ⟨b,o,rfl,db⟩:=lB (by simp)
     exact ⟨rfl,get (r::rs) b o _ cap _ db (fun k v hk=>qt bG hk) hn,db.ob,db.plain⟩
   cases hr
 |own t e off len cap ex=>
  dsimp only at hr;split at hr
  · rename_i he
    have he:e=esz:=by simpa using he
    subst he;obtain ⟨li,a,cV,rfl,hl,h2,h3,h4,h5,h6,h7⟩:=hy.gV;obtain ⟨k,gS,hb⟩:=tok t (by simp [iO]) li hl
    rw [gS] at hr;cases k with
    |arr e' rows=>
     simp only [v6] at hr;subst hr;obtain ⟨b1,b2,b3⟩:=hb;have cT:((rows.drop off).take len).length=len:=by simp;omega
     have NH:e'=e:=by rw [<- b1,h2]
     subst NH;rw [cT] at hn ⊢;cases rows with
     |nil=>
      have:len=0:=by simp at b2;omega
      subst this
      have:n=0:=by omega
      subst this;exact ⟨rfl,by simpa using TH a 0 cV,by simp,by simp⟩
     |cons r rs=>
      obtain ⟨arr,el,ti,IY,Kx,db⟩:=b3 (by simp)
      have vM:=(db.drop off).take len;refine ⟨rfl,?_,vM.ob,vM.plain⟩;rcases an1 n with h0|h0
      · subst h0;simpa using TH a len cV
      rcases h7 with h7|⟨h7,rfl,h9⟩
      · omega
      exact get _ li.df (li.sh+off*e') len cV _ vM (fun k v hk=>kQ ti hk) (by rw [cT];exact hn)
    |_=>cases hr
  cases hr
 |_=>cases hr
theorem K1 {esz:Nat} {t off len cap:Nat} {ex:Bool} {u:Value} {rows new:List Row} {r:nU} {d:List Nat} {v:PV} (hx:VR im loc (.own t esz off len cap ex) u) (hs:aE[t]? =anH (.arr esz rows)) (hn:new≠[]) (hl:(anG new)<=len)
 (KQ: ∀r∈new,anG r=esz) (Xe: ∀r∈new,∀c∈r,c.plain=anJ) (hr:r={v:=v,wr:=[(t,.arr esz (la off new rows))],rd:=d}) (hk:jo im loc aE w r):
 ∃b o c w',u= .slice (anH ⟨b,o,anI⟩) len c/\(storeCells ⟨b,o,anI⟩ (new.flatMap aV)).run P w= .ok () w'/\tg im loc aE w r im loc w':=by
 obtain ⟨li,a,cV,rfl,mA,he,Cv,Ha,hex,hxk,Bg⟩:=hx.gV;obtain ⟨k,gS,hb⟩:=hk.tok t (.inr ⟨_,by rw [hr];simp;rfl⟩) li mA
 rw [hs] at gS;injection gS with gS;subst gS;obtain ⟨b1,b2,b3⟩:=hb;have He:0<(anG new):=List.length_pos_iff.2 hn;have oe:rows≠[]:=by intro e;subst e;simp at b2;omega
 obtain ⟨arr,el,ti,IY,Kx,db⟩:=b3 oe;rcases Bg with h0|⟨_,rfl,qW⟩
 · omega
 have Hf:=dF KQ
 have Hb:=UV esz (show off+anG new<=(anG rows) by omega)
 rw [PP] at Hb;have ES:li.sh+off*esz+(new.flatMap aV).length<=arr.size:=by rw [Hf];omega
 have cu:=run_storeCells_at P li.df (li.sh+off*esz) el (new.flatMap aV) 0 arr w ti (by simpa using ES) (oc Xe)
 refine ⟨li.df,li.sh+off*esz,cV,_,rfl,cu,?_⟩;refine tg.write hk (t:=t) (k0:= .arr esz rows) (li:=li) (by rw [hr]) (by rw [hr]) mA hs (by cases rows with|nil=>exact absurd rfl oe|cons _ _=>rfl) (bV ti) rfl rfl rfl ?_
 rw [xL _ _ _ (by omega)]
 refine ⟨b1,by rw [cW _ _ _ (by omega)];exact b2,fun _=>⟨(arr.toList.take (li.sh+off*esz+0)++new.flatMap aV++arr.toList.drop (li.sh+off*esz+0+(new.flatMap aV).length)).toArray,el,?_,?_,?_,?_⟩⟩
 · rw [bV ti]
   have dI:=(IR.1 ti).1;simp [dI]
 · rw [<- IY]
   have:=cW (li.sh+off*esz) (new.flatMap aV) arr.toList (by simpa using ES)
   simp only [mM] at this;simpa using this
 · rw [cW _ _ _ (by omega)];exact Kx
 refine db.mM (by omega) KQ Xe (fun k=>?_)
 have:=gW (li.sh+off*esz) (new.flatMap aV) arr.toList (by simpa using ES) k
 simp only [mM] at this;simp only [afh,anD];rw [this,Hf];simp
end
end Go.Vm
/- Operation by operation: the theorem. -/
namespace Go.Vm
section
variable {P : Program} {im : Im} {loc : Loc} {aE : cH} {fz : List Nat} {w : World} {e : Env} {ρ : Operand -> Value}
theorem TI {esz:Nat} {x:PV} (h:uP esz x=anJ):(∀e c r,x= .sl e c r->r=[]\/e=esz)/\(∀tk e o l c ex,x= .own tk e o l c ex->e=esz):=by
 constructor
 · rintro e c r rfl
   simp only [uP,am8,afg,an9] at h;exact h.symm
 rintro tk e o l c ex rfl
 simpa [uP] using h
theorem eO {x:Sem Value} {v:Value} (h:x.run P w= .ok v w):(do pure (Next.value (<- x)):Sem Next).run P w= .ok (.value v) w:=by
 simp only [Do,h,ww,EQ]
theorem K2 {x y:fE} {l:List Operand} (h:eW [x,y] l=anJ): ∃a b,l=[a,b]/\bB x a=anJ/\bB y b=anJ:=by
 match l,h with
 | [],h=>simp [eW] at h
 | [_],h=>simp [eW] at h
 | [a,b],h=>simp only [eW,ut,anB] at h;exact ⟨a,b,rfl,h.1,h.2⟩
 |_::_::_::_,h=>simp [eW] at h
theorem K3 {x:fE} {l:List Operand} (h:eW [x] l=anJ): ∃a,l=[a]/\bB x a=anJ:=by
 match l,h with
 | [],h=>simp [eW] at h
 | [a],h=>simp only [eW,anB] at h;exact ⟨a,rfl,h⟩
 |_::_::_,h=>simp [eW] at h
theorem TJ {prims:FuncId->Bool} {x:k7} {o:Oper} {r:nU} (hc:xg P prims o.type x o.op=anJ) (oS: ∀y∈x.fo,∀o',bB y o'=anJ->VR im loc (y.ev e) (ρ o'))
 (h:bE e aE fz x=anH r) (hk:jo im loc aE w r):TD P ρ o im loc aE w r:=by
 unfold xg at hc;split at hc
 case h_1 x o' fB=>
  injection h with h;subst h;exact .pure hk rfl rfl (by simp [execOp,fB]) (oS x (by simp [k7.fo]) o' hc)
 case h_2 x o' fB=>
  injection h with h;subst h;exact .pure hk rfl rfl (by simp [execOp,fB]) (oS x (by simp [k7.fo]) o' hc)
 case h_3 c a b d e' f fB=>
  simp only [ut] at hc;have h1:=oS c (by simp [k7.fo]) d hc.1.1
  simp only [bE] at h;split at h
  · rename_i hb;rw [hb] at h1;have h1:=h1.jE
    injection h with h;subst h;exact .pure hk rfl rfl (by simp [execOp,fB,h1,asBool]) (oS a (by simp [k7.fo]) _ hc.1.2)
  · rename_i hb;rw [hb] at h1;have h1:=h1.jE
    injection h with h;subst h;exact .pure hk rfl rfl (by simp [execOp,fB,h1,asBool]) (oS b (by simp [k7.fo]) _ hc.2)
  cases h
 case h_4 op x y op' t a b u fB=>
  simp only [ut,beq_iff_eq] at hc;obtain ⟨⟨rfl,h1⟩,h2⟩:=hc;simp only [bE,AC] at h;obtain ⟨z,hz,rfl⟩:=h;obtain ⟨v,cu,hv⟩:=W7 (P:=P) (w:=w) (t:=t) (a:=a) (b:=b) (oS x (by simp [k7.fo]) a h1) (oS y (by simp [k7.fo]) b h2) hz
  exact .pure hk rfl rfl (by simp only [execOp,fB];exact eO cu) hv
 case h_5 neg x y op t a b u fB=>
  simp only [ut] at hc;obtain ⟨⟨⟨h0,ht⟩,h1⟩,h2⟩:=hc;have hx:=oS x (by simp [k7.fo]) a h1
  have hy:=oS y (by simp [k7.fo]) b h2
  simp only [bE] at h;split at h
  · rename_i p q hp hq
    rw [hp] at hx;rw [hq] at hy;injection h with h;subst h;have ho:op=if neg then .neq else .eql:=by cases neg<;>simpa using h0
    refine .pure (v:= .bool (if neg then !(p==q) else p==q)) hk rfl rfl ?_ (.bool _)
    simp only [execOp,fB,hx.jE,hy.jE];exact eO (Tv ho (I0 ht))
  cases h
 case h_6 n neg x y op t a b u fB=>
  simp only [ut,afa,beq_iff_eq] at hc;obtain ⟨⟨⟨⟨⟨h0,hr⟩,hn⟩,hg⟩,h1⟩,h2⟩:=hc;have hx:=oS x (by simp [k7.fo]) a h1
  have hy:=oS y (by simp [k7.fo]) b h2
  simp only [bE] at h;split at h
  · rename_i p q hp hq
    rw [hp] at hx;rw [hq] at hy;obtain ⟨us,hu1,hu2⟩:=hx.pM;obtain ⟨vs,NA,hv2⟩:=hy.pM;split at h
    case isFalse=>cases h
    rename_i cT;simp only [ut,afg] at cT;rw [AC] at h;obtain ⟨c,NI,rfl⟩:=h;have ho:op=if neg then .neq else .eql:=by cases neg<;>simpa using h0
    have hq2:=I2 (P:=P) (w:=w) 100 t n hn 10000 (by omega) p q us vs c hu2 hv2 cT.1 cT.2 NI
    simp only [whole,hr,if_true] at hq2;refine .pure (v:= .bool (if neg then !c else c)) hk rfl rfl ?_ (.bool _)
    simp only [execOp,fB,hu1,NA];refine eO ?_;simp only [Do,run_eqGuard_agg w op t a b ⟨us⟩ ⟨vs⟩ hg,ww];cases neg with
    |true=>
     simp only [if_true] at ho ⊢;subst ho;rw [run_neq_struct,hq2];rfl
    |false=>
     simp only [af2,if_false] at ho ⊢;subst ho;rw [run_eql_struct,hq2];rfl
  cases h
 case h_7 op x op' t a fB=>
  simp only [ut,beq_iff_eq] at hc;obtain ⟨rfl,h1⟩:=hc;simp only [bE,AC] at h;obtain ⟨z,hz,rfl⟩:=h;obtain ⟨v,cu,hv⟩:=af9 (P:=P) (w:=w) (oS x (by simp [k7.fo]) a h1) hz
  exact .pure hk rfl rfl (by simp only [execOp,fB];exact eO cu) hv
 case h_8 k x s d a fB=>
  simp only [ut] at hc;obtain ⟨⟨hs,hd⟩,h1⟩:=hc;have hx:=oS x (by simp [k7.fo]) a h1
  obtain ⟨ds,Xf⟩:=afk.1 hs;simp only [bE] at h;split at h
  · rename_i k' n hp
    rw [hp] at hx;injection h with h;subst h;split at hd
    · rename_i l hl
      have:=fj.1 hd;subst this
      refine .pure hk rfl rfl ?_ (.int _ _);simp only [execOp,fB,hx.gx];exact eO (Tw Xf hl)
    cases hd
  cases h
 case h_9 x args argTypes fB=>
  simp only [ut] at hc;obtain ⟨ht,h1⟩:=hc;obtain ⟨a,ha,h1a⟩:=K3 h1;have lf:args= #[a]:=afc (by simpa using ha)
  subst lf;have hx:=oS x (by simp [k7.fo]) a h1a
  split at ht
  · rename_i t ht0
    unfold sq at ht;split at ht
    · rename_i el hu
      have cu: ∀{v:Value},(Builtin.len_ argTypes o.type #[ρ a]).run P w= .ok v w->(execOp ρ o).run P w= .ok (.value v) w:=by
       intro v hv;simp only [execOp,fB,resolve,Do,EQ,ww,invoke,builtin];rw [show afV ρ #[a]= #[ρ a] by simp,hv];rfl
      simp only [bE] at h;split at h
      · rename_i e' c rows hp
        rw [hp] at hx;obtain ⟨ad,cap,hv,_⟩:=hx.oa;injection h with h;subst h;exact .pure hk rfl rfl (cu (by simp [Builtin.len_,ht0,run_underlying hu,hv,goInt])) (.int _ _)
      · rename_i tk e' off len cap ex hp
        rw [hp] at hx;obtain ⟨li,ad,cV,hv,_⟩:=hx.gV;injection h with h;subst h;exact .pure hk rfl rfl (cu (by simp [Builtin.len_,ht0,run_underlying hu,hv,goInt])) (.int _ _)
      cases h
    cases ht
  cases ht
 case h_10 n args argTypes fB=>
  simp only [ut] at hc;obtain ⟨h0,ht⟩:=hc;have dW:args.size≠0:=by intro hz;have:args= #[]:=Array.eq_empty_of_size_eq_zero hz;subst this;simp at h0
  have ha0:(afV ρ args)[0]? =anH (ρ args[0]):=by simp [show 0<args.size by omega]
  simp only [bE,v6] at h;subst h;have cu: ∀{v:Value},(Builtin.len_ argTypes o.type (afV ρ args)).run P w= .ok v w->(execOp ρ o).run P w= .ok (.value v) w:=by
   intro v hv;simp only [execOp,fB,resolve,Do,EQ,ww,invoke,builtin,hv]
  refine .pure hk rfl rfl (cu ?_) (.int _ _);split at ht
  · rename_i t ht0
    split at ht
    · rename_i m el hu
      have hm:m=n:=by simpa using ht
      subst hm;simp only [Builtin.len_,ht0,ha0,Do,run_underlying hu,ww,goInt];cases ρ args[0]<;>rfl
    · rename_i el hu
      split at ht
      · rename_i m el2 hu2
        have hm:m=n:=by simpa using ht
        subst hm;simp only [Builtin.len_,ht0,ha0,Do,run_underlying hu,ww,goInt];cases ρ args[0]<;>simp [run_underlying hu2]
      cases ht
    cases ht
  cases ht
 case h_11 x el a fB=>
  have hx:=oS x (by simp [k7.fo]) a hc
  simp only [bE] at h;cases ck:(x.ev e).stored with
  |none=>rw [ck] at h;cases h
  |some cs=>
   rw [ck] at h;injection h with h;obtain ⟨rfl,Be⟩:=Am ck;obtain ⟨bo,hv,he⟩:=EN (el:=el) (hx.cells Be) h.symm hk;refine ⟨_,_,bo,?_,.inr ⟨_,rfl,hv⟩,he⟩;simp [execOp,fB,Instr.box,newVar,newRow]
 case h_12 cells t fB=>
  simp only [bE,v6] at h;unfold uh at hc;cases hi:P.info? t with
  |none=>rw [hi] at hc;cases hc
  |some i=>
   rw [hi] at hc;cases hz:i.zero with
   |none=>simp [hz] at hc
   |some z=>
    simp [hz] at hc;obtain ⟨bo,hv,he⟩:=EN (el:=t) (xH (im:=im) (loc:=loc) hc) h.symm hk;refine ⟨_,_,bo,?_,.inr ⟨_,rfl,hv⟩,he⟩;simp [execOp,fB,Instr.alloc,newVar,newRow,zeroValue,typeInfo,hi,hz]
 case h_13 zero parts t ps fB=>
  simp only [ut] at hc;obtain ⟨⟨⟨hz,_⟩,hp⟩,nS⟩:=hc;simp only [bE,AC] at h;obtain ⟨cs,mZ,rfl⟩:=h;have u5:=Bj (im:=im) (loc:=loc) (e:=e) (ρ:=ρ) (fun y hy=>oS y (by simpa [k7.fo] using hy)) hp
  obtain ⟨v,cu,hv⟩:=RE (P:=P) (w:=w) (qs:=ps.map fun (i,x)=>(i,ρ x)) hz nS (by simpa using u5) mZ
  exact .pure hk rfl rfl (by simp only [execOp,fB];exact eO cu) hv
 case h_14 esz n zero parts t m ps fB=>
  simp only [ut,beq_iff_eq] at hc;obtain ⟨⟨⟨⟨rfl,nS⟩,ly⟩,NK⟩,hp⟩:=hc;split at nS
  · rename_i el hu
    simp only [ut,beq_iff_eq,afa] at nS;obtain ⟨⟨⟨hs,hz⟩,hzl⟩,hnz⟩:=nS;simp only [bE,AC] at h;obtain ⟨rows,lB,h⟩:=h;obtain ⟨i,z,hi,IZ,cT,K4⟩:=EU hz NK;have D0:z.cells.size=esz:=by omega
    have db:=Cz K4 cT n;rw [D0] at db
    obtain ⟨Nz,h1,h2,h3,h4⟩:=Bi (n:=n) (esz:=esz) (xh (im:=im) (loc:=loc) (e:=e) (ρ:=ρ) (fun y hy=>oS y (by simpa [k7.fo] using hy)) hp) db (by simp) (by simp) lB
    obtain ⟨bo,hv,he⟩:=Dr (el:=el) h.symm hk h2 h3 h4 rfl (If _);refine ⟨_,_,bo,?_,.inr ⟨_,rfl,hv⟩,he⟩;have PL:(zeroValue el).run P w= .ok z w:=by simp [zeroValue,typeInfo,hi,IZ]
    have ly:n*esz<=1048576:=by simpa using ly
    have asQ: ¬(n*esz>2^24):=by omega
    simp only [execOp,fB,Instr.buildSlice,Do,run_underlying hu,ww,kH hs,asQ,if_false]
    by_cases h0:n*esz=0
    · have Xb:n=0:=by
       rcases ant.1 h0 with h|h
       · exact h
       rw [h] at hnz;simp at hnz
      subst Xb;simp only [anE] at h1;simp only [anE,if_true,Do,EQ,ww,aig];have e0:(afV (fun x=>(#[]:Array Value)[x%(#[]:Array Value).size]!) (agH 0))=(afV (fun x=>z.cells[x%esz]!) (agH 0)):=by simp
      rw [e0,h1];simp [newRow]
    simp only [h0,if_false,Do,PL,ww,EQ]
    simp only [D0,aig,h1];simp [newRow]
  cases nS
 case h_15 agg p t a fB=>
  simp only [ut] at hc;have hx:=oS p (by simp [k7.fo]) a hc.2
  simp only [bE] at h;obtain ⟨v,cu,hv,hn,hw⟩:=KO (P:=P) hx hc.1 h hk;exact .pure hk hn hw (by simp only [execOp,fB];exact eO cu) hv
 case h_16 sz p v t a b fB=>
  simp only [ut] at hc;simp only [bE] at h;obtain ⟨w',cu,xu,hu⟩:=RA (P:=P) (oS p (by simp [k7.fo]) a hc.1.2) (oS v (by simp [k7.fo]) b hc.2) hc.1.1 h hk
  exact ⟨.skip,w',loc,by simp only [execOp,fB,Do,cu,ww,EQ],.inl ⟨rfl,hu⟩,xu⟩
 case h_17 x a fB=>
  have hx:=oS x (by simp [k7.fo]) a hc
  simp only [bE] at h;split at h
  · rename_i t s r' o' hp
    rw [hp] at hx;injection h with h;subst h;obtain ⟨li,h1,h2,h3,hv⟩:=hx.yQ;exact .pure hk rfl rfl (by simp only [execOp,fB,hv];rfl) (by rw [<- hv];exact hx)
  · rename_i c o' hp
    rw [hp] at hx;injection h with h;subst h;obtain ⟨b,o2,vs,h1,h2,hv⟩:=hx.xJ;exact .pure hk rfl rfl (by simp only [execOp,fB,hv];rfl) (by rw [<- hv];exact hx)
  · rename_i f a' b' hp
    rw [hp] at hx;injection h with h;subst h;generalize hg:ρ a=g at hx;cases hx with
    |eI fn a b as bs ha hb=>
     exact .pure hk rfl rfl (by simp only [execOp,fB,hg];rfl) (.eI _ _ _ _ _ ha hb)
  cases h
 case h_18 off p t a f fB=>
  simp only [ut] at hc;obtain ⟨hc,h1⟩:=hc;have hx:=oS p (by simp [k7.fo]) a h1
  split at hc
  · rename_i fs hu
    split at hc
    · rename_i g hg
      simp only [ut,beq_iff_eq] at hc;obtain ⟨Cv,hi⟩:=hc;cases age:P.info? g.type with
      |none=>rw [age] at hi;cases hi
      |some i=>
       rw [age] at hi;have hz:i.size≠0:=by simpa using hi
       simp only [bE] at h
       have: ∃z,(match p.ev e with| .ptr t s r o=>anH (PV.ptr t s r (o+off))| .bH c o=>anH (PV.bH c (o+off))|_=>anI)=anH z/\r={v:=z}:=by
        revert h
        cases p.ev e<;>intro h<;>first|(injection h with h;exact ⟨_,rfl,h.symm⟩)|cases h
       obtain ⟨z,hz',rfl⟩:=this;obtain ⟨v,cu,hv⟩:=Ty (P:=P) (w:=w) hx hu hg Cv age hz hz';exact .pure hk rfl rfl (by simp only [execOp,fB];exact eO cu) hv
    cases hc
  cases hc
 case h_19 agg off x t a f fB=>
  simp only [ut] at hc;obtain ⟨hc,h1⟩:=hc;have hx:=oS x (by simp [k7.fo]) a h1
  split at hc
  · rename_i fs hu
    split at hc
    · rename_i g hg
      simp only [ut,beq_iff_eq] at hc;obtain ⟨Cv,hag⟩:=hc;simp only [bE] at h;split at h
      · rename_i cs hp
        rw [hp] at hx;obtain ⟨vs,hv,oU⟩:=hx.pM;rw [AC] at h;obtain ⟨z,hz,rfl⟩:=h;rw [<- Cv] at hz;obtain ⟨v,cu,NJ⟩:=KN (P:=P) (w:=w) hag oU hz;refine .pure hk rfl rfl ?_ NJ;simp only [execOp,fB];exact eO (by simp only [Instr.field,Do,run_underlying hu,ww,hg,hv,asAgg,EQ,cu])
      cases h
    cases hc
  cases hc
 case h_20 esz x i t a j fB=>
  simp only [ut] at hc;obtain ⟨⟨hs,h1⟩,h2⟩:=hc;have hx:=oS x (by simp [k7.fo]) a h1
  have hi:=oS i (by simp [k7.fo]) j h2
  simp only [bE] at h;cases hn:jZ (i.ev e) with
  |none=>rw [hn] at h;cases h
  |some n=>
   rw [hn] at h;dsimp only at h;obtain ⟨k,Ck⟩:=o7 hi hn;unfold yO at hs;split at hs
   · rename_i el hu
     have: ∃z,(match x.ev e with
      | .sl s _ rows=>match rows[n]? with
       |some cs=>if F0s s esz then anH (PV.bH cs 0) else anI
       |none=>anI
      | .own t s off len _ _=>if aga n len&&F0s s esz then anH (PV.ptr t s (off+n) 0) else anI
      |_=>anI)=anH z/\r={v:=z}:=by
      revert h
      cases x.ev e with
      |sl s c rows=>
       dsimp only;cases rows[n]? with
       |none=>intro h;cases h
       |some cs=>
        dsimp only;split
        · intro h;injection h with h;exact ⟨_,rfl,h.symm⟩
        intro h;cases h
      |own t s off len cap ex=>
       dsimp only;split
       · intro h;injection h with h;exact ⟨_,rfl,h.symm⟩
       intro h;cases h
      |_=>intro h;cases h
     obtain ⟨z,hz,rfl⟩:=this;obtain ⟨v,cu,hv⟩:=Tz (P:=P) (w:=w) (k:=k) hx hu hs hz;exact .pure hk rfl rfl (by simp only [execOp,fB,Ck];exact eO cu) hv
   cases hs
 case h_21 n esz p i t a j fB=>
  simp only [ut] at hc;obtain ⟨⟨hs,h1⟩,h2⟩:=hc;have hx:=oS p (by simp [k7.fo]) a h1
  have hi:=oS i (by simp [k7.fo]) j h2
  simp only [bE] at h;cases hn:jZ (i.ev e) with
  |none=>rw [hn] at h;cases h
  |some m=>
   rw [hn] at h;dsimp only at h;split at h
   · rename_i dI
     have dI:m<n:=by simpa using dI
     obtain ⟨k,Ck⟩:=o7 hi hn;unfold PI at hs;split at hs
     · rename_i m' el hu
       simp only [ut,beq_iff_eq] at hs;obtain ⟨rfl,hs⟩:=hs
       have: ∃z,(match p.ev e with| .ptr t s r o=>anH (PV.ptr t s r (o+m*esz))| .bH c o=>anH (PV.bH c (o+m*esz))|_=>anI)=anH z/\r={v:=z}:=by
        revert h
        cases p.ev e<;>intro h<;>first|(injection h with h;exact ⟨_,rfl,h.symm⟩)|cases h
       obtain ⟨z,hz,rfl⟩:=this;obtain ⟨v,cu,hv⟩:=Ry (P:=P) (w:=w) (k:=k) hx hu hs dI hz;exact .pure hk rfl rfl (by simp only [execOp,fB,Ck];exact eO cu) hv
     cases hs
   cases h
 case h_22 n esz agg x i t a j fB=>
  simp only [ut] at hc;obtain ⟨⟨hs,h1⟩,h2⟩:=hc;have hx:=oS x (by simp [k7.fo]) a h1
  have hi:=oS i (by simp [k7.fo]) j h2
  simp only [bE] at h;cases hn:jZ (i.ev e) with
  |none=>rw [hn] at h;cases h
  |some m=>
   rw [hn] at h;dsimp only at h;split at h
   · rename_i dI
     have dI:m<n:=by simpa using dI
     obtain ⟨k,Ck⟩:=o7 hi hn;split at hs
     · rename_i m' el hu
       simp only [ut,beq_iff_eq] at hs;obtain ⟨⟨rfl,hs⟩,hag⟩:=hs;split at h
       · rename_i cs hp
         rw [hp] at hx;obtain ⟨vs,hv,oU⟩:=hx.pM;rw [AC] at h;obtain ⟨z,hz,rfl⟩:=h;obtain ⟨v,cu,NJ⟩:=KN (P:=P) (w:=w) hag oU hz;refine .pure hk rfl rfl ?_ NJ;have asS:(0:Int)<=(m:Int)/\(m:Int)<(m':Int):=by omega
         simp only [execOp,fB];exact eO (by simp only [Instr.index,Ck,asIntOf,Do,EQ,run_underlying hu,ww,hv,asS,and_self,if_true,kH hs,agJ,cu])
       cases h
     cases hs
   cases h
 case h_23 x i t a j fB=>
  simp only [ut] at hc;obtain ⟨⟨hs,h1⟩,h2⟩:=hc;have hx:=oS x (by simp [k7.fo]) a h1
  have hi:=oS i (by simp [k7.fo]) j h2
  have hu:P.underlying t=anH .string:=by
   split at hs
   · assumption
   cases hs
  simp only [bE] at h;split at h
  · rename_i n s hn hp
    rw [hp] at hx;obtain ⟨k,Ck⟩:=o7 hi hn;split at h
    · rename_i b hb
      injection h with h;subst h;refine .pure hk rfl rfl ?_ (.int _ _);have h0:(0:Int)<=(n:Int):=by omega
      simp only [execOp,fB];exact eO (by simp only [Instr.index,Ck,asIntOf,Do,EQ,run_underlying hu,ww,hx.Eh,h0,if_true,agJ,hb])
    cases h
  cases h
 case h_24 esz x l hh m t a b c d fB=>
  simp only [ut] at hc;obtain ⟨⟨⟨⟨⟨h0,hs⟩,h1⟩,h2⟩,h3⟩,h4⟩:=hc;have hx:=oS x (by simp [k7.fo]) a h1
  simp only [bE] at h;split at h
  · cases h
  rename_i he
  have he:uP esz (x.ev e)=anJ:=by simpa using he
  obtain ⟨Tl,Dp⟩:=TI he;split at h
  · rename_i lo hi mx RJ hhi hmx
    rw [AC] at h;obtain ⟨z,hz,rfl⟩:=h;unfold yO at hs;split at hs
    · rename_i el hu
      have b1:=vN (im:=im) (loc:=loc) (e:=e) (ρ:=ρ) (fun y hy=>oS y (by simp only [k7.fo,afS,afi];exact .inr (.inl (.inl hy)))) h2 RJ
      have b2:=vN (im:=im) (loc:=loc) (e:=e) (ρ:=ρ) (fun y hy=>oS y (by simp only [k7.fo,afS,afi];exact .inr (.inl (.inr hy)))) h3 hhi
      have b3:=vN (im:=im) (loc:=loc) (e:=e) (ρ:=ρ) (fun y hy=>oS y (by simp only [k7.fo,afS,afi];exact .inr (.inr hy))) h4 hmx
      have TK:mx.isSome=anJ->hi.isSome=anJ:=by
       intro hmm;cases m with
       |none=>simp at hmx;subst hmx;cases hmm
       |some mo=>
        cases hh with
        |none=>simp at h0
        |some ho=>
         simp only [AC] at hhi;obtain ⟨q,_,rfl⟩:=hhi;rfl
      obtain ⟨v,cu,hv⟩:=RF (P:=P) (w:=w) hx hu hs b1 b2 b3 TK Tl Dp hz;exact .pure hk rfl rfl (by simp only [execOp,fB];exact eO cu) hv
    cases hs
  cases h
 case h_25 esz zero l c t a b fB=>
  simp only [ut] at hc;obtain ⟨⟨⟨nS,NK⟩,h1⟩,h2⟩:=hc;have hx:=oS l (by simp [k7.fo]) a h1
  have hy:=oS c (by simp [k7.fo]) b h2
  split at nS
  · rename_i el hu
    simp only [ut,beq_iff_eq,afa] at nS;obtain ⟨⟨⟨⟨hs,hz⟩,hzl⟩,NN⟩,hnz⟩:=nS;simp only [bE] at h;split at h
    · rename_i n m hn hm
      obtain ⟨k1,gS⟩:=o7 hx hn;obtain ⟨k2,Ck⟩:=o7 hy hm;split at h
      · rename_i ly
        simp only [ut,afK] at ly;injection h with h;obtain ⟨i,z,hi,IZ,cT,K4⟩:=EU hz NK;have D0:z.cells.size=esz:=by omega
        have db:=Cz K4 cT m;rw [D0] at db
        have ij:m<=1048576:=by simpa [eN] using ly.2
        obtain ⟨bo,hv,he⟩:=Dr (el:=el) h.symm hk db (by simp) (by simp) rfl ly.1
        refine ⟨_,_,bo,?_,.inr ⟨_,rfl,hv⟩,he⟩;have PL:(zeroValue el).run P w= .ok z w:=by simp [zeroValue,typeInfo,hi,IZ]
        have hti:(typeInfo el).run P w= .ok i w:=by simp [typeInfo,hi]
        have Tn:i.bytes<=1048576:=by
         unfold Ef at NN;rw [hi] at NN;simpa using NN
        have hw1:IntKind.i64.wrap (n:Int)=n:=Eg (by omega) (by omega)
        have Xg:IntKind.i64.wrap (m:Int)=m:=Eg (by omega) (by omega)
        have awm:i.bytes*m<=1099511627776:=by
         have:=anv Tn ij
         omega
        have Dq: ¬((i.bytes:Int)*(m:Int)>2^48):=by
         have:((i.bytes*m:Nat):Int)=(i.bytes:Int)*(m:Int):=by simp
         omega
        have NS:(sizeOf el).run P w= .ok esz w:=kH hs;simp only [execOp,fB,gS,Ck,Instr.makeSlice,asInt,asIntOf,Do,run_underlying hu,ww,EQ,hti,hw1,Xg];have PQ:((anL ((m:Int)<0)||anL ((i.bytes:Int)*(m:Int)>2^48))||anL ((n:Int)<0)||anL ((n:Int)>(m:Int)))=anK:=by
         simp only [Bool.or_eq_false_iff,decide_eq_false_iff_not];refine ⟨⟨⟨by omega,Dq⟩,by omega⟩,by omega⟩
        rw [PQ];simp only [af2,if_false,Do,run_askRoom,ww,NS,agJ]
        by_cases h0:m*esz=0
        · have hm0:m=0:=by
           rcases ant.1 h0 with h|h
           · exact h
           rw [h] at hnz;simp at hnz
          subst hm0;simp [newRow]
          congr 2
          apply Array.ext<;>simp
        simp only [h0,if_false,Do,PL,ww,EQ,D0]
        simp [newRow]
      cases h
    cases h
  cases nS
 case h_26 fn a b g c d fB=>
  simp only [ut,beq_iff_eq] at hc;obtain ⟨⟨rfl,h1⟩,h2⟩:=hc;simp only [bE,v6] at h;subst h;have r1:=nu (im:=im) (loc:=loc) (e:=e) (ρ:=ρ) (fun y hy=>oS y (by simp [k7.fo,hy])) h1
  have r2:=nu (im:=im) (loc:=loc) (e:=e) (ρ:=ρ) (fun y hy=>oS y (by simp [k7.fo,hy])) h2
  refine .pure (v:= .func (.func fn) (c.map ρ) (d.map ρ)) hk rfl rfl (by simp only [execOp,fB];exact eO rfl) ?_
  have:=VR.eI (im:=im) (loc:=loc) fn _ _ _ _ r1 r2
  have e1:(⟨c.toList.map ρ⟩:Array Value)=c.map ρ:=afc (by simp)
  have e2:(⟨d.toList.map ρ⟩:Array Value)=d.map ρ:=afc (by simp)
  rw [e1,e2] at this;exact this
 case h_27 t fB=>
  simp only [bE,v6] at h
  let li:LI:=⟨w.heap.size,0,0,0,0⟩
  refine ⟨.value (.map (anH w.heap.size)),{w with heap:=w.heap.push (.map #[] 0)},loc.set (anG aE) li,?_,.inr ⟨_,rfl,?_⟩,?_⟩
  · simp [execOp,fB,Instr.makeMap]
  · subst h;exact .mp (anG aE) li (Loc.eQ _ _ _)
  refine tg.new hk (k:= .map []) (o:= .map #[] 0) li (by rw [<- h]) (by rw [<- h]) rfl rfl rfl rfl rfl ⟨#[],0,by simp [li],trivial⟩
 case h_28 i x a j fB=>
  simp only [ut,beq_iff_eq] at hc;obtain ⟨rfl,h1⟩:=hc;have hx:=oS x (by simp [k7.fo]) a h1
  simp only [bE] at h;split at h
  · rename_i vs hp
    rw [hp] at hx;obtain ⟨us,hv,oU⟩:=hx.Bd;rw [AC] at h;obtain ⟨z,hz,rfl⟩:=h;obtain ⟨u,hu,hur⟩:=oU.get i z hz;have Cl:(⟨us⟩:Array Value)[i]? =anH u:=by simpa using hu
    exact .pure hk rfl rfl (by simp only [execOp,fB];exact eO (by simp [Instr.extract,hv,Cl])) hur
  cases h
 case h_29 esz x y args argTypes fB=>
  simp only [ut] at hc;obtain ⟨nS,h1⟩:=hc;obtain ⟨a,b,RG,h1a,h1b⟩:=K2 h1;have lf:args= #[a,b]:=afc (by simpa using RG)
  subst lf;have hx:=oS x (by simp [k7.fo]) a h1a
  have hy:=oS y (by simp [k7.fo]) b h1b
  split at nS
  · rename_i t tx db
    have E0:argTypes= #[t,tx]:=afc (by simpa using db)
    subst E0;simp only [ut] at nS;obtain ⟨nS,WT⟩:=nS;unfold sq at WT;split at WT
    · rename_i e' htx
      split at nS
      · rename_i el hu
        simp only [ut] at nS;obtain ⟨⟨⟨hs,NN⟩,hnz⟩,hz⟩:=nS;cases hi:P.info? el with
        |none=>rw [hi] at hz;cases hz
        |some i=>
         rw [hi] at hz;cases IZ:i.zero with
         |none=>simp [IZ] at hz
         |some z=>
          have KT:z.cells.size=esz:=by
           rw [anu,IZ,anu] at hz;simpa using hz
          have qR:i.size=esz:=by unfold oT at hs;rw [hi] at hs;simpa using hs
          have Tn:i.bytes<=1048576:=by unfold Ef at NN;rw [hi] at NN;simpa using NN
          simp only [bE] at h;obtain ⟨v',w',bo,cu,hv,xu⟩:=EP (P:=P) (ty:=o.type) hu htx hi qR IZ KT Tn hx hy h hk;refine ⟨.value v',w',bo,?_,.inr ⟨v',rfl,hv⟩,xu⟩;simp only [execOp,fB,resolve,Do,EQ,ww,invoke,builtin];rw [show afV ρ #[a,b]= #[ρ a,ρ b] by simp,cu];rfl
      cases nS
    cases WT
  cases nS
 case h_30 n zero ok m k t a b ok' fB=>
  simp only [ut,beq_iff_eq] at hc;obtain ⟨⟨⟨rfl,nS⟩,h1⟩,h2⟩:=hc;have hm:=oS m (by simp [k7.fo]) a h1
  have uX:=oS k (by simp [k7.fo]) b h2
  split at nS
  · rename_i kt et ht
    simp only [ut] at nS;obtain ⟨hkt,hz⟩:=nS;have hz': ∃i z,P.info? et=anH i/\i.zero=anH z/\VR im loc zero z:=by
     cases hi:P.info? et with
     |none=>rw [hi] at hz;cases hz
     |some i=>
      cases IZ:i.zero with
      |none=>rw [hi] at hz;simp [IZ] at hz
      |some z=>rw [hi] at hz;simp [IZ] at hz;exact ⟨i,z,rfl,IZ,IX hz⟩
    simp only [bE] at h;obtain ⟨v,cu,hv,hn,hw⟩:=NQ (P:=P) ht hkt hz' hm uX h hk;exact .pure hk hn hw (by simp only [execOp,fB];exact eO cu) hv
  cases nS
 case h_31 n m k v t a b c fB=>
  simp only [ut] at hc;obtain ⟨⟨⟨nS,h1⟩,h2⟩,h3⟩:=hc;split at nS
  · rename_i kt et ht
    simp only [bE] at h;obtain ⟨w',cu,xu,hu⟩:=K0 (P:=P) ht nS (oS m (by simp [k7.fo]) a h1) (oS k (by simp [k7.fo]) b h2) (oS v (by simp [k7.fo]) c h3) h hk
    exact ⟨.skip,w',loc,by simp only [execOp,fB,Do,cu,ww,EQ],.inl ⟨rfl,hu⟩,xu⟩
  cases nS
 case h_32 esz x y args argTypes fB=>
  simp only [ut] at hc;obtain ⟨nS,h1⟩:=hc;obtain ⟨a,b,RG,h1a,h1b⟩:=K2 h1;have lf:args= #[a,b]:=afc (by simpa using RG)
  subst lf;have hx:=oS x (by simp [k7.fo]) a h1a
  have hy:=oS y (by simp [k7.fo]) b h1b
  split at nS
  · rename_i t tx db
    have E0:argTypes= #[t,tx]:=afc (by simpa using db)
    subst E0;simp only [ut] at nS;obtain ⟨WT,_⟩:=nS;unfold yO at WT;split at WT
    · rename_i el hu
      have RK: ∀{v:Value} {w':World},(Builtin.copy_ #[t,tx] o.type #[ρ a,ρ b]).run P w= .ok v w'->(execOp ρ o).run P w= .ok (.value v) w':=by
       intro v w' hv;simp only [execOp,fB,resolve,Do,EQ,ww,invoke,builtin];rw [show afV ρ #[a,b]= #[ρ a,ρ b] by simp,hv];rfl
      simp only [bE] at h;split at h
      · rename_i src tk s off len cap ex A8 WU
        rw [WU] at hx;have agf:Nat.min (anG src) len=min (anG src) len:=rfl;have Hc:r.rd=iO (y.ev e):=by
         split at h
         · injection h with h;rw [<- h]
         split at h
         · split at h
           · injection h with h;rw [<- h]
           cases h
         cases h
        obtain ⟨g1,g2,g3,g4⟩:=NR (P:=P) (w:=w) hy A8 (min (anG src) len) (Nat.min_le_left _ _) hk.bG (fun t ht=>hk.tok t (.inl (by rw [Hc];exact ht)))
        have CB:(src.take (min (anG src) len))=src.take len:=by
         rcases Nat.le_total (anG src) len with h'|h'
         · rw [ans h',alt (If _),alt h']
         rw [Nat.min_eq_right h']
        rw [CB] at g2;have NS:(sizeOf el).run P w= .ok esz w:=kH WT;split at h
        · rename_i Hh
          injection h with h;subst h;rw [Hh] at g2;have h0:min (anG src) len=0:=by
           have:=congrArg anF Hh
           simp only [agX,am6] at this;omega
          obtain ⟨li,ad,cV,hv,_⟩:=hx.gV;refine .pure (v:= .int .i64 0) hk rfl rfl (RK ?_) (.int _ _);have g2':(Builtin.firstCells esz 0 (ρ b)).run P w= .ok #[] w:=by rw [h0] at g2;simpa using g2
          simp only [Builtin.copy_,hv];cases ad with
          |none=>simp [run_underlying hu,g1,agf,h0,NS,g2',goInt]
          |some ad=>simp [run_underlying hu,g1,agf,h0,NS,g2',goInt,storeCells]
        rename_i r1 rs TL
        split at h
        · rename_i s' rows ck
          split at h
          · rename_i NI
            simp only [ut,afg,afa] at NI;obtain ⟨rfl,hnf⟩:=NI;injection h with h;have W8:s'=s:=by
             obtain ⟨li,ad,cV,hv,hl,he,_⟩:=hx.gV;obtain ⟨k,gS,hb⟩:=hk.tok tk (.inr ⟨_,by rw [<- h];simp;rfl⟩) li hl
             rw [ck] at gS;injection gS with gS;subst gS;rw [<- hb.1,he]
            subst W8;have vM: ∀q,q∈r1::rs->q∈src:=fun q hq=>by rw [<- TL] at hq;exact List.mem_of_mem_take hq
            have afl:min (anG src) len=anG rs+1:=by
             have:=congrArg anF TL
             simp only [agX,afE] at this;omega
            rw [TL] at g2;obtain ⟨b',o',c',w',hv,cu,xu⟩:=K1 (P:=P) (new:=r1::rs) hx ck (by simp) (by simp;omega) (fun q hq=>g3 q (vM q hq)) (fun q hq=>g4 q (vM q hq)) h.symm hk
            refine ⟨.value (.int .i64 (Int.ofNat (anG rs+1))),w',loc,RK ?_,.inr ⟨_,rfl,by rw [<- h];exact .int _ _⟩,xu⟩
            rw [afl] at g2;simp only [Builtin.copy_,hv];simp [run_underlying hu,g1,agf,afl,NS,g2,goInt,-afj];rw [cu];rfl
          cases h
        cases h
      cases h
    cases WT
  cases nS
 case h_33 esz zero x args argTypes fB=>
  simp only [ut] at hc;obtain ⟨nS,h1⟩:=hc;obtain ⟨a,ha,h1a⟩:=K3 h1;have lf:args= #[a]:=afc (by simpa using ha)
  subst lf;have hx:=oS x (by simp [k7.fo]) a h1a
  split at nS
  · rename_i t db
    have E0:argTypes= #[t]:=afc (by simpa using db)
    subst E0;split at nS
    · rename_i el hu
      simp only [ut,beq_iff_eq] at nS;obtain ⟨⟨⟨hs,hz⟩,hzl⟩,NK⟩:=nS;have RK: ∀{v:Value} {w':World},(Builtin.clear_ #[t] o.type #[ρ a]).run P w= .ok v w'->(execOp ρ o).run P w= .ok (.value v) w':=by
       intro v w' hv;simp only [execOp,fB,resolve,Do,EQ,ww,invoke,builtin];rw [show afV ρ #[a]= #[ρ a] by simp,hv];rfl
      simp only [bE] at h;split at h
      · rename_i tk s off len cap ex WU
        rw [WU] at hx;split at h
        · injection h with h;subst h
          obtain ⟨li,ad,cV,hv,_⟩:=hx.gV;refine .pure (v:= .tuple #[]) hk rfl rfl (RK ?_) (.undef _);simp only [Builtin.clear_,hv];cases ad<;>simp [run_underlying hu]
        rename_i len
        split at h
        · rename_i s' rows ck
          split at h
          · rename_i NI
            simp only [ut,afg,afa] at NI;obtain ⟨rfl,hnf⟩:=NI;injection h with h;have W8:s'=s:=by
             obtain ⟨li,ad,cV,hv,hl,he,_⟩:=hx.gV;obtain ⟨k,gS,hb⟩:=hk.tok tk (.inr ⟨_,by rw [<- h];simp;rfl⟩) li hl
             rw [ck] at gS;injection gS with gS;subst gS;rw [<- hb.1,he]
            subst W8;obtain ⟨i,z,hi,IZ,cT,K4⟩:=EU hz NK;have KQ: ∀q∈aff (len+1) zero,anG q=s':=fun q hq=>by rw [(an2.1 hq).2];exact hzl
            have Xe: ∀q∈aff (len+1) zero,∀c∈q,c.plain=anJ:=fun q hq c hc=>by rw [(an2.1 hq).2] at hc;exact anq.1 NK c hc
            obtain ⟨b',o',c',w',hv,cu,xu⟩:=K1 (P:=P) (new:=aff (len+1) zero) hx ck (by simp) (by simp) KQ Xe h.symm hk
            refine ⟨.value (.tuple #[]),w',loc,RK ?_,.inr ⟨_,rfl,by rw [<- h];exact .undef _⟩,xu⟩
            have PL:(zeroValue el).run P w= .ok z w:=by simp [zeroValue,typeInfo,hi,IZ]
            have hzc:(Builtin.zeroCells z.cells (len+1)).toList=(aff (len+1) zero).flatMap aV:=by
             have db:=Cz K4 cT (len+1);have TA:=dF KQ;have qR:=xM z.cells (len+1);apply agG;intro j;rcases adc j ((aff (len+1) zero).flatMap aV).length with hj|hj
             · have hfj:=db.flat j _ (NE hj)
               rw [NE hj,<- hfj];simp only [Builtin.zeroCells,aku,Array.getElem?_toList]
             rw [M2 hj,M2]
             simp only [afo,qR];rw [TA] at hj;simp only [List.length_replicate] at hj;rw [<- cT,hzl];exact hj
            simp only [Builtin.clear_,hv];simp [run_underlying hu,PL,hzc,-afj];rw [cu];rfl
          cases h
        cases h
      · rename_i e1 c1 WU
        rw [WU] at hx;injection h with h;subst h;obtain ⟨ad,cV,hv,_⟩:=hx.oa;refine .pure (v:= .tuple #[]) hk rfl rfl (RK ?_) (.undef _);simp only [Builtin.clear_,hv];cases ad<;>simp [run_underlying hu]
      cases h
    cases nS
  cases nS
 case h_34 isMax x xs b args WV fB=>
  simp only [ut] at hc;obtain ⟨hb,h1⟩:=hc;simp only [bE] at h;have u5:=nu (im:=im) (loc:=loc) (e:=e) (ρ:=ρ) (fun y hy=>oS y (by simpa [k7.fo] using hy)) h1
  split at h
  · rename_i k a hp
    rw [AC] at h;obtain ⟨z,hz,rfl⟩:=h;have gL:EE e (x::xs)= .int k a::EE e xs:=by simp [EE,hp]
    rw [gL] at u5;generalize hl:args.toList.map ρ=l at u5;cases u5 with
    |cons _ u _ us h1 h2=>
     obtain rfl:=h1.gx;obtain ⟨c,rfl,cu⟩:=PM (P:=P) (w:=w) (isMax:=isMax) h2 hz;refine .pure hk rfl rfl ?_ (.int k c);have mA:(args.map ρ).toList= .int k a::us:=by simpa using hl
     have Tn:b=if isMax then .max else .min:=by cases isMax<;>simpa using hb
     subst Tn;cases isMax with
     |true=>
      simp only [if_true] at fB cu;simp only [execOp,fB,resolve,Do,EQ,ww,invoke,builtin,Builtin.max_,mA,cu]
     |false=>
      simp only [af2,if_false] at fB cu;simp only [execOp,fB,resolve,Do,EQ,ww,invoke,builtin,Builtin.min_,mA,cu]
  cases h
 case h_37 x y t m ps fB=>
  simp only [ut,beq_iff_eq] at hc;obtain ⟨⟨rfl,nS⟩,hp⟩:=hc;split at nS
  · rename_i el hu
    simp only [ut] at nS;obtain ⟨hs,hz⟩:=nS;split at hp
    · rename_i i a j b hps
      simp only [ut,beq_iff_eq] at hp;obtain ⟨⟨⟨rfl,rfl⟩,h1⟩,h2⟩:=hp;simp only [bE] at h;split at h
      · rename_i Be
        simp only [ut] at Be;injection h with h;have hx:=oS x (by simp [k7.fo]) a h1
        have hy:=oS y (by simp [k7.fo]) b h2
        obtain ⟨bo,hv,he⟩:=KP (el:=el) hx hy h.symm hk;refine ⟨_,_,bo,?_,.inr ⟨_,rfl,hv⟩,he⟩;have IZ: ∃i z,P.info? el=anH i/\i.zero=anH z/\z.cells.size=1:=by
         cases hi:P.info? el with
         |none=>rw [hi] at hz;cases hz
         |some i=>
          cases hq:i.zero with
          |none=>rw [hi] at hz;simp [hq] at hz
          |some z=>rw [hi] at hz;simp [hq] at hz;exact ⟨i,z,rfl,hq,hz⟩
        obtain ⟨i,z,hi,hq,qR⟩:=IZ;have PL:(zeroValue el).run P w= .ok z w:=by simp [zeroValue,typeInfo,hi,hq]
        have c1:(ρ a).cells= #[ρ a]:=by
         obtain ⟨q1,q2⟩:=hx.IW Be.1;cases NA:ρ a<;>first|rfl|exact absurd NA (q1 _)|exact absurd NA (q2 _)
        have c2:(ρ b).cells= #[ρ b]:=by
         obtain ⟨q1,q2⟩:=hy.IW Be.2;cases NA:ρ b<;>first|rfl|exact absurd NA (q1 _)|exact absurd NA (q2 _)
        have fl: ∀q:Value,Instr.fill (fun i=>anH (i*1,1)) #[q,q] [(0,ρ a),(1,ρ b)]=anH #[ρ a,ρ b]:=fun q=>by
         have s1:(⟨mM (0*1) (ρ a).cells.toList (#[q,q]:Array Value).toList⟩:Array Value)= #[ρ a,q]:=by rw [c1];rfl
         have s2:(⟨mM (1*1) (ρ b).cells.toList (#[ρ a,q]:Array Value).toList⟩:Array Value)= #[ρ a,ρ b]:=by rw [c2];rfl
         rw [yR (place:=fun i=>anH (i*1,1)) rfl (by rw [c1];rfl) (by simp),s1,yR (place:=fun i=>anH (i*1,1)) rfl (by rw [c2];rfl) (by simp),s2]
         rfl
        simp only [execOp,fB,Instr.buildSlice,Do,run_underlying hu,ww,kH hs];have e0:(afV (fun x=>z.cells[x%z.cells.size]!) (agH (2*1)))= #[z.cells[0]!,z.cells[0]!]:=by
         rw [qR,show agH (2*1)= #[0,1] from by decide];simp [Nat.mod_one]
        have big: ¬(2*1>2^24):=by decide
        have nz: ¬(2*1=0):=by decide
        have ml:(ps.map fun (i,x)=>(i,ρ x)).toList=[(0,ρ a),(1,ρ b)]:=by rw [aig,hps];rfl
        simp only [big,nz,if_false,Do,PL,ww,EQ];rw [e0,ml,fl];simp [newRow]
      cases h
    cases hp
  cases nS
 case h_38 n m k v t a b c fB=>
  simp only [ut] at hc;obtain ⟨⟨⟨nS,h1⟩,h2⟩,h3⟩:=hc;split at nS
  · rename_i kt et ht
    simp only [bE] at h;obtain ⟨w',cu,xu,hu⟩:=K0 (P:=P) ht nS (oS m (by simp [k7.fo]) a h1) (oS k (by simp [k7.fo]) b h2) (oS v (by simp [k7.fo]) c h3) h hk
    exact ⟨.skip,w',loc,by simp only [execOp,fB,Do,cu,ww,EQ],.inl ⟨rfl,hu⟩,xu⟩
  cases nS
 all_goals first|(simp only [bE] at h;cases h;done)|(simp at hc;done)
end
end Go.Vm
/- What goes over the border of a pure call, and what comes back. -/
namespace Go.Vm
def gf:Loc:=fun _=>anI
def grow (im:Im) (w:World) (bs:List Nat):Im:=fun b=>match im b with
 |some o=>anH o
 |none=>if bs.contains b then w.heap[b]? else anI
theorem I4 (im:Im) (w:World) (bs:List Nat):nZ im (grow im w bs):=fun b o h=>by unfold grow;rw [h]
theorem PR {im:Im} {w:World} {bs:List Nat} (h: ∀b o,im b=anH o->w.heap[b]? =anH o): ∀b o,grow im w bs b=anH o->w.heap[b]? =anH o:=by
 intro b o hb;unfold grow at hb;split at hb
 · rename_i o' ho;injection hb with hb;subst hb;exact h b _ ho
 split at hb
 · exact hb
 cases hb
theorem Xh {im:Im} {w:World} {bs:List Nat} (h: ∀b o,im b=anH o->w.heap[b]? =anH o) {b:Nat} (hb:b∈bs):grow im w bs b=w.heap[b]?:=by
 unfold grow;split
 · rename_i o ho;exact (h b o ho).symm
 rw [pp (by simpa using hb)]
theorem TM {im:Im} {w:World} {bs:List Nat} {b:Nat} {o:Obj} (h:grow im w bs b=anH o):im b=anH o\/b∈bs:=by
 unfold grow at h;split at h
 · rename_i o' ho;injection h with h;subst h;exact .inl ho
 split at h
 · rename_i hc;exact .inr (by simpa using hc)
 cases h
def As (loc:Loc) (aE:cH) (tk:List Nat):List Nat:=tk.filterMap fun t=>if (aE[t]?).any jX.bL then (loc t).map (·.df) else anI
theorem Au {loc:Loc} {aE:cH} {tk:List Nat} {b:Nat}:b∈As loc aE tk↔ ∃t li k,t∈tk/\loc t=anH li/\aE[t]? =anH k/\k.bL=anJ/\li.df=b:=by
 unfold As;rw [List.mem_filterMap];constructor
 · rintro ⟨t,ht,h⟩
   split at h
   · rename_i hs
     rw [AC] at h;obtain ⟨li,hl,rfl⟩:=h;cases hk:aE[t]? with
     |none=>rw [hk] at hs;cases hs
     |some k=>rw [hk] at hs;exact ⟨t,li,k,ht,hl,hk,hs,rfl⟩
   cases h
 rintro ⟨t,li,k,ht,hl,hk,hs,rfl⟩
 exact ⟨t,ht,by rw [hk,hl];simp [hs]⟩
theorem nv {e:Nat} {rows:List Row} (h:rows≠[]):(jX.arr e rows).bL=anJ:=by
 cases rows with
 |nil=>exact absurd rfl h
 |cons _ _=>rfl
section
variable {im eA : Im} {loc : Loc} {aE : cH} {w : World}
def Over (im eA:Im) (loc:Loc) (aE:cH) (w:World) (t:Nat):Prop:=
 ∀li,loc t=anH li-> ∃k,aE[t]? =anH k/\BR im loc w li k/\(k.bL=anJ->eA li.df=w.heap[li.df]?)
def agh (eA:Im) (loc:Loc) (bx:Nat->Option (List PV)) (t:Nat):Prop:=
 ∀li cs,loc t=anH li->bx t=anH cs-> ∃vs,eV eA gf cs vs/\ ∀(j:Nat) (v:Value),vs[j]? =anH v->nY eA li.df (li.sh+j)=anH v
theorem yS {b o:Nat} {cs:Array Value} {el:TypeId} {fr:Nat×Nat} (h:im b=anH (.cells cs el fr)):nY im b o=cs[o]?:=by
 unfold nY;rw [h]
theorem bO.K5 {get:Nat->Option Value} {sh esz off len:Nat} {rows:List Row} (h:bO get sh esz rows):bO get (sh+off*esz) esz ((rows.drop off).take len):=(h.drop off).take len
mutual
theorem agi (hi:nZ im eA) {bx:Nat->Option (List PV)} {tb:Nat->List Nat} (hb: ∀t,(∀u,u∈tb t->Over im eA loc aE w u)->Over im eA loc aE w t->agh eA loc bx t):
 ∀{x y:PV} {v:Value},(∀t,t∈jc tb x->Over im eA loc aE w t)->VR im loc x v->Co aE bx x=anH y->VR eA gf y v
 | .undef,y,v,_,_,h=>by simp [Co] at h
 | .jB,y,v,_,_,h=>by simp [Co] at h
 | .int k n,y,v,_,hv,h=>by simp only [Co,v6] at h;subst h;rw [hv.gx];exact .int _ _
 | .bool b,y,v,_,hv,h=>by simp only [Co,v6] at h;subst h;rw [hv.jE];exact .bool _
 | .str b,y,v,_,hv,h=>by simp only [Co,v6] at h;subst h;rw [hv.Eh];exact .str _
 | .agg cs,y,v,ht,hv,h=>by
  simp only [Co,AC] at h;obtain ⟨ys,TN,rfl⟩:=h;obtain ⟨vs,rfl,oU⟩:=hv.pM;exact .agg _ _ (xQ hi hb (fun t h=>ht t (by simpa [jc] using h)) oU TN)
 | .cq cs,y,v,ht,hv,h=>by
  simp only [Co,AC] at h;obtain ⟨ys,TN,rfl⟩:=h;obtain ⟨vs,rfl,oU⟩:=hv.Bd;exact .cq _ _ (xQ hi hb (fun t h=>ht t (by simpa [jc] using h)) oU TN)
 | .sl e c rows,y,v,_,hv,h=>by
  simp only [Co,v6] at h;subst h;obtain ⟨a,cap,rfl,h1,h2,h3⟩:=hv.oa;exact .sl e anK rows a cap h1 (by simp) fun dW=>let ⟨b,o,ha,hr⟩:=h3 dW;⟨b,o,ha,hr.mono fun _ _ e=>hi.cell e⟩
 | .own t e off len cap ex,y,v,ht,hv,h=>by
  obtain ⟨li,a,cV,rfl,hl,h2,h3,h4,h5,h6,h7⟩:=hv.gV;obtain ⟨k,hk,sy,Xi⟩:=ht t (by simp [jc]) li hl
  simp only [Co,hk] at h;cases k with
  |arr e' rows=>
   simp only [v6] at h;subst h;obtain ⟨b1,b2,b3⟩:=sy;have cT:((rows.drop off).take len).length=len:=by simp;omega
   have he:e'=e:=by rw [<- b1,h2]
   subst he
   have:=VR.sl (im:=eA) (loc:=gf) e' anK ((rows.drop off).take len) a cV (by omega) (by simp) (fun dW=>by
    have oe:rows≠[]:=by intro e;subst e;simp at dW
    obtain ⟨arr,el,ti,IY,Kx,db⟩:=b3 oe;rcases h7 with h7|⟨_,rfl,_⟩
    · exfalso;apply dW;apply akr.1;omega
    refine ⟨_,_,rfl,db.K5.mono fun k v hkv=>?_⟩
    rw [yS (by rw [Xi (nv oe)];exact ti)];exact hkv)
   rwa [cT] at this
  |_=>cases h
 | .ptr t e row off,y,v,ht,hv,h=>by
  obtain ⟨li,hl,he,hn,rfl⟩:=hv.yQ;obtain ⟨k,hk,sy,Xi⟩:=ht t (by simp [jc]) li hl
  simp only [Co,hk] at h;cases k with
  |arr e' rows=>
   simp only [AC] at h;obtain ⟨r,hr,rfl⟩:=h;obtain ⟨b1,b2,b3⟩:=sy;have oe:rows≠[]:=by intro e;subst e;simp at hr
   obtain ⟨arr,el,ti,IY,Kx,db⟩:=b3 oe;have NH:e'=e:=by rw [<- b1,he]
   subst NH;obtain ⟨h1,h2⟩:=th (im:=eA) (loc:=gf) db hr;exact .bH r off li.df (li.sh+row*e') _ h1 fun j v hj=>by rw [yS (by rw [Xi (nv oe)];exact ti)];exact h2 j v hj
  |box cs=>
   dsimp only at h;split at h
   · rename_i uW
     have uW:row=0:=by simpa using uW
     subst uW;rw [AC] at h;obtain ⟨ys,TN,rfl⟩:=h;obtain ⟨vs,h1,h2⟩:=hb t (fun u hu=>ht u (by simp [jc,hu])) (ht t (by simp [jc])) li ys hl TN
     exact .bH ys off li.df (li.sh+0*e) vs h1 fun j v hj=>by simpa using h2 j v hj
   cases h
  |_=>cases h
 | .bH cs off,y,v,ht,hv,h=>by
  simp only [Co,AC] at h;obtain ⟨ys,TN,rfl⟩:=h;obtain ⟨b,o,vs,h1,h2,rfl⟩:=hv.xJ;exact .bH ys off b o vs (xQ hi hb (fun t h=>ht t (by simpa [jc] using h)) h1 TN) fun j v hj=>hi.cell (h2 j v hj)
 | .mp t,y,v,_,_,h=>by simp [Co] at h
 | .eI fn a b,y,v,ht,hv,h=>by
  simp only [Co] at h;cases ha:Cp aE bx a with
  |none=>rw [ha] at h;cases h
  |some a'=>
   cases A6:Cp aE bx b with
   |none=>rw [ha,A6] at h;cases h
   |some b'=>
    rw [ha,A6] at h;simp only [v6] at h;subst h;cases hv with
    |eI _ _ _ as bs h1 h2=>
     exact .eI fn a' b' as bs (xQ hi hb (fun t h=>ht t (by simp [jc,h])) h1 ha) (xQ hi hb (fun t h=>ht t (by simp [jc,h])) h2 A6)
 | .dR,y,v,_,hv,h=>by
  simp only [Co,v6] at h;subst h;cases hv;exact .dR
theorem xQ (hi:nZ im eA) {bx:Nat->Option (List PV)} {tb:Nat->List Nat} (hb: ∀t,(∀u,u∈tb t->Over im eA loc aE w u)->Over im eA loc aE w t->agh eA loc bx t):
 ∀{x y:List PV} {v:List Value},(∀t,t∈dD tb x->Over im eA loc aE w t)->eV im loc x v->Cp aE bx x=anH y->eV eA gf y v
 | [],y,v,_,hv,h=>by simp only [Cp,v6] at h;subst h;cases hv;exact .nil
 |x::xs,y,v,ht,hv,h=>by
  simp only [Cp] at h;cases hx:Co aE bx x with
  |none=>rw [hx] at h;cases h
  |some x'=>
   cases RC:Cp aE bx xs with
   |none=>rw [hx,RC] at h;cases h
   |some xs'=>
    rw [hx,RC] at h;simp only [v6] at h;subst h;cases hv with
    |cons _ u _ us h1 h2=>
     exact .cons _ _ _ _ (agi hi hb (fun t h=>ht t (by simp [dD,h])) h1 hx) (xQ hi hb (fun t h=>ht t (by simp [dD,h])) h2 RC)
end
theorem PS (hi:nZ im eA): ∀(n:Nat) (t:Nat),(∀u,u∈di aE n t->Over im eA loc aE w u)->Over im eA loc aE w t->agh eA loc (xD aE n) t
 |0,t,_,_=>by intro li cs _ h;cases h
 |n+1,t,ht,hto=>by
  intro li cs hl h;obtain ⟨k,hk,sy,Xi⟩:=hto li hl;simp only [xD,hk] at h;cases k with
  |box cells=>
   dsimp only at h;obtain ⟨b1,b2,b3,vs,el,h4,h5,h6⟩:=sy;refine ⟨vs,xQ hi (fun t'=>PS hi n t') (tb:=di aE n) (fun u hu=>ht u (by simp [di,hk,hu])) h6 h,fun j v hj=>?_⟩
   rw [yS (by rw [Xi rfl];exact h4),b3]
   simpa using hj
  |_=>cases h
end
end Go.Vm
/- A pure call: what comes back. -/
namespace Go.Vm
section
variable {im eA : Im} {loc bo : Loc} {aE : cH} {w : World}
mutual
theorem K6: ∀{x:PV} {v:Value},x.kF=anJ->VR im loc x v->VR eA bo x v
 | .int k n,v,_,h=>by rw [h.gx];exact .int _ _
 | .bool b,v,_,h=>by rw [h.jE];exact .bool _
 | .str s,v,_,h=>by rw [h.Eh];exact .str _
 | .agg cs,v,hn,h=>by
  obtain ⟨vs,rfl,hr⟩:=h.pM;exact .agg _ _ (CC (by simpa [PV.kF] using hn) hr)
 | .cq cs,v,hn,h=>by
  obtain ⟨vs,rfl,hr⟩:=h.Bd;exact .cq _ _ (CC (by simpa [PV.kF] using hn) hr)
 | .undef,_,hn,_=>by simp [PV.kF] at hn
 | .jB,_,hn,_=>by simp [PV.kF] at hn
 | .sl ..,_,hn,_=>by simp [PV.kF] at hn
 | .own ..,_,hn,_=>by simp [PV.kF] at hn
 | .ptr ..,_,hn,_=>by simp [PV.kF] at hn
 | .bH ..,_,hn,_=>by simp [PV.kF] at hn
 | .mp ..,_,hn,_=>by simp [PV.kF] at hn
 | .eI ..,_,hn,_=>by simp [PV.kF] at hn
 | .dR,_,hn,_=>by simp [PV.kF] at hn
theorem CC: ∀{x:List PV} {v:List Value},vH x=anJ->eV im loc x v->eV eA bo x v
 | [],_,_,h=>by cases h;exact .nil
 |x::xs,_,hn,h=>by
  simp only [vH,ut] at hn;cases h with
  |cons _ u _ us h1 h2=>exact .cons _ _ _ _ (K6 hn.1 h1) (CC hn.2 h2)
end
mutual
theorem TO (hi:nZ im eA): ∀{x y:PV} {v:Value},(∀t,t∈jc s6 x->Over im eA loc aE w t)->VR im loc x v->yN aE x=anH y->VR eA bo y v
 | .int k n,y,v,_,hv,h=>by simp only [yN,v6] at h;subst h;rw [hv.gx];exact .int _ _
 | .bool b,y,v,_,hv,h=>by simp only [yN,v6] at h;subst h;rw [hv.jE];exact .bool _
 | .str b,y,v,_,hv,h=>by simp only [yN,v6] at h;subst h;rw [hv.Eh];exact .str _
 | .agg cs,y,v,ht,hv,h=>by
  simp only [yN,AC] at h;obtain ⟨ys,TN,rfl⟩:=h;obtain ⟨vs,rfl,oU⟩:=hv.pM;exact .agg _ _ (I5 hi (fun t h=>ht t (by simpa [jc] using h)) oU TN)
 | .cq cs,y,v,ht,hv,h=>by
  simp only [yN,AC] at h;obtain ⟨ys,TN,rfl⟩:=h;obtain ⟨vs,rfl,oU⟩:=hv.Bd;exact .cq _ _ (I5 hi (fun t h=>ht t (by simpa [jc] using h)) oU TN)
 | .sl e c rows,y,v,_,hv,h=>by
  simp only [yN,v6] at h;subst h;obtain ⟨a,cap,rfl,h1,h2,h3⟩:=hv.oa;exact .sl e anK rows a cap h1 (by simp) fun dW=>let ⟨b,o,ha,hr⟩:=h3 dW;⟨b,o,ha,hr.mono fun _ _ e=>hi.cell e⟩
 | .own t e off len cap ex,y,v,ht,hv,h=>by
  obtain ⟨li,a,cV,rfl,hl,h2,h3,h4,h5,h6,h7⟩:=hv.gV;obtain ⟨k,hk,sy,Xi⟩:=ht t (by simp [jc]) li hl
  simp only [yN,hk] at h;cases k with
  |arr e' rows=>
   simp only [v6] at h;subst h;obtain ⟨b1,b2,b3⟩:=sy;have cT:((rows.drop off).take len).length=len:=by simp;omega
   have he:e'=e:=by rw [<- b1,h2]
   subst he
   have:=VR.sl (im:=eA) (loc:=bo) e' anK ((rows.drop off).take len) a cV (by omega) (by simp) (fun dW=>by
    have oe:rows≠[]:=by intro e;subst e;simp at dW
    obtain ⟨arr,el,ti,IY,Kx,db⟩:=b3 oe;rcases h7 with h7|⟨_,rfl,_⟩
    · exfalso;apply dW;apply akr.1;omega
    refine ⟨_,_,rfl,db.K5.mono fun k v hkv=>?_⟩
    rw [yS (by rw [Xi (nv oe)];exact ti)];exact hkv)
   rwa [cT] at this
  |_=>cases h
 | .undef,_,_,_,_,h=>by simp [yN] at h
 | .jB,_,_,_,_,h=>by simp [yN] at h
 | .ptr ..,_,_,_,_,h=>by simp [yN] at h
 | .bH ..,_,_,_,_,h=>by simp [yN] at h
 | .mp ..,_,_,_,_,h=>by simp [yN] at h
 | .eI ..,_,_,_,_,h=>by simp [yN] at h
 | .dR,_,_,_,_,h=>by simp [yN] at h
theorem I5 (hi:nZ im eA): ∀{x y:List PV} {v:List Value},(∀t,t∈dD s6 x->Over im eA loc aE w t)->eV im loc x v->IN aE x=anH y->eV eA bo y v
 | [],y,v,_,hv,h=>by simp only [IN,v6] at h;subst h;cases hv;exact .nil
 |x::xs,y,v,ht,hv,h=>by
  simp only [IN] at h;cases hx:yN aE x with
  |none=>rw [hx] at h;cases h
  |some x'=>
   cases RC:IN aE xs with
   |none=>rw [hx,RC] at h;cases h
   |some xs'=>
    rw [hx,RC] at h;simp only [v6] at h;subst h;cases hv with
    |cons _ u _ us h1 h2=>
     exact .cons _ _ _ _ (TO hi (fun t h=>ht t (by simp [dD,h])) h1 hx) (I5 hi (fun t h=>ht t (by simp [dD,h])) h2 RC)
end
theorem pO {l:List Nat} {t:Nat}:has l t=anJ↔t∈l:=by
 unfold has;rw [List.any_eq_true];constructor
 · rintro ⟨x,hx,h⟩
   have:t=x:=by simpa using h
   subst this;exact hx
 intro h;exact ⟨t,h,by simp⟩
theorem jF {l:List Nat} {t:Nat}:has l t=anK↔t∉l:=by
 rw [<- pO];simp
def asV:Im:=fun _=>anI
structure ImO (dj:Loc) (og:cH) (G7:List Nat) (w:World) (seen seen':List Nat) (news:cH) (K7:List LI) (ts:List (Option Nat)):Prop where
 I6:(anG K7)=anG news
 KK:(anG ts)=anG news
 br: ∀(j:Nat) (k:jX) (li:LI),news[j]? =anH k->K7[j]? =anH li->(∃e rows,k= .arr e rows)/\BR asV gf w li k
 own: ∀(j:Nat) (k:jX) (li:LI) (t:Nat),news[j]? =anH k->K7[j]? =anH li->ts[j]? =anH (anH t)->dj t=anH li/\og[t]? =anH k/\t∉G7/\t∈seen'/\t∉seen
 dum: ∀(j:Nat) (k:jX),news[j]? =anH k->ts[j]? =anH anI->k.bL=anK
 inj: ∀(i j t:Nat),ts[i]? =anH (anH t)->ts[j]? =anH (anH t)->i=j
 sub: ∀t,t∈seen->t∈seen'
theorem ImO.none {dj:Loc} {og:cH} {G7:List Nat} {seen:List Nat}:ImO dj og G7 w seen seen [] [] [] where
 I6:=rfl
 KK:=rfl
 br:=fun j k li h=>by simp at h
 own:=fun j k li t h=>by simp at h
 dum:=fun j k h=>by simp at h
 inj:=fun i j t h=>by simp at h
 sub:=fun _ h=>h
theorem gy {α:Type} {a b:List α} {j:Nat} {x:α} (h:(a++b)[j]? =anH x):(j<anG a/\a[j]? =anH x)\/(anG a<=j/\b[j-(anG a)]? =anH x):=by
 rcases adc j (anG a) with hj|hj
 · rw [ae9 hj] at h;exact .inl ⟨hj,h⟩
 rw [acl hj] at h;exact .inr ⟨hj,h⟩
theorem ImO.append {dj:Loc} {og:cH} {G7 s0 s1 s2:List Nat} {n1 n2:cH} {l1 l2:List LI} {t1 t2:List (Option Nat)} (h:ImO dj og G7 w s0 s1 n1 l1 t1) (k:ImO dj og G7 w s1 s2 n2 l2 t2):
 ImO dj og G7 w s0 s2 (n1++n2) (l1++l2) (t1++t2):=by
 have e1:=h.I6;have e2:=h.KK;have TP: ∀(j t:Nat),t1[j]? =anH (anH t)->t∈s1:=by
  intro j t ht;have hj:=(afb.1 ht).1;exact (h.own j n1[j] l1[j] t (NE (by omega)) (NE (by omega)) ht).2.2.2.1
 have PU: ∀(j t:Nat),t2[j]? =anH (anH t)->t∉s1:=by
  intro j t ht;have hj:=(afb.1 ht).1
  have:=k.I6;have:=k.KK
  exact (k.own j n2[j] l2[j] t (NE (by omega)) (NE (by omega)) ht).2.2.2.2
 refine ⟨by simp [e1,k.I6],by simp [e2,k.KK],fun j b li hb hl=>?_,fun j b li t hb hl ht=>?_,fun j b hb ht=>?_,fun i j t hi hj=>?_,fun t ht=>k.sub t (h.sub t ht)⟩
 · rcases gy hb with ⟨h1,hb⟩|⟨h1,hb⟩
   · rcases gy hl with ⟨h2,hl⟩|⟨h2,hl⟩
     · exact h.br j b li hb hl
     omega
   rcases gy hl with ⟨h2,hl⟩|⟨h2,hl⟩
   · omega
   rw [e1] at hl;exact k.br _ b li hb hl
 · rcases gy hb with ⟨h1,hb⟩|⟨h1,hb⟩
   · rcases gy hl with ⟨h2,hl⟩|⟨h2,hl⟩
     · rcases gy ht with ⟨h3,ht⟩|⟨h3,ht⟩
       · obtain ⟨a1,a2,a3,a4,a5⟩:=h.own j b li t hb hl ht
         exact ⟨a1,a2,a3,k.sub t a4,a5⟩
       omega
     omega
   rcases gy hl with ⟨h2,hl⟩|⟨h2,hl⟩
   · omega
   rcases gy ht with ⟨h3,ht⟩|⟨h3,ht⟩
   · omega
   rw [e1] at hl;rw [e2] at ht
   obtain ⟨a1,a2,a3,a4,a5⟩:=k.own _ b li t hb hl ht;exact ⟨a1,a2,a3,a4,fun hs=>a5 (h.sub t hs)⟩
 · rcases gy hb with ⟨h1,hb⟩|⟨h1,hb⟩
   · rcases gy ht with ⟨h3,ht⟩|⟨h3,ht⟩
     · exact h.dum j b hb ht
     omega
   rcases gy ht with ⟨h3,ht⟩|⟨h3,ht⟩
   · omega
   rw [e2] at ht;exact k.dum _ b hb ht
 rcases gy hi with ⟨h1,hi⟩|⟨h1,hi⟩
 · rcases gy hj with ⟨h2,hj⟩|⟨h2,hj⟩
   · exact h.inj i j t hi hj
   exact absurd (TP i t hi) (PU _ t hj)
 rcases gy hj with ⟨h2,hj⟩|⟨h2,hj⟩
 · exact absurd (TP j t hj) (PU _ t hi)
 have:=k.inj _ _ t hi hj;omega
def afn (dj:Loc) (og:cH) (Ei:Im) (w:World):Prop:= ∀t li,dj t=anH li-> ∃k,og[t]? =anH k/\BR Ei dj w li k
mutual
theorem TQ {Ei:Im} {dj:Loc} {og:cH} {G7:List Nat} (hk:afn dj og Ei w): ∀{x y:PV} {v:Value} {nx:Nat} {seen seen':List Nat} {news:cH},
 VR Ei dj x v->zG og G7 nx seen x=anH (y,news,seen')->
 ∃K7 ts,ImO dj og G7 w seen seen' news K7 ts/\ ∀(Ej:Im) (qX:Loc),(∀(j:Nat) (li:LI),K7[j]? =anH li->qX (nx+j)=anH li)->VR Ej qX y v
 | .int k n,y,v,nx,seen,seen',news,hv,h=>by
  simp only [zG,v6,afm] at h;obtain ⟨rfl,rfl,rfl⟩:=h;exact ⟨[],[],.none,fun _ _ _=>by rw [hv.gx];exact .int _ _⟩
 | .bool k,y,v,nx,seen,seen',news,hv,h=>by
  simp only [zG,v6,afm] at h;obtain ⟨rfl,rfl,rfl⟩:=h;exact ⟨[],[],.none,fun _ _ _=>by rw [hv.jE];exact .bool _⟩
 | .agg cs,y,v,nx,seen,seen',news,hv,h=>by
  simp only [zG,AC,afm] at h;obtain ⟨⟨ys,n2,s2⟩,hr,rfl,rfl,rfl⟩:=h;obtain ⟨vs,rfl,oU⟩:=hv.pM;obtain ⟨K7,ts,h1,h2⟩:=I7 hk oU hr;exact ⟨K7,ts,h1,fun Ej qX hl=> .agg _ _ (h2 Ej qX hl)⟩
 | .cq cs,y,v,nx,seen,seen',news,hv,h=>by
  simp only [zG,AC,afm] at h;obtain ⟨⟨ys,n2,s2⟩,hr,rfl,rfl,rfl⟩:=h;obtain ⟨vs,rfl,oU⟩:=hv.Bd;obtain ⟨K7,ts,h1,h2⟩:=I7 hk oU hr;exact ⟨K7,ts,h1,fun Ej qX hl=> .cq _ _ (h2 Ej qX hl)⟩
 | .sl e c rows,y,v,nx,seen,seen',news,hv,h=>by
  obtain ⟨a,cap,rfl,h1,h2,h3⟩:=hv.oa;cases c with
  |false=>simp [zG] at h
  |true=>
   cases rows with
   |cons r rs=>simp [zG] at h
   |nil=>
    simp only [zG,v6,afm] at h;obtain ⟨rfl,rfl,rfl⟩:=h;have Ha:cap=0:=h2 rfl;subst Ha;refine ⟨[⟨0,0,e,0,0⟩],[anI],⟨rfl,rfl,fun j k li hj hl=>?_,fun j k li t hj hl ht=>?_,fun j k hj ht=>?_,fun i j t hi hj=>?_,fun _ h=>h⟩,fun Ej qX hl=>?_⟩
    · cases j with
      |zero=>
       simp at hj hl;subst hj hl;exact ⟨⟨_,_,rfl⟩,rfl,rfl,fun dW=>absurd rfl dW⟩
      |succ j=>simp at hj
    · cases j<;>simp at ht
    · cases j with
      |zero=>simp at hj;subst hj;rfl
      |succ j=>simp at hj
    · cases i<;>simp at hi
    exact .own nx e 0 0 0 anK ⟨0,0,e,0,0⟩ a 0 (hl 0 _ rfl) rfl (If _) (If _) (If _) (by simp) (.inl rfl)
 | .own t e off len cap ex,y,v,nx,seen,seen',news,hv,h=>by
  obtain ⟨li,a,cV,rfl,hl,h2,h3,h4,h5,h6,h7⟩:=hv.gV;obtain ⟨k,uX,sy⟩:=hk t li hl;simp only [zG,uX] at h;cases k with
  |arr e' rows=>
   dsimp only at h;split at h
   · cases h
   rename_i hs
   simp only [am8,not_or,Bool.not_eq_true] at hs;simp only [v6,afm] at h;obtain ⟨rfl,rfl,rfl⟩:=h;refine ⟨[li],[anH t],⟨rfl,rfl,fun j k li' hj mA=>?_,fun j k li' t' hj mA ht=>?_,fun j k hj ht=>?_,fun i j t hi hj=>?_,fun _ h=>agr _ h⟩,fun Ej qX KS=>?_⟩
   · cases j with
     |zero=>simp at hj mA;subst hj mA;exact ⟨⟨_,_,rfl⟩,sy⟩
     |succ j=>simp at hj
   · cases j with
     |zero=>
      simp at hj mA ht;subst hj mA ht;exact ⟨hl,uX,jF.1 hs.2,by simp,jF.1 hs.1⟩
     |succ j=>simp at hj
   · cases j<;>simp at ht
   · cases i with
     |zero=>
      cases j with
      |zero=>rfl
      |succ j=>simp at hj
     |succ i=>simp at hi
   exact .own nx e off len cap anK li a cV (KS 0 _ rfl) h2 h3 h4 h5 (fun h=>by cases h) h7
  |_=>cases h
 | .str s,y,v,nx,seen,seen',news,hv,h=>by simp [zG] at h
 | .undef,y,v,nx,seen,seen',news,hv,h=>by simp [zG] at h
 | .jB,y,v,nx,seen,seen',news,hv,h=>by simp [zG] at h
 | .ptr ..,y,v,nx,seen,seen',news,hv,h=>by simp [zG] at h
 | .bH ..,y,v,nx,seen,seen',news,hv,h=>by simp [zG] at h
 | .mp ..,y,v,nx,seen,seen',news,hv,h=>by simp [zG] at h
 | .eI ..,y,v,nx,seen,seen',news,hv,h=>by simp [zG] at h
 | .dR,y,v,nx,seen,seen',news,hv,h=>by simp [zG] at h
theorem I7 {Ei:Im} {dj:Loc} {og:cH} {G7:List Nat} (hk:afn dj og Ei w): ∀{x y:List PV} {v:List Value} {nx:Nat} {seen seen':List Nat} {news:cH},
 eV Ei dj x v->IP og G7 nx seen x=anH (y,news,seen')->
 ∃K7 ts,ImO dj og G7 w seen seen' news K7 ts/\ ∀(Ej:Im) (qX:Loc),(∀(j:Nat) (li:LI),K7[j]? =anH li->qX (nx+j)=anH li)->eV Ej qX y v
 | [],y,v,nx,seen,seen',news,hv,h=>by
  simp only [IP,v6,afm] at h;obtain ⟨rfl,rfl,rfl⟩:=h;cases hv;exact ⟨[],[],.none,fun _ _ _=> .nil⟩
 |x::xs,y,v,nx,seen,seen',news,hv,h=>by
  simp only [IP] at h;cases h1:zG og G7 nx seen x with
  |none=>rw [h1] at h;cases h
  |some r1=>
   obtain ⟨y1,n1,s1⟩:=r1;rw [h1] at h;dsimp only at h;cases h2:IP og G7 (nx+anG n1) s1 xs with
   |none=>rw [h2] at h;cases h
   |some r2=>
    obtain ⟨y2,n2,s2⟩:=r2;rw [h2] at h;simp only [v6,afm] at h;obtain ⟨rfl,rfl,rfl⟩:=h;cases hv with
    |cons _ u _ us hx RC=>
     obtain ⟨l1,t1,a1,b1⟩:=TQ hk hx h1;obtain ⟨l2,t2,a2,b2⟩:=I7 hk RC h2;refine ⟨l1++l2,t1++t2,a1.append a2,fun Ej qX hl=> .cons _ _ _ _ (b1 Ej qX fun j li hj=>?_) (b2 Ej qX fun j li hj=>?_)⟩
     · have:=(afb.1 hj).1
       exact hl j li (by rw [ae9 this];exact hj)
     have:=hl (anG n1+j) li (by rw [acl (by rw [a1.I6];omega),a1.I6,show (anG n1)+j-(anG n1)=j by omega];exact hj)
     rwa [<- afR] at this
end
end
end Go.Vm
