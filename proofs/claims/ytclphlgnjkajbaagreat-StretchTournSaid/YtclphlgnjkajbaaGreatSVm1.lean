/- The logical machine, part 1: VmDef, VmWp, VmChk, VmRel, VmRen, VmOps1, VmEff, VmOps2, VmOps3, VmOps4, VmOps5, VmOps6, VmOps7, VmOps8, VmOps9, VmEq, VmMap, VmOpsA, VmCall, VmCall2. -/
import GoSem.Dispatch
import Derived.Laws.StructEq
import Derived.Calls
import Derived.Below
import Derived.Laws.CopyRow
import Derived.Deep.AppendSrc
import Derived.Deep.Upon
import Derived.WideKeyRuns
open Bool renaming and_eq_true->v6,false_eq_true->aax,not_eq_true'->aaS,or_eq_true->aeQ,true_and->afr,and_true->aft,true->afP,false->afV
open Option.some renaming injEq->ww
open Go.Result renaming andThen_ok->AC
open Option renaming map_eq_some_iff->Do,getD_some->aaG,isSome_iff_exists->adc,getD_none->aev,isSome_some->aeY,map_some->afd,any_some->afh,some->afM,none->afN
open Go.Sem renaming run_bind->EQ,run_pure->If
open Nat renaming le_refl->IR,beq->M2,add_mul->WF,mul_le_mul_right->aah,lt_or_ge->aau,ble->aaz,beq_eq->acl,ble_eq->aeg,add_assoc->aep,blt->aet,le_max_right->aeE,zero_add->aeM,le_max_left->aeO,eq_zero_or_pos->aeZ,min_eq_left->afe,mul_eq_zero->afg,mul_le_mul->afi,add_zero->afv,zero_mul->afw
open Array renaming getElem?_eq_some_iff->NE,getElem?_setIfInBounds->aaB,ext'->ac1,length_toList->ae6,map->aes,range->aeC,toList_map->aeI,getElem?_eq_none->aeK,getElem?_push->aeT
open List renaming getElem?_eq_none->PP,getElem?_eq_getElem->UV,getElem?_append_right->aal,getElem?_append_left->aav,mem_singleton->aaC,getElem?_eq_some_iff->ac0,replicate->ac2,getElem?_toArray->acZ,mem_append->ad2,flatMap_cons->ad8,length_cons->ae7,length_append->ae8,size_toArray->aeb,getElem?_take_of_lt->aeh,mem_cons->aeq,foldl_cons->aer,drop_eq_nil_of_le->aeu,mem_of_getElem?->aew,mem_iff_getElem->aex,mem_cons_of_mem->aey,getElem?_drop->aez,extract_eq_take_drop->aeA,ext_getElem?->aeB,flatMap_nil->aeF,getElem?_cons_zero->aeG,length_take->aeH,length_eq_zero_iff->aeJ,getElem?_set_self->aeL,take_of_length_le->aeN,length_nil->aeP,take_append_drop->aeR,getElem?_set_ne->aeS,flatMap_append->aeX,mem_replicate->af5,append_assoc->af6,isEmpty_iff->afa,foldlM_cons->afb,all_eq_true->afc,drop_drop->afj,mapM_cons->afk,map_cons->afs,getD->afu,length->afz,length->afI
open Prod.mk renaming injEq->ae1
open Int renaming toNat_natCast->aeD
open Decidable renaming decide->agd
/- Definitions of a logical machine over pure values: what it computes is tied to the model's runs in VmSound. -/
namespace Go.Vm
universe u
theorem lw{α:Sort u}{a b:α}:cond afP a b=a:=rfl
theorem pp{α:Sort u}{a b:α}:cond afV a b=b:=rfl
theorem rc{c:Prop}{h:Decidable c}(p:c){α:Sort u}{t e:α}:ite c t e=t:=if_pos p
theorem ut{c:Prop}{h:Decidable c}(p:¬c){α:Sort u}{t e:α}:ite c t e=e:=if_neg p
inductive PV where
 |undef
 |jd
 |int (k:IntKind) (n:Int)
 |bool (b:Bool)
 |str (s:ByteArray)
 |agg (cs:List PV)
 |cy (cs:List PV)
 |sl (esz:Nat) (pM:Bool) (rows:List (List PV))
 |own (t esz off len cap:Nat) (ex:Bool)
 |ptr (t esz row off:Nat)
 |bD (cells:List PV) (off:Nat)
 |mp (t:Nat)
 |ez (fn:FuncId) (fst cap:List PV)
 |dH
instance:Inhabited PV:=⟨.undef⟩
abbrev Row:=List PV
inductive jx where
 |arr (esz:Nat) (rows:List Row)
 |box (cells:List PV)
 |map (es:List (PV×PV))
 |dead
abbrev cw:=List jx
abbrev Env:=List (Nat×PV)
inductive fv where
 |t (n:Nat)
 |c (v:PV)
inductive CM where
 |TO|own|shr|fp
inductive kv where
 |Qk (x:fv)
 |pick (c a b:fv)
 |bin (op:BinOp) (x y:fv)
 |Jd (neg:Bool) (x y:fv)
 |Y1 (n:Nat) (neg:Bool) (x y:fv)
 |un (op:UnOp) (x:fv)
 |conv (k:IntKind) (x:fv)
 |len (x:fv)
 |LB (n:Nat)
 |box (x:fv)
 |alloc (cells:List PV)
 |build (zero:List PV) (parts:List (Nat×Nat×fv))
 |Am (esz n:Nat) (zero:Row) (parts:List (Nat×fv))
 |Cz (x y:fv)
 |load (agg:Option Nat) (p:fv)
 |store (sz:Nat) (p v:fv)
 |Je (x:fv)
 |Jf (off:Nat) (p:fv)
 |j0 (agg:Option Nat) (off:Nat) (x:fv)
 |Jg (esz:Nat) (x i:fv)
 |CA (n esz:Nat) (p i:fv)
 |idx (n esz:Nat) (agg:Option Nat) (x i:fv)
 |Jh (x i:fv)
 |OM (esz:Nat) (x:fv) (lo hi mx:Option fv)
 |Y2 (esz:Nat) (zero:Row) (len cap:fv)
 |Y3 (fn:FuncId) (fst cap:List fv)
 |Y4 (z:Option PV)
 |lookup (n:Option Nat) (zero:PV) (ok:Bool) (m k:fv)
 |HA (n:Option Nat) (m k v:fv)
 |ext (i:Nat) (x:fv)
 |append (esz:Nat) (x y:fv)
 |copy (esz:Nat) (x y:fv)
 |clear (esz:Nat) (zero:Row) (x:fv)
 |mm (isMax:Bool) (x:fv) (xs:List fv)
 |call (m:CM) (f:FuncId) (args:List fv)
 |vY (x:fv) (args:List fv)
 |bad
structure bM where
 dst:Option Nat
 op:kv
 guard:Option (Nat×Bool)
inductive iQ where
 |skip
 |region (draw:Option (List Nat)) (ops:List bM) (ft:List Nat)
 |seq (a b:iQ)
 |cond (c:fv) (a b:iQ)
 |block (id:Nat) (b:iQ)
 |loop (live:List (Nat×Option Nat)) (b:iQ)
 |exit (id:Nat)
 |ret
inductive RV where
 |tmp (t:Nat)
 |cell (t:Nat) (agg:Option Nat)
structure aN where
 CB:Nat
 code:iQ
 res:List RV
inductive Y5 where
 |code (x:aN)
 |jD (Np:Bool) (f:List PV->Option (PV×cw))
 |FW (f:List PV->cw->List Nat->Option (PV×cw×List Nat))
abbrev lM:=FuncId->Option Y5
structure St where
 env:Env
 ax:cw
 fz:List Nat
 kn:Nat
inductive gL where
 |normal
 |exit (id:Nat)
 |ret
def lk (t:Nat):Env->PV
 | []=> .undef
 |(s,v)::r=>if M2 s t then v else lk t r
def fv.ev (e:Env):fv->PV
 | .t n=>lk n e
 | .c v=>v
def PV.o7:PV->Bool
 | .undef| .jd| .agg _| .cy _=>afV
 |_=>afP
def PV.plain:PV->Bool
 | .int _ _| .bool _| .str _=>afP
 |_=>afV
def PV.cells:PV->List PV
 | .agg cs=>cs
 |v=>[v]
def PV.stored (v:PV):Option (List PV):=if v.cells.all PV.o7 then afM v.cells else afN
def PV.cz (v:PV):Option (List PV):=if v.cells.all PV.plain then afM v.cells else afN
def part (agg:Option Nat) (off:Nat) (cs:List PV):Option PV:=
 match agg with
 |some s=>if off+s<=(afI cs) then afM (.agg ((cs.drop off).take s)) else afN
 |none=>cs[off]?
def mS (off:Nat) (new old:List PV):List PV:=old.take off++new++old.drop (off+afI new)
def aa (k:IntKind) (n:Int):Int:=
 match k,n with
 | .i64,.ofNat m=>if aet m 9223372036854775808 then .ofNat m else IntKind.wrap .i64 n
 | .i64,.negSucc m=>if aet m 9223372036854775808 then .negSucc m else IntKind.wrap .i64 n
 | .u64,.ofNat m=> .ofNat (Nat.mod m 18446744073709551616)
 |k,n=>IntKind.wrap k n
def arith (op:BinOp) (k:IntKind) (a b:Int):Option PV:=
 match op with
 | .add=>afM (.int k (aa k (a+b)))
 | .sub=>afM (.int k (aa k (a-b)))
 | .mul=>afM (.int k (aa k (a*b)))
 | .quo=>if b=0 then afN else afM (.int k (aa k (a.tdiv b)))
 | .rem=>if b=0 then afN else afM (.int k (a.tmod b))
 | .and=>afM (.int k (k.wrap (BitVec.ofInt k.bits a&&&BitVec.ofInt k.bits b).toNat))
 | .or=>afM (.int k (k.wrap (BitVec.ofInt k.bits a|||BitVec.ofInt k.bits b).toNat))
 | .xor=>afM (.int k (k.wrap (BitVec.ofInt k.bits a^^^BitVec.ofInt k.bits b).toNat))
 | .andNot=>afM (.int k (k.wrap (BitVec.ofInt k.bits a&&& ~~~ BitVec.ofInt k.bits b).toNat))
 | .eql=>afM (.bool (a==b))
 | .neq=>afM (.bool (a !=b))
 | .lss=>afM (.bool (agd (a<b)))
 | .leq=>afM (.bool (agd (a<=b)))
 | .gtr=>afM (.bool (agd (a>b)))
 | .geq=>afM (.bool (agd (a>=b)))
 | .shl| .shr=>afN
def Bu (op:BinOp) (k:IntKind) (a b:Int):Option PV:=
 if b<0 then afN else
 let n:=min b.toNat k.bits
 match op with
 | .shl=>afM (.int k (k.wrap (a*2^n)))
 | .shr=>afM (.int k (a.fdiv (2^n)))
 |_=>afN
def fk:IntKind->IntKind->Bool
 | .i8,.i8| .i16,.i16| .i32,.i32| .i64,.i64| .u8,.u8| .u16,.u16| .u32,.u32| .u64,.u64=>afP
 |_,_=>afV
def ON (op:BinOp) (x y:PV):Option PV:=
 match x,y with
 | .int k a,.int l b=>
  match op with
  | .shl=>Bu .shl k a b
  | .shr=>Bu .shr k a b
  |op=>if fk k l then arith op k a b else afN
 |_,_=>afN
def pN:PV->PV->Option Bool
 | .int k a,.int l b=>if fk k l then afM (a==b) else afN
 |_,_=>afN
def dj:List PV->List PV->Option Bool
 | [],[]=>afM afP
 |x::xs,y::ys=>
  match pN x y with
  |some afP=>dj xs ys
  |some afV=>afM afV
  |none=>afN
 |_,_=>afN
def unE (op:UnOp) (x:PV):Option PV:=
 match op,x with
 | .neg,.int k n=>afM (.int k (aa k (0-n)))
 | .not,.bool b=>afM (.bool !b)
 |_,_=>afN
def rowsOf (ax:cw) (esz:Nat):PV->Option (List Row)
 | .sl e _ rows=>match rows with
  | []=>afM []
  |_=>if M2 e esz then afM rows else afN
 | .own t e off len _ _=>if M2 e esz then (match ax[t]? with
  |some (.arr _ rows)=>afM ((rows.drop off).take len)
  |_=>afN) else afN
 |_=>afN
def iv:PV->List Nat
 | .own t _ _ _ _ _=>[t]
 |_=>[]
structure mT where
 v:PV
 news:cw:=[]
 wr:List (Nat×jx):=[]
 rd:List Nat:=[]
 fr:List Nat:=[]
def mA:List (Nat×Nat×PV)->List PV->Option (List PV)
 | [],cs=>afM cs
 |(off,sz,v)::r,cs=>
  match v.stored with
  |some w=>if M2 (afI w) sz&&aaz (off+sz) (afI cs) then mA r (mS off w cs) else afN
  |none=>afN
def o8:List (Nat×PV)->List Row->Nat->Option (List Row)
 | [],rows,_=>afM rows
 |(i,v)::r,rows,esz=>
  match v.cz with
  |some w=>if M2 (afI w) esz&&aet i (afI rows) then o8 r (rows.set i w) esz else afN
  |none=>afN
def jy:PV->Option Nat
 | .int _ n=>match n with
  | .ofNat m=>afM m
  | .negSucc _=>afN
 |_=>afN
def je (n:Option Nat) (k:PV):Bool:=
 match n,k with
 |none,.int _ _=>afP
 |some n,.agg cs=>M2 (afI cs) n
 |_,_=>afV
def fj (n:Option Nat) (k:PV):List (PV×PV)->Nat->Option (Option Nat)
 | [],_=>afM afN
 |(a,_)::r,i=>
  if je n a then
   match dj k.cells a.cells with
   |some afP=>afM (afM i)
   |some afV=>fj n k r (i+1)
   |none=>afN
  else afN
def eA:Nat:=1048576
def nS (ax:cw) (agg:Option Nat):PV->Option mT
 | .ptr t _ row off=>match ax[t]? with
  |some (.arr _ rows)=>match rows[row]? with
   |some cs=>(part agg off cs).map fun v=>{v,rd:=[t]}
   |none=>afN
  |some (.box cs)=>if M2 row 0 then (part agg off cs).map fun v=>{v,rd:=[t]} else afN
  |_=>afN
 | .bD cs off=>(part agg off cs).map fun v=>{v}
 |_=>afN
def has (l:List Nat) (t:Nat):Bool:=l.any (M2 t)
def qD (ax:cw) (fz:List Nat) (sz:Nat) (v:PV):PV->Option mT
 | .ptr t _ row off=>match ax[t]? with
  |some (.arr e rows)=>match rows[row]?,v.cz with
   |some cs,afM w=>if M2 (afI w) sz&&aaz (off+sz) (afI cs)&&!has fz t then
    afM {v:= .undef,wr:=[(t,.arr e (rows.set row (mS off w cs)))]} else afN
   |_,_=>afN
  |some (.box cs)=>match v.stored with
   |some w=>if M2 row 0&&M2 (afI w) sz&&aaz (off+sz) (afI cs)&&!has fz t then
    afM {v:= .undef,wr:=[(t,.box (mS off w cs))]} else afN
   |none=>afN
  |_=>afN
 |_=>afN
def tK (esz:Nat):PV->Bool
 | .sl e _ rows=>M2 e esz||rows.isEmpty
 | .own _ e _ _ _ _=>M2 e esz
 |_=>afV
def pO (x:PV) (lo hi mx:Option Nat):Option PV:=
 match x with
 | .sl e pM rows=>
  let l:=lo.getD 0
  let h:=hi.getD (afI rows)
  match mx with
  |none=>if aaz l h&&aaz h (afI rows) then afM (.sl e (pM&&M2 h (afI rows)) ((rows.drop l).take (h-l))) else afN
  |some m=>if aaz l h&&aaz h m&&aaz m (afI rows) then afM (.sl e (M2 h m) ((rows.drop l).take (h-l))) else afN
 | .own t e off len cap ex=>
  let l:=lo.getD 0
  let h:=hi.getD len
  match mx with
  |none=>if aaz l h&&aaz h cap then afM (.own t e (off+l) (h-l) (cap-l) ex) else afN
  |some m=>if aaz l h&&aaz h m&&aaz m cap then afM (.own t e (off+l) (h-l) (m-l) afP) else afN
 |_=>afN
def kz:Nat->List Row->List Row->List Row
 |_,[],rows=>rows
 |i,w::r,rows=>kz (i+1) r (rows.set i w)
def iw (ax:cw) (fz:List Nat) (esz:Nat) (x y:PV):Option mT:=
 match rowsOf ax esz y with
 |none=>afN
 |some new=>
  match new with
  | []=>match x with
   | .sl _ pM rows=>if pM&&rows.isEmpty then afM {v:= .own (afI ax) esz 0 0 0 afV,news:=[.arr esz []],rd:=iv y} else afM {v:=x,rd:=iv y}
   | .own t _ _ len cap ex=>if M2 len 0&&M2 cap 0&&ex then afM {v:= .own (afI ax) esz 0 0 0 afV,news:=[.arr esz []],rd:=t::iv y} else afM {v:=x,rd:=iv y}
   |_=>afN
  |_=>
   let m:=afI new
   match x with
   | .sl e pM rows=>
    if pM&&(M2 e esz||M2 (afI rows) 0)&&aaz (afI rows+m) eA then
     afM {v:= .own (afI ax) esz 0 (afI rows+m) (afI rows+m) afV,news:=[.arr esz (rows++new)],rd:=iv y}
    else afN
   | .own t e off len cap ex=>
    match ax[t]? with
    |some (.arr _ rows)=>
     if !Nat.beq e esz then afN
     else if aaz (len+m) cap then
      if has fz t then afN else afM {v:= .own t e off (len+m) cap ex,wr:=[(t,.arr e (kz (off+len) new rows))],rd:=iv y}
     else if !Nat.ble (len+m) eA then afN
     else if ex then
      afM {v:= .own (afI ax) e 0 (len+m) (len+m) afV,news:=[.arr e ((rows.drop off).take len++new)],rd:=t::iv y}
     else if has fz t then afN
     else afM {v:= .own (afI ax) e 0 (len+m) (len+m) afV,news:=[.arr e ((rows.drop off).take len++new)],wr:=[(t,.dead)],rd:=iv y}
    |_=>afN
   |_=>afN
def ZY (isMax:Bool) (k:IntKind):Int->List PV->Option PV
 |a,[]=>afM (.int k a)
 |a,x::r=>match x with
  | .int l b=>if fk k l then ZY isMax k (if isMax then (if b>a then b else a) else (if b<a then b else a)) r else afN
  |_=>afN
def DI (e:Env) (l:List fv):List PV:=l.map (fv.ev e)
def rR (ax:cw) (n:Option Nat) (zero:PV) (ok:Bool) (m k:PV):Option mT:=
 match m with
 | .mp t=>match ax[t]? with
  |some (.map es)=>if je n k then (match fj n k es 0 with
   |some (afM i)=>match es[i]? with
    |some p=>afM {v:=if ok then .cy [p.2,.bool afP] else p.2,rd:=[t]}
    |none=>afN
   |some afN=>afM {v:=if ok then .cy [zero,.bool afV] else zero,rd:=[t]}
   |none=>afN) else afN
  |_=>afN
 |_=>afN
def CC (ax:cw) (fz:List Nat) (n:Option Nat) (m k v:PV):Option mT:=
 match m with
 | .mp t=>match ax[t]? with
  |some (.map es)=>if je n k&&!has fz t then (match k.cz,v.cz with
   |some _,afM _=>match fj n k es 0 with
    |some (afM i)=>afM {v:= .undef,wr:=[(t,.map (es.set i (k,v)))]}
    |some afN=>afM {v:= .undef,wr:=[(t,.map (es++[(k,v)]))]}
    |none=>afN
   |_,_=>afN) else afN
  |_=>afN
 |_=>afN
def bA (e:Env) (ax:cw) (fz:List Nat):kv->Option mT
 | .Qk x=>afM {v:=x.ev e}
 | .pick c a b=>match c.ev e with
  | .bool afP=>afM {v:=a.ev e}
  | .bool afV=>afM {v:=b.ev e}
  |_=>afN
 | .bin op x y=>(ON op (x.ev e) (y.ev e)).map fun v=>{v}
 | .Jd neg x y=>match x.ev e,y.ev e with
  | .bool a,.bool b=>afM {v:= .bool (if neg then !(a==b) else a==b)}
  |_,_=>afN
 | .Y1 n neg x y=>match x.ev e,y.ev e with
  | .agg xs,.agg ys=>if M2 (afI xs) n&&M2 (afI ys) n then (dj xs ys).map fun b=>{v:= .bool (if neg then !b else b)} else afN
  |_,_=>afN
 | .un op x=>(unE op (x.ev e)).map fun v=>{v}
 | .conv k x=>match x.ev e with
  | .int _ n=>afM {v:= .int k (aa k n)}
  |_=>afN
 | .len x=>match x.ev e with
  | .sl _ _ rows=>afM {v:= .int .i64 (.ofNat (afI rows))}
  | .own _ _ _ len _ _=>afM {v:= .int .i64 (.ofNat len)}
  |_=>afN
 | .LB n=>afM {v:= .int .i64 (.ofNat n)}
 | .box x=>match (x.ev e).stored with
  |some cs=>afM {v:= .ptr (afI ax) (afI cs) 0 0,news:=[.box cs]}
  |none=>afN
 | .alloc cells=>afM {v:= .ptr (afI ax) (afI cells) 0 0,news:=[.box cells]}
 | .build zero parts=>(mA (parts.map fun p=>(p.1,p.2.1,p.2.2.ev e)) zero).map fun cs=>{v:= .agg cs}
 | .Am esz n zero parts=>(o8 (parts.map fun p=>(p.1,p.2.ev e)) (ac2 n zero) esz).map fun rows=>
  {v:= .own (afI ax) esz 0 n n afP,news:=[.arr esz rows]}
 | .Cz x y=>if (x.ev e).o7&&(y.ev e).o7 then afM {v:= .own (afI ax) 1 0 2 2 afP,news:=[.box [x.ev e,y.ev e]]} else afN
 | .load agg p=>nS ax agg (p.ev e)
 | .store sz p v=>qD ax fz sz (v.ev e) (p.ev e)
 | .Je x=>match x.ev e with
  | .ptr t s r o=>afM {v:= .ptr t s r o}
  | .bD c o=>afM {v:= .bD c o}
  | .ez f a b=>afM {v:= .ez f a b}
  |_=>afN
 | .Jf off p=>match p.ev e with
  | .ptr t s r o=>afM {v:= .ptr t s r (o+off)}
  | .bD c o=>afM {v:= .bD c (o+off)}
  |_=>afN
 | .j0 agg off x=>match x.ev e with
  | .agg cs=>(part agg off cs).map fun v=>{v}
  |_=>afN
 | .Jg esz x i=>match jy (i.ev e) with
  |none=>afN
  |some n=>match x.ev e with
   | .sl s _ rows=>match rows[n]? with
    |some cs=>if M2 s esz then afM {v:= .bD cs 0} else afN
    |none=>afN
   | .own t s off len _ _=>if aet n len&&M2 s esz then afM {v:= .ptr t s (off+n) 0} else afN
   |_=>afN
 | .CA n esz p i=>match jy (i.ev e) with
  |none=>afN
  |some j=>if aet j n then (match p.ev e with
   | .ptr t s r o=>afM {v:= .ptr t s r (o+j*esz)}
   | .bD c o=>afM {v:= .bD c (o+j*esz)}
   |_=>afN) else afN
 | .idx n esz agg x i=>match jy (i.ev e) with
  |none=>afN
  |some j=>if aet j n then (match x.ev e with
   | .agg cs=>(part agg (j*esz) cs).map fun v=>{v}
   |_=>afN) else afN
 | .Jh x i=>match jy (i.ev e),x.ev e with
  |some j,.str s=>match s[j]? with
   |some b=>afM {v:= .int .u8 b.toNat}
   |none=>afN
  |_,_=>afN
 | .OM esz x lo hi mx=>
  if !tK esz (x.ev e) then afN else
  match (match lo with|none=>afM afN|some a=>(jy (a.ev e)).map afM),
   (match hi with|none=>afM afN|some a=>(jy (a.ev e)).map afM),
   (match mx with|none=>afM afN|some a=>(jy (a.ev e)).map afM) with
  |some l,afM h,afM m=>(pO (x.ev e) l h m).map fun v=>{v}
  |_,_,_=>afN
 | .Y2 esz zero l c=>match jy (l.ev e),jy (c.ev e) with
  |some n,afM m=>if aaz n m&&aaz m eA then
   afM {v:= .own (afI ax) esz 0 n m afP,news:=[.arr esz (ac2 m zero)]} else afN
  |_,_=>afN
 | .Y3 fn a b=>afM {v:= .ez fn (DI e a) (DI e b)}
 | .Y4 _=>afM {v:= .mp (afI ax),news:=[.map []]}
 | .lookup n zero ok m k=>rR ax n zero ok (m.ev e) (k.ev e)
 | .HA n m k v=>CC ax fz n (m.ev e) (k.ev e) (v.ev e)
 | .ext i x=>match x.ev e with
  | .cy vs=>vs[i]?.map fun v=>{v}
  |_=>afN
 | .append esz x y=>iw ax fz esz (x.ev e) (y.ev e)
 | .copy esz x y=>match rowsOf ax esz (y.ev e),x.ev e with
  |some src,.own t s off len _ _=>match src.take len with
   | []=>afM {v:= .int .i64 0,rd:=iv (y.ev e)}
   |r::rs=>match ax[t]? with
    |some (.arr s' rows)=>
     if M2 s esz&&!has fz t then
      afM {v:= .int .i64 (.ofNat (afI rs+1)),wr:=[(t,.arr s' (kz off (r::rs) rows))],rd:=iv (y.ev e)}
     else afN
    |_=>afN
  |_,_=>afN
 | .clear esz zero x=>match x.ev e with
  | .own t s off len _ _=>match len with
   |0=>afM {v:= .undef}
   |len+1=>match ax[t]? with
    |some (.arr s' rows)=>
     if M2 s esz&&!has fz t then
      afM {v:= .undef,wr:=[(t,.arr s' (kz off (ac2 (len+1) zero) rows))]}
     else afN
    |_=>afN
  | .sl _ _ []=>afM {v:= .undef}
  |_=>afN
 | .mm isMax x xs=>match x.ev e with
  | .int k a=>(ZY isMax k a (DI e xs)).map fun v=>{v}
  |_=>afN
 | .call .. =>afN
 | .vY .. =>afN
 | .bad=>afN
mutual
def Bv (ax:cw) (bx:Nat->Option (List PV)):PV->Option PV
 | .undef=>afN
 | .jd=>afN
 | .int k n=>afM (.int k n)
 | .bool b=>afM (.bool b)
 | .str s=>afM (.str s)
 | .agg cs=>(Bw ax bx cs).map .agg
 | .cy cs=>(Bw ax bx cs).map .cy
 | .sl e _ rows=>afM (.sl e afV rows)
 | .own t e off len _ _=>match ax[t]? with
  |some (.arr _ rows)=>afM (.sl e afV ((rows.drop off).take len))
  |_=>afN
 | .ptr t _ row off=>match ax[t]? with
  |some (.box _)=>if M2 row 0 then (bx t).map (.bD · off) else afN
  |some (.arr _ rows)=>rows[row]?.map (.bD · off)
  |_=>afN
 | .bD cs off=>(Bw ax bx cs).map (.bD · off)
 | .mp _=>afN
 | .ez f a b=>match Bw ax bx a,Bw ax bx b with
  |some a',afM b'=>afM (.ez f a' b')
  |_,_=>afN
 | .dH=>afM .dH
def Bw (ax:cw) (bx:Nat->Option (List PV)):List PV->Option (List PV)
 | []=>afM []
 |x::xs=>match Bv ax bx x,Bw ax bx xs with
  |some y,afM ys=>afM (y::ys)
  |_,_=>afN
end
def wN (ax:cw):Nat->Nat->Option (List PV)
 |0,_=>afN
 |n+1,t=>match ax[t]? with
  |some (.box cs)=>Bw ax (wN ax n) cs
  |_=>afN
mutual
def iH (bx:Nat->List Nat):PV->List Nat
 | .agg cs=>dm bx cs
 | .cy cs=>dm bx cs
 | .own t _ _ _ _ _=>[t]
 | .ptr t _ _ _=>t::bx t
 | .bD cs _=>dm bx cs
 | .mp t=>[t]
 | .ez _ a b=>dm bx a++dm bx b
 | .undef| .jd| .int _ _| .bool _| .str _| .sl .. | .dH=>[]
def dm (bx:Nat->List Nat):List PV->List Nat
 | []=>[]
 |x::xs=>iH bx x++dm bx xs
end
def rJ (_:Nat):List Nat:=[]
def c7 (ax:cw):Nat->Nat->List Nat
 |0,_=>[]
 |n+1,t=>match ax[t]? with
  |some (.box cs)=>dm (c7 ax n) cs
  |_=>[]
mutual
def PV.jP:PV->Bool
 | .int _ _| .bool _| .str _=>afP
 | .agg cs=>uL cs
 | .cy cs=>uL cs
 |_=>afV
def uL:List PV->Bool
 | []=>afP
 |x::xs=>x.jP&&uL xs
end
mutual
def x5 (ax:cw):PV->Option PV
 | .int k n=>afM (.int k n)
 | .bool b=>afM (.bool b)
 | .str s=>afM (.str s)
 | .agg cs=>(HB ax cs).map .agg
 | .cy cs=>(HB ax cs).map .cy
 | .sl e _ rows=>afM (.sl e afV rows)
 | .own t e off len _ _=>match ax[t]? with
  |some (.arr _ rows)=>afM (.sl e afV ((rows.drop off).take len))
  |_=>afN
 |_=>afN
def HB (ax:cw):List PV->Option (List PV)
 | []=>afM []
 |x::xs=>match x5 ax x,HB ax xs with
  |some y,afM ys=>afM (y::ys)
  |_,_=>afN
end
mutual
def yO (ax:cw) (fz:List Nat):Nat->List Nat->PV->Option (PV×cw×List Nat)
 |_,seen,.int k n=>afM (.int k n,[],seen)
 |_,seen,.bool b=>afM (.bool b,[],seen)
 |nx,seen,.agg cs=>(HC ax fz nx seen cs).map fun r=>(.agg r.1,r.2)
 |nx,seen,.cy cs=>(HC ax fz nx seen cs).map fun r=>(.cy r.1,r.2)
 |nx,seen,.sl e afP []=>afM (.own nx e 0 0 0 afV,[.arr e []],seen)
 |nx,seen,.own t e off len cap _=>match ax[t]? with
  |some (.arr e' rows)=>if has seen t||has fz t then afN else afM (.own nx e off len cap afV,[.arr e' rows],t::seen)
  |_=>afN
 |_,_,_=>afN
def HC (ax:cw) (fz:List Nat):Nat->List Nat->List PV->Option (List PV×cw×List Nat)
 |_,seen,[]=>afM ([],[],seen)
 |nx,seen,x::xs=>match yO ax fz nx seen x with
  |some (y,n1,aeU)=>match HC ax fz (nx+afI n1) aeU xs with
   |some (ys,n2,aeV)=>afM (y::ys,n1++n2,aeV)
   |none=>afN
  |none=>afN
end
def p6:jx->List Nat
 | .box cs=>dm rJ cs
 |_=>[]
def reach (ax:cw):Nat->List Nat->List Nat->Option (List Nat)
 |_,[],seen=>afM seen
 |0,_::_,_=>afN
 |n+1,t::ts,seen=>
  if has seen t then reach ax n ts seen
  else match ax[t]? with
   |some b=>reach ax n (p6 b++ts) (seen++[t])
   |none=>afN
def idxOf (t:Nat):List Nat->Option Nat
 | []=>afN
 |s::r=>if M2 s t then afM 0 else (idxOf t r).map (· +1)
mutual
def yP (m:List Nat):PV->Option PV
 | .agg cs=>(yM m cs).map .agg
 | .cy cs=>(yM m cs).map .cy
 | .own t e off len cap ex=>(idxOf t m).map fun u=> .own u e off len cap ex
 | .ptr t e row off=>(idxOf t m).map fun u=> .ptr u e row off
 | .bD cs off=>(yM m cs).map (.bD · off)
 | .mp t=>(idxOf t m).map .mp
 | .ez f a b=>match yM m a,yM m b with
  |some a',afM b'=>afM (.ez f a' b')
  |_,_=>afN
 | .undef=>afM .undef
 | .jd=>afM .jd
 | .int k n=>afM (.int k n)
 | .bool b=>afM (.bool b)
 | .str s=>afM (.str s)
 | .sl e c rows=>afM (.sl e c rows)
 | .dH=>afM .dH
def yM (m:List Nat):List PV->Option (List PV)
 | []=>afM []
 |x::xs=>match yP m x,yM m xs with
  |some y,afM ys=>afM (y::ys)
  |_,_=>afN
end
def mU (m:List Nat):jx->Option jx
 | .box cs=>(yM m cs).map .box
 | .arr e rows=>afM (.arr e rows)
 | .map es=>afM (.map es)
 | .dead=>afM .dead
def wO (ax:cw) (m:List Nat):List Nat->Option cw
 | []=>afM []
 |t::ts=>match ax[t]? with
  |some b=>match mU m b,wO ax m ts with
   |some b',afM r=>afM (b'::r)
   |_,_=>afN
  |none=>afN
def wP (fz:List Nat):Nat->List Nat->List Nat
 |_,[]=>[]
 |i,t::ts=>if has fz t then i::wP fz (i+1) ts else wP fz (i+1) ts
def Gs:Option Nat->PV->PV
 |some _,.own t e off len cap _=> .own t e off len cap afV
 |_,v=>v
def p7 (e:Env) (m:List Nat):Nat->List (Nat×Option Nat)->Option (Env×cw)
 |_,[]=>afM ([],[])
 |nx,(s,k)::r=>
  match k,lk s e with
  |some esz,.sl _ afP []=>(p7 e m (nx+1) r).map fun p=>((s,.own nx esz 0 0 0 afV)::p.1,.arr esz []::p.2)
  |_,v=>match yP m v,p7 e m nx r with
   |some v',afM p=>afM ((s,Gs k v')::p.1,p.2)
   |_,_=>afN
def tL:Nat->List Nat
 |0=>[]
 |n+1=>tL n++[n]
def p8 (st:St) (t c esz:Nat):St:=
 match st.ax[t]? with
 |some (.box cs)=>match cs[c]? with
  |some (.sl _ afP [])=>{st with ax:=st.ax.set t (.box (cs.set c (.own (afI st.ax) esz 0 0 0 afV)))++[.arr esz []]}
  |_=>st
 |_=>st
def DJ:PV->Option Nat
 | .ptr t _ 0 0=>afM t
 |_=>afN
def Ji:PV->Option Nat
 | .ez _ _ (x::_)=>DJ x
 |x=>DJ x
def jQ:List (Nat×Option Nat)->St->St
 | [],st=>st
 |(s,k)::r,st=>match k with
  |some n=>if aaz 1000 n then (match Ji (lk s st.env) with
   |some t=>jQ r (p8 st t (n / 1000-1) (n%1000))
   |none=>jQ r st) else jQ r st
  |none=>jQ r st
def DK (live:List (Nat×Option Nat)) (st:St):Option St:=
 match reach st.ax 4096 ((st.ax.take st.kn).flatMap p6++live.flatMap fun p=>iH rJ (lk p.1 st.env)) (tL st.kn) with
 |none=>afN
 |some m=>match wO st.ax m m,p7 st.env m (afI m) live with
  |some s1,afM (e1,s2)=>afM (jQ live {env:=e1,ax:=s1++s2,fz:=wP st.fz 0 m,kn:=st.kn})
  |_,_=>afN
def norm (live:List (Nat×Option Nat)) (st:St):Option St:=
 match DK live st with
 |some s=>if live.any fun p=>p.2.isSome then DK live s else afM s
 |none=>afN
inductive Task where
 |func (f:FuncId) (args:List PV) (ax:cw) (fz:List Nat)
 |loop (live:List (Nat×Option Nat)) (b:iQ) (st:St)
inductive Out where
 |func (v:PV) (ax:cw) (fz:List Nat)
 |code (e:gL) (st:St)
structure Tr where
 rd:List Nat
 wr:List Nat
 al:Bool
 Jj:Bool
 cl:Bool
 lo:Nat
 hi:Nat
inductive XR where
 |loc (r:mT)
 |shr (v:PV) (ax:cw) (fz:List Nat)
def fU:List (Nat×jx)->cw->cw
 | [],s=>s
 |(t,b)::r,s=>fU r (s.set t b)
def DL:PV->Bool
 | .ptr .. =>afP
 | .own .. =>afP
 | .mp _=>afP
 |_=>afV
def deep:Nat:=8
def dh (F:lM) (rec:Task->Option Out) (own:Bool) (f:FuncId) (args:List PV) (ax:cw) (fz:List Nat):Option mT:=
 match Bw ax (wN ax deep) args with
 |none=>afN
 |some mB=>
  let tk:=dm (c7 ax deep) args
  match F f with
  |some (.jD Np p)=>match p mB with
   |some (v,news)=>match yO news [] (afI ax) [] v with
    |some (v',n2,_)=>
     if Np then match args with
      | .own t _ _ _ _ _::r=>
       let tr:=dm (c7 ax deep) r
       if has fz t||has tr t then afN
       else afM {v:=v',news:=n2,wr:=[(t,.dead)],rd:=tr}
      |_=>afN
     else afM {v:=v',news:=n2,rd:=tk}
    |none=>afN
   |none=>afN
  |_=>match rec (.func f mB [] []) with
   |some (.func v s1 z1)=>
    if own then match yO s1 z1 (afI ax) [] v with
     |some (v',n2,_)=>afM {v:=v',news:=n2,rd:=tk}
     |none=>afN
    else if v.jP then afM {v,rd:=tk}
    else match x5 s1 v with
     |some v'=>afM {v:=v',rd:=tk,fr:=tk}
     |none=>afN
   |_=>afN
def jx.bH:jx->Bool
 | .dead=>afV
 | .arr _ []=>afV
 |_=>afP
def nT:List Nat->List Nat
 | []=>[]
 |t::r=>if has r t then nT r else t::nT r
mutual
def Bx (g:Nat->Nat):PV->PV
 | .agg cs=> .agg (vZ g cs)
 | .cy cs=> .cy (vZ g cs)
 | .own t e off len cap ex=> .own (g t) e off len cap ex
 | .ptr t e row off=> .ptr (g t) e row off
 | .bD cs off=> .bD (vZ g cs) off
 | .mp t=> .mp (g t)
 | .ez f a b=> .ez f (vZ g a) (vZ g b)
 | .undef=> .undef
 | .jd=> .jd
 | .int k n=> .int k n
 | .bool b=> .bool b
 | .str s=> .str s
 | .sl e c rows=> .sl e c rows
 | .dH=> .dH
def vZ (g:Nat->Nat):List PV->List PV
 | []=>[]
 |x::xs=>Bx g x::vZ g xs
end
def yQ (g:Nat->Nat):jx->jx
 | .box cs=> .box (vZ g cs)
 |b=>b
def Ao (g:Nat->Nat):cw->cw
 | []=>[]
 |b::r=>yQ g b::Ao g r
def jE (tk:List Nat) (n u:Nat):Nat:=
 match tk[u]? with
 |some t=>t
 |none=>n+(u-(afI tk))
def nX (g:Nat->Nat):List Nat->cw->List (Nat×jx)
 |t::r,b::s=>(t,yQ g b)::nX g r s
 |_,_=>[]
def uM:cw->cw->Bool
 | [],_=>afP
 |b::r,c::q=>(match b.bH,c.bH with|true,afP=>afP|false,afV=>afP|_,_=>afV)&&uM r q
 |_::_,[]=>afV
def T5 (args:List PV) (ax:cw) (fz:List Nat) (tk:List Nat):Option (List PV×cw):=
 if tk.all fun t=>!has fz t then
  match yM tk args,wO ax tk tk with
  |some a,afM s=>afM (a,s)
  |_,_=>afN
 else afN
def gW (k:Nat) (v:PV) (s:cw):Bool:=(iH rJ v++(s.take k).flatMap p6).all fun t=>aet t k
def DM (tk:List Nat) (n:Nat) (s0:cw) (v:PV) (s:cw):Option mT:=
 if uM s0 s then afM {v:=Bx (jE tk n) v,news:=if gW (afI tk) v s then [] else Ao (jE tk n) (s.drop (afI tk)),wr:=nX (jE tk n) tk s} else afN
def sM (rec:Task->Option Out) (f:FuncId) (args:List PV) (ax:cw) (fz:List Nat):Option mT:=
 match T5 args ax fz (nT (dm (c7 ax deep) args)) with
 |none=>afN
 |some (a,s0)=>match rec (.func f a s0 []) with
  |some (.func v s [])=>DM (nT (dm (c7 ax deep) args)) (afI ax) s0 v s
  |_=>afN
def fK (rec:Task->Option Out) (f:FuncId) (args:List PV) (ax:cw) (fz:List Nat):Option XR:=
 match rec (.func f args ax fz) with
 |some (.func v s z)=>if aaz (afI ax) (afI s)&&fz.all (has z) then afM (.shr v s z) else afN
 |_=>afN
def v7 (F:lM) (rec:Task->Option Out) (e:Env) (ax:cw) (fz:List Nat):kv->Option XR
 | .call m f args=>match m with
  | .TO=>(dh F rec afV f (DI e args) ax fz).map .loc
  | .own=>(dh F rec afP f (DI e args) ax fz).map .loc
  | .shr=>fK rec f (DI e args) ax fz
  | .fp=>(sM rec f (DI e args) ax fz).map .loc
 | .vY x args=>match x.ev e with
  | .ez f a b=>
   if (DI e args++b).any DL then fK rec f (a++DI e args++b) ax fz
   else (dh F rec afV f (a++DI e args++b) ax fz).map .loc
  |_=>afN
 |op=>(bA e ax fz op).map .loc
def ik (d:Option Nat) (v:PV) (e:Env):Env:=
 match d with
 |some t=>(t,v)::e
 |none=>e
def Jk (s:cw):List jx->cw
 | []=>s
 |b::r=>s++b::r
theorem p9 (s:cw) (l:List jx):Jk s l=s++l:=by
 cases l
 · exact (List.append_nil s).symm
 rfl
def XR.next (d:Option Nat) (st:St):XR->St
 | .loc r=>{env:=ik d r.v st.env,ax:=Jk (fU r.wr st.ax) r.news,fz:=r.fr++st.fz,kn:=st.kn}
 | .shr v s z=>{env:=ik d v st.env,ax:=s,fz:=z,kn:=st.kn}
def XR.tr (nx:Nat):XR->Tr
 | .loc r=>⟨r.rd++r.fr,r.wr.map (·.1),!r.news.isEmpty,afV,(r.rd++r.fr).all (aet · nx)&&r.wr.all (fun p=>aet p.1 nx),nx,nx+afI r.news⟩
 | .shr .. =>⟨[],[],afP,afP,afP,0,0⟩
def uN:List (Nat×jx)->Bool
 | []=>afP
 |p::r=>(r.all fun q=>!Nat.beq q.1 p.1)&&uN r
def XR.ok (fz:List Nat):XR->Bool
 | .loc r=>(r.wr.all fun p=>!has fz p.1)&&uN r.wr
 | .shr .. =>afP
def Tr.idle:Tr:=⟨[],[],afV,afV,afP,0,0⟩
def wanted (g:Option (Nat×Bool)) (e:Env):Option Bool:=
 match g with
 |none=>afM afP
 |some (s,want)=>match lk s e with
  | .bool b=>afM (b==want)
  | .jd=>afM afV
  |_=>afN
def lN (F:lM) (rec:Task->Option Out):List bM->St->List Tr->Option (St×List Tr)
 | [],st,tr=>afM (st,tr)
 |o::r,st,tr=>
  match wanted o.guard st.env with
  |some afP=>match v7 F rec st.env st.ax st.fz o.op with
   |some x=>if x.ok st.fz then lN F rec r (x.next o.dst st) (x.tr (afI st.ax)::tr) else afN
   |none=>afN
  |some afV=>lN F rec r {st with env:=ik o.dst .jd st.env} (Tr.idle::tr)
  |none=>afN
def meets (a b:List Nat):Bool:=a.any (has b)
def Tr.gD (a:Tr):Bool:=!a.rd.isEmpty||!a.wr.isEmpty||a.al||a.Jj
def Tr.tM (a b:Tr):Bool:=
 (a.Jj&&b.gD)||(b.Jj&&a.gD)||meets a.wr b.rd||meets a.wr b.wr||meets a.rd b.wr||
  b.wr.any fun t=>aaz a.lo t&&aet t a.hi
def uO (rows:List Row):Bool:=rows.all fun r=>M2 (afI r) 1&&r.all PV.plain
def HD (args:List PV) (ax:cw) (fz:List Nat):Option (PV×cw×List Nat):=
 match args with
 | [.own t e off len _ _]=>match ax[t]? with
  |some (.box [.sl e1 _ x,.sl e2 _ y])=>if M2 e 1&&M2 off 0&&M2 len 2&&!has fz t&&uO x&&uO y&&aaz 1 (afI x+afI y)&&aaz (afI x+afI y) eA&&(M2 e1 1||x.isEmpty)&&(M2 e2 1||y.isEmpty) then
   afM (.own (afI ax) 1 0 (x++y).length (x++y).length afV,ax.set t .dead++[.arr 1 (x++y)],fz)
   else afN
  |_=>afN
 |_=>afN
def HE (i:Nat) (a:Tr):List (Tr×Nat)->Bool
 | []=>afP
 |(b,bf)::r=>(!a.tM b||bf.testBit i)&&HE i a r
def qc:Nat->List (Tr×Nat)->Bool
 |_,[]=>afP
 |i,(a,_)::r=>a.cl&&HE i a r&&qc (i+1) r
def kG (F:lM) (rec:Task->Option Out) (draw:Option (List Nat)) (ops:List bM) (ft:List Nat) (st:St):Option St:=
 match lN F rec ops st [] with
 |none=>afN
 |some (j7,tr)=>
  let uJ:St:={j7 with env:=ft.map fun s=>(s,lk s j7.env)}
  match draw with
  |none=>afM uJ
  |some bf=>if qc 0 (tr.reverse.zip bf) then afM uJ else afN
def rL (F:lM) (rec:Task->Option Out):iQ->St->Option (gL×St)
 | .skip,st=>afM (.normal,st)
 | .region d ops ft,st=>(kG F rec d ops ft st).map fun s=>(.normal,s)
 | .seq a b,st=>match rL F rec a st with
  |some (.normal,j7)=>rL F rec b j7
  |r=>r
 | .cond c a b,st=>match c.ev st.env with
  | .bool afP=>rL F rec a st
  | .bool afV=>rL F rec b st
  |_=>afN
 | .block id b,st=>match rL F rec b st with
  |some (.exit j,j7)=>if M2 j id then afM (.normal,j7) else afM (.exit j,j7)
  |r=>r
 | .loop live b,st=>match rec (.loop live b st) with
  |some (.code e j7)=>afM (e,j7)
  |_=>afN
 | .exit id,st=>afM (.exit id,st)
 | .ret,st=>afM (.ret,st)
def DN (st:St):RV->Option PV
 | .tmp t=>afM (lk t st.env)
 | .cell t agg=>(nS st.ax agg (lk t st.env)).map (·.v)
def mV (st:St):List RV->Option (List PV)
 | []=>afM []
 |r::rs=>match DN st r,mV st rs with
  |some v,afM vs=>afM (v::vs)
  |_,_=>afN
def results1:List PV->PV
 | [v]=>v
 |vs=> .cy vs
def tN:Nat->List PV->Env
 |_,[]=>[]
 |i,v::r=>(i,v)::tN (i+1) r
def step (F:lM) (rec:Task->Option Out):Task->Option Out
 | .func f args ax fz=>match F f with
  |some (.code x)=>
   if M2 (afI args) x.CB then
    match rL F rec x.code {env:=tN 0 args,ax,fz,kn:=afI ax} with
    |some (.normal,st)=>(mV st x.res).map fun vs=> .func (results1 vs) st.ax st.fz
    |some (.ret,st)=>(mV st x.res).map fun vs=> .func (results1 vs) st.ax st.fz
    |_=>afN
   else afN
  |some (.FW p)=>(p args ax fz).map fun r=> .func r.1 r.2.1 r.2.2
  |_=>afN
 | .loop live b st=>match norm live st with
  |none=>afN
  |some mW=>match rL F rec b mW with
   |some (.normal,uJ)=>rec (.loop live b uJ)
   |some (e,uJ)=>afM (.code e uJ)
   |none=>afN
def fx (esz:Nat):List PV->Option (PV×cw)
 | [.sl e _ rows]=>match rows with
  | []=>afM (.own 1 esz 0 0 0 afV,[.arr esz [],.arr esz []])
  |r::rs=>if M2 e esz&&aaz (afI rs+1) eA then afM (.own 1 esz 0 (0+(afI rs+1)) (0+(afI rs+1)) afV,[.arr esz [],.arr esz (r::rs)]) else afN
 |_=>afN
def HF (esz:Nat) (args:List PV) (ax:cw) (fz:List Nat):Option (PV×cw×List Nat):=
 match args with
 | [.own t e off len _ _,.int .i64 i,.own u e2 aeW Jl _ _]=>
  match ax[t]?,ax[u]? with
  |some (.arr _ rows),afM (.arr _ new)=>
   if M2 e esz&&M2 e2 esz&&M2 off 0&&M2 aeW 0&&M2 len (afI rows)&&M2 Jl 1&&M2 (afI new) 1&&!Nat.beq t u&&!has fz t&&agd (0<=i)&&aaz i.toNat len&&aaz (len+1) eA then
    afM (.own (afI ax) esz 0 (len+1) (len+1) afV,ax.set t .dead++[.arr esz (rows.take i.toNat++new++rows.drop i.toNat)],fz)
   else afN
  |_,_=>afN
 |_=>afN
def zn:List PV->Option (PV×cw)
 | [.int .u64 (.ofNat a),.int .u64 (.ofNat b),.int .u64 (.ofNat c)]=>
  if aaz c 1 then
   let s:=a+b+c
   afM (.cy [.int .u64 (.ofNat (s%18446744073709551616)),.int .u64 (.ofNat (s / 18446744073709551616))],[])
  else afN
 |_=>afN
noncomputable def run (F:lM) (n:Nat):Task->Option Out:=Nat.rec (fun _=>afN) (fun _ ih=>step F ih) n
end Go.Vm
/- Rules for the logical machine: what more fuel keeps, and a calculus of its runs. -/
namespace Go.Vm
def Le (r s:Task->Option Out):Prop:= ∀t o,r t=afM o->s t=afM o
structure Y6 (F G:lM) (r:Task->Option Out):Prop where
 yes: ∀f e,F f=afM e->G f=afM e
 no: ∀f,F f=afN->G f=afN\/ ∀a,r (.func f a [] [])=afN
theorem Y6.refl (F:lM) (r:Task->Option Out):Y6 F F r:=⟨fun _ _ h=>h,fun _ h=> .inl h⟩
theorem sN {F G:lM} {r s:Task->Option Out} (g:Y6 F G r) (h:Le r s) {own:Bool} {f:FuncId} {args:List PV} {ax:cw} {fz:List Nat} {x:mT}
 (hx:dh F r own f args ax fz=afM x):dh G s own f args ax fz=afM x:=by
 cases ha:Bw ax (wN ax deep) args with
 |none=>simp [dh,ha] at hx
 |some a=>
  simp only [dh,ha] at hx ⊢;cases hp:F f with
  |none=>
   rw [hp] at hx;dsimp only at hx;cases hr:r (.func f a [] []) with
   |none=>rw [hr] at hx;cases hx
   |some o=>
    rw [hr] at hx;rcases g.no f hp with hq|hq
    · rw [hq];dsimp only;rw [h _ _ hr];exact hx
    rw [hq a] at hr;cases hr
  |some en=>
   rw [hp] at hx;rw [g.yes f _ hp];cases en with
   |jD k p=>exact hx
   |code x=>
    dsimp only at hx ⊢;cases hr:r (.func f a [] []) with
    |none=>rw [hr] at hx;cases hx
    |some o=>rw [hr] at hx;rw [h _ _ hr];exact hx
   |FW x=>
    dsimp only at hx ⊢;cases hr:r (.func f a [] []) with
    |none=>rw [hr] at hx;cases hx
    |some o=>rw [hr] at hx;rw [h _ _ hr];exact hx
theorem v8 {r s:Task->Option Out} (h:Le r s) {f:FuncId} {args:List PV} {ax:cw} {fz:List Nat} {x:XR}
 (hx:fK r f args ax fz=afM x):fK s f args ax fz=afM x:=by
 unfold fK at hx ⊢;cases hr:r (.func f args ax fz) with
 |none=>rw [hr] at hx;cases hx
 |some o=>rw [hr] at hx;rw [h _ _ hr];exact hx
theorem Jm {r s:Task->Option Out} (h:Le r s) {f:FuncId} {args:List PV} {ax:cw} {fz:List Nat} {x:mT}
 (hx:sM r f args ax fz=afM x):sM s f args ax fz=afM x:=by
 unfold sM at hx ⊢;cases hl:T5 args ax fz (nT (dm (c7 ax deep) args)) with
 |none=>rw [hl] at hx;cases hx
 |some p=>
  rw [hl] at hx;dsimp only at hx ⊢;cases hr:r (.func f p.1 p.2 []) with
  |none=>rw [hr] at hx;cases hx
  |some o=>rw [hr] at hx;rw [h _ _ hr];exact hx
theorem Jn {F G:lM} {r s:Task->Option Out} (g:Y6 F G r) (h:Le r s) {e:Env} {ax:cw} {fz:List Nat} {op:kv} {x:XR}
 (hx:v7 F r e ax fz op=afM x):v7 G s e ax fz op=afM x:=by
 cases op with
 |call m f args=>
  cases m with
  |TO=>simp only [v7,Do] at hx ⊢;obtain ⟨a,ha,rfl⟩:=hx;exact ⟨a,sN g h ha,rfl⟩
  |own=>simp only [v7,Do] at hx ⊢;obtain ⟨a,ha,rfl⟩:=hx;exact ⟨a,sN g h ha,rfl⟩
  |shr=>exact v8 h hx
  |fp=>simp only [v7,Do] at hx ⊢;obtain ⟨a,ha,rfl⟩:=hx;exact ⟨a,Jm h ha,rfl⟩
 |vY c args=>
  simp only [v7] at hx ⊢;split at hx
  · split at hx
    · rename_i hc;simp only [hc,if_true];exact v8 h hx
    rename_i hc
    rw [ut hc];rw [Do] at hx ⊢;obtain ⟨a,ha,rfl⟩:=hx;exact ⟨a,sN g h ha,rfl⟩
  cases hx
 |_=>exact hx
theorem DO {F G:lM} {r s:Task->Option Out} (g:Y6 F G r) (h:Le r s) (ops:List bM):
 ∀(st:St) (tr:List Tr) (x:St×List Tr),lN F r ops st tr=afM x->lN G s ops st tr=afM x:=by
 induction ops with
 |nil=>intro st tr x hx;exact hx
 |cons o l ih=>
  intro st tr x hx;simp only [lN] at hx ⊢;cases hw:wanted o.guard st.env with
  |none=>rw [hw] at hx;cases hx
  |some b=>
   rw [hw] at hx;cases b with
   |false=>exact ih _ _ _ hx
   |true=>
    dsimp only at hx ⊢;cases hy:v7 F r st.env st.ax st.fz o.op with
    |none=>rw [hy] at hx;cases hx
    |some y=>
     rw [hy] at hx;rw [Jn g h hy];dsimp only at hx ⊢;split at hx
     · rename_i zo;rw [rc zo];exact ih _ _ _ hx
     cases hx
theorem F0 {F G:lM} {r s:Task->Option Out} (g:Y6 F G r) (h:Le r s) {d:Option (List Nat)} {ops:List bM} {ft:List Nat} {st j7:St}
 (hx:kG F r d ops ft st=afM j7):kG G s d ops ft st=afM j7:=by
 unfold kG at hx ⊢;cases hy:lN F r ops st [] with
 |none=>rw [hy] at hx;cases hx
 |some y=>rw [hy] at hx;rw [DO g h _ _ _ _ hy];exact hx
theorem o9 {F G:lM} {r s:Task->Option Out} (g:Y6 F G r) (h:Le r s) (c:iQ):
 ∀(st:St) (x:gL×St),rL F r c st=afM x->rL G s c st=afM x:=by
 induction c with
 |skip=>intro st x hx;exact hx
 |region d ops ft=>intro st x hx;simp only [rL,Do] at hx ⊢;obtain ⟨a,ha,rfl⟩:=hx;exact ⟨a,F0 g h ha,rfl⟩
 |seq a b Y7 T6=>
  intro st x hx;simp only [rL] at hx ⊢;cases hy:rL F r a st with
  |none=>rw [hy] at hx;cases hx
  |some y=>
   rw [hy] at hx;rw [Y7 _ _ hy];obtain ⟨e,mW⟩:=y;cases e with
   |normal=>exact T6 _ _ hx
   |exit i=>exact hx
   |ret=>exact hx
 |cond c a b Y7 T6=>
  intro st x hx;simp only [rL] at hx ⊢;split at hx
  · exact Y7 _ _ hx
  · exact T6 _ _ hx
  cases hx
 |block id b ih=>
  intro st x hx;simp only [rL] at hx ⊢;cases hy:rL F r b st with
  |none=>rw [hy] at hx;cases hx
  |some y=>rw [hy] at hx;rw [ih _ _ hy];exact hx
 |loop live b _=>
  intro st x hx;simp only [rL] at hx ⊢;split at hx
  · rename_i e mW hr;rw [h _ _ hr];exact hx
  cases hx
 |exit id=>intro st x hx;exact hx
 |ret=>intro st x hx;exact hx
theorem OO {F G:lM} {r s:Task->Option Out} (g:Y6 F G r) (h:Le r s):Le (step F r) (step G s):=by
 intro t o ho;cases t with
 |func f args ax fz=>
  simp only [step] at ho ⊢;split at ho
  · rename_i x hx
    rw [g.yes f _ hx];dsimp only;split at ho
    · rename_i hl
      simp only [hl,if_true];split at ho
      · rename_i mW hc;rw [o9 g h _ _ _ hc];exact ho
      · rename_i mW hc;rw [o9 g h _ _ _ hc];exact ho
      cases ho
    cases ho
  · rename_i p hx
    rw [g.yes f _ hx];exact ho
  cases ho
 |loop live b st=>
  simp only [step] at ho ⊢;split at ho
  · cases ho
  rename_i mW hn
  split at ho
  · rename_i uJ hc;rw [o9 g h _ _ _ hc];exact h _ _ ho
  · rename_i e uJ dK hc
    rw [o9 g h _ _ _ hc];cases e with
    |normal=>exact absurd rfl (dK ·)
    |exit i=>exact ho
    |ret=>exact ho
  cases ho
theorem kH (F:lM) (n:Nat):run F (n+1)=step F (run F n):=rfl
theorem ZZ (F:lM) (n:Nat):Le (run F n) (run F (n+1)):=by
 induction n with
 |zero=>intro t o h;cases h
 |succ n ih=>exact OO (.refl _ _) ih
theorem pf (F:lM) {n m:Nat} (h:n<=m):Le (run F n) (run F m):=by
 induction h with
 |refl=>intro t o h;exact h
 |step _ ih=>intro t o h;exact ZZ F _ _ _ (ih _ _ h)
def Fin (F:lM) (t:Task) (Q:Out->Prop):Prop:= ∃n o,run F n t=afM o/\Q o
def WP (F:lM) (c:iQ) (st:St) (Q:gL->St->Prop):Prop:= ∃n e s,rL F (run F n) c st=afM (e,s)/\Q e s
def WO (F:lM) (ops:List bM) (st:St) (tr:List Tr) (Q:St->List Tr->Prop):Prop:=
 ∃n s t,lN F (run F n) ops st tr=afM (s,t)/\Q s t
variable {F : lM}
theorem Fin.mono {t:Task} {Q R:Out->Prop} (h:Fin F t Q) (hr: ∀o,Q o->R o):Fin F t R:=
 let ⟨n,o,e,q⟩:=h;⟨n,o,e,hr _ q⟩
theorem WP.mono {c:iQ} {st:St} {Q R:gL->St->Prop} (h:WP F c st Q) (hr: ∀e s,Q e s->R e s):WP F c st R:=
 let ⟨n,e,s,x,q⟩:=h;⟨n,e,s,x,hr _ _ q⟩
theorem WP.skip {st:St} {Q:gL->St->Prop} (h:Q .normal st):WP F .skip st Q:=⟨0,_,_,rfl,h⟩
theorem WP.ret {st:St} {Q:gL->St->Prop} (h:Q .ret st):WP F .ret st Q:=⟨0,_,_,rfl,h⟩
theorem WP.exit {id:Nat} {st:St} {Q:gL->St->Prop} (h:Q (.exit id) st):WP F (.exit id) st Q:=⟨0,_,_,rfl,h⟩
def andThen (k:St->Prop) (Q:gL->St->Prop):gL->St->Prop
 | .normal,s=>k s
 |e,s=>Q e s
theorem WP.seq {a b:iQ} {st:St} {Q:gL->St->Prop} (h:WP F a st (andThen (fun s=>WP F b s Q) Q)):WP F (.seq a b) st Q:=by
 obtain ⟨n,e,s,he,hq⟩:=h;cases e with
 |normal=>obtain ⟨m,e',s',Bq,Ql⟩:=hq;refine ⟨max n m,e',s',?_,Ql⟩;simp only [rL];rw [o9 (.refl _ _) (pf F (aeO n m)) _ _ _ he];exact o9 (.refl _ _) (pf F (aeE n m)) _ _ _ Bq
 |exit i=>exact ⟨n,_,s,by simp only [rL,he],hq⟩
 |ret=>exact ⟨n,_,s,by simp only [rL,he],hq⟩
theorem WP.Y8 {c:fv} {a b:iQ} {st:St} {Q:gL->St->Prop} (hc:c.ev st.env= .bool afP) (h:WP F a st Q):WP F (.cond c a b) st Q:=by obtain ⟨n,e,s,he,hq⟩:=h;exact ⟨n,e,s,by simp only [rL,hc,he],hq⟩
theorem WP.Y9 {c:fv} {a b:iQ} {st:St} {Q:gL->St->Prop} (hc:c.ev st.env= .bool afV) (h:WP F b st Q):WP F (.cond c a b) st Q:=by obtain ⟨n,e,s,he,hq⟩:=h;exact ⟨n,e,s,by simp only [rL,hc,he],hq⟩
theorem WP.cond {c:fv} {a b:iQ} {st:St} {Q:gL->St->Prop} (t:Bool) (hc:c.ev st.env= .bool t)
 (ha:t=afP->WP F a st Q) (hb:t=afV->WP F b st Q):WP F (.cond c a b) st Q:=by
 cases t
 · exact WP.Y9 hc (hb rfl)
 exact WP.Y8 hc (ha rfl)
def inBlock (id:Nat) (Q:gL->St->Prop):gL->St->Prop
 | .exit j,s=>if j=id then Q .normal s else Q (.exit j) s
 |e,s=>Q e s
theorem WP.block {id:Nat} {b:iQ} {st:St} {Q:gL->St->Prop} (h:WP F b st (inBlock id Q)):WP F (.block id b) st Q:=by
 obtain ⟨n,e,s,he,hq⟩:=h;cases e with
 |normal=>exact ⟨n,_,s,by simp only [rL,he],hq⟩
 |ret=>exact ⟨n,_,s,by simp only [rL,he],hq⟩
 |exit j=>
  by_cases hj:j=id
  · subst hj
    have Ql:Q .normal s:=by simpa [inBlock] using hq
    exact ⟨n,.normal,s,by simp [rL,he],Ql⟩
  have Ql:Q (.exit j) s:=by simpa [inBlock,hj] using hq
  exact ⟨n,.exit j,s,by simp [rL,he,hj],Ql⟩
def pg (ft:List Nat) (s:St):St:={s with env:=ft.map fun t=>(t,lk t s.env)}
theorem WP.region {ops:List bM} {ft:List Nat} {st:St} {Q:gL->St->Prop}
 (h:WO F ops st [] (fun s _=>Q .normal (pg ft s))):WP F (.region afN ops ft) st Q:=by
 obtain ⟨n,s,t,he,hq⟩:=h;exact ⟨n,.normal,_,by simp only [rL,kG,he];rfl,hq⟩
theorem WP.T7 {bf:List Nat} {ops:List bM} {ft:List Nat} {st:St} {Q:gL->St->Prop}
 (h:WO F ops st [] (fun s t=>qc 0 (t.reverse.zip bf)=afP/\Q .normal (pg ft s))):WP F (.region (afM bf) ops ft) st Q:=by
 obtain ⟨n,s,t,he,ho,hq⟩:=h;exact ⟨n,.normal,pg ft s,by simp [rL,kG,he,ho,pg],hq⟩
theorem WO.nil {st:St} {tr:List Tr} {Q:St->List Tr->Prop} (h:Q st tr):WO F [] st tr Q:=⟨0,_,_,rfl,h⟩
theorem WO.op {o:bM} {r:List bM} {st:St} {tr:List Tr} {Q:St->List Tr->Prop} (x:mT)
 (hw:wanted o.guard st.env=afM afP) (hx: ∀rec,v7 F rec st.env st.ax st.fz o.op=afM (.loc x)) (zo:(XR.loc x).ok st.fz=afP)
 (h:WO F r ((XR.loc x).next o.dst st) ((XR.loc x).tr (afI st.ax)::tr) Q):WO F (o::r) st tr Q:=by
 obtain ⟨n,s,t,he,hq⟩:=h;exact ⟨n,s,t,by simp only [lN,hw,hx,zo,if_true,he],hq⟩
theorem WO.skip {o:bM} {r:List bM} {st:St} {tr:List Tr} {Q:St->List Tr->Prop}
 (hw:wanted o.guard st.env=afM afV)
 (h:WO F r {st with env:=ik o.dst .jd st.env} (Tr.idle::tr) Q):WO F (o::r) st tr Q:=by
 obtain ⟨n,s,t,he,hq⟩:=h;exact ⟨n,s,t,by simp only [lN,hw,he],hq⟩
theorem WO.call {o:bM} {r:List bM} {st:St} {tr:List Tr} {Q:St->List Tr->Prop} (x:XR)
 (hw:wanted o.guard st.env=afM afP) (hx: ∃n,v7 F (run F n) st.env st.ax st.fz o.op=afM x) (zo:x.ok st.fz=afP)
 (h:WO F r (x.next o.dst st) (x.tr (afI st.ax)::tr) Q):WO F (o::r) st tr Q:=by
 obtain ⟨n,s,t,he,hq⟩:=h;obtain ⟨m,hx⟩:=hx;refine ⟨max n m,s,t,?_,hq⟩;simp only [lN,hw];rw [Jn (.refl _ _) (pf F (aeE n m)) hx];dsimp only;rw [rc zo];exact DO (.refl _ _) (pf F (aeO n m)) _ _ _ _ he
theorem WP.loop {α:Type} {live:List (Nat×Option Nat)} {b:iQ} {st:St} {Q:gL->St->Prop} (S:α->St) (I:α->Prop) (μ:α->Nat)
 (x:α) (h0:norm live st=afM (S x)) (hI:I x)
 (round: ∀x,I x->WP F b (S x) (andThen (fun s=> ∃y,norm live s=afM (S y)/\I y/\μ y<μ x) Q)):WP F (.loop live b) st Q:=by
 have key: ∀k x st,μ x=k->I x->norm live st=afM (S x)-> ∃n e s,run F n (.loop live b st)=afM (.code e s)/\Q e s:=by
  intro k
  induction k using Nat.strongRecOn with
  |_ k ih=>
   intro x st hk hI h0;obtain ⟨n,e,s,he,hq⟩:=round x hI;cases e with
   |normal=>obtain ⟨y,hy,hIy,dz⟩:=hq;obtain ⟨m,e',s',hr,Ql⟩:=ih (μ y) (hk▸dz) y s rfl hIy hy;refine ⟨max n m+1,e',s',?_,Ql⟩;rw [kH];simp only [step,h0];rw [o9 (.refl _ _) (pf F (aeO n m)) _ _ _ he];exact pf F (aeE n m) _ _ hr
   |exit i=>exact ⟨n+1,_,s,by rw [kH];simp only [step,h0,he],hq⟩
   |ret=>exact ⟨n+1,_,s,by rw [kH];simp only [step,h0,he],hq⟩
 obtain ⟨n,e,s,hr,hq⟩:=key _ x st rfl hI h0;exact ⟨n,e,s,by simp only [rL,hr],hq⟩
def HG (x:aN) (R:PV->cw->List Nat->Prop):gL->St->Prop
 | .normal,s=> ∃vs,mV s x.res=afM vs/\R (results1 vs) s.ax s.fz
 | .ret,s=> ∃vs,mV s x.res=afM vs/\R (results1 vs) s.ax s.fz
 | .exit _,_=>False
def zp (F:lM) (f:FuncId) (args:List PV) (ax:cw) (fz:List Nat) (R:PV->cw->List Nat->Prop):Prop:=
 ∃n v s z,run F n (.func f args ax fz)=afM (.func v s z)/\R v s z
theorem zp.of {f:FuncId} {x:aN} {args:List PV} {ax:cw} {fz:List Nat} {R:PV->cw->List Nat->Prop}
 (hf:F f=afM (.code x)) (hn:M2 (afI args) x.CB=afP)
 (h:WP F x.code {env:=tN 0 args,ax,fz,kn:=afI ax} (HG x R)):zp F f args ax fz R:=by
 obtain ⟨n,e,s,he,hq⟩:=h;cases e with
 |normal=>obtain ⟨vs,hv,hr⟩:=hq;exact ⟨n+1,_,_,_,by rw [kH];simp only [step,hf,hn,he,hv,if_true];rfl,hr⟩
 |ret=>obtain ⟨vs,hv,hr⟩:=hq;exact ⟨n+1,_,_,_,by rw [kH];simp only [step,hf,hn,he,hv,if_true];rfl,hr⟩
 |exit i=>exact hq.elim
def Pure (F:lM) (f:FuncId) (args:List PV) (v:PV):Prop:=
 (∀k p,F f≠afM (.jD k p))/\zp F f args [] [] fun u _ _=>u.jP=afP/\u=v
def Nq (F:lM) (f:FuncId) (args:List PV) (v:PV):Prop:=
 (∀k p,F f≠afM (.jD k p))/\zp F f args [] [] fun u s _=>u.jP=afV/\x5 s u=afM v
theorem Pure.of {f:FuncId} {x:aN} {args:List PV} {v:PV}
 (hf:F f=afM (.code x)) (hn:M2 (afI args) x.CB=afP)
 (h:WP F x.code {env:=tN 0 args,ax:=[],fz:=[],kn:=0} (HG x fun u _ _=>u.jP=afP/\u=v)):
 Pure F f args v:=⟨fun k p e=>by (rw [hf] at e;cases e),zp.of hf hn h⟩
theorem Nq.of {f:FuncId} {x:aN} {args:List PV} {v:PV}
 (hf:F f=afM (.code x)) (hn:M2 (afI args) x.CB=afP)
 (h:WP F x.code {env:=tN 0 args,ax:=[],fz:=[],kn:=0} (HG x fun u s _=>u.jP=afV/\x5 s u=afM v)):
 Nq F f args v:=⟨fun k p e=>by (rw [hf] at e;cases e),zp.of hf hn h⟩
theorem Pure.dh {f:FuncId} {as args:List PV} {ax:cw} {fz:List Nat} {v:PV} (h:Pure F f args v)
 (ha:Bw ax (wN ax deep) as=afM args):
 ∃n,Vm.dh F (run F n) afV f as ax fz=afM {v,rd:=dm (c7 ax deep) as}:=by
 obtain ⟨hp,n,u,s,z,hr,h1,h2⟩:=h;subst h2;refine ⟨n,?_⟩;simp only [Vm.dh,ha];cases hf:F f with
 |none=>simp [hr,h1]
 |some en=>
  cases en with
  |jD k p=>exact absurd hf (hp k p)
  |code x=>simp [hr,h1]
  |FW x=>simp [hr,h1]
theorem Nq.dh {f:FuncId} {as args:List PV} {ax:cw} {fz:List Nat} {v:PV} (h:Nq F f args v)
 (ha:Bw ax (wN ax deep) as=afM args):
 ∃n,Vm.dh F (run F n) afV f as ax fz=afM {v,rd:=dm (c7 ax deep) as,fr:=dm (c7 ax deep) as}:=by
 obtain ⟨hp,n,u,s,z,hr,h1,h2⟩:=h;refine ⟨n,?_⟩;simp only [Vm.dh,ha];cases hf:F f with
 |none=>simp [hr,h1,h2]
 |some en=>
  cases en with
  |jD k p=>exact absurd hf (hp k p)
  |code x=>simp [hr,h1,h2]
  |FW x=>simp [hr,h1,h2]
theorem WO.pure {d:Option Nat} {g:Option (Nat×Bool)} {f:FuncId} {as:List fv} {r:List bM} {st:St} {tr:List Tr} {Q:St->List Tr->Prop}
 {args:List PV} {v:PV} (h:Pure F f args v)
 (hw:wanted g st.env=afM afP) (ha:Bw st.ax (wN st.ax deep) (DI st.env as)=afM args)
 (k:WO F r ((XR.loc {v,rd:=dm (c7 st.ax deep) (DI st.env as)}).next d st) ((XR.loc {v,rd:=dm (c7 st.ax deep) (DI st.env as)}).tr (afI st.ax)::tr) Q):
 WO F (⟨d,.call .TO f as,g⟩::r) st tr Q:=by
 obtain ⟨n,hn⟩:=h.dh (fz:=st.fz) ha;exact WO.call _ hw ⟨n,by simp only [v7,hn];rfl⟩ rfl k
end Go.Vm
/- The look at an operation of the model: is the logical machine's operation its own? -/
namespace Go.Vm
mutual
def sO:PV->Value->Bool
 | .int k n,.int l m=>fk k l&&n==m
 | .bool a,.bool b=>a==b
 | .sl _ _ [],.slice afN 0 0=>afP
 | .agg cs,.agg vs=>DP cs vs.toList
 | .dH,.nilFunc=>afP
 | .str s,.string t=>s.data.toList==t.data.toList
 | .undef,_=>afP
 |_,_=>afV
def DP:List PV->List Value->Bool
 | [],[]=>afP
 |x::xs,v::vs=>sO x v&&DP xs vs
 |_,_=>afV
end
def bu:fv->Operand->Bool
 | .t n,.tmp m=>n==m
 | .c v,.const u=>sO v u
 | .c (.ez f [] []),.func g=>f==g
 | .c .undef,_=>afP
 |_,_=>afV
def eJ:List fv->List Operand->Bool
 | [],[]=>afP
 |x::xs,o::os=>bu x o&&eJ xs os
 |_,_=>afV
def HH:Option fv->Option Operand->Bool
 |none,afN=>afP
 |some x,afM o=>bu x o
 |_,_=>afV
section
variable (P : Program)
def gE (t:TypeId):Bool:=
 match P.underlying t with
 |some (.struct _)|some (.array _ _)=>afP
 |_=>afV
def nN (t:TypeId) (n:Nat):Bool:=(P.info? t).any fun i=>i.size==n
def Dn (t:TypeId):Bool:=(P.info? t).any fun i=>aaz i.bytes 1048576
def Ap (t:TypeId) (agg:Option Nat):Bool:=
 (P.underlying t).isSome&&match agg with
 |some n=>gE P t&&nN P t n
 |none=>!gE P t&&nN P t 1
def x6 (t:TypeId) (esz:Nat):Bool:=
 match P.underlying t with
 |some (.slice e)=>nN P e esz
 |_=>afV
def qE (t:TypeId):Bool:=
 match P.underlying t with
 |some (.slice _)=>afP
 |_=>afV
def Nr (t:TypeId) (n esz:Nat):Bool:=
 match P.underlying t with
 |some (.array m e)=>m==n&&nN P e esz
 |_=>afV
def sP (t:TypeId) (cells:List PV):Bool:=
 match (P.info? t).bind (·.zero) with
 |some v=>DP cells v.cells.toList
 |none=>afV
def flat:Nat->TypeId->Option Nat
 |0,_=>afN
 |d+1,t=>
  match P.underlying t with
  |some (.int _)=>if nN P t 1 then afM 1 else afN
  |some (.struct fs)=>
   if P.stoodInHeld t then afN else
   match fs.toList.foldl (fun r f=>match r with
    |some n=>if f.offset==n&&f.name != "_" then (match flat d f.type with
     |some m=>if nN P f.type m then afM (n+m) else afN
     |none=>afN) else afN
    |none=>afN) (afM 0) with
   |some n=>if nN P t n then afM n else afN
   |none=>afN
  |_=>afN
def tO (place:Nat->Option (Nat×Nat)):List (Nat×Nat×fv)->List (Nat×Operand)->Bool
 | [],[]=>afP
 |(off,sz,x)::r,(i,o)::s=>(match place i with|some (a,b)=>a==off&&b==sz|none=>afV)&&bu x o&&tO place r s
 |_,_=>afV
def mC:List (Nat×fv)->List (Nat×Operand)->Bool
 | [],[]=>afP
 |(i,x)::r,(j,o)::s=>i==j&&bu x o&&mC r s
 |_,_=>afV
def placeOf (t:TypeId):Nat->Option (Nat×Nat):=
 match P.underlying t with
 |some (.struct fs)=>fun i=>(fs[i]?).bind fun f=>(P.info? f.type).map fun j=>(f.offset,j.size)
 |some (.array _ e)=>fun i=>(P.info? e).map fun j=>(i*j.size,j.size)
 |_=>fun _=>afN
def wQ (t:TypeId) (n:Option Nat):Bool:=
 match n with
 |none=>(match P.underlying t with|some (.int _)=>afP|_=>afV)
 |some n=>gE P t&&flat P 100 t==afM n
def T8 (f:FuncId):Bool:=(P.funcs[f]?).any fun fn=>fn.body.isSome&&!(fn.name== "runtime.NumGoroutine")
def wa (prims:FuncId->Bool) (ty:TypeId):kv->Op->Bool
 | .Qk x,.move o=>bu x o
 | .Qk x,.assign o=>bu x o
 | .pick c a b,.pick d e f=>bu c d&&bu a e&&bu b f
 | .bin op x y,.binOp op' _ a b _=>op==op'&&bu x a&&bu y b
 | .Jd neg x y,.binOp op t a b _=>(if neg then op== .neq else op== .eql)&&P.underlying t matches afM .bool&&bu x a&&bu y b
 | .Y1 n neg x y,.binOp op t a b _=>(if neg then op== .neq else op== .eql)&&gE P t&&flat P 100 t==afM n&&!P.eqGuardType P.depth t&&bu x a&&bu y b
 | .un op x,.unOp op' _ a=>op==op'&&bu x a
 | .conv k x,.convert s d a=>(P.underlying s).isSome&&(match P.underlying d with|some (.int l)=>fk k l|_=>afV)&&bu x a
 | .len x,.call {callee:= .builtin .len,args,argTypes}=>(match argTypes[0]? with|some t=>qE P t|none=>afV)&&eJ [x] args.toList
 | .LB n,.call {callee:= .builtin .len,args,argTypes}=>!args.isEmpty&&(match argTypes[0]? with
  |some t=>(match P.underlying t with
   |some (.array m _)=>m==n
   |some (.pointer e)=>(match P.underlying e with|some (.array m _)=>m==n|_=>afV)
   |_=>afV)
  |none=>afV)
 | .box x,.box _ a=>bu x a
 | .alloc cells,.alloc t=>sP P t cells
 | .build zero parts,.build t ps=>sP P t zero&&gE P t&&tO (placeOf P t) parts ps.toList
  &&(match P.underlying t with|some (.struct fs)=>fs.all fun f=>(P.info? f.type).isSome|some (.array _ e)=>(P.info? e).isSome|_=>afV)
 | .Am esz n zero parts,.buildSlice t m ps=>n==m&&(match P.underlying t with|some (.slice e)=>nN P e esz&&sP P e zero&&(afI zero)==esz&&!(esz==0)|_=>afV)&&aaz (n*esz) 1048576&&zero.all PV.plain&&mC parts ps.toList
 | .load agg p,.load t a=>Ap P t agg&&bu p a
 | .store sz p v,.store t a b=>nN P t sz&&bu p a&&bu v b
 | .Je x,.nilCheck a=>bu x a
 | .Jf off p,.fieldAddr t a f=>(match P.underlying t with
  |some (.struct fs)=>(match fs[f]? with|some g=>g.offset==off&&(P.info? g.type).any fun i=>!(i.size==0)|none=>afV)
  |_=>afV)&&bu p a
 | .j0 agg off x,.field t a f=>(match P.underlying t with
  |some (.struct fs)=>(match fs[f]? with|some g=>g.offset==off&&Ap P g.type agg|none=>afV)
  |_=>afV)&&bu x a
 | .Jg esz x i,.indexAddr t a j=>x6 P t esz&&bu x a&&bu i j
 | .CA n esz p i,.indexAddr t a j=>Nr P t n esz&&bu p a&&bu i j
 | .idx n esz agg x i,.index t a j=>(match P.underlying t with|some (.array m e)=>m==n&&nN P e esz&&Ap P e agg|_=>afV)&&bu x a&&bu i j
 | .Jh x i,.index t a j=>P.underlying t matches afM .string&&bu x a&&bu i j
 | .OM esz x l h m,.slice t a b c d=>(m.isNone||h.isSome)&&x6 P t esz&&bu x a&&HH l b&&HH h c&&HH m d
 | .Y2 esz zero l c,.makeSlice t a b=>(match P.underlying t with|some (.slice e)=>nN P e esz&&sP P e zero&&(afI zero)==esz&&Dn P e&&!(esz==0)|_=>afV)&&zero.all PV.plain&&bu l a&&bu c b
 | .Y3 fn a b,.makeFunc (.func g) c d=>fn==g&&eJ a c.toList&&eJ b d.toList
 | .Y4 _,.makeMap _ afN=>afP
 | .ext i x,.extract a j=>i==j&&bu x a
 | .append esz x y,.call {callee:= .builtin .append,args,argTypes}=>(match argTypes.toList with
  | [t,u]=>(match P.underlying t with|some (.slice e)=>nN P e esz&&Dn P e&&!(esz==0)&&(P.info? e).any (fun i=>i.zero.any fun z=>z.cells.size==esz)|_=>afV)&&qE P u
  |_=>afV)&&eJ [x,y] args.toList
 | .lookup n zero ok m k,.lookup t a b ok'=>ok==ok'&&(match P.underlying t with|some (.map kt et)=>wQ P kt n&&(match (P.info? et).bind (·.zero) with|some v=>sO zero v|none=>afV)|_=>afV)&&bu m a&&bu k b
 | .HA n m k v,.mapUpdate t a b c=>(match P.underlying t with|some (.map kt _)=>wQ P kt n|_=>afV)&&bu m a&&bu k b&&bu v c
 | .copy esz x y,.call {callee:= .builtin .copy,args,argTypes}=>(match argTypes.toList with| [t,u]=>x6 P t esz&&qE P u|_=>afV)&&eJ [x,y] args.toList
 | .clear esz zero x,.call {callee:= .builtin .clear,args,argTypes}=>(match argTypes.toList with
  | [t]=>(match P.underlying t with|some (.slice e)=>nN P e esz&&sP P e zero&&(afI zero)==esz&&zero.all PV.plain|_=>afV)
  |_=>afV)&&eJ [x] args.toList
 | .mm isMax x xs,.call {callee:= .builtin b,args,argTypes:=_}=>(if isMax then b== .max else b== .min)&&eJ (x::xs) args.toList
 | .call _ f args,.call {callee:= .value (.func g),args:=as,argTypes:=_}=>f==g&&(prims f||T8 P f)&&eJ args as.toList
 | .vY x args,.call {callee:= .value (.tmp t),args:=as,argTypes:=_}=>bu x (.tmp t)&&eJ args as.toList
 | .Cz x y,.buildSlice t m ps=>m==2&&(match P.underlying t with|some (.slice e)=>nN P e 1&&(P.info? e).any (fun i=>i.zero.any fun z=>z.cells.size==1)|_=>afV)&&(match ps.toList with| [(i,a),(j,b)]=>i==0&&j==1&&bu x a&&bu y b|_=>afV)
 | .HA n m k v,.insert t a b c=>(match P.underlying t with|some (.map kt _)=>wQ P kt n|_=>afV)&&bu m a&&bu k b&&bu v c
 | .bad,_=>afP
 |_,_=>ty==0&&afV
end
end Go.Vm
/- What a pure value says of a value of the model, a block of the call's own of the memory. -/
namespace Go.Vm
structure Tape (w w':World):Prop where
 eq:w'.tape=w.tape
 dr:w.drawn<=w'.drawn
theorem Tape.refl (w:World):Tape w w:=⟨rfl,IR _⟩
theorem Tape.trans {a b c:World} (h2:Tape b c) (h1:Tape a b):Tape a c:=⟨h2.eq.trans h1.eq,Nat.le_trans h1.dr h2.dr⟩
theorem Tape.same {w w':World} (h:w'.tape=w.tape) (k:w'.drawn=w.drawn):Tape w w':=⟨h,by rw [k];exact IR _⟩
structure LI where
 c6:Nat
 sh:Nat
 esz:Nat
 n:Nat
 sz:Nat
abbrev Im:=Nat->Option Obj
abbrev Loc:=Nat->Option LI
def mX (im:Im) (b o:Nat):Option Value:=
 match im b with
 |some (.cells c _ _)=>c[o]?
 |_=>afN
def jf:PV->Option Value
 | .int k n=>afM (.int k n)
 | .bool b=>afM (.bool b)
 | .str s=>afM (.string s)
 |_=>afN
def bK (get:Nat->Option Value) (sh esz:Nat) (rows:List Row):Prop:=
 ∀(i:Nat) (r:Row),rows[i]? =afM r->afI r=esz/\ ∀(j:Nat) (c:PV),r[j]? =afM c-> ∃v,jf c=afM v/\get (sh+i*esz+j)=afM v
mutual
inductive VR (im:Im) (loc:Loc):PV->Value->Prop
 |undef (v:Value):VR im loc .undef v
 |jd:VR im loc .jd Go.undef
 |int (k:IntKind) (n:Int):VR im loc (.int k n) (.int k n)
 |bool (b:Bool):VR im loc (.bool b) (.bool b)
 |str (s:ByteArray):VR im loc (.str s) (.string s)
 |agg (cs:List PV) (vs:List Value) (h:eI im loc cs vs):VR im loc (.agg cs) (.agg ⟨vs⟩)
 |cy (cs:List PV) (vs:List Value) (h:eI im loc cs vs):VR im loc (.cy cs) (.tuple ⟨vs⟩)
 |sl (esz:Nat) (pM:Bool) (rows:List Row) (a:Option Addr) (cap:Nat) (hc:(afI rows)<=cap) (hk:pM=afP->cap=afI rows)
  (h:rows≠[]-> ∃b o,a=afM ⟨b,o,afN⟩/\bK (mX im b) o esz rows):VR im loc (.sl esz pM rows) (.slice a (afI rows) cap)
 |own (t esz off len cap:Nat) (ex:Bool) (li:LI) (a:Option Addr) (cP:Nat) (hl:loc t=afM li) (he:li.esz=esz) (hn:off+cap<=li.n) (hc:len<=cap)
  (hx:cap<=cP) (hk:ex=afP->cP=cap)
  (h:cP=0\/(li.n≠0/\a=afM ⟨li.c6,li.sh+off*esz,afN⟩/\li.sh+(off+cP)*esz<=li.sz)):VR im loc (.own t esz off len cap ex) (.slice a len cP)
 |ptr (t esz row off:Nat) (li:LI) (hl:loc t=afM li) (he:li.esz=esz) (hn:row<li.n):
  VR im loc (.ptr t esz row off) (.pointer (afM ⟨li.c6,li.sh+row*esz+off,afN⟩))
 |bD (cs:List PV) (off b o:Nat) (vs:List Value) (h:eI im loc cs vs) (hv: ∀(j:Nat) (v:Value),vs[j]? =afM v->mX im b (o+j)=afM v):
  VR im loc (.bD cs off) (.pointer (afM ⟨b,o+off,afN⟩))
 |mp (t:Nat) (li:LI) (hl:loc t=afM li):VR im loc (.mp t) (.map (afM li.c6))
 |ez (fn:FuncId) (a b:List PV) (as bs:List Value) (ha:eI im loc a as) (hb:eI im loc b bs):VR im loc (.ez fn a b) (.func (.func fn) ⟨as⟩ ⟨bs⟩)
 |dH:VR im loc .dH .nilFunc
inductive eI (im:Im) (loc:Loc):List PV->List Value->Prop
 |nil:eI im loc [] []
 |cons (x:PV) (v:Value) (xs:List PV) (vs:List Value) (h:VR im loc x v) (hs:eI im loc xs vs):eI im loc (x::xs) (v::vs)
end
def mY (im dX:Im):Prop:= ∀b o,im b=afM o->dX b=afM o
def lH (loc bj:Loc):Prop:= ∀t li,loc t=afM li->bj t=afM li
theorem mY.refl (im:Im):mY im im:=fun _ _ h=>h
theorem mY.trans {a b c:Im} (h:mY a b) (k:mY b c):mY a c:=fun x o e=>k x o (h x o e)
theorem lH.refl (loc:Loc):lH loc loc:=fun _ _ h=>h
theorem lH.trans {a b c:Loc} (h:lH a b) (k:lH b c):lH a c:=fun x o e=>k x o (h x o e)
theorem mY.cell {im dX:Im} (h:mY im dX) {b o:Nat} {v:Value} (hc:mX im b o=afM v):mX dX b o=afM v:=by
 unfold mX at hc ⊢;cases hb:im b with
 |none=>rw [hb] at hc;cases hc
 |some x=>rw [hb] at hc;rw [h b x hb];exact hc
theorem bK.mono {g g':Nat->Option Value} {sh esz:Nat} {rows:List Row} (h:bK g sh esz rows) (hg: ∀k v,g k=afM v->g' k=afM v):
 bK g' sh esz rows:=by
 intro i r hr;obtain ⟨h1,h2⟩:=h i r hr;exact ⟨h1,fun j c hc=>let ⟨v,hv,hw⟩:=h2 j c hc;⟨v,hv,hg _ _ hw⟩⟩
mutual
theorem VR.mono {im dX:Im} {loc bj:Loc} (hi:mY im dX) (hl:lH loc bj): ∀{x:PV} {v:Value},VR im loc x v->VR dX bj x v
 |_,_,.undef v=> .undef v
 |_,_,.jd=> .jd
 |_,_,.int k n=> .int k n
 |_,_,.bool b=> .bool b
 |_,_,.str s=> .str s
 |_,_,.agg cs vs h=> .agg cs vs (eI.mono hi hl h)
 |_,_,.cy cs vs h=> .cy cs vs (eI.mono hi hl h)
 |_,_,.sl esz pM rows a cap hc hk h=> .sl esz pM rows a cap hc hk fun dK=>let ⟨b,o,ha,hr⟩:=h dK;⟨b,o,ha,hr.mono fun _ _ e=>hi.cell e⟩
 |_,_,.own t esz off len cap ex li a cP h1 h2 h3 h4 h5 h6 h7=> .own t esz off len cap ex li a cP (hl _ _ h1) h2 h3 h4 h5 h6 h7
 |_,_,.ptr t esz row off li h1 h2 h3=> .ptr t esz row off li (hl _ _ h1) h2 h3
 |_,_,.bD cs off b o vs h hv=> .bD cs off b o vs (eI.mono hi hl h) fun j v e=>hi.cell (hv j v e)
 |_,_,.mp t li h=> .mp t li (hl _ _ h)
 |_,_,.ez fn a b as bs ha hb=> .ez fn a b as bs (eI.mono hi hl ha) (eI.mono hi hl hb)
 |_,_,.dH=> .dH
theorem eI.mono {im dX:Im} {loc bj:Loc} (hi:mY im dX) (hl:lH loc bj): ∀{x:List PV} {v:List Value},eI im loc x v->eI dX bj x v
 |_,_,.nil=> .nil
 |_,_,.cons x v xs vs h hs=> .cons x v xs vs (VR.mono hi hl h) (eI.mono hi hl hs)
end
theorem eI.mj {im:Im} {loc:Loc}: ∀{x:List PV} {v:List Value},eI im loc x v->afI x=afI v
 |_,_,.nil=>rfl
 |_,_,.cons _ _ _ _ _ hs=>by simp [hs.mj]
theorem eI.get {im:Im} {loc:Loc}: ∀{xs:List PV} {vs:List Value},eI im loc xs vs-> ∀(i:Nat) (x:PV),xs[i]? =afM x-> ∃v,vs[i]? =afM v/\VR im loc x v
 |_,_,.nil,i,x,h=>by simp at h
 |_,_,.cons y v xs vs h hs,0,x,e=>by simp at e;subst e;exact ⟨v,rfl,h⟩
 |_,_,.cons y v xs vs h hs,i+1,x,e=>by obtain ⟨u,hu,hr⟩:=hs.get i x (by simpa using e);exact ⟨u,by simpa using hu,hr⟩
theorem eI.append {im:Im} {loc:Loc}: ∀{xs:List PV} {vs:List Value},eI im loc xs vs-> ∀{ys:List PV} {us:List Value},eI im loc ys us->eI im loc (xs++ys) (vs++us)
 |_,_,.nil,_,_,k=>k
 |_,_,.cons y v xs vs h hs,_,_,k=> .cons _ _ _ _ h (hs.append k)
theorem eI.take {im:Im} {loc:Loc}: ∀{xs:List PV} {vs:List Value},eI im loc xs vs-> ∀n,eI im loc (xs.take n) (vs.take n)
 |_,_,.nil,n=>by simp;exact .nil
 |_,_,.cons y v xs vs h hs,0=> .nil
 |_,_,.cons y v xs vs h hs,n+1=> .cons _ _ _ _ h (hs.take n)
theorem eI.drop {im:Im} {loc:Loc}: ∀{xs:List PV} {vs:List Value},eI im loc xs vs-> ∀n,eI im loc (xs.drop n) (vs.drop n)
 |_,_,.nil,n=>by simp;exact .nil
 |_,_,.cons y v xs vs h hs,0=> .cons _ _ _ _ h hs
 |_,_,.cons y v xs vs h hs,n+1=>hs.drop n
theorem eI.of {im:Im} {loc:Loc}: ∀(xs:List PV) (vs:List Value),afI xs=afI vs->(∀(i:Nat) (x:PV) (v:Value),xs[i]? =afM x->vs[i]? =afM v->VR im loc x v)->eI im loc xs vs
 | [],[],_,_=> .nil
 |x::xs,v::vs,hl,h=> .cons x v xs vs (h 0 x v rfl rfl) (eI.of xs vs (by simpa using hl) fun i a b ha hb=>h (i+1) a b (by simpa using ha) (by simpa using hb))
theorem VR.plain {im:Im} {loc:Loc} {x:PV} {v:Value} (h:VR im loc x v) (hp:x.plain=afP):jf x=afM v:=by cases h<;>first|rfl|cases hp
theorem VR.DQ {im:Im} {loc:Loc} {x:PV} {v:Value} (h:jf x=afM v):VR im loc x v:=by cases x<;>simp only [jf,ww] at h<;>first|(subst h;constructor)|cases h
theorem VR.cells {im:Im} {loc:Loc} {x:PV} {v:Value} (h:VR im loc x v) (hs: ∀c∈x.cells,c.o7=afP):eI im loc x.cells v.cells.toList:=by
 have one: ∀{y:PV} {u:Value},VR im loc y u->y.o7=afP->(∀us,u≠ .agg us):=by intro y u hy ho us e;subst e;cases hy<;>cases ho
 cases h with
 |agg cs vs h=>exact h
 |undef v=>have:=hs .undef (by simp [PV.cells]);cases this
 |jd=>have:=hs .jd (by simp [PV.cells]);cases this
 |cy cs vs h=>have:=hs (.cy cs) (by simp [PV.cells]);cases this
 |int k n=>exact .cons _ _ _ _ (.int k n) .nil
 |bool b=>exact .cons _ _ _ _ (.bool b) .nil
 |str s=>exact .cons _ _ _ _ (.str s) .nil
 |sl esz pM rows a cap hc hk h=>exact .cons _ _ _ _ (.sl esz pM rows a cap hc hk h) .nil
 |own t esz off len cap ex li a cP h1 h2 h3 h4 h5 h6 h7=>exact .cons _ _ _ _ (.own t esz off len cap ex li a cP h1 h2 h3 h4 h5 h6 h7) .nil
 |ptr t esz row off li h1 h2 h3=>exact .cons _ _ _ _ (.ptr t esz row off li h1 h2 h3) .nil
 |bD cs off b o vs h hv=>exact .cons _ _ _ _ (.bD cs off b o vs h hv) .nil
 |mp t li h=>exact .cons _ _ _ _ (.mp t li h) .nil
 |ez fn a b as bs ha hb=>exact .cons _ _ _ _ (.ez fn a b as bs ha hb) .nil
 |dH=>exact .cons _ _ _ _ .dH .nil
theorem VR.HI {im:Im} {loc:Loc} {x:PV} {v:Value} (h:VR im loc x v) (hs:x.o7=afP):(∀us,v≠ .agg us)/\ ∀us,v≠ .tuple us:=by cases h<;>first|(simp [PV.o7] at hs;done)|simp
def valOf:PV->Option Value
 | .agg cs=>(cs.mapM jf).map fun vs=> .agg ⟨vs⟩
 |x=>jf x
def fy:List (PV×PV)->List MapEntry->Prop
 | [],[]=>True
 |(k,v)::r,e::r'=>valOf k=afM e.key/\valOf v=afM e.val/\fy r r'
 |_,_=>False
def BR (im:Im) (loc:Loc) (w:World) (li:LI):jx->Prop
 | .arr e rows=>li.esz=e/\li.n=afI rows/\(rows≠[]-> ∃cs el,w.heap[li.c6]? =afM (.cells cs el (0,0))/\cs.size=li.sz/\li.sh+afI rows*e<=li.sz/\bK (fun k=>cs[k]?) li.sh e rows)
 | .box cells=>(li.esz=afI cells/\li.n=1\/li.esz=1/\li.n=afI cells)/\True/\li.sh=0/\ ∃vs el,w.heap[li.c6]? =afM (.cells ⟨vs⟩ el (0,0))/\afI vs=li.sz/\eI im loc cells vs
 | .map es=> ∃kx clock,w.heap[li.c6]? =afM (.map kx clock)/\fy es kx.toList
 | .dead=>True
theorem BR.mono {im dX:Im} {loc bj:Loc} {w w':World} {li:LI} {k:jx} (h:BR im loc w li k) (hi:mY im dX) (hl:lH loc bj)
 (hw:w'.heap[li.c6]? =w.heap[li.c6]?):BR dX bj w' li k:=by
 cases k with
 |arr e rows=>exact ⟨h.1,h.2.1,fun dK=>let ⟨cs,el,h1,h2,h3⟩:=h.2.2 dK;⟨cs,el,by rw [hw];exact h1,h2,h3⟩⟩
 |box cells=>obtain ⟨h1,h2,h3,vs,el,h4,h5,h6⟩:=h;exact ⟨h1,h2,h3,vs,el,by rw [hw];exact h4,h5,h6.mono hi hl⟩
 |map es=>obtain ⟨en,cl,h1,h2⟩:=h;exact ⟨en,cl,by rw [hw];exact h1,h2⟩
 |dead=>trivial
theorem BR.lt {im:Im} {loc:Loc} {w:World} {li:LI} {k:jx} (h:BR im loc w li k) (hs:k.bH=afP):li.c6<w.heap.size:=by
 have get: ∀{o:Obj},w.heap[li.c6]? =afM o->li.c6<w.heap.size:=fun e=>by
  rcases aau li.c6 w.heap.size with h|h
  · exact h
  simp [aeK h] at e
 cases k with
 |arr e rows=>
  cases rows with
  |nil=>cases hs
  |cons r rs=>obtain ⟨cs,el,h1,_⟩:=h.2.2 (by simp);exact get h1
 |box cells=>obtain ⟨_,_,_,vs,el,h4,_⟩:=h;exact get h4
 |map es=>obtain ⟨en,cl,h1,h2⟩:=h;exact get h1
 |dead=>cases hs
structure SR (im:Im) (loc:Loc) (ax:cw) (fz:List Nat) (w:World):Prop where
 bB: ∀b o,im b=afM o->w.heap[b]? =afM o
 c6: ∀t li,loc t=afM li-> ∃k,ax[t]? =afM k/\BR im loc w li k
 iq: ∀t u li lj k k',loc t=afM li->loc u=afM lj->ax[t]? =afM k->ax[u]? =afM k'->k.bH=afP->k'.bH=afP->li.c6=lj.c6->t=u
 free: ∀t li k,loc t=afM li->ax[t]? =afM k->k.bH=afP->has fz t=afV->im li.c6=afN
def ER (im:Im) (loc:Loc) (e:Env) (tmps:Array Value):Prop:= ∀t,VR im loc (lk t e) (tmps.getD t Go.undef)
theorem ER.mono {im dX:Im} {loc bj:Loc} (hi:mY im dX) (hl:lH loc bj) {e:Env} {tmps:Array Value} (h:ER im loc e tmps):ER dX bj e tmps:=
 fun t=>(h t).mono hi hl
theorem qd (t s:Nat) (v:PV) (e:Env):lk t ((s,v)::e)=if s=t then v else lk t e:=by
 simp only [lk]
 by_cases h:s=t<;>simp [h]
theorem ER.put {im:Im} {loc:Loc} {e:Env} {tmps:Array Value} (h:ER im loc e tmps) {d:Nat} {x:PV} {v:Value} (hd:d<tmps.size) (hv:VR im loc x v):
 ER im loc ((d,x)::e) (tmps.setIfInBounds d v):=by
 intro t;rw [qd]
 by_cases hdt:d=t
 · subst hdt
   simpa [hd] using hv
 rw [ut hdt]
 have:=h t;simpa [aaB,hdt] using this
end Go.Vm
/- Renaming the blocks. -/
namespace Go.Vm
theorem x7 {t:Nat}: ∀{m:List Nat} {u:Nat},idxOf t m=afM u->m[u]? =afM t
 | [],u,h=>by simp [idxOf] at h
 |s::r,u,h=>by
  simp only [idxOf] at h;split at h
  · rename_i e
    injection h with h;subst h;have:s=t:=by simpa using e
    simp [this]
  rw [Do] at h
  obtain ⟨v,hv,rfl⟩:=h;simpa using x7 hv
section
variable {im : Im} {loc db : Loc} {m : List Nat}
def Ren (m:List Nat) (loc db:Loc):Prop:= ∀(u t:Nat),m[u]? =afM t->db u=loc t
mutual
theorem Qv (hm:Ren m loc db): ∀{x y:PV} {v:Value},VR im loc x v->yP m x=afM y->VR im db y v
 | .undef,y,v,h,hr=>by simp only [yP,ww] at hr;subst hr;exact .undef _
 | .jd,y,v,h,hr=>by simp only [yP,ww] at hr;subst hr;cases h;exact .jd
 | .int k n,y,v,h,hr=>by simp only [yP,ww] at hr;subst hr;cases h;exact .int _ _
 | .bool b,y,v,h,hr=>by simp only [yP,ww] at hr;subst hr;cases h;exact .bool _
 | .str b,y,v,h,hr=>by simp only [yP,ww] at hr;subst hr;cases h;exact .str _
 | .dH,y,v,h,hr=>by simp only [yP,ww] at hr;subst hr;cases h;exact .dH
 | .agg cs,y,v,h,hr=>by simp only [yP,Do] at hr;obtain ⟨Gt,h1,rfl⟩:=hr;cases h with|agg _ vs h=>exact .agg _ _ (rS hm h h1)
 | .cy cs,y,v,h,hr=>by simp only [yP,Do] at hr;obtain ⟨Gt,h1,rfl⟩:=hr;cases h with|cy _ vs h=>exact .cy _ _ (rS hm h h1)
 | .sl e c rows,y,v,h,hr=>by simp only [yP,ww] at hr;subst hr;cases h with|sl _ _ _ a cap h1 h2 h3=>exact .sl _ _ _ a cap h1 h2 h3
 | .own t e off len cap ex,y,v,h,hr=>by simp only [yP,Do] at hr;obtain ⟨u,h1,rfl⟩:=hr;cases h with|own _ _ _ _ _ _ li a cP g1 g2 g3 g4 g5 g6 g7=>exact .own _ _ _ _ _ _ li a cP (by rw [hm u t (x7 h1)];exact g1) g2 g3 g4 g5 g6 g7
 | .ptr t e row off,y,v,h,hr=>by simp only [yP,Do] at hr;obtain ⟨u,h1,rfl⟩:=hr;cases h with|ptr _ _ _ _ li g1 g2 g3=>exact .ptr _ _ _ _ li (by rw [hm u t (x7 h1)];exact g1) g2 g3
 | .bD cs off,y,v,h,hr=>by simp only [yP,Do] at hr;obtain ⟨Gt,h1,rfl⟩:=hr;cases h with|bD _ _ b o vs h hv=>exact .bD _ _ b o vs (rS hm h h1) hv
 | .mp t,y,v,h,hr=>by simp only [yP,Do] at hr;obtain ⟨u,h1,rfl⟩:=hr;cases h with|mp _ li g1=>exact .mp _ li (by rw [hm u t (x7 h1)];exact g1)
 | .ez f a b,y,v,h,hr=>by
  simp only [yP] at hr;split at hr
  · rename_i a' b' ha hb
    injection hr with hr;subst hr;cases h with|ez _ _ _ as bs h1 h2=>exact .ez _ _ _ _ _ (rS hm h1 ha) (rS hm h2 hb)
  cases hr
theorem rS (hm:Ren m loc db): ∀{x y:List PV} {v:List Value},eI im loc x v->yM m x=afM y->eI im db y v
 | [],y,v,h,hr=>by simp only [yM,ww] at hr;subst hr;cases h;exact .nil
 |x::xs,y,v,h,hr=>by
  simp only [yM] at hr;split at hr
  · rename_i x' xs' h1 h2
    injection hr with hr;subst hr;cases h with|cons _ u _ us g1 g2=>exact .cons _ _ _ _ (Qv hm g1 h1) (rS hm g2 h2)
  cases hr
end
theorem CD: ∀{x y:List PV},yM m x=afM y->afI y=afI x
 | [],y,h=>by simp only [yM,ww] at h;subst h;rfl
 |x::xs,y,h=>by
  simp only [yM] at h;split at h
  · rename_i x' xs' h1 h2
    injection h with h;subst h;simp [CD h2]
  cases h
theorem Gu {w:World} {li:LI} {k k':jx} (hm:Ren m loc db) (hr:mU m k=afM k') (h:BR im loc w li k):BR im db w li k':=by
 cases k with
 |arr e rows=>simp only [mU,ww] at hr;subst hr;exact h
 |map es=>simp only [mU,ww] at hr;subst hr;exact h
 |dead=>simp only [mU,ww] at hr;subst hr;trivial
 |box cs=>simp only [mU,Do] at hr;obtain ⟨Gt,h1,rfl⟩:=hr;obtain ⟨g1,g2,g3,vs,el,g4,g5,g6⟩:=h;exact ⟨by rw [CD h1];exact g1,g2,g3,vs,el,g4,g5,rS hm g6 h1⟩
theorem Aq {k k':jx} (hr:mU m k=afM k'):k'.bH=k.bH:=by
 cases k with
 |arr e rows=>simp only [mU,ww] at hr;subst hr;rfl
 |map es=>simp only [mU,ww] at hr;subst hr;rfl
 |dead=>simp only [mU,ww] at hr;subst hr;rfl
 |box cs=>simp only [mU,Do] at hr;obtain ⟨Gt,h1,rfl⟩:=hr;rfl
theorem By {ax:cw}: ∀{l:List Nat} {s1:cw},wO ax m l=afM s1->afI s1=afI l/\ ∀(u t:Nat),l[u]? =afM t-> ∃k k',ax[t]? =afM k/\mU m k=afM k'/\s1[u]? =afM k'
 | [],s1,h=>by simp only [wO,ww] at h;subst h;exact ⟨rfl,fun u t h=>by simp at h⟩
 |t::ts,s1,h=>by
  simp only [wO] at h;split at h
  · rename_i b hb
    split at h
    · rename_i b' r h1 h2
      injection h with h;subst h;obtain ⟨g1,g2⟩:=By h2;refine ⟨by simp [g1],fun u t' ht=>?_⟩;cases u with
      |zero=>simp at ht;subst ht;exact ⟨b,b',hb,h1,rfl⟩
      |succ u=>simpa using g2 u t' (by simpa using ht)
    cases h
  cases h
end
end Go.Vm
/- Operation by operation: the model's run gives what the logical machine says. First part: what reads no memory. -/
namespace Go.Vm
theorem eU {k l:IntKind}:fk k l=afP↔k=l:=by cases k<;>cases l<;>simp [fk]
theorem Dp {n:Int} (h1: -9223372036854775808<=n) (h2:n<9223372036854775808):IntKind.wrap .i64 n=n:=by
 simp only [IntKind.wrap,IntKind.bits,IntKind.signed,afr];have e1:(2:Int)^64=18446744073709551616:=by decide
 have e2:(2:Int)^(64-1)=9223372036854775808:=by decide
 simp only [e1,e2,decide_eq_true_eq];split<;>omega
theorem qF (k:IntKind) (n:Int):aa k n=k.wrap n:=by
 unfold aa;split
 · rename_i m
   split
   · rename_i h
     have h:m<9223372036854775808:=by simpa using h
     have e:Int.ofNat m=(m:Int):=rfl;exact (Dp (by rw [e];omega) (by rw [e];omega)).symm
   rfl
 · rename_i m
   split
   · rename_i h
     have h:m<9223372036854775808:=by simpa using h
     exact (Dp (by omega) (by omega)).symm
   rfl
 · rename_i m
   simp only [IntKind.wrap,IntKind.bits,IntKind.signed,Bool.false_and];have e1:(2:Int)^64=18446744073709551616:=by decide
   simp only [e1];rfl
 rfl
section
variable {P : Program} {im : Im} {loc : Loc} {w : World}
theorem VR.ga {k:IntKind} {n:Int} {v:Value} (h:VR im loc (.int k n) v):v= .int k n:=by cases h;rfl
theorem VR.jg {b:Bool} {v:Value} (h:VR im loc (.bool b) v):v= .bool b:=by cases h;rfl
theorem VR.Dq {b:ByteArray} {v:Value} (h:VR im loc (.str b) v):v= .string b:=by cases h;rfl
theorem VR.oI {cs:List PV} {v:Value} (h:VR im loc (.agg cs) v): ∃vs,v= .agg ⟨vs⟩/\eI im loc cs vs:=by cases h with|agg _ vs h=>exact ⟨vs,rfl,h⟩
theorem VR.Ar {cs:List PV} {v:Value} (h:VR im loc (.cy cs) v): ∃vs,v= .tuple ⟨vs⟩/\eI im loc cs vs:=by cases h with|cy _ vs h=>exact ⟨vs,rfl,h⟩
mutual
theorem HJ: ∀{x:PV} {v:Value},sO x v=afP->VR im loc x v
 | .int k n,v,h=>by
  cases v<;>simp only [sO] at h<;>first|cases h|skip
  simp only [v6,beq_iff_eq,eU] at h;obtain ⟨rfl,rfl⟩:=h;exact .int _ _
 | .bool a,v,h=>by
  cases v<;>simp only [sO] at h<;>first|cases h|skip
  rename_i b;have:a=b:=by simpa using h
  subst this;exact .bool _
 | .str a,v,h=>by
  cases v<;>simp only [sO] at h<;>first|cases h|skip
  rename_i b;have h1:a.data.toList=b.data.toList:=by simpa using h
  obtain ⟨⟨x⟩⟩:=a;obtain ⟨⟨y⟩⟩:=b;have h2:x=y:=h1;subst h2;exact .str _
 | .sl e c [],v,h=>by
  cases v with
  |slice a n cap=>
   cases a with
   |none=>
    cases n with
    |zero=>
     cases cap with
     |zero=>exact .sl e c [] afN 0 (Nat.zero_le _) (fun _=>rfl) (fun dK=>absurd rfl dK)
     |succ c=>simp [sO] at h
    |succ n=>simp [sO] at h
   |some a=>simp [sO] at h
  |_=>simp [sO] at h
 | .sl e c (_::_),v,h=>by simp [sO] at h
 | .agg cs,v,h=>by
  cases v<;>simp only [sO] at h<;>first|cases h|skip
  rename_i vs;exact .agg cs vs.toList (wR h)
 | .dH,v,h=>by
  cases v<;>simp only [sO] at h<;>first|cases h|skip
  exact .dH
 | .undef,v,_=> .undef v
 | .jd,v,h=>by simp [sO] at h
 | .cy _,v,h=>by simp [sO] at h
 | .own ..,v,h=>by simp [sO] at h
 | .ptr ..,v,h=>by simp [sO] at h
 | .bD ..,v,h=>by simp [sO] at h
 | .mp _,v,h=>by simp [sO] at h
 | .ez ..,v,h=>by simp [sO] at h
theorem wR: ∀{x:List PV} {v:List Value},DP x v=afP->eI im loc x v
 | [],[],_=> .nil
 |x::xs,v::vs,h=>by simp only [DP,v6] at h;exact .cons _ _ _ _ (HJ h.1) (wR h.2)
 | [],_::_,h=>by simp [DP] at h
 |_::_,[],h=>by simp [DP] at h
end
theorem T9 {op : BinOp} {t : TypeId} {a b : Operand} {x y : PV} {u v : Value} {z : PV} (hx : VR im loc x u) (hy : VR im loc y v) (h : ON op x y = afM z) :
    ∃ r, (do eqGuard op t a b u v; binOp op t u v : Sem Value).run P w = .ok r w /\ VR im loc z r := by
  unfold ON at h
  split at h
  · rename_i k a l b
    obtain rfl := hx.ga
    obtain rfl := hy.ga
    have hg : ∀ (k l : IntKind) (a b : Int) (o p : Operand), (eqGuard op t o p (.int k a) (.int l b)).run P w = .ok () w := by
      intros; unfold eqGuard; cases op <;> simp
    split at h
    · simp only [Bu] at h
      split at h
      · cases h
      rename_i hb
      injection h with h; subst h
      refine ⟨_, ?_, .int _ _⟩
      simp only [EQ, hg, AC, binOp, Op.shift, hb, if_false]
      rfl
    · simp only [Bu] at h
      split at h
      · cases h
      rename_i hb
      injection h with h; subst h
      refine ⟨_, ?_, .int _ _⟩
      simp only [EQ, hg, AC, binOp, Op.shift, hb, if_false]
      rfl
    split at h
    · rename_i ang anh hk
      have := eU.1 hk; subst this
      unfold arith at h
      split at h
      all_goals first
        | (injection h with h; subst h
           first
             | (refine ⟨_, ?_, .int _ _⟩
                simp only [EQ, hg, AC, binOp, Op.intArith, Op.intBits, qF, ne_eq, not_true_eq_false, if_false]
                rfl)
             | (refine ⟨_, ?_, .bool _⟩
                simp only [EQ, hg, AC, binOp, Op.intCmp, ne_eq, not_true_eq_false, if_false]
                rfl))
        | (split at h
           · cases h
           rename_i hb
           injection h with h; subst h
           refine ⟨_, ?_, .int _ _⟩
           simp only [EQ, hg, AC, binOp, Op.intDiv, qF, ne_eq, not_true_eq_false, if_false, hb]
           rfl)
        | cases h
    cases h
  cases h
theorem Qw {neg:Bool} {op:BinOp} {t:TypeId} {p q:Operand} {a b:Bool} (ho:op=if neg then .neq else .eql) (ht:P.underlying t=afM .bool):
 (do eqGuard op t p q (.bool a) (.bool b);binOp op t (.bool a) (.bool b):Sem Value).run P w= .ok (.bool (if neg then !(a==b) else a==b)) w:=by
 have h1:(Op.equal t (.bool a) (.bool b)).run P w= .ok (a==b) w:=run_equalIn_bool' w 9999 t a b ht;cases neg<;>simp only [aax,if_false,if_true] at ho<;>subst ho<;>simp [eqGuard,binOp,h1]
theorem Z0 {op:UnOp} {x z:PV} {u:Value} (hx:VR im loc x u) (h:unE op x=afM z): ∃r,(Op.unary op u).run P w= .ok r w/\VR im loc z r:=by
 unfold unE at h;split at h
 · injection h with h;subst h
   obtain rfl:=hx.ga;exact ⟨_,rfl,by rw [qF];exact .int _ _⟩
 · injection h with h;subst h
   obtain rfl:=hx.jg;exact ⟨_,rfl,.bool _⟩
 cases h
theorem Qx {s d:TypeId} {k k':IntKind} {n:Int} {ds:TypeDesc} (hs:P.underlying s=afM ds) (hd:P.underlying d=afM (.int k)):
 (convert s d (.int k' n)).run P w= .ok (.int k (aa k n)) w:=by
 simp only [convert,EQ,run_underlying hs,run_underlying hd,AC,qF];cases ds<;>rfl
theorem Bz {t:TypeId} (h:gE P t=afP):(isAgg t).run P w= .ok afP w:=by
 unfold gE at h;split at h
 · rename_i f hu;simp [isAgg,run_underlying hu]
 · rename_i n f hu;simp [isAgg,run_underlying hu]
 cases h
theorem BA {t:TypeId} (hs:(P.underlying t).isSome=afP) (h:gE P t=afV):(isAgg t).run P w= .ok afV w:=by
 cases hu:P.underlying t with
 |none=>rw [hu] at hs;cases hs
 |some d=>unfold gE at h;rw [hu] at h;cases d<;>first|(simp [isAgg,run_underlying hu];done)|cases h
theorem jR {t:TypeId} {n:Nat} (h:nN P t n=afP):(sizeOf t).run P w= .ok n w:=by
 unfold nN at h;cases hi:P.info? t with
 |none=>rw [hi] at h;cases h
 |some i=>
  rw [hi] at h;have:i.size=n:=by simpa using h
  simp [sizeOf,typeInfo,hi,this]
theorem Jo {agg:Option Nat} {t:TypeId} {off:Nat} {cs:List PV} {vs:List Value} {x:PV} (ha:Ap P t agg=afP) (h:eI im loc cs vs)
 (hp:part agg off cs=afM x): ∃v,(Go.part t ⟨vs⟩ off).run P w= .ok v w/\VR im loc x v:=by
 unfold Ap at ha;simp only [v6] at ha;obtain ⟨hs,ha⟩:=ha;cases agg with
 |some n=>
  simp only [v6] at ha;simp only [part] at hp;split at hp
  · rename_i kI
    injection hp with hp;subst hp;refine ⟨.agg ⟨(vs.drop off).take n⟩,?_,.agg _ _ ((h.drop off).take n)⟩;simp only [Go.part,EQ,Bz ha.1,AC,if_true,jR ha.2,If]
    congr 2
    apply ac1;simp [aeA]
  cases hp
 |none=>
  simp only [v6,aaS] at ha;simp only [part] at hp;obtain ⟨v,hv,hr⟩:=h.get off x hp;refine ⟨v,?_,hr⟩;simp only [Go.part,EQ,BA hs ha.1,AC,aax,if_false];have:(⟨vs⟩:Array Value)[off]? =afM v:=by simpa using hv
  simp [this]
theorem uP {agg:Option Nat} {t:TypeId} {b o off:Nat} {cs:List PV} {vs:List Value} {x:PV} (ha:Ap P t agg=afP) (h:eI im loc cs vs)
 (hm: ∀(j:Nat) (v:Value),vs[j]? =afM v->w.cell? ⟨b,o+j,afN⟩=afM v)
 (hp:part agg off cs=afM x): ∃v,(loadVar t ⟨b,o+off,afN⟩).run P w= .ok v w/\VR im loc x v:=by
 unfold Ap at ha;simp only [v6] at ha;obtain ⟨hs,ha⟩:=ha;have aij: ∀k j:Nat,(⟨b,k,afN⟩:Addr).add j=⟨b,k+j,afN⟩:=by
  intro k j;unfold Addr.add;split
  · rename_i h;subst h;rfl
  rfl
 cases agg with
 |some n=>
  simp only [v6] at ha;simp only [part] at hp;split at hp
  · rename_i kI
    injection hp with hp;subst hp;refine ⟨.agg ⟨(vs.drop off).take n⟩,?_,.agg _ _ ((h.drop off).take n)⟩;have hl:((vs.drop off).take n).length=n:=by have:=h.mj;simp;omega
    have:=run_loadCells_list (P:=P) w ⟨b,o+off,afN⟩ ((vs.drop off).take n) (by
     intro j v hj;rw [aij];have hj':j<n:=by
      rcases aau j n with h|h
      · exact h
      rw [PP (by omega)] at hj;cases hj
     rw [aeh hj',aez] at hj;have:=hm _ _ hj
     rwa [show o+(off+j)=o+off+j by omega] at this)
    rw [hl] at this;simp only [loadVar,EQ,Bz ha.1,AC,if_true,jR ha.2,this,If]
  cases hp
 |none=>simp only [v6,aaS] at ha;simp only [part] at hp;obtain ⟨v,hv,hr⟩:=h.get off x hp;refine ⟨v,?_,hr⟩;simp only [loadVar,EQ,BA hs ha.1,AC,aax,if_false];rw [run_load,hm off v hv]
end
end Go.Vm
/- What an operation does to the memory, and the shapes in which it does it. -/
namespace Go.Vm
structure rT (im:Im) (loc:Loc) (ax:cw) (w:World) (r:mT) (dX:Im) (bj:Loc) (w':World):Prop where
 gn:mY im dX
 dI:lH loc bj
 bB: ∀b o,dX b=afM o->w'.heap[b]? =afM o
 dM: ∀b o,dX b=afM o->im b=afM o\/w.heap.size<=b\/ ∃t li k,has r.fr t=afP/\loc t=afM li/\ax[t]? =afM k/\k.bH=afP/\li.c6=b
 os:w'.os=w.os
 tape:Tape w w'
 output:w'.output=w.output
 size:w.heap.size<=w'.heap.size
 frame: ∀b,b<w.heap.size->(∀t k li k0,(t,k)∈r.wr->loc t=afM li->ax[t]? =afM k0->k0.bH=afP->li.c6≠b)->w'.heap[b]? =w.heap[b]?
 OP: ∀t k,(t,k)∈r.wr->k.bH=afP-> ∃k0,ax[t]? =afM k0/\k0.bH=afP
 wr: ∀t k li,(t,k)∈r.wr->loc t=afM li->BR dX bj w' li k
 ky: ∀t li,bj t=afM li->loc t=afM li\/(afI ax<=t/\t<afI ax+afI r.news)
 news: ∀(j:Nat) (k:jx) (li:LI),r.news[j]? =afM k->bj (afI ax+j)=afM li->BR dX bj w' li k/\
  (k.bH=afP->dX li.c6=afN/\(w.heap.size<=li.c6\/ ∃t lt k0,(t,jx.dead)∈r.wr/\loc t=afM lt/\ax[t]? =afM k0/\k0.bH=afP/\lt.c6=li.c6))
 distinct: ∀(i j:Nat) (ki kj:jx) (li lj:LI),r.news[i]? =afM ki->r.news[j]? =afM kj->ki.bH=afP->kj.bH=afP->
  bj (afI ax+i)=afM li->bj (afI ax+j)=afM lj->li.c6=lj.c6->i=j
theorem BB {α:Type} {n:Nat} {l:List α} {loc:Loc} {A:LI->α->Prop} (h: ∀(j:Nat) (k:α),l[j]? =afM k-> ∃li,loc (n+j)=afM li/\A li k):
 ∀(j:Nat) (k:α) (li:LI),l[j]? =afM k->loc (n+j)=afM li->A li k:=fun j k li hj hl=>by
 obtain ⟨li',h1,h2⟩:=h j k hj;rw [hl] at h1;injection h1 with h1;subst h1;exact h2
structure iR (im:Im) (loc:Loc) (ax:cw) (w:World) (r:mT):Prop where
 bB: ∀b o,im b=afM o->w.heap[b]? =afM o
 tok: ∀t,t∈r.rd\/(∃k,(t,k)∈r.wr)-> ∀li,loc t=afM li-> ∃k,ax[t]? =afM k/\BR im loc w li k
 free: ∀t k,(t,k)∈r.wr-> ∀li k',loc t=afM li->ax[t]? =afM k'->k'.bH=afP->im li.c6=afN
 fresh: ∀j,j<afI r.news->loc (afI ax+j)=afN
 iq: ∀t u li lj k k',(t∈r.rd\/ ∃b,(t,b)∈r.wr)->(u∈r.rd\/ ∃b,(u,b)∈r.wr)->loc t=afM li->loc u=afM lj->ax[t]? =afM k->ax[u]? =afM k'->k.bH=afP->k'.bH=afP->li.c6=lj.c6->t=u
section
variable {im : Im} {loc : Loc} {ax : cw} {w : World} {r : mT}
theorem rT.none (hk:iR im loc ax w r) (hn:r.news=[]) (hw:r.wr=[]):rT im loc ax w r im loc w where
 gn:= .refl _
 dI:= .refl _
 bB:=hk.bB
 dM:=fun _ _ h=> .inl h
 os:=rfl
 tape:= .refl _
 output:=rfl
 size:=IR _
 frame:=fun _ _ _=>rfl
 OP:=fun t k h=>by rw [hw] at h;cases h
 wr:=fun t k li h=>by rw [hw] at h;cases h
 ky:=fun _ _ h=> .inl h
 news:=fun j k li h=>by rw [hn] at h;simp at h
 distinct:=fun i j ki kj li lj h=>by rw [hn] at h;simp at h
def Loc.set (loc:Loc) (t:Nat) (li:LI):Loc:=fun u=>if u=t then afM li else loc u
theorem Loc.eC (loc:Loc) (t:Nat) (li:LI):loc.set t li t=afM li:=by simp [Loc.set]
theorem Loc.wS {loc:Loc} {t:Nat} (li:LI) (h:loc t=Option.none):lH loc (loc.set t li):=by
 intro u l hu;unfold Loc.set;split
 · rename_i e;subst e;rw [h] at hu;cases hu
 exact hu
theorem rT.new (hk:iR im loc ax w r) {k:jx} {o:Obj} {w':World} (li:LI) (hn:r.news=[k]) (hw:r.wr=[])
 (hh:w'.heap=w.heap.push o) (ho:w'.os=w.os) (ht:w'.tape=w.tape) (hp:w'.output=w.output) (hl:li.c6=w.heap.size)
 (hb:BR im (loc.set (afI ax) li) w' li k) (hd:w.drawn<=w'.drawn:=by first|exact IR _|exact Nat.le_succ _):rT im loc ax w r im (loc.set (afI ax) li) w' where
 gn:= .refl _
 dI:=Loc.wS li (by have:=hk.fresh 0 (by simp [hn]);simpa using this)
 bB:=fun b o h=>by
  have h1:=hk.bB b o h;have dz:b<w.heap.size:=by
   rcases aau b w.heap.size with h|h
   · exact h
   simp [aeK h] at h1
  rw [hh,aeT,ut (by omega)];exact h1
 dM:=fun _ _ h=> .inl h
 os:=ho
 tape:=⟨ht,hd⟩
 output:=hp
 size:=by rw [hh];simp
 frame:=fun b Ai _=>by rw [hh,aeT,ut (by omega)]
 OP:=fun t k h=>by rw [hw] at h;cases h
 wr:=fun t k li h=>by rw [hw] at h;cases h
 ky:=fun t l h=>by
  unfold Loc.set at h;split at h
  · rename_i e;subst e;exact .inr ⟨IR _,by simp [hn]⟩
  exact .inl h
 news:=BB fun j k' h=>by
  rw [hn] at h;cases j with
  |zero=>
   simp at h;subst h;refine ⟨li,Loc.eC _ _ _,hb,fun _=>⟨?_,.inl (by omega)⟩⟩;cases hi:im li.c6 with
   |none=>rfl
   |some o=>have:=hk.bB _ _ hi;rw [hl] at this;simp at this
  |succ j=>simp at h
 distinct:=fun i j ki kj li lj h1 h2 _ _ _ _ _=>by rw [hn] at h1 h2;cases i<;>cases j<;>simp at h1 h2<;>rfl
theorem rT.Qy (hk:iR im loc ax w r) {esz:Nat} (hn:r.news=[.arr esz []]) (hw:r.wr=[]):rT im loc ax w r im (loc.set (afI ax) ⟨0,0,esz,0,0⟩) w where
 gn:= .refl _
 dI:=Loc.wS _ (by have:=hk.fresh 0 (by simp [hn]);simpa using this)
 bB:=hk.bB
 dM:=fun _ _ h=> .inl h
 os:=rfl
 tape:= .refl _
 output:=rfl
 size:=IR _
 frame:=fun _ _ _=>rfl
 OP:=fun t k h=>by rw [hw] at h;cases h
 wr:=fun t k li h=>by rw [hw] at h;cases h
 ky:=fun t l h=>by
  unfold Loc.set at h;split at h
  · rename_i e;subst e;exact .inr ⟨IR _,by simp [hn]⟩
  exact .inl h
 news:=BB fun j k' h=>by
  rw [hn] at h;cases j with
  |zero=>simp at h;subst h;exact ⟨_,Loc.eC _ _ _,⟨rfl,rfl,fun dK=>absurd rfl dK⟩,fun hs=>by cases hs⟩
  |succ j=>simp at h
 distinct:=fun i j ki kj li lj h1 h2 _ _ _ _ _=>by rw [hn] at h1 h2;cases i<;>cases j<;>simp at h1 h2<;>rfl
theorem rT.write (hk:iR im loc ax w r) {t:Nat} {k k0:jx} {o:Obj} {w':World} {li:LI} (hn:r.news=[]) (hw:r.wr=[(t,k)])
 (hl:loc t=afM li) (h0:ax[t]? =afM k0) (hs:k0.bH=afP)
 (hh:w'.heap=w.heap.setIfInBounds li.c6 o) (ho:w'.os=w.os) (ht:w'.tape=w.tape) (hp:w'.output=w.output)
 (hb:BR im loc w' li k) (hd:w.drawn<=w'.drawn:=by first|exact IR _|exact Nat.le_succ _):rT im loc ax w r im loc w' where
 gn:= .refl _
 dI:= .refl _
 bB:=fun b o' h=>by
  have h1:=hk.bB b o' h;have qG:=hk.free t k (by simp [hw]) li k0 hl h0 hs;have dK:li.c6≠b:=fun e=>by rw [e,h] at qG;cases qG
  rw [hh,aaB,ut dK];exact h1
 dM:=fun _ _ h=> .inl h
 os:=ho
 tape:=⟨ht,hd⟩
 output:=hp
 size:=by rw [hh];simp
 frame:=fun b _ h=>by have dK:=h t k li k0 (by simp [hw]) hl h0 hs;rw [hh,aaB,ut dK]
 OP:=fun t' k' hm _=>by rw [hw] at hm;simp at hm;exact ⟨k0,by rw [hm.1];exact h0,hs⟩
 wr:=fun t' k' li' h h'=>by rw [hw] at h;simp at h;obtain ⟨rfl,rfl⟩:=h;rw [hl] at h';injection h' with h';subst h';exact hb
 ky:=fun _ _ h=> .inl h
 news:=fun j k li h=>by rw [hn] at h;simp at h
 distinct:=fun i j ki kj li lj h=>by rw [hn] at h;simp at h
end
end Go.Vm
/- Operation by operation, second part: addresses, reads, new blocks. -/
namespace Go.Vm
section
variable {P : Program} {im : Im} {loc : Loc} {ax : cw} {w : World}
theorem pP (b o n:Nat):(⟨b,o,afN⟩:Addr).add n=⟨b,o+n,afN⟩:=by
 unfold Addr.add;split
 · rename_i h;subst h;rfl
 rfl
theorem VR.ya {t e r o:Nat} {v:Value} (h:VR im loc (.ptr t e r o) v):
 ∃li,loc t=afM li/\li.esz=e/\r<li.n/\v= .pointer (afM ⟨li.c6,li.sh+r*e+o,afN⟩):=by
 cases h with|ptr _ _ _ _ li h1 h2 h3=>exact ⟨li,h1,h2,h3,rfl⟩
theorem VR.wT {cs:List PV} {off:Nat} {v:Value} (h:VR im loc (.bD cs off) v):
 ∃b o vs,eI im loc cs vs/\(∀(j:Nat) (v:Value),vs[j]? =afM v->mX im b (o+j)=afM v)/\v= .pointer (afM ⟨b,o+off,afN⟩):=by
 cases h with|bD _ _ b o vs h1 h2=>exact ⟨b,o,vs,h1,h2,rfl⟩
theorem j8 {b o:Nat} {cs:Array Value} {el:TypeId} {fr:Nat×Nat} {v:Value} (h:w.heap[b]? =afM (.cells cs el fr)) (hc:cs[o]? =afM v):
 w.cell? ⟨b,o,afN⟩=afM v:=by simp [World.cell?,h,hc]
theorem ph (hk: ∀b o,im b=afM o->w.heap[b]? =afM o) {b o:Nat} {v:Value} (h:mX im b o=afM v):w.cell? ⟨b,o,afN⟩=afM v:=by
 unfold mX at h;cases hb:im b with
 |none=>rw [hb] at h;cases h
 |some x=>rw [hb] at h;cases x<;>first|exact j8 (hk b _ hb) h|cases h
def aU (r:Row):List Value:=r.map fun c=>(jf c).getD Go.undef
theorem rU {get:Nat->Option Value} {sh esz:Nat} {rows:List Row} (h:bK get sh esz rows) {i:Nat} {r:Row} (hr:rows[i]? =afM r):
 eI im loc r (aU r)/\ ∀(j:Nat) (v:Value),(aU r)[j]? =afM v->get (sh+i*esz+j)=afM v:=by
 obtain ⟨_,hc⟩:=h i r hr;constructor
 · refine eI.of _ _ (by simp [aU]) fun j x v hx hv=>?_
   obtain ⟨u,hu,_⟩:=hc j x hx;simp [aU,hx,hu] at hv;subst hv;exact VR.DQ hu
 intro j v hv
 cases hx:r[j]? with
 |none=>simp [aU,hx] at hv
 |some x=>obtain ⟨u,hu,hg⟩:=hc j x hx;simp [aU,hx,hu] at hv;subst hv;exact hg
theorem Jp {agg:Option Nat} {t:TypeId} {p:PV} {u:Value} {r:mT} (hp:VR im loc p u) (ha:Ap P t agg=afP) (h:nS ax agg p=afM r)
 (hk:iR im loc ax w r): ∃v,(Instr.loadAt t u).run P w= .ok v w/\VR im loc r.v v/\r.news=[]/\r.wr=[]:=by
 unfold nS at h;split at h
 · rename_i tk e row off
   obtain ⟨li,hl,he,hn,rfl⟩:=hp.ya;split at h
   · rename_i e' rows hs
     split at h
     · rename_i cs lO
       rw [Do] at h;obtain ⟨x,hx,rfl⟩:=h;obtain ⟨k,gC,hb⟩:=hk.tok tk (.inl (by simp)) li hl;rw [hs] at gC;injection gC with gC;subst gC;have dK:rows≠[]:=by intro e;subst e;simp at lO
       obtain ⟨h1,h2,h3⟩:=hb;obtain ⟨arr,el,rV,_,_,kJ⟩:=h3 dK;obtain ⟨hv,hg⟩:=rU (im:=im) (loc:=loc) kJ lO;have LC:e'=e:=by rw [<- h1,he]
       subst LC;obtain ⟨v,bT,nO⟩:=uP (P:=P) (w:=w) (b:=li.c6) (o:=li.sh+row*e') ha hv
        (fun j v hj=>j8 rV (hg j v hj)) hx
       exact ⟨v,by simp only [Instr.loadAt,Instr.sureAddr,EQ,If,AC,bT],nO,rfl,rfl⟩
     cases h
   · rename_i cs hs
     split at h
     · rename_i tP
       have tP:row=0:=by simpa using tP
       subst tP;rw [Do] at h;obtain ⟨x,hx,rfl⟩:=h;obtain ⟨k,gC,hb⟩:=hk.tok tk (.inl (by simp)) li hl;rw [hs] at gC;injection gC with gC;subst gC;obtain ⟨h1,h2,h3,vs,el,h4,h5,h6⟩:=hb;obtain ⟨v,bT,nO⟩:=uP (P:=P) (w:=w) (b:=li.c6) (o:=li.sh+0*e) ha h6
        (fun j v hj=>j8 h4 (by simpa [h3] using hj)) hx
       exact ⟨v,by simp only [Instr.loadAt,Instr.sureAddr,EQ,If,AC,bT],nO,rfl,rfl⟩
     cases h
   cases h
 · rename_i cs off
   obtain ⟨b,o,vs,h1,h2,rfl⟩:=hp.wT;rw [Do] at h;obtain ⟨x,hx,rfl⟩:=h;obtain ⟨v,bT,nO⟩:=uP (P:=P) (w:=w) (b:=b) (o:=o) ha h1 (fun j v hj=>ph hk.bB (h2 j v hj)) hx;exact ⟨v,by simp only [Instr.loadAt,Instr.sureAddr,EQ,If,AC,bT],nO,rfl,rfl⟩
 cases h
theorem DR {cs:List PV} {vs:List Value} {el:TypeId} {r:mT} (h:eI im loc cs vs) (hr:r={v:= .ptr (afI ax) (afI cs) 0 0,news:=[.box cs]}) (hk:iR im loc ax w r):
 ∃bj,VR im bj r.v (.pointer (afM ⟨w.heap.size,0,afN⟩))/\rT im loc ax w r im bj {w with heap:=w.heap.push (.cells ⟨vs⟩ el)}:=by
 subst hr
 let li:LI:=⟨w.heap.size,0,afI cs,1,afI vs⟩
 refine ⟨loc.set (afI ax) li,?_,?_⟩
 · have:=VR.ptr (im:=im) (loc:=loc.set (afI ax) li) (afI ax) (afI cs) 0 0 li (Loc.eC _ _ _) rfl (Nat.zero_lt_one)
   simpa [li] using this
 refine rT.new hk li rfl rfl rfl rfl rfl rfl rfl ⟨.inl ⟨rfl,rfl⟩,trivial,rfl,vs,el,?_,rfl,h.mono (.refl _) (Loc.wS li (by have:=hk.fresh 0 (by simp);simpa using this))⟩
 simp [li]
theorem Jq {x y:PV} {u v:Value} {el:TypeId} {r:mT} (hx:VR im loc x u) (hy:VR im loc y v) (hr:r={v:= .own (afI ax) 1 0 2 2 afP,news:=[.box [x,y]]}) (hk:iR im loc ax w r):
 ∃bj,VR im bj r.v (.slice (afM ⟨w.heap.size,0,afN⟩) 2 2)/\rT im loc ax w r im bj {w with heap:=w.heap.push (.cells #[u,v] el)}:=by
 subst hr
 let li:LI:=⟨w.heap.size,0,1,2,2⟩
 refine ⟨loc.set (afI ax) li,?_,?_⟩
 · exact .own (afI ax) 1 0 2 2 afP li _ 2 (Loc.eC _ _ _) rfl (IR _) (IR _) (IR _) (fun _=>rfl) (.inr ⟨by simp [li],by simp [li],by simp [li]⟩)
 refine rT.new hk li rfl rfl rfl rfl rfl rfl rfl ⟨.inr ⟨rfl,rfl⟩,trivial,rfl,[u,v],el,?_,rfl,(eI.cons _ _ _ _ hx (.cons _ _ _ _ hy .nil)).mono (.refl _) (Loc.wS li (by have:=hk.fresh 0 (by simp);simpa using this))⟩
 simp [li]
theorem Qz {off:Nat} {t:TypeId} {f:Nat} {fs:Array Field} {g:Field} {i:TypeInfo} {p z:PV} {u:Value} (hp:VR im loc p u)
 (hu:P.underlying t=afM (.struct fs)) (hf:fs[f]? =afM g) (ho:g.offset=off) (hi:P.info? g.type=afM i) (hz:i.size≠0)
 (h:(match (generalizing:=false) p with| .ptr t s r o=>some (PV.ptr t s r (o+off))| .bD c o=>some (PV.bD c (o+off))|_=>none)=some z):
 ∃v,(Instr.fieldAt t u f).run P w= .ok v w/\VR im loc z v:=by
 have pL:(sizeOf g.type).run P w= .ok i.size w:=by simp [sizeOf,typeInfo,hi]
 cases p with
 |ptr tk s r o=>injection h with h;subst h;obtain ⟨li,hl,he,hn,rfl⟩:=hp.ya;refine ⟨_,?_,.ptr tk s r (o+off) li hl he hn⟩;simp [Instr.fieldAt,run_underlying hu,hf,Instr.sureAddr,fieldPlace,pL,hz,pP,ho,aep]
 |bD cs o=>injection h with h;subst h;obtain ⟨b,o',vs,h1,h2,rfl⟩:=hp.wT;refine ⟨_,?_,.bD cs (o+off) b o' vs h1 h2⟩;simp [Instr.fieldAt,run_underlying hu,hf,Instr.sureAddr,fieldPlace,pL,hz,pP,ho,aep]
 |_=>cases h
theorem nY {x:PV} {n:Nat} {u:Value} (hx:VR im loc x u) (h:jy x=afM n): ∃k,u= .int k (n:Int):=by
 unfold jy at h;split at h
 · rename_i k m
   obtain rfl:=hx.ga;split at h
   · rename_i m';injection h with h;subst h;exact ⟨k,rfl⟩
   cases h
 cases h
theorem OQ {n esz j:Nat} {t e:TypeId} {p z:PV} {u:Value} {k:IntKind} (hp:VR im loc p u)
 (hu:P.underlying t=afM (.array n e)) (hs:nN P e esz=afP) (hj:j<n)
 (h:(match (generalizing:=false) p with| .ptr t s r o=>some (PV.ptr t s r (o+j*esz))| .bD c o=>some (PV.bD c (o+j*esz))|_=>none)=some z):
 ∃v,(Instr.indexAt t u (.int k j)).run P w= .ok v w/\VR im loc z v:=by
 have pL:=jR (P:=P) (w:=w) hs;cases p with
 |ptr tk s r o=>injection h with h;subst h;obtain ⟨li,hl,he,hn,rfl⟩:=hp.ya;refine ⟨_,?_,.ptr tk s r (o+j*esz) li hl he hn⟩;simp [Instr.indexAt,asIntOf,run_underlying hu,Instr.sureAddr,pL,pP,aep];intro h;omega
 |bD cs o=>injection h with h;subst h;obtain ⟨b,o',vs,h1,h2,rfl⟩:=hp.wT;refine ⟨_,?_,.bD cs (o+j*esz) b o' vs h1 h2⟩;simp [Instr.indexAt,asIntOf,run_underlying hu,Instr.sureAddr,pL,pP,aep];intro h;omega
 |_=>cases h
theorem VR.mZ {esz:Nat} {pM:Bool} {rows:List Row} {v:Value} (h:VR im loc (.sl esz pM rows) v):
 ∃a cap,v= .slice a (afI rows) cap/\afI rows<=cap/\(pM=afP->cap=afI rows)/\(rows≠[]-> ∃b o,a=afM ⟨b,o,afN⟩/\bK (mX im b) o esz rows):=by
 cases h with|sl _ _ _ a cap hc hk h=>exact ⟨a,cap,rfl,hc,hk,h⟩
theorem VR.gF {t esz off len cap:Nat} {ex:Bool} {v:Value} (h:VR im loc (.own t esz off len cap ex) v):
 ∃li a cP,v= .slice a len cP/\loc t=afM li/\li.esz=esz/\off+cap<=li.n/\len<=cap/\cap<=cP/\(ex=afP->cP=cap)/\
  (cP=0\/(li.n≠0/\a=afM ⟨li.c6,li.sh+off*esz,afN⟩/\li.sh+(off+cP)*esz<=li.sz)):=by
 cases h with|own _ _ _ _ _ _ li a cP h1 h2 h3 h4 h5 h6 h7=>exact ⟨li,a,cP,rfl,h1,h2,h3,h4,h5,h6,h7⟩
theorem run_indexAt_slice {t e:TypeId} {esz j len cap b o:Nat} {k:IntKind} (hu:P.underlying t=afM (.slice e)) (hs:nN P e esz=afP) (hj:j<len):
 (Instr.indexAt t (.slice (afM ⟨b,o,afN⟩) len cap) (.int k j)).run P w= .ok (.pointer (afM ⟨b,o+j*esz,afN⟩)) w:=by
 have pL:=jR (P:=P) (w:=w) hs;have dz: ¬(len<=j):=by omega
 simp [Instr.indexAt,asIntOf,run_underlying hu,pL,pP];intro h;exact absurd h dz
theorem QA {esz n:Nat} {t e:TypeId} {x z:PV} {u:Value} {k:IntKind} (hx:VR im loc x u)
 (hu:P.underlying t=afM (.slice e)) (hs:nN P e esz=afP)
 (h:(match (generalizing:=false) x with
  | .sl s _ rows=>match rows[n]? with
   |some cs=>if M2 s esz then afM (PV.bD cs 0) else afN
   |none=>afN
  | .own t s off len _ _=>if aet n len&&M2 s esz then afM (PV.ptr t s (off+n) 0) else afN
  |_=>afN)=afM z):
 ∃v,(Instr.indexAt t u (.int k n)).run P w= .ok v w/\VR im loc z v:=by
 cases x with
 |sl s pM rows=>
  dsimp only at h;cases lO:rows[n]? with
  |none=>rw [lO] at h;cases h
  |some cs=>
   rw [lO] at h;dsimp only at h;split at h
   · rename_i T'
     have T':s=esz:=by simpa using T'
     subst T';injection h with h;subst h;obtain ⟨a,cap,rfl,_,_,hr⟩:=hx.mZ;have dK:rows≠[]:=by intro e;subst e;simp at lO
     obtain ⟨b,o,rfl,kJ⟩:=hr dK;have hn:n<(afI rows):=by
      rcases aau n (afI rows) with h|h
      · exact h
      rw [PP h] at lO;cases lO
     refine ⟨_,run_indexAt_slice hu hs hn,?_⟩;obtain ⟨hv,hg⟩:=rU (im:=im) (loc:=loc) kJ lO;have:=VR.bD (im:=im) (loc:=loc) cs 0 b (o+n*s) (aU cs) hv hg;simpa using this
   cases h
 |own tk s off len cap ex=>
  dsimp only at h;split at h
  · rename_i hc
    simp only [v6] at hc;have hn:n<len:=by simpa using hc.1
    have T':s=esz:=by simpa using hc.2
    subst T';injection h with h;subst h;obtain ⟨li,a,cP,rfl,hl,he,BC,cO,F1,_,hd⟩:=hx.gF;rcases hd with hd|⟨dK,rfl,_⟩
    · omega
    refine ⟨_,run_indexAt_slice hu hs hn,?_⟩
    have:=VR.ptr (im:=im) (loc:=loc) tk s (off+n) 0 li hl he (by omega);rw [show li.sh+(off+n)*s+0=li.sh+off*s+n*s by rw [WF];omega] at this;exact this
  cases h
 |_=>cases h
theorem run_sliceBound {x k:Nat} {kd:IntKind} {code:BoundsCode} (h:x<=k):(Instr.sliceBound (.int kd x) k code).run P w= .ok x w:=by
 have:(0:Int)<=(x:Int)/\(x:Int)<=(k:Int):=by omega
 simp [Instr.sliceBound,asIntOf,this]
def zq (v:Option Value) (n:Option Nat):Prop:=
 match v,n with
 |none,afN=>True
 |some v,afM n=> ∃k,v= .int k (n:Int)
 |_,_=>False
theorem lY {len cap:Nat} {lo hi mx:Option Nat} {vl vh vm:Option Value} (h1:zq vl lo) (h2:zq vh hi) (h3:zq vm mx)
 (hm:mx.isSome=afP->hi.isSome=afP) (kI:lo.getD 0<=hi.getD len) (Y':hi.isSome=afP->hi.getD len<=mx.getD cap) (hmc:mx.getD cap<=cap):
 (Instr.sliceBounds afP len cap vl vh vm).run P w= .ok (lo.getD 0,hi.getD len,mx.getD cap) w:=by
 cases mx with
 |none=>
  cases vm with
  |some v=>exact h3.elim
  |none=>
   cases hi with
   |none=>
    cases vh with
    |some v=>exact h2.elim
    |none=>
     cases lo with
     |none=>
      cases vl with
      |some v=>exact h1.elim
      |none=>simp [Instr.sliceBounds]
     |some l=>
      cases vl with
      |none=>exact h1.elim
      |some v=>obtain ⟨k,rfl⟩:=h1;simp only [aaG,aev] at kI;simp [Instr.sliceBounds,run_sliceBound kI]
   |some hh=>
    cases vh with
    |none=>exact h2.elim
    |some v=>
     obtain ⟨k,rfl⟩:=h2;simp only [aaG,aev,aeY,true_implies] at kI Y';cases lo with
     |none=>
      cases vl with
      |some v=>exact h1.elim
      |none=>simp [Instr.sliceBounds,run_sliceBound Y']
     |some l=>
      cases vl with
      |none=>exact h1.elim
      |some v=>obtain ⟨k,rfl⟩:=h1;simp only [aaG] at kI;simp [Instr.sliceBounds,run_sliceBound Y',run_sliceBound kI]
 |some m=>
  cases vm with
  |none=>exact h3.elim
  |some v=>
   obtain ⟨k,rfl⟩:=h3;cases hi with
   |none=>simp at hm
   |some hh=>
    cases vh with
    |none=>exact h2.elim
    |some v=>
     obtain ⟨k,rfl⟩:=h2;simp only [aaG,aeY,true_implies] at kI Y' hmc;cases lo with
     |none=>
      cases vl with
      |some v=>exact h1.elim
      |none=>simp [Instr.sliceBounds,run_sliceBound Y',run_sliceBound hmc]
     |some l=>
      cases vl with
      |none=>exact h1.elim
      |some v=>obtain ⟨k,rfl⟩:=h1;simp only [aaG] at kI;simp [Instr.sliceBounds,run_sliceBound Y',run_sliceBound kI,run_sliceBound hmc]
end
end Go.Vm
/- Operation by operation, third part: stores, aggregates. -/
namespace Go.Vm
def lZ {α:Type} (off:Nat) (new old:List α):List α:=old.take off++new++old.drop (off+afI new)
theorem gG {α:Type} (off:Nat) (new old:List α) (h:off+afI new<=afI old) (j:Nat):
 (lZ off new old)[j]? =if off<=j/\j<off+(afI new) then new[j-off]? else old[j]?:=by
 unfold lZ;have hl:(old.take off).length=off:=by simp;omega
 by_cases h1:j<off
 · rw [ut (by omega),af6,aav (by omega),aeh h1]
 by_cases h2:j<off+afI new
 · rw [rc ⟨by omega,h2⟩,af6,aal (by omega),hl,aav (by omega)]
 rw [ut (by omega),aal (by simp;omega),aez]
 congr 1
 simp;omega
theorem cQ {α:Type} (off:Nat) (new old:List α) (h:off+afI new<=afI old):(lZ off new old).length=(afI old):=by unfold lZ;simp;omega
theorem eI.lZ {im:Im} {loc:Loc} {off:Nat} {xs ys:List PV} {vs us:List Value} (h:eI im loc xs vs) (k:eI im loc ys us):
 eI im loc (Vm.lZ off xs ys) (Vm.lZ off vs us):=by
 unfold Vm.lZ;rw [<- h.mj];exact ((k.take off).append h).append (k.drop _)
theorem eI.Gv {im:Im} {loc:Loc}: ∀{xs:List PV} {vs:List Value},eI im loc xs vs->(∀c∈xs,c.plain=afP)->
 ∀(j:Nat) (c:PV),xs[j]? =afM c-> ∃v,jf c=afM v/\vs[j]? =afM v:=by
 intro xs vs h hp j c hc;obtain ⟨v,hv,hr⟩:=h.get j c hc;exact ⟨v,hr.plain (hp c (aew hc)),hv⟩
theorem OR {i row esz j off n sh:Nat} (dK:i≠row) (hj:j<esz) (hn:off+n<=esz):
 ¬(sh+row*esz+off<=sh+i*esz+j/\sh+i*esz+j<sh+row*esz+off+n):=by
 rcases Nat.lt_or_gt_of_ne dK with h|h
 · have:=aah esz (show i+1<=row from h)
   rw [WF] at this;omega
 have:=aah esz (show row+1<=i from h)
 rw [WF] at this;omega
theorem bK.store {get get':Nat->Option Value} {sh esz row off:Nat} {rows:List Row} {cs ws:List PV} {vs:List Value}
 (h:bK get sh esz rows) (hr:rows[row]? =afM cs) (kI:off+afI ws<=afI cs)
 (hw: ∀(j:Nat) (c:PV),ws[j]? =afM c-> ∃v,jf c=afM v/\vs[j]? =afM v) (hl:(afI vs)=afI ws)
 (hg: ∀k,get' k=if sh+row*esz+off<=k/\k<sh+row*esz+off+(afI vs) then vs[k- (sh+row*esz+off)]? else get k):
 bK get' sh esz (rows.set row (lZ off ws cs)):=by
 intro i r hi;rw [List.getElem?_set] at hi;have tP:row<(afI rows):=by
  rcases aau row (afI rows) with h|h
  · exact h
  rw [PP h] at hr;cases hr
 obtain ⟨Aj,LD⟩:=h row cs hr;split at hi
 · rename_i e
   subst e;injection hi with hi;subst hi;refine ⟨by rw [cQ _ _ _ kI];exact Aj,fun j c hc=>?_⟩;rw [gG _ _ _ kI] at hc;rw [hg];split at hc
   · rename_i hj
     obtain ⟨v,hv,LF⟩:=hw _ _ hc;refine ⟨v,hv,?_⟩;rw [rc ⟨by omega,by omega⟩,<- LF]
     congr 1
     omega
   rename_i hj
   obtain ⟨v,hv,LF⟩:=LD j c hc;refine ⟨v,hv,?_⟩;rw [ut (by omega)];exact LF
 rename_i dK
 obtain ⟨Jr,hrc⟩:=h i r hi;refine ⟨Jr,fun j c hc=>?_⟩;obtain ⟨v,hv,LF⟩:=hrc j c hc;refine ⟨v,hv,?_⟩;have hj:j<esz:=by
  rcases aau j (afI r) with h|h
  · omega
  rw [PP h] at hc;cases hc
 rw [hg,ut (OR (fun e=>dK e.symm) hj (by omega))];exact LF
section
variable {P : Program} {im : Im} {loc : Loc} {ax : cw} {fz : List Nat} {w : World}
theorem bO {g:Nat} {cur cs:Array Value} {t:TypeId} (hg:w.heap[g]? =afM (.cells cur t (0,0))):
 (w.setRow g cs).heap=w.heap.setIfInBounds g (.cells cs t (0,0)):=by
 have dz:g<w.heap.size:=(NE.1 hg).1;have hv:w.heap[g]= .cells cur t (0,0):=(NE.1 hg).2;unfold World.setRow;apply Array.ext
 · simp
 intro k h1 h2
 rw [Array.getElem_setIfInBounds];simp only [Array.getElem_modify];split
 · rename_i hk;subst hk;simp [hv]
 rfl
theorem Js {v:Value} (h:(∀us,v≠ .agg us)/\ ∀us,v≠ .tuple us):v.oneCell'=afP:=by cases v<;>first|rfl|exact absurd rfl (h.1 _)|exact absurd rfl (h.2 _)
theorem eI.one: ∀{xs:List PV} {vs:List Value},eI im loc xs vs->(∀c∈xs,c.o7=afP)-> ∀v∈vs,v.oneCell'=afP
 |_,_,.nil,_,_,hv=>by cases hv
 |_,_,.cons x u xs vs h hs,ho,v,hv=>by
  cases hv with
  |head=>exact Js (h.HI (ho x (by simp)))
  |tail _ hm=>exact eI.one hs (fun c hc=>ho c (by simp [hc])) v hm
theorem wU {c:PV} (h:c.plain=afP):c.o7=afP:=by cases c<;>first|rfl|cases h
theorem zt {v:PV} {ws:List PV} (h:v.stored=afM ws):ws=v.cells/\ ∀c∈v.cells,c.o7=afP:=by
 unfold PV.stored at h;split at h
 · rename_i ha;injection h with h;exact ⟨h.symm,by simpa using ha⟩
 cases h
theorem ma {v:PV} {ws:List PV} (h:v.cz=afM ws):ws=v.cells/\ ∀c∈v.cells,c.plain=afP:=by
 unfold PV.cz at h;split at h
 · rename_i ha;injection h with h;exact ⟨h.symm,by simpa using ha⟩
 cases h
theorem CE {t el:TypeId} {sz b o:Nat} {x:Value} {cur:Array Value} (hs:nN P t sz=afP) (hb:w.heap[b]? =afM (.cells cur el (0,0)))
 (hx:x.cells.size=sz) (kI:o+sz<=cur.size) (h1: ∀v∈x.cells.toList,v.oneCell'=afP):
 (Instr.storeAt t (.pointer (afM ⟨b,o,afN⟩)) x).run P w= .ok () (w.setRow b (lZ o x.cells.toList cur.toList).toArray):=by
 have:=run_storeCells_at P b o el x.cells.toList 0 cur w hb (by simp;omega) h1;simp only [Instr.storeAt,Instr.sureAddr,EQ,If,AC,storeVar,jR hs,hx,ne_eq,not_true_eq_false,if_false];simpa [lZ] using this
theorem OS {t:TypeId} {sz:Nat} {p v:PV} {u x:Value} {r:mT} (hp:VR im loc p u) (hv:VR im loc v x) (hs:nN P t sz=afP)
 (h:qD ax fz sz v p=afM r) (hk:iR im loc ax w r):
 ∃w',(Instr.storeAt t u x).run P w= .ok () w'/\rT im loc ax w r im loc w'/\r.v= .undef:=by
 unfold qD at h;cases p with
 |ptr tk e row off=>
  dsimp only at h;obtain ⟨li,hl,he,hn,rfl⟩:=hp.ya;cases pj:ax[tk]? with
  |none=>rw [pj] at h;cases h
  |some c6=>
   rw [pj] at h;cases c6 with
   |arr e' rows=>
    dsimp only at h;cases lO:rows[row]? with
    |none=>rw [lO] at h;cases h
    |some cs=>
     cases hw:v.cz with
     |none=>rw [lO,hw] at h;cases h
     |some ws=>
      rw [lO,hw] at h;dsimp only at h;split at h
      · rename_i hc
        simp only [v6,acl,aeg] at hc;obtain ⟨⟨cO,kI⟩,Qm⟩:=hc;obtain ⟨rfl,LG⟩:=ma hw;injection h with h;subst h;obtain ⟨k,gC,hb⟩:=hk.tok tk (.inr ⟨_,aaC.2 rfl⟩) li hl;rw [pj] at gC;injection gC with gC;subst gC;have dK:rows≠[]:=by intro e;subst e;simp at lO
        obtain ⟨h1,h2,h3⟩:=hb;obtain ⟨arr,el,rV,HK,I8,kJ⟩:=h3 dK;have LC:e'=e:=by rw [<- h1,he]
        subst LC;have Aj:(afI cs)=e':=(kJ row cs lO).1;have Ns:=hv.cells (fun c hc=>wU (LG c hc));have OT:x.cells.size=sz:=by have:=Ns.mj;simp only [ae6] at this;omega
        have Jr:row<(afI rows):=by
         rcases aau row (afI rows) with h|h
         · exact h
         rw [PP h] at lO;cases lO
        have F2:=aah e' (show row+1<=(afI rows) from Jr);rw [WF] at F2;have pQ:li.sh+row*e'+off+sz<=arr.size:=by omega
        have bT:=CE (P:=P) (w:=w) (t:=t) (b:=li.c6) (o:=li.sh+row*e'+off) hs rV OT pQ (Ns.one (fun c hc=>wU (LG c hc)));refine ⟨_,bT,?_,rfl⟩;refine rT.write hk (t:=tk) (k0:= .arr e' rows) (li:=li) rfl rfl hl pj (by cases rows with|nil=>exact absurd rfl dK|cons _ _=>rfl) (bO rV) rfl rfl rfl ?_;refine ⟨h1,by simpa using h2,fun _=>⟨(lZ (li.sh+row*e'+off) x.cells.toList arr.toList).toArray,el,?_,?_,by simpa using I8,?_⟩⟩
        · rw [bO rV]
          have dz:=(NE.1 rV).1;simp [dz]
        · rw [<- HK]
          simp only [aeb];rw [cQ _ _ _ (by simp;omega)];simp
        refine kJ.store lO (by omega) (Ns.Gv LG) Ns.mj.symm (fun k=>?_)
        simp only [acZ];rw [gG _ _ _ (by simp;omega)];simp
      cases h
   |box cs=>
    dsimp only at h;cases hw:v.stored with
    |none=>rw [hw] at h;cases h
    |some ws=>
     rw [hw] at h;dsimp only at h;split at h
     · rename_i hc
       simp only [v6,acl,aeg] at hc;obtain ⟨⟨⟨tP,cO⟩,kI⟩,Qm⟩:=hc;subst tP;obtain ⟨rfl,As⟩:=zt hw;injection h with h;subst h;obtain ⟨k,gC,hb⟩:=hk.tok tk (.inr ⟨_,aaC.2 rfl⟩) li hl;rw [pj] at gC;injection gC with gC;subst gC;obtain ⟨h1,h2,h3,vs,el,h4,h5,h6⟩:=hb;have Ns:=hv.cells As;have OT:x.cells.size=sz:=by have:=Ns.mj;simp only [ae6] at this;omega
       have hcv:=h6.mj;have bT:=CE (P:=P) (w:=w) (t:=t) (b:=li.c6) (o:=li.sh+0*e+off) hs h4 OT (by simp [h3];omega) (Ns.one As);refine ⟨_,bT,?_,rfl⟩;refine rT.write hk (t:=tk) (k0:= .box cs) (li:=li) rfl rfl hl pj rfl (bO h4) rfl rfl rfl ?_;refine ⟨by rw [show (mS off v.cells cs).length=(afI cs) by have:=cQ off v.cells cs (by omega);unfold lZ at this;simpa [mS] using this];exact h1,h2,h3,lZ off x.cells.toList vs,el,?_,?_,?_⟩
       · rw [bO h4]
         have dz:=(NE.1 h4).1;simp [dz,h3]
       · rw [cQ _ _ _ (by simp;omega)];exact h5
       exact eI.lZ Ns h6
     cases h
   |_=>cases h
 |_=>cases h
end
end Go.Vm
/- Operation by operation, fourth part: aggregates, rows, slices. -/
namespace Go.Vm
theorem bK.tail {get:Nat->Option Value} {sh esz:Nat} {r:Row} {rs:List Row} (h:bK get sh esz (r::rs)):bK get (sh+esz) esz rs:=by intro i x hx;obtain ⟨h1,h2⟩:=h (i+1) x (by simpa using hx);refine ⟨h1,fun j c hc=>?_⟩;obtain ⟨v,hv,hg⟩:=h2 j c hc;refine ⟨v,hv,?_⟩;rw [<- hg];congr 1;rw [WF];omega
theorem bK.drop {get:Nat->Option Value} {sh esz:Nat} {rows:List Row} (h:bK get sh esz rows) (n:Nat):bK get (sh+n*esz) esz (rows.drop n):=by intro i x hx;rw [aez] at hx;obtain ⟨h1,h2⟩:=h (n+i) x hx;refine ⟨h1,fun j c hc=>?_⟩;obtain ⟨v,hv,hg⟩:=h2 j c hc;refine ⟨v,hv,?_⟩;rw [<- hg];congr 1;rw [WF];omega
theorem bK.take {get:Nat->Option Value} {sh esz:Nat} {rows:List Row} (h:bK get sh esz rows) (n:Nat):bK get sh esz (rows.take n):=by
 intro i x hx;have hi:i<n:=by
  rcases aau i n with h|h
  · exact h
  rw [PP (by simp;omega)] at hx;cases hx
 rw [aeh hi] at hx;exact h i x hx
theorem bK.append {get:Nat->Option Value} {sh esz:Nat} {xs ys:List Row} (h:bK get sh esz xs) (k:bK get (sh+afI xs*esz) esz ys):bK get sh esz (xs++ys):=by
 intro i r hr;rcases aau i (afI xs) with hi|hi
 · rw [aav hi] at hr;exact h i r hr
 rw [aal hi] at hr
 obtain ⟨h1,h2⟩:=k _ r hr;refine ⟨h1,fun j c hc=>?_⟩;obtain ⟨v,hv,hg⟩:=h2 j c hc;refine ⟨v,hv,?_⟩;rw [<- hg];congr 1;have:i*esz=afI xs*esz+(i-(afI xs))*esz:=by rw [<- WF];congr 1;omega
 omega
theorem bK.m7 {get:Nat->Option Value} {sh esz:Nat} {rows:List Row} (h:bK get sh esz rows): ∀r∈rows,afI r=esz:=by intro r hr;obtain ⟨i,hi,rfl⟩:=aex.1 hr;exact (h i _ (UV hi)).1
theorem kK (r:Row):(aU r).length=(afI r):=by simp [aU]
theorem dv {esz:Nat}: ∀{rows:List Row},(∀r∈rows,afI r=esz)->(rows.flatMap aU).length=afI rows*esz
 | [],_=>by simp
 |r::rs,h=>by have ih:=dv (esz:=esz) (rows:=rs) (fun x hx=>h x (by simp [hx]));simp only [ad8,ae8,ih,kK,h r (by simp),ae7,WF];omega
theorem bK.flat {get:Nat->Option Value} {esz:Nat}: ∀{rows:List Row} {sh:Nat},bK get sh esz rows-> ∀(j:Nat) (v:Value),(rows.flatMap aU)[j]? =afM v->get (sh+j)=afM v
 | [],_,_,j,v,h=>by simp at h
 |r::rs,sh,hr,j,v,h=>by
  rw [ad8] at h;have hl:(aU r).length=esz:=by rw [kK];exact hr.m7 r (by simp)
  rcases aau j esz with hj|hj
  · rw [aav (by omega)] at h
    have:=(rU (im:=fun _=>afN) (loc:=fun _=>afN) hr (i:=0) rfl).2 j v h;simpa using this
  rw [aal (by omega),hl] at h
  have:=bK.flat hr.tail (j-esz) v h;rw [show sh+esz+(j-esz)=sh+j by omega] at this;exact this
theorem bK.zu {esz:Nat}: ∀{rows:List Row} {get:Nat->Option Value} {sh:Nat},(∀r∈rows,afI r=esz)->(∀r∈rows,∀c∈r,c.plain=afP)->
 (∀(j:Nat) (v:Value),(rows.flatMap aU)[j]? =afM v->get (sh+j)=afM v)->bK get sh esz rows
 | [],_,_,_,_,_=>by intro i r h;simp at h
 |r::rs,get,sh,hl,hp,hg=>by
  have Jr:(aU r).length=esz:=by rw [kK];exact hl r (by simp)
  have h1:bK get sh esz [r]:=by
   intro i x hx;cases i with
   |succ i=>simp at hx
   |zero=>
    simp at hx;subst hx;refine ⟨hl r (by simp),fun j c hc=>?_⟩;have hcp:=hp r (by simp) c (aew hc);obtain ⟨v,hv⟩: ∃v,jf c=afM v:=by cases c<;>first|exact ⟨_,rfl⟩|cases hcp
    refine ⟨v,hv,?_⟩;have hj:j<esz:=by
     rcases aau j (afI r) with h|h
     · have:=hl r (by simp);omega
     rw [PP h] at hc;cases hc
    have:=hg j v (by rw [ad8,aav (by omega)];simp [aU,hc,hv]);simpa using this
  have h2:bK get (sh+esz) esz rs:=bK.zu (fun x hx=>hl x (by simp [hx])) (fun x hx=>hp x (by simp [hx])) (fun j v hj=>by
   have:=hg (esz+j) v (by rw [ad8,aal (by omega),Jr,show esz+j-esz=j by omega];exact hj)
   rwa [<- aep] at this)
  have:=h1.append (ys:=rs) (by simpa using h2);simpa using this
theorem bK.plain {get:Nat->Option Value} {sh esz:Nat} {rows:List Row} (h:bK get sh esz rows): ∀r∈rows,∀c∈r,c.plain=afP:=by intro r hr c hc;obtain ⟨i,hi,rfl⟩:=aex.1 hr;obtain ⟨j,hj,rfl⟩:=aex.1 hc;obtain ⟨v,hv,_⟩:=(h i _ (UV hi)).2 j _ (UV hj);cases hh:rows[i][j]<;>rw [hh] at hv<;>first|rfl|cases hv
theorem m8 {rows:List Row} (hp: ∀r∈rows,∀c∈r,c.plain=afP): ∀u∈rows.flatMap aU,u.oneCell'=afP:=by intro u hu;obtain ⟨r,hr,hu⟩:=List.mem_flatMap.1 hu;obtain ⟨c,hc,rfl⟩:=List.mem_map.1 hu;have:=hp r hr c hc;cases c<;>first|rfl|cases this
section
variable {P : Program} {im : Im} {loc : Loc} {ax : cw} {fz : List Nat} {w : World}
theorem BD {esz:Nat} {y:PV} {u:Value} {new:List Row} {tx e':TypeId} (hy:VR im loc y u) (hr:rowsOf ax esz y=afM new) (hx:P.underlying tx=afM (.slice e'))
 (bB: ∀b o,im b=afM o->w.heap[b]? =afM o) (tok: ∀t,t∈iv y-> ∀li,loc t=afM li-> ∃k,ax[t]? =afM k/\BR im loc w li k):
 Src P esz tx u (afI new) (new.flatMap aU) w/\(∀r∈new,afI r=esz)/\(∀r∈new,∀c∈r,c.plain=afP):=by
 unfold rowsOf at hr;cases y with
 |sl e pM rows=>
  obtain ⟨a,cap,rfl,_,_,kJ⟩:=hy.mZ;cases rows with
  |nil=>
   simp at hr;subst hr;refine ⟨?_,by simp,by simp⟩;cases a with
   |none=>exact Src.ofNil w hx cap
   |some a=>exact Src.ofSlice w hx a 0 cap [] (by simp) (by simp) (by simp)
  |cons r rs=>
   dsimp only at hr;split at hr
   · rename_i he
     have he:e=esz:=by simpa using he
     subst he;injection hr with hr;subst hr;obtain ⟨b,o,rfl,cW⟩:=kJ (by simp);refine ⟨Src.ofSlice w hx ⟨b,o,afN⟩ _ cap _ (dv cW.m7) (fun j v hj=>?_) (m8 cW.plain),cW.m7,cW.plain⟩;rw [pP];exact ph bB (cW.flat j v hj)
   cases hr
 |own t e off len cap ex=>
  dsimp only at hr;split at hr
  · rename_i he
    have he:e=esz:=by simpa using he
    subst he;obtain ⟨li,a,cP,rfl,hl,h2,h3,h4,h5,h6,h7⟩:=hy.gF;obtain ⟨k,gC,hb⟩:=tok t (by simp [iv]) li hl;rw [gC] at hr;cases k with
    |arr e' rows=>
     simp only [ww] at hr;subst hr;obtain ⟨b1,b2,b3⟩:=hb;have cO:((rows.drop off).take len).length=len:=by simp;omega
     have LC:e'=e:=by rw [<- b1,h2]
     subst LC;cases rows with
     |nil=>
      have:len=0:=by simp at b2;omega
      subst this;refine ⟨?_,by simp,by simp⟩;simp;cases a with
      |none=>exact Src.ofNil w hx cP
      |some a=>exact Src.ofSlice w hx a 0 cP [] (by simp) (by simp) (by simp)
     |cons r rs=>
      obtain ⟨arr,el,rV,HK,I8,cW⟩:=b3 (by simp);have uQ:=(cW.drop off).take len;rcases h7 with h7|⟨h7,rfl,h9⟩
      · have:len=0:=by omega
        subst this;refine ⟨?_,by simp,by simp⟩;simp;cases a with
        |none=>exact Src.ofNil w hx cP
        |some a=>exact Src.ofSlice w hx a 0 cP [] (by simp) (by simp) (by simp)
      rw [cO]
      refine ⟨Src.ofSlice w hx ⟨li.c6,li.sh+off*e',afN⟩ len cP _ (by rw [dv uQ.m7,cO]) (fun j v hj=>?_) (m8 uQ.plain),uQ.m7,uQ.plain⟩;rw [pP];exact j8 rV (uQ.flat j v hj)
    |_=>cases hr
  cases hr
 |_=>cases hr
end
end Go.Vm
/- Operation by operation, fifth part: append. -/
namespace Go.Vm
theorem wV: ∀(new:List Row) (i:Nat) (rows:List Row),i+afI new<=afI rows->kz i new rows=lZ i new rows
 | [],i,rows,h=>by simp [kz,lZ]
 |r::rs,i,rows,h=>by
  simp only [ae7] at h;rw [kz,wV rs (i+1) (rows.set i r) (by simp;omega)];apply aeB;intro j;rw [gG _ _ _ (by simp;omega),gG _ _ _ (by simp;omega)];simp only [ae7]
  by_cases h1:i+1<=j/\j<i+1+afI rs
  · rw [rc h1,rc ⟨by omega,by omega⟩]
    obtain ⟨k,hk⟩: ∃k,j-i=k+1:=⟨j-i-1,by omega⟩;rw [hk,show j- (i+1)=k by omega];simp
  rw [ut h1]
  by_cases h2:j=i
  · subst h2
    rw [rc ⟨IR _,by omega⟩,aeL (by omega)];simp
  rw [ut (by omega),aeS (by omega)]
theorem bK.lZ {get get':Nat->Option Value} {sh esz i:Nat} {new rows:List Row} (h:bK get sh esz rows) (kI:i+afI new<=afI rows)
 (hl: ∀r∈new,afI r=esz) (hp: ∀r∈new,∀c∈r,c.plain=afP)
 (hg: ∀k,get' k=if sh+i*esz<=k/\k<sh+i*esz+afI new*esz then (new.flatMap aU)[k- (sh+i*esz)]? else get k):
 bK get' sh esz (lZ i new rows):=by
 have QB:=dv hl;have old: ∀k r,rows[k]? =afM r->(k<i\/i+afI new<=k)->afI r=esz/\ ∀(j:Nat) (c:PV),r[j]? =afM c-> ∃v,jf c=afM v/\get' (sh+k*esz+j)=afM v:=by
  intro k r hk Ua;obtain ⟨h1,h2⟩:=h k r hk;refine ⟨h1,fun j c hc=>?_⟩;obtain ⟨v,hv,LF⟩:=h2 j c hc;refine ⟨v,hv,?_⟩;have hj:j<esz:=by
   rcases aau j (afI r) with h|h
   · omega
   rw [PP h] at hc;cases hc
  rw [hg,ut]
  · exact LF
  rcases Ua with Ua|Ua
  · have:=aah esz (show k+1<=i from Ua)
    rw [WF] at this;omega
  have:=aah esz Ua
  rw [WF] at this;omega
 have Au:bK get' (sh+i*esz) esz new:=bK.zu hl hp fun j v hj=>by
  have LH:j<afI new*esz:=by
   rcases aau j (afI new*esz) with h|h
   · exact h
   rw [PP (by omega)] at hj;cases hj
  rw [hg,rc ⟨by omega,by omega⟩,<- hj];congr 1;omega
 intro k r hk;rw [gG _ _ _ kI] at hk;split at hk
 · rename_i hc
   obtain ⟨h1,h2⟩:=Au _ r hk;refine ⟨h1,fun j c BE=>?_⟩;obtain ⟨v,hv,LF⟩:=h2 j c BE;refine ⟨v,hv,?_⟩;rw [<- LF];congr 1;have:k*esz=i*esz+(k-i)*esz:=by rw [<- WF];congr 1;omega
   omega
 rename_i hc
 exact old k r hk (by omega)
theorem grownCap_ge (w:World) (LJ old:Nat) (e:TypeId):LJ<=grownCap w LJ old e:=by unfold grownCap;simp [Question.cut]
theorem QC {LJ old bytes:Nat} (h:old<LJ) (hn:LJ<=1048576) (hb:bytes<=1048576):Builtin.nextslicecap LJ old*bytes<=281474976710656:=by
 have h1:=nextslicecap_le h;have h2:Builtin.nextslicecap LJ old<=2097152:=by omega
 have:=afi h2 hb;omega
theorem wW (z:Array Value) (n:Nat):(Builtin.zeroCells z n).size=n*z.size:=by simp [Builtin.zeroCells]
section
variable {P : Program} {im : Im} {loc : Loc} {ax : cw} {fz : List Nat} {w : World}
theorem iW (t tx ty e:TypeId) (i:TypeInfo) (ht:P.underlying t=afM (.slice e)) (hi:P.info? e=afM i) (b off sQ sCap:Nat) (x:Value) (n:Nat) (news:List Value) (hs:Src P i.size tx x n news w)
 (rW:sQ+n<=sCap) {cur:Array Value} {el:TypeId} (hb:w.heap[b]? =afM (.cells cur el (0,0))) (kI:off+sQ*i.size+afI news<=cur.size):
 (Builtin.append_ #[t,tx] ty #[.slice (afM ⟨b,off,afN⟩) sQ sCap,x]).run P w=
  .ok (.slice (afM ⟨b,off,afN⟩) (sQ+n) sCap) (w.setRow b (lZ (off+sQ*i.size) news cur.toList).toArray):=by
 have bW:=run_storeCells_at P b (off+sQ*i.size) el news 0 cur w hb (by simpa using kI) hs.one;simp only [afv] at bW;rcases hs.kind with ⟨e',hk⟩|hk<;>simp [Builtin.append_,run_underlying ht,run_underlying hk,sizeOf,typeInfo,hi,hs.len,rW,hs.cells,Addr.add_lit,bW,lZ]
theorem BF {esz:Nat} {olds new:List Row} {rest:Array Value} {el:TypeId} {r:mT} {w':World} {nc:Nat} (hr:r.v= .own (afI ax) esz 0 (afI olds+afI new) (afI olds+afI new) afV)
 (hn:r.news=[.arr esz (olds++new)]) (hk:iR im loc ax w r) (dK:new≠[])
 (hh:w'.heap=w.heap.push (.cells (((olds.flatMap aU)++(new.flatMap aU)).toArray++rest) el))
 (Gw: ∀r∈olds,afI r=esz) (Za: ∀r∈olds,∀c∈r,c.plain=afP) (Jt: ∀r∈new,afI r=esz) (hp2: ∀r∈new,∀c∈r,c.plain=afP)
 (Zb:(afI olds)+afI new<=nc) (Ub:rest.size=(nc- (afI olds+afI new))*esz):
 ∃li:LI,li.c6=w.heap.size/\VR im (loc.set (afI ax) li) r.v (.slice (afM ⟨w.heap.size,0,afN⟩) (afI olds+afI new) nc)/\
  BR im (loc.set (afI ax) li) w' li (.arr esz (olds++new))/\lH loc (loc.set (afI ax) li):=by
 have aim:=dv Gw;have ain:=dv Jt;have pL:(((olds.flatMap aU)++(new.flatMap aU)).toArray++rest).size=nc*esz:=by simp only [Array.size_append,aeb,ae8,aim,ain,Ub];rw [<- WF,<- WF];congr 1;omega
 let li:LI:=⟨w.heap.size,0,esz,(olds++new).length,nc*esz⟩
 refine ⟨li,rfl,?_,⟨rfl,rfl,fun _=>⟨_,el,by rw [hh];simp [li],pL,?_,?_⟩⟩,Loc.wS li (by have:=hk.fresh 0 (by simp [hn]);simpa using this)⟩
 · rw [hr]
   have:=VR.own (im:=im) (loc:=loc.set (afI ax) li) (afI ax) esz 0 (afI olds+afI new) (afI olds+afI new) afV li (afM ⟨w.heap.size,0,afN⟩) nc
    (Loc.eC _ _ _) rfl (by simp [li]) (IR _) Zb (by simp)
    (.inr ⟨by simp [li];intro _;exact dK,by simp [li],by simp [li]⟩)
   exact this
 · simp only [li]
   have:=aah esz Zb;simp only [ae8];omega
 refine bK.zu (fun r hr=>?_) (fun r hr=>?_) (fun j v hj=>?_)
 · rcases ad2.1 hr with h|h
   · exact Gw r h
   exact Jt r h
 · rcases ad2.1 hr with h|h
   · exact Za r h
   exact hp2 r h
 rw [aeX] at hj
 simp only [li,aeM];rw [Array.getElem?_append_left (by have:=(ac0.1 hj).1;simpa using this)];simpa using hj
end
end Go.Vm
/- Operation by operation, sixth part: append, whole. -/
namespace Go.Vm
section
variable {P : Program} {im : Im} {loc : Loc} {ax : cw} {fz : List Nat} {w : World}
theorem DS {t tx ty e:TypeId} {i:TypeInfo} {z:Value} {esz:Nat} (ht:P.underlying t=afM (.slice e)) (hi:P.info? e=afM i) (hz:i.zero=afM z) (Ju:z.cells.size=esz)
 (LK:i.bytes<=1048576) {nZ:Option Addr} {sQ sCap:Nat} {olds:List Row} {new:List Row} {x:Value}
 (sR:(Builtin.firstCells i.size sQ (.slice nZ sQ sCap)).run P w.drew= .ok (olds.flatMap aU).toArray w.drew)
 (hs:Src P i.size tx x (afI new) (new.flatMap aU) w) (hg:sCap<sQ+afI new) (hm:sQ+afI new<=1048576):
 ∃(nc:Nat) (rest:Array Value),sQ+afI new<=nc/\rest.size=(nc- (sQ+afI new))*esz/\
  (Builtin.append_ #[t,tx] ty #[.slice nZ sQ sCap,x]).run P w= .ok (.slice (afM ⟨w.heap.size,0,afN⟩) (sQ+afI new) nc)
   (w.drew.alloc (.cells (((olds.flatMap aU)++(new.flatMap aU)).toArray++rest) e)):=by
 refine ⟨_,_,grownCap_ge w (sQ+afI new) sCap e,by rw [wW,Ju],
  run_append_grow_src w t tx ty e i z ht hi hz nZ sQ sCap _ sR x _ _ hs hg (by omega) (QC hg hm LK)⟩
theorem DT {t tx ty e e' : TypeId} {i : TypeInfo} {z : Value} {esz : Nat} (ht : P.underlying t = afM (.slice e)) (Zc : P.underlying tx = afM (.slice e')) (hi : P.info? e = afM i) (pL : i.size = esz)
    (hz : i.zero = afM z) (Ju : z.cells.size = esz) (LK : i.bytes <= 1048576)
    {x y : PV} {u v : Value} {r : mT} (hx : VR im loc x u) (hy : VR im loc y v) (h : iw ax fz esz x y = afM r) (hk : iR im loc ax w r) :
    ∃ v' w' bj, (Builtin.append_ #[t, tx] ty #[u, v]).run P w = .ok v' w' /\ VR im bj r.v v' /\ rT im loc ax w r im bj w' := by
  unfold iw at h
  cases Ak : rowsOf ax esz y with
  | none => rw [Ak] at h; cases h
  | some new =>
    rw [Ak] at h
    dsimp only at h
    cases new with
    | nil =>
      dsimp only at h
      have key : ∀ (a : Option Addr) (n cap : Nat), u = .slice a n cap -> n <= cap -> afM ({ v := x, rd := iv y } : mT) = afM r ->
          ∃ v' w' bj, (Builtin.append_ #[t, tx] ty #[u, v]).run P w = .ok v' w' /\ VR im bj r.v v' /\ rT im loc ax w r im bj w' := by
        intro a n cap hu kI hr
        injection hr with hr; subst hr
        obtain ⟨hs, _, _⟩ := BD (P := P) (w := w) hy Ak Zc hk.bB (fun t ht => hk.tok t (.inl ht))
        simp only [aeF, aeP] at hs
        subst hu
        rw [<- pL] at hs
        exact ⟨_, _, loc, run_append_nothing w t tx ty e i ht hi a n cap kI _ hs, hx, rT.none hk rfl rfl⟩
      have fresh : ∀ (a : Option Addr) (rd : List Nat), u = .slice a 0 0 -> (∀ t ∈ iv y, t ∈ rd) -> afM ({ v := .own (afI ax) esz 0 0 0 afV, news := [.arr esz []], rd := rd } : mT) = afM r ->
          ∃ v' w' bj, (Builtin.append_ #[t, tx] ty #[u, v]).run P w = .ok v' w' /\ VR im bj r.v v' /\ rT im loc ax w r im bj w' := by
        intro a rd hu F3 hr
        injection hr with hr; subst hr
        obtain ⟨hs, _, _⟩ := BD (P := P) (w := w) hy Ak Zc hk.bB (fun t ht => hk.tok t (.inl (F3 t ht)))
        simp only [aeF, aeP] at hs
        subst hu
        rw [<- pL] at hs
        exact ⟨_, _, _, run_append_nothing w t tx ty e i ht hi a 0 0 (IR _) _ hs, .own _ esz 0 0 0 afV ⟨0, 0, esz, 0, 0⟩ a 0 (Loc.eC _ _ _) rfl (IR _) (IR _) (IR _) (by simp) (.inl rfl), rT.Qy hk rfl rfl⟩
      cases x with
      | sl e pM rows =>
        obtain ⟨a, cap, hu, kI, Aj, _⟩ := hx.mZ
        dsimp only at h
        split at h
        · rename_i hc
          simp only [v6, afa] at hc
          obtain ⟨hc, rfl⟩ := hc
          have := Aj hc
          simp at this
          subst this
          exact fresh a _ (by simpa using hu) (fun _ h => h) h
        exact key a _ cap hu kI h
      | own tk e off len cap ex =>
        obtain ⟨li, a, cP, hu, h1, h2, h3, h4, h5, h6, _⟩ := hx.gF
        dsimp only at h
        split at h
        · rename_i hc
          simp only [v6, acl] at hc
          obtain ⟨⟨rfl, rfl⟩, hc⟩ := hc
          have := h6 hc
          subst this
          exact fresh a _ hu (fun _ h => aey _ h) h
        exact key a _ cP hu (by omega) h
      | _ => cases h
    | cons n0 ns =>
      dsimp only at h
      generalize Au : n0 :: ns = new at h Ak
      have dK : new ≠ [] := by rw [<- Au]; simp
      have F4 : 0 < (afI new) := by rw [<- Au]; simp
      cases x with
      | sl e1 pM rows =>
        dsimp only at h
        split at h
        · rename_i hc
          simp only [v6, aeQ, acl, aeg] at hc
          obtain ⟨⟨ae0, C6⟩, gX⟩ := hc
          injection h with h
          obtain ⟨a, cap, rfl, F1, TP, kJ⟩ := hx.mZ
          have aio := TP ae0
          have tQ : iR im loc ax w { v := .own (afI ax) esz 0 ((afI rows) + (afI new)) ((afI rows) + (afI new)) afV, news := [.arr esz (rows ++ new)], rd := iv y } := by rw [h]; exact hk
          obtain ⟨hs, F5, Qn⟩ := BD (P := P) (w := w) hy Ak Zc tQ.bB (fun t ht => tQ.tok t (.inl ht))
          rw [<- pL] at hs
          have sR : (Builtin.firstCells i.size (afI rows) (.slice a (afI rows) cap)).run P w.drew = .ok (rows.flatMap aU).toArray w.drew /\ (∀ r ∈ rows, (afI r) = esz) /\ (∀ r ∈ rows, ∀ c ∈ r, c.plain = afP) := by
            cases hrw : rows with
            | nil =>
              refine ⟨?_, by simp, by simp⟩
              cases a with
              | none => simpa using run_firstCells_none w.drew i.size 0 0 cap
              | some a => exact run_firstCells_some w.drew i.size 0 a 0 cap [] (by simp) (by simp)
            | cons r0 rs =>
              rw [<- hrw]
              have Z1 : rows ≠ [] := by rw [hrw]; simp
              obtain ⟨b, o, rfl, cW⟩ := kJ Z1
              have Qo : e1 = esz := by
                rcases C6 with h | h
                · exact h
                rw [hrw] at h; simp at h
              subst Qo
              refine ⟨run_firstCells_some w.drew i.size (afI rows) ⟨b, o, afN⟩ (afI rows) cap _ (by rw [pL]; exact dv cW.m7) (fun j v hj => ?_), cW.m7, cW.plain⟩
              rw [pP]
              exact ph tQ.bB (cW.flat j v hj)
          obtain ⟨sR, Z2, fo⟩ := sR
          obtain ⟨nc, rest, Zb, Ub, bT⟩ := DS (P := P) (w := w) (tx := tx) (ty := ty) ht hi hz Ju LK (sCap := cap) sR hs (by omega) (by simpa [eA] using gX)
          obtain ⟨li, hlb, nO, qH, kI⟩ := BF (im := im) (loc := loc) (r := { v := .own (afI ax) esz 0 ((afI rows) + (afI new)) ((afI rows) + (afI new)) afV, news := [.arr esz (rows ++ new)], rd := iv y })
            (w' := w.drew.alloc (.cells (((rows.flatMap aU) ++ (new.flatMap aU)).toArray ++ rest) e)) rfl rfl tQ dK rfl Z2 fo F5 Qn Zb Ub
          subst h
          exact ⟨_, _, _, bT, nO, rT.new tQ li rfl rfl rfl rfl rfl rfl hlb qH⟩
        cases h
      | own tk e1 off len cap ex =>
        dsimp only at h
        obtain ⟨li, a, cP, rfl, hl, he, BC, cO, F1, hex, Av⟩ := hx.gF
        cases bW : ax[tk]? with
        | none => rw [bW] at h; cases h
        | some c6 =>
          rw [bW] at h
          cases c6 with
          | arr e2 rows =>
            dsimp only at h
            split at h
            · cases h
            rename_i LC
            have LC : e1 = esz := by simpa using LC
            subst LC
            split at h
            ·
              rename_i rW
              have rW : len + (afI new) <= cap := by simpa using rW
              split at h
              · cases h
              rename_i Qm
              injection h with h
              subst h
              obtain ⟨hs, F5, Qn⟩ := BD (P := P) (w := w) hy Ak Zc hk.bB (fun t ht => hk.tok t (.inl ht))
              rw [<- pL] at hs
              obtain ⟨k, gC, hb⟩ := hk.tok tk (.inr ⟨_, aaC.2 rfl⟩) li hl
              rw [bW] at gC; injection gC with gC; subst gC
              obtain ⟨b1, b2, b3⟩ := hb
              have m9 : rows ≠ [] := by intro e; subst e; simp at b2; omega
              have wb : e2 = e1 := by rw [<- b1, he]
              subst wb
              obtain ⟨arr, el, rV, HK, I8, cW⟩ := b3 m9
              rcases Av with h0 | ⟨_, rfl, pQ⟩
              · omega
              have F6 := dv F5
              have F2 := aah e2 (show off + (len + (afI new)) <= (afI rows) by omega)
              have LL : (off + (len + (afI new))) * e2 = off * e2 + len * e2 + (afI new) * e2 := by rw [WF, WF]; omega
              have DU : li.sh + off * e2 + len * i.size + (new.flatMap aU).length <= arr.size := by rw [pL, F6]; omega
              have bT := iW (P := P) (w := w) t tx ty e i ht hi li.c6 (li.sh + off * e2) len cP v (afI new) (new.flatMap aU) hs (by omega) rV DU
              refine ⟨_, _, loc, bT, ?_, ?_⟩
              · exact .own tk e2 off (len + (afI new)) cap ex li _ cP hl he BC rW F1 hex (.inr ⟨by omega, rfl, pQ⟩)
              refine rT.write hk (t := tk) (k0 := .arr e2 rows) (li := li) rfl rfl hl bW (by cases rows with | nil => exact absurd rfl m9 | cons _ _ => rfl) (bO rV) rfl rfl rfl ?_
              rw [wV _ _ _ (by omega)]
              refine ⟨b1, by rw [cQ _ _ _ (by omega)]; exact b2, fun _ => ⟨(lZ (li.sh + off * e2 + len * i.size) (new.flatMap aU) arr.toList).toArray, el, ?_, ?_, ?_, ?_⟩⟩
              · rw [bO rV]
                have dz := (NE.1 rV).1
                simp [dz]
              · rw [<- HK]
                simp only [aeb]
                rw [cQ _ _ _ (by simpa using DU)]; simp
              · rw [cQ _ _ _ (by omega)]; exact I8
              refine cW.lZ (by omega) F5 Qn (fun k => ?_)
              simp only [acZ]
              rw [gG _ _ _ (by simpa using DU), F6]
              have : li.sh + off * e2 + len * i.size = li.sh + (off + len) * e2 := by rw [pL, WF]; omega
              rw [this]
              simp
            rename_i rW
            have rW : ¬ (len + (afI new) <= cap) := by simpa using rW
            split at h
            · cases h
            rename_i gX
            have gX : len + (afI new) <= 1048576 := by simpa [eA] using gX
            have old : ∀ (rd : List Nat) (wr : List (Nat × jx)), (tk ∈ rd \/ ∃ k, (tk, k) ∈ wr) ->
                iR im loc ax w { v := .own (afI ax) e1 0 (len + (afI new)) (len + (afI new)) afV, news := [.arr e1 ((rows.drop off).take len ++ new)], wr := wr, rd := rd } ->
                (Builtin.firstCells i.size len (.slice a len cP)).run P w.drew = .ok (((rows.drop off).take len).flatMap aU).toArray w.drew /\ ((rows.drop off).take len).length = len /\
                  (∀ r ∈ (rows.drop off).take len, (afI r) = e1) /\ (∀ r ∈ (rows.drop off).take len, ∀ c ∈ r, c.plain = afP) := by
              intro rd wr Aw tQ
              obtain ⟨k, gC, hb⟩ := tQ.tok tk Aw li hl
              rw [bW] at gC; injection gC with gC; subst gC
              obtain ⟨b1, b2, b3⟩ := hb
              have wb : e2 = e1 := by rw [<- b1, he]
              subst wb
              have zw : ((rows.drop off).take len).length = len := by simp; omega
              by_cases I9 : len = 0
              · subst I9
                refine ⟨?_, zw, by simp, by simp⟩
                simp only [List.take_zero, aeF]
                cases a with
                | none => exact run_firstCells_none w.drew i.size 0 0 cP
                | some a => exact run_firstCells_some w.drew i.size 0 a 0 cP [] (by simp) (by simp)
              have m9 : rows ≠ [] := by intro e; subst e; simp at zw; omega
              obtain ⟨arr, el, rV, HK, I8, cW⟩ := b3 m9
              have uQ := (cW.drop off).take len
              rcases Av with h0 | ⟨_, rfl, _⟩
              · omega
              refine ⟨run_firstCells_some w.drew i.size len _ len cP _ (by rw [pL, dv uQ.m7, zw]) (fun j v hj => ?_), zw, uQ.m7, uQ.plain⟩
              rw [pP]
              exact j8 (w := w) rV (uQ.flat j v hj)
            split at h
            ·
              rename_i ae2
              injection h with h
              have tQ : iR im loc ax w { v := .own (afI ax) e1 0 (len + (afI new)) (len + (afI new)) afV, news := [.arr e1 ((rows.drop off).take len ++ new)], wr := [], rd := tk :: iv y } := by rw [h]; exact hk
              obtain ⟨sR, zw, Z2, fo⟩ := old (tk :: iv y) [] (.inl (by simp)) tQ
              obtain ⟨hs, F5, Qn⟩ := BD (P := P) (w := w) hy Ak Zc tQ.bB (fun t ht => tQ.tok t (.inl (aey _ ht)))
              rw [<- pL] at hs
              have hce := hex ae2
              obtain ⟨nc, rest, Zb, Ub, bT⟩ := DS (P := P) (w := w) (tx := tx) (ty := ty) ht hi hz Ju LK (sCap := cP) sR hs (by omega) gX
              obtain ⟨lj, hlb, nO, qH, kI⟩ := BF (im := im) (loc := loc) (olds := (rows.drop off).take len) (new := new) (r := { v := .own (afI ax) e1 0 (len + (afI new)) (len + (afI new)) afV, news := [.arr e1 ((rows.drop off).take len ++ new)], wr := [], rd := tk :: iv y })
                (w' := w.drew.alloc (.cells (((((rows.drop off).take len).flatMap aU) ++ (new.flatMap aU)).toArray ++ rest) e)) (by rw [zw]) rfl tQ dK rfl Z2 fo F5 Qn (by rw [zw]; exact Zb) (by rw [zw]; exact Ub)
              subst h
              rw [zw] at nO
              exact ⟨_, _, _, bT, nO, rT.new tQ lj rfl rfl rfl rfl rfl rfl hlb qH⟩
            rename_i ae2
            split at h
            · cases h
            rename_i Qm
            injection h with h
            have tQ : iR im loc ax w { v := .own (afI ax) e1 0 (len + (afI new)) (len + (afI new)) afV, news := [.arr e1 ((rows.drop off).take len ++ new)], wr := [(tk, .dead)], rd := iv y } := by rw [h]; exact hk
            obtain ⟨sR, zw, Z2, fo⟩ := old (iv y) [(tk, .dead)] (.inr ⟨_, aaC.2 rfl⟩) tQ
            obtain ⟨hs, F5, Qn⟩ := BD (P := P) (w := w) hy Ak Zc tQ.bB (fun t ht => tQ.tok t (.inl ht))
            have tR := hs
            rw [<- pL] at hs
            subst h
            rcases aau cP (len + (afI new)) with hg | hg
            ·
              obtain ⟨nc, rest, Zb, Ub, bT⟩ := DS (P := P) (w := w) (tx := tx) (ty := ty) ht hi hz Ju LK (sCap := cP) sR hs hg gX
              obtain ⟨lj, hlb, nO, qH, kI⟩ := BF (im := im) (loc := loc) (olds := (rows.drop off).take len) (new := new) (r := { v := .own (afI ax) e1 0 (len + (afI new)) (len + (afI new)) afV, news := [.arr e1 ((rows.drop off).take len ++ new)], wr := [(tk, .dead)], rd := iv y })
                (w' := w.drew.alloc (.cells (((((rows.drop off).take len).flatMap aU) ++ (new.flatMap aU)).toArray ++ rest) e)) (by rw [zw]) rfl tQ dK rfl Z2 fo F5 Qn (by rw [zw]; exact Zb) (by rw [zw]; exact Ub)
              rw [zw] at nO
              refine ⟨_, _, _, bT, nO, ?_⟩
              have nZ := rT.new (r := { v := .own (afI ax) e1 0 (len + (afI new)) (len + (afI new)) afV, news := [.arr e1 ((rows.drop off).take len ++ new)], wr := [], rd := iv y })
                (w' := w.drew.alloc (.cells (((((rows.drop off).take len).flatMap aU) ++ (new.flatMap aU)).toArray ++ rest) e))
                ⟨tQ.bB, fun t ht => tQ.tok t (by rcases ht with ht | ⟨k, ht⟩; exact .inl ht; cases ht), fun t k h => absurd h (by simp), tQ.fresh, fun t u li lj k k' h1 h2 => tQ.iq t u li lj k k' (by rcases h1 with h | ⟨k, h⟩; exact .inl h; cases h) (by rcases h2 with h | ⟨k, h⟩; exact .inl h; cases h)⟩ lj rfl rfl rfl rfl rfl rfl hlb qH
              exact { gn := nZ.gn, dI := nZ.dI, bB := nZ.bB, dM := nZ.dM, os := nZ.os, tape := nZ.tape, output := nZ.output, size := nZ.size,
                      frame := fun b hb _ => nZ.frame b hb (fun t k li k0 h => absurd h (by simp)),
                      OP := (fun t k hm hs => by
                        obtain ⟨rfl, rfl⟩ : t = tk /\ k = .dead := by simpa using hm
                        cases hs),
                      wr := fun t k li hm lL => by
                        obtain ⟨rfl, rfl⟩ : t = tk /\ k = .dead := by simpa using hm
                        trivial,
                      ky := nZ.ky,
                      news := fun j k li hj hl => by
                        obtain ⟨h2, h3⟩ := nZ.news j k li hj hl
                        refine ⟨h2, fun hs => ⟨(h3 hs).1, ?_⟩⟩
                        rcases (h3 hs).2 with h | ⟨t, lt, k0, hm, _⟩
                        · exact .inl h
                        exact absurd hm (by simp),
                      distinct := nZ.distinct }
            ·
              obtain ⟨k, gC, hb⟩ := tQ.tok tk (.inr ⟨_, aaC.2 rfl⟩) li hl
              rw [bW] at gC; injection gC with gC; subst gC
              obtain ⟨b1, b2, b3⟩ := hb
              have wb : e2 = e1 := by rw [<- b1, he]
              subst wb
              rcases Av with h0 | ⟨Uc, rfl, pQ⟩
              · omega
              have m9 : rows ≠ [] := by intro e; subst e; simp at b2; omega
              obtain ⟨arr, el, rV, HK, I8, cW⟩ := b3 m9
              have uQ := (cW.drop off).take len
              have F6 := dv F5
              have ae3 := dv Z2
              rw [zw] at ae3
              have F2 := aah e2 (show off + (len + (afI new)) <= off + cP by omega)
              have LL : (off + (len + (afI new))) * e2 = off * e2 + len * e2 + (afI new) * e2 := by rw [WF, WF]; omega
              have DU : li.sh + off * e2 + len * i.size + (new.flatMap aU).length <= arr.size := by rw [pL, F6]; omega
              have bT := iW (P := P) (w := w) t tx ty e i ht hi li.c6 (li.sh + off * e2) len cP v (afI new) (new.flatMap aU) hs hg rV DU
              have Nt := bO (cs := (lZ (li.sh + off * e2 + len * i.size) (new.flatMap aU) arr.toList).toArray) rV
              have dz := (NE.1 rV).1
              have zx : (jx.arr e2 rows).bH = afP := by cases rows with | nil => exact absurd rfl m9 | cons _ _ => rfl
              have Ax := tQ.free tk .dead (aaC.2 rfl) li (.arr e2 rows) hl bW zx
              let lj : LI := ⟨li.c6, li.sh + off * e2, e2, ((rows.drop off).take len ++ new).length, li.sz⟩
              have QD : loc (afI ax) = afN := by have := tQ.fresh 0 (by simp); simpa using this
              have hlj : lj.n = len + (afI new) := by simp only [lj, ae8, zw]
              refine ⟨_, _, loc.set (afI ax) lj, bT, ?_, ?_⟩
              · exact .own (afI ax) e2 0 (len + (afI new)) (len + (afI new)) afV lj _ cP (Loc.eC _ _ _) rfl (by omega) (IR _) hg (by simp)
                  (.inr ⟨by omega, by simp [lj], by simp only [lj, aeM]; rw [WF] at pQ; omega⟩)
              have qH : BR im (loc.set (afI ax) lj) (w.setRow li.c6 (lZ (li.sh + off * e2 + len * i.size) (new.flatMap aU) arr.toList).toArray) lj (.arr e2 ((rows.drop off).take len ++ new)) := by
                refine ⟨rfl, rfl, fun _ => ⟨(lZ (li.sh + off * e2 + len * i.size) (new.flatMap aU) arr.toList).toArray, el, by rw [Nt]; simp [lj, dz], ?_, ?_, ?_⟩⟩
                · simp only [lj, aeb]
                  rw [cQ _ _ _ (by simpa using DU)]; simpa using HK
                · simp only [lj, ae8, zw]
                  rw [WF]; rw [LL] at F2; omega
                refine bK.zu (fun r hr => ?_) (fun r hr => ?_) (fun j u hj => ?_)
                · rcases ad2.1 hr with h | h
                  · exact Z2 r h
                  exact F5 r h
                · rcases ad2.1 hr with h | h
                  · exact fo r h
                  exact Qn r h
                rw [aeX] at hj
                simp only [lj, acZ]
                rw [gG _ _ _ (by simpa using DU), F6, pL]
                rcases aau j (len * e2) with LH | LH
                · rw [aav (by omega)] at hj
                  rw [ut (by omega)]
                  have := uQ.flat j u hj
                  simpa using this
                rw [aal (by omega), ae3] at hj
                have hjb := (ac0.1 hj).1
                rw [rc ⟨by omega, by omega⟩, <- hj]
                congr 1
                omega
              exact { gn := .refl _, dI := Loc.wS lj QD,
                      bB := fun b o hb => by
                        have h1 := tQ.bB b o hb
                        have LM : li.c6 ≠ b := fun e => by rw [e, hb] at Ax; cases Ax
                        rw [Nt, aaB, ut LM]; exact h1,
                      dM := fun _ _ h => .inl h, os := rfl, tape := ⟨rfl, IR _⟩, output := rfl,
                      size := by rw [Nt]; simp,
                      OP := (fun t k hm hs => by
                        obtain ⟨rfl, rfl⟩ : t = tk /\ k = .dead := by simpa using hm
                        cases hs),
                      frame := fun b _ hb => by
                        have LM := hb tk .dead li _ (aaC.2 rfl) hl bW zx
                        rw [Nt, aaB, ut LM],
                      wr := fun t k li hm lL => by
                        obtain ⟨rfl, rfl⟩ : t = tk /\ k = .dead := by simpa using hm
                        trivial,
                      ky := fun t l h => by
                        unfold Loc.set at h
                        split at h
                        · rename_i e; subst e; exact .inr ⟨IR _, by simp⟩
                        exact .inl h,
                      news := BB (fun j k hj => by
                        cases j with
                        | zero =>
                          simp at hj; subst hj
                          exact ⟨lj, Loc.eC _ _ _, qH, fun _ => ⟨Ax, .inr ⟨tk, li, _, aaC.2 rfl, hl, bW, zx, rfl⟩⟩⟩
                        | succ j => simp at hj),
                      distinct := fun i j ki kj li lj h1 h2 _ _ _ _ _ => by
                        cases i <;> cases j <;> simp at h1 h2 <;> rfl }
          | _ => cases h
      | _ => cases h
end
end Go.Vm
/- Operation by operation, seventh part: aggregates and rows that are built, slices that are cut. -/
namespace Go.Vm
section
variable {P : Program} {im : Im} {loc : Loc} {ax : cw} {fz : List Nat} {w : World}
theorem tT {α β:Type} (f:α->Sem β) (g:α->β):
 ∀(xs:List α),(∀a∈xs,(f a).run P w= .ok (g a) w)-> ∀(acc:Array β),(xs.foldlM (fun bs a=>bs.push<$>f a) acc).run P w= .ok (acc++(xs.map g).toArray) w
 | [],_,acc=>by simp
 |x::xs,h,acc=>by
  simp only [afb,EQ,Sem.run_map,h x (by simp),AC,tT f g xs (fun a ha=>h a (by simp [ha]))]
  congr 1
  apply ac1;simp
theorem OU {α β:Type} (f:α->Sem β) (g:α->β) (xs:Array α) (h: ∀a∈xs,(f a).run P w= .ok (g a) w):(xs.mapM f).run P w= .ok (xs.map g) w:=by
 rw [Array.mapM_eq_foldlM,<- Array.foldlM_toList,tT f g xs.toList (fun a ha=>h a (by simpa using ha))]
 congr 1
 apply ac1;simp
theorem Gx (off:Nat): ∀(xs:List Value) (k:Nat) (cells:Array Value),off+k+afI xs<=cells.size->
 ((xs.zipIdx k).foldl (fun (cs:Array Value) (p:Value×Nat)=>cs.setIfInBounds (off+p.2) p.1) cells).toList=lZ (off+k) xs cells.toList
 | [],k,cells,_=>by simp [lZ]
 |x::xs,k,cells,h=>by
  simp only [ae7] at h;rw [List.zipIdx_cons,aer,Gx off xs (k+1) _ (by simp;omega)];apply aeB;intro j;rw [gG _ _ _ (by simp;omega),gG _ _ _ (by simp;omega)];simp only [ae7,Array.toList_setIfInBounds]
  by_cases h1:off+(k+1)<=j/\j<off+(k+1)+afI xs
  · rw [rc h1,rc ⟨by omega,by omega⟩]
    obtain ⟨m,hm⟩: ∃m,j- (off+k)=m+1:=⟨j- (off+k) -1,by omega⟩;rw [hm,show j- (off+(k+1))=m by omega];simp
  rw [ut h1]
  by_cases h2:j=off+k
  · subst h2
    rw [rc ⟨IR _,by omega⟩,aeL (by simp;omega)];simp
  rw [ut (by omega),aeS (by omega)]
theorem yb {place:Nat->Option (Nat×Nat)} {i off size:Nat} {v:Value} {rest:List (Nat×Value)} {cells:Array Value} (hp:place i=afM (off,size)) (hs:v.cells.size=size)
 (hf:off+size<=cells.size):Instr.fill place cells ((i,v)::rest)=Instr.fill place ⟨lZ off v.cells.toList cells.toList⟩ rest:=by
 have he:(v.cells.zipIdx.foldl (fun cs (c,j)=>cs.setIfInBounds (off+j) c) cells)=⟨lZ off v.cells.toList cells.toList⟩:=by apply ac1;rw [<- Array.foldl_toList,Array.toList_zipIdx];have:=Gx off v.cells.toList 0 cells (by simp;omega);simpa using this
 simp only [Instr.fill,hp];rw [ut (by simp [hs];omega),he]
inductive tU (im:Im) (loc:Loc) (place:Nat->Option (Nat×Nat)):List (Nat×Nat×PV)->List (Nat×Value)->Prop
 |nil:tU im loc place [] []
 |cons (off sz i:Nat) (x:PV) (v:Value) (r:List (Nat×Nat×PV)) (s:List (Nat×Value)) (hp:place i=afM (off,sz)) (hv:VR im loc x v) (h:tU im loc place r s):
  tU im loc place ((off,sz,x)::r) ((i,v)::s)
theorem Jv {place:Nat->Option (Nat×Nat)}: ∀{ps:List (Nat×Nat×PV)} {qs:List (Nat×Value)},tU im loc place ps qs-> ∀{cs Gt:List PV} {vs:Array Value},
 eI im loc cs vs.toList->mA ps cs=afM Gt-> ∃Lt,Instr.fill place vs qs=afM Lt/\eI im loc Gt Lt.toList
 |_,_,.nil,cs,Gt,vs,h,hf=>by simp only [mA,ww] at hf;subst hf;exact ⟨vs,rfl,h⟩
 |_,_,.cons off sz i x v r s hp hv hr,cs,Gt,vs,h,hf=>by
  simp only [mA] at hf;cases bW:x.stored with
  |none=>rw [bW] at hf;cases hf
  |some ws=>
   rw [bW] at hf;dsimp only at hf;split at hf
   · rename_i hc
     simp only [v6,acl,aeg] at hc;obtain ⟨rfl,As⟩:=zt bW;have Ns:=hv.cells As;have hl:=Ns.mj;have Aj:=h.mj;simp only [ae6] at hl Aj;rw [yb hp (by omega) (by omega)];exact Jv hr (eI.lZ Ns h) hf
   cases hf
theorem DV {t:TypeId} {fs:Array Field} (hu:P.underlying t=afM (.struct fs)) (hf: ∀f∈fs,(P.info? f.type).isSome=afP):
 (fs.mapM fun f=>do pure (f.offset,<- sizeOf f.type):Sem (Array (Nat×Nat))).run P w= .ok (fs.map fun f=>(f.offset,P.cellsOf f.type)) w/\
 (fun i=>(fs.map fun f=>(f.offset,P.cellsOf f.type))[i]?)=placeOf P t:=by
 constructor
 · refine OU _ _ _ fun f hm=>?_
   obtain ⟨i,hi⟩:=adc.1 (hf f hm);simp [sizeOf,typeInfo,hi,Program.cellsOf]
 funext i
 unfold placeOf;rw [hu];cases hfi:fs[i]? with
 |none=>simp [hfi]
 |some f=>obtain ⟨j,hj⟩:=adc.1 (hf f (Array.mem_of_getElem? hfi));simp [hfi,hj,Program.cellsOf]
theorem OV {t:TypeId} {zero cs:List PV} {ps:List (Nat×Nat×PV)} {qs:Array (Nat×Value)} (hz:sP P t zero=afP)
 (mR:(match P.underlying t with|some (.struct fs)=>fs.all fun f=>(P.info? f.type).isSome|some (.array _ e)=>(P.info? e).isSome|_=>afV)=afP)
 (hr:tU im loc (placeOf P t) ps qs.toList) (hf:mA ps zero=afM cs): ∃v,(Instr.build t qs).run P w= .ok v w/\VR im loc (.agg cs) v:=by
 unfold sP at hz;cases hi:P.info? t with
 |none=>rw [hi] at hz;cases hz
 |some i=>
  rw [hi] at hz;cases HL:i.zero with
  |none=>simp [HL] at hz
  |some z=>
   simp [HL] at hz;have Lu:(zeroValue t).run P w= .ok z w:=by simp [zeroValue,typeInfo,hi,HL]
   obtain ⟨Lt,h1,h2⟩:=Jv hr (wR hz) hf;refine ⟨.agg Lt,?_,.agg cs Lt.toList h2⟩;cases hu:P.underlying t with
   |none=>rw [hu] at mR;cases mR
   |some d=>
    rw [hu] at mR;cases d<;>first|cases mR|skip
    case array n e=>
     obtain ⟨j,hj⟩:=adc.1 mR;have hp:(fun i=>afM (i*j.size,j.size))=placeOf P t:=by funext i;unfold placeOf;rw [hu];simp [hj]
     have pL:(sizeOf e).run P w= .ok j.size w:=by simp [sizeOf,typeInfo,hj]
     simp only [Instr.build,EQ,Lu,run_underlying hu,AC,pL,hp,h1,If]
    case struct fs=>
     have qe: ∀f∈fs,(P.info? f.type).isSome=afP:=by intro f hf;have:=Array.all_eq_true.1 mR;obtain ⟨k,hk,rfl⟩:=Array.mem_iff_getElem.1 hf;exact this k hk
     obtain ⟨hm,hp⟩:=DV (P:=P) (w:=w) hu qe;simp only [Instr.build,EQ,Lu,run_underlying hu,AC,hm,hp,h1,If]
theorem BG {zero:Row} {zs:Array Value} (h: ∀(j:Nat) (c:PV),zero[j]? =afM c-> ∃v,jf c=afM v/\zs[j]? =afM v) (hl:(afI zero)=zs.size) (n:Nat):
 bK (fun k=>((aeC (n*zs.size)).map (zs[· %zs.size]!))[k]?) 0 zs.size (ac2 n zero):=by
 intro i r hr;have hi:i<n:=by
  rcases aau i n with h|h
  · exact h
  rw [PP (by simpa using h)] at hr;cases hr
 rw [List.getElem?_replicate,rc hi] at hr;injection hr with hr;subst hr;refine ⟨hl,fun j c hc=>?_⟩;obtain ⟨v,hv,hz⟩:=h j c hc;refine ⟨v,hv,?_⟩;have hj:j<zs.size:=(NE.1 hz).1;have dz:i*zs.size+j<n*zs.size:=by have:=aah zs.size (show i+1<=n from hi);rw [WF] at this;omega
 have air:(i*zs.size+j)%zs.size=j:=by rw [Nat.mul_comm,Nat.mul_add_mod];exact Nat.mod_eq_of_lt hj
 simp only [aeM];rw [Array.getElem?_map,Array.getElem?_range,rc dz];simp only [afd,air];rw [getElem!_pos zs j hj];have:=(NE.1 hz).2;rw [this]
inductive wX (im:Im) (loc:Loc):List (Nat×PV)->List (Nat×Value)->Prop
 |nil:wX im loc [] []
 |cons (i:Nat) (x:PV) (v:Value) (r:List (Nat×PV)) (s:List (Nat×Value)) (hv:VR im loc x v) (h:wX im loc r s):wX im loc ((i,x)::r) ((i,v)::s)
theorem Ay {esz n : Nat} : ∀ {ps : List (Nat × PV)} {qs : List (Nat × Value)}, wX im loc ps qs -> ∀ {rows p4 : List Row} {vs : Array Value},
    bK (fun k => vs[k]?) 0 esz rows -> vs.size = n * esz -> (afI rows) = n -> o8 ps rows esz = afM p4 ->
    ∃ Lt, Instr.fill (fun i => afM (i * esz, esz)) vs qs = afM Lt /\ bK (fun k => Lt[k]?) 0 esz p4 /\ Lt.size = n * esz /\ (afI p4) = n
  | _, _, .nil, rows, p4, vs, h, hs, hn, hf => by
    simp only [o8, ww] at hf
    subst hf
    exact ⟨vs, rfl, h, hs, hn⟩
  | _, _, .cons i x v r s hv hr, rows, p4, vs, h, hs, hn, hf => by
    simp only [o8] at hf
    cases bW : x.cz with
    | none => rw [bW] at hf; cases hf
    | some ws =>
      rw [bW] at hf
      dsimp only at hf
      split at hf
      · rename_i hc
        have CF : (afI ws) = esz := by simp only [v6, acl] at hc; exact hc.1
        have I' : i < (afI rows) := by simp only [v6] at hc; simpa using hc.2
        obtain ⟨rfl, LG⟩ := ma bW
        have Ns := hv.cells (fun c hc => wU (LG c hc))
        have hl := Ns.mj
        simp only [ae6] at hl
        have F2 := aah esz (show i + 1 <= n by omega)
        rw [WF] at F2
        rw [yb (place := fun i => afM (i * esz, esz)) rfl (by omega) (by omega)]
        have hgi : rows[i]? = afM rows[i] := UV I'
        have hil := (h i _ hgi).1
        have ae4 := h.store (get' := fun k => (⟨lZ (i * esz) v.cells.toList vs.toList⟩ : Array Value)[k]?) (off := 0) (ws := x.cells) (vs := v.cells.toList) hgi (by omega) (Ns.Gv LG) (by simp; omega) (fun k => by
          simp only [acZ]
          rw [gG _ _ _ (by simp; omega)]
          simp)
        have ais : lZ 0 x.cells rows[i] = x.cells := by
          unfold lZ; rw [aeu (by omega)]; simp
        rw [ais] at ae4
        exact Ay hr ae4 (by simp only [aeb]; rw [cQ _ _ _ (by simp; omega)]; simpa using hs) (by simpa using hn) hf
      cases hf
end
end Go.Vm
/- Operation by operation, last part: all of them. -/
namespace Go.Vm
def kv.fa:kv->List fv
 | .Qk x| .un _ x| .conv _ x| .len x| .box x| .load _ x| .Je x| .Jf _ x| .j0 _ _ x| .ext _ x=>[x]
 | .pick a b c=>[a,b,c]
 | .bin _ x y| .Jd _ x y| .Y1 _ _ x y| .store _ x y| .Jg _ x y| .CA _ _ x y| .idx _ _ _ x y| .Jh x y| .Y2 _ _ x y| .append _ x y| .copy _ x y=>[x,y]
 | .build _ ps=>ps.map (·.2.2)
 | .Am _ _ _ ps=>ps.map (·.2)
 | .Cz x y=>[x,y]
 | .OM _ x a b c=>x::(a.toList++b.toList++c.toList)
 | .Y3 _ a b=>a++b
 | .lookup _ _ _ m k=>[m,k]
 | .HA _ m k v=>[m,k,v]
 | .clear _ _ x=>[x]
 | .mm _ x xs=>x::xs
 | .call _ _ as=>as
 | .vY x as=>x::as
 | .LB _| .alloc _| .Y4 _| .bad=>[]
section
variable {P : Program} {im : Im} {loc : Loc} {ax : cw} {fz : List Nat} {w : World} {e : Env} {ρ : Operand -> Value}
theorem mD: ∀{xs:List fv} {os:List Operand},(∀x∈xs,∀o,bu x o=afP->VR im loc (x.ev e) (ρ o))->eJ xs os=afP->eI im loc (DI e xs) (os.map ρ)
 | [],[],_,_=> .nil
 |x::xs,o::os,h,hc=>by simp only [eJ,v6] at hc;exact .cons _ _ _ _ (h x (by simp) o hc.1) (mD (fun y hy=>h y (by simp [hy])) hc.2)
 | [],_::_,_,hc=>by simp [eJ] at hc
 |_::_,[],_,hc=>by simp [eJ] at hc
theorem Az {place:Nat->Option (Nat×Nat)}: ∀{ps:List (Nat×Nat×fv)} {qs:List (Nat×Operand)},(∀x∈ps.map (·.2.2),∀o,bu x o=afP->VR im loc (x.ev e) (ρ o))->tO place ps qs=afP->
 tU im loc place (ps.map fun p=>(p.1,p.2.1,p.2.2.ev e)) (qs.map fun (i,x)=>(i,ρ x))
 | [],[],_,_=> .nil
 |(off,sz,x)::r,(i,o)::s,h,hc=>by
  simp only [tO,v6] at hc;obtain ⟨⟨h1,h2⟩,h3⟩:=hc;refine .cons off sz i _ _ _ _ ?_ (h x (by simp) o h2) (Az (fun y hy=>h y (by simp only [afs,aeq];exact .inr hy)) h3);cases hp:place i with
  |none=>rw [hp] at h1;cases h1
  |some q=>rw [hp] at h1;simp only [v6,beq_iff_eq] at h1;obtain ⟨rfl,rfl⟩:=h1;rfl
 | [],_::_,_,hc=>by simp [tO] at hc
 |_::_,[],_,hc=>by simp [tO] at hc
theorem wc: ∀{ps:List (Nat×fv)} {qs:List (Nat×Operand)},(∀x∈ps.map (·.2),∀o,bu x o=afP->VR im loc (x.ev e) (ρ o))->mC ps qs=afP->
 wX im loc (ps.map fun p=>(p.1,p.2.ev e)) (qs.map fun (i,x)=>(i,ρ x))
 | [],[],_,_=> .nil
 |(i,x)::r,(j,o)::s,h,hc=>by simp only [mC,v6,beq_iff_eq] at hc;obtain ⟨⟨rfl,h2⟩,h3⟩:=hc;exact .cons i _ _ _ _ (h x (by simp) o h2) (wc (fun y hy=>h y (by simp only [afs,aeq];exact .inr hy)) h3)
 | [],_::_,_,hc=>by simp [mC] at hc
 |_::_,[],_,hc=>by simp [mC] at hc
theorem DW {t:TypeId} {zero:Row} (h:sP P t zero=afP) (hp:zero.all PV.plain=afP):
 ∃i z,P.info? t=afM i/\i.zero=afM z/\afI zero=z.cells.size/\ ∀(j:Nat) (c:PV),zero[j]? =afM c-> ∃v,jf c=afM v/\z.cells[j]? =afM v:=by
 unfold sP at h;cases hi:P.info? t with
 |none=>rw [hi] at h;cases h
 |some i=>
  rw [hi] at h;cases hz:i.zero with
  |none=>simp [hz] at h
  |some z=>simp [hz] at h;have hr:eI (fun _=>afN) (fun _=>afN) zero z.cells.toList:=wR h;refine ⟨i,z,rfl,hz,by simpa using hr.mj,fun j c hc=>?_⟩;obtain ⟨v,hv,LF⟩:=hr.get j c hc;refine ⟨v,LF.plain ?_,by simpa using hv⟩;have:=afc.1 hp c (aew hc);exact this
theorem CG {esz n len cap:Nat} {rows:List Row} {vs:Array Value} {el:TypeId} {r:mT} (hr:r={v:= .own (afI ax) esz 0 len cap afP,news:=[.arr esz rows]}) (hk:iR im loc ax w r)
 (cW:bK (fun k=>vs[k]?) 0 esz rows) (hs:vs.size=n*esz) (hn:(afI rows)=n) (hc:cap=n) (hl:len<=cap):
 ∃bj,VR im bj r.v (.slice (afM ⟨w.heap.size,0,afN⟩) len cap)/\rT im loc ax w r im bj {w with heap:=w.heap.push (.cells vs el)}:=by
 subst hr hc
 let li:LI:=⟨w.heap.size,0,esz,cap,vs.size⟩
 refine ⟨loc.set (afI ax) li,?_,?_⟩
 · refine .own (afI ax) esz 0 len cap afP li _ cap (Loc.eC _ _ _) rfl (by simp [li]) hl (IR _) (fun _=>rfl) ?_
   rcases aeZ cap with h|h
   · exact .inl h
   exact .inr ⟨by simp [li];omega,by simp [li],by simp [li,hs]⟩
 exact rT.new hk li rfl rfl rfl rfl rfl rfl rfl ⟨rfl,hn.symm,fun _=>⟨vs,el,by simp [li],rfl,by simp [li,hs,hn],cW⟩⟩
theorem Nu {isMax:Bool} {k:IntKind}: ∀{ys:List PV} {us:List Value},eI im loc ys us-> ∀{a:Int} {z:PV},ZY isMax k a ys=afM z->
 ∃b,z= .int k b/\(us.foldlM (if isMax then Builtin.max2 else Builtin.min2) (.int k a)).run P w= .ok (.int k b) w
 |_,_,.nil,a,z,h=>by simp only [ZY,ww] at h;exact ⟨a,h.symm,rfl⟩
 |_,_,.cons y u ys us hy hs,a,z,h=>by
  unfold ZY at h;cases y with
  |int l c=>
   obtain rfl:=hy.ga;dsimp only at h;cases TQ:fk k l with
   |false=>rw [TQ] at h;cases h
   |true=>
    have:=eU.1 TQ;subst this;rw [TQ,rc rfl] at h;obtain ⟨b,hz,ih⟩:=Nu (isMax:=isMax) hs h;refine ⟨b,hz,?_⟩;rw [afb,EQ];cases isMax with
    |true=>simp only [if_true] at ih ⊢;simp only [Builtin.max2,If,AC];exact ih
    |false=>simp only [aax,if_false] at ih ⊢;simp only [Builtin.min2,If,AC];exact ih
  |_=>cases h
end
end Go.Vm
/- Operation by operation: all that call nothing. -/
namespace Go.Vm
def QE (P:Program) (ρ:Operand->Value) (o:Oper) (im:Im) (loc:Loc) (ax:cw) (w:World) (r:mT):Prop:=
 ∃nx w' bj,(execOp ρ o).run P w= .ok nx w'/\((nx= .skip/\r.v= .undef)\/ ∃v,nx= .value v/\VR im bj r.v v)/\rT im loc ax w r im bj w'
section
variable {P : Program} {im : Im} {loc : Loc} {ax : cw} {fz : List Nat} {w : World} {e : Env} {ρ : Operand -> Value}
theorem QE.pure {o:Oper} {r:mT} {v:Value} (hk:iR im loc ax w r) (hn:r.news=[]) (hw:r.wr=[]) (h:(execOp ρ o).run P w= .ok (.value v) w) (hv:VR im loc r.v v):
 QE P ρ o im loc ax w r:=⟨_,w,loc,h,.inr ⟨v,rfl,hv⟩,rT.none hk hn hw⟩
theorem HM {t:TypeId} (h:(P.underlying t matches afM .bool)=afP):P.underlying t=afM .bool:=by
 split at h
 · assumption
 cases h
theorem uR {x:Option fv} {o:Option Operand} {n:Option Nat} (nM: ∀y∈x.toList,∀o,bu y o=afP->VR im loc (y.ev e) (ρ o)) (hc:HH x o=afP)
 (h:(match (generalizing:=false) x with|none=>some none|some a=>(jy (a.ev e)).map some)=some n):zq (o.map ρ) n:=by
 cases x with
 |none=>
  cases o with
  |none=>injection h with h;subst h;trivial
  |some o=>cases hc
 |some a=>
  cases o with
  |none=>cases hc
  |some o=>simp only [Do] at h;obtain ⟨m,hm,rfl⟩:=h;exact nY (nM a (by simp) o hc) hm
theorem rX {t el:TypeId} {esz:Nat} {a:Option Addr} {len cap l h m:Nat} {vl vh vm:Option Value} (hu:P.underlying t=afM (.slice el)) (hs:nN P el esz=afP)
 (hb:(Instr.sliceBounds afP len cap vl vh vm).run P w= .ok (l,h,m) w):
 (Instr.sliceAt t (.slice a len cap) vl vh vm).run P w= .ok (.slice (if m=l then a else a.map (·.add (l*esz))) (h-l) (m-l)) w:=by
 simp only [Instr.sliceAt,EQ,run_underlying hu,AC,Instr.slice,hb,jR hs,If]
theorem OW {t el:TypeId} {esz:Nat} {x z:PV} {u:Value} {lo hi mx:Option Nat} {vl vh vm:Option Value} (hx:VR im loc x u) (hu:P.underlying t=afM (.slice el)) (hs:nN P el esz=afP)
 (h1:zq vl lo) (h2:zq vh hi) (h3:zq vm mx) (hm:mx.isSome=afP->hi.isSome=afP) (C6: ∀e c r,x= .sl e c r->r=[]\/e=esz) (ae5: ∀tk e o l c ex,x= .own tk e o l c ex->e=esz)
 (h:pO x lo hi mx=afM z): ∃v,(Instr.sliceAt t u vl vh vm).run P w= .ok v w/\VR im loc z v:=by
 unfold pO at h;cases x with
 |sl e pM rows=>
  obtain ⟨a,cap,rfl,F1,TP,kJ⟩:=hx.mZ;dsimp only at h;have sub: ∀(l h m:Nat) (Nv:Bool),l<=h->h<=afI rows->h<=m->m<=cap->(Nv=afP->m=h)->
   VR im loc (.sl e Nv ((rows.drop l).take (h-l))) (.slice (if m=l then a else a.map (·.add (l*esz))) (h-l) (m-l)):=by
   intro l h m Nv hlh hhr Y' hmc Aj;have cO:((rows.drop l).take (h-l)).length=h-l:=by simp;omega
   have:=VR.sl (im:=im) (loc:=loc) e Nv ((rows.drop l).take (h-l)) (if m=l then a else a.map (·.add (l*esz))) (m-l) (by omega) (fun hc=>by have:=Aj hc;omega) (fun dK=>by
    have dz:l<h:=by
     rcases aau l h with h'|h'
     · exact h'
     exfalso;apply dK;rw [show h-l=0 by omega];simp
    have m9:rows≠[]:=by intro e;subst e;simp at hhr;omega
    obtain ⟨b,o,rfl,cW⟩:=kJ m9;have he:e=esz:=(C6 e pM rows rfl).resolve_left m9;subst he;refine ⟨b,o+l*e,?_,(cW.drop l).take _⟩;rw [ut (by omega)];simp [pP])
   rwa [cO] at this
  cases mx with
  |none=>
   dsimp only at h;split at h
   · rename_i hc
     simp only [v6,aeg] at hc;injection h with h;subst h;have hb:=lY (P:=P) (w:=w) (len:=afI rows) (cap:=cap) h1 h2 h3 hm hc.1 (fun _=>by simp;omega) (by simp);simp only [aev] at hb;refine ⟨_,rX hu hs hb,sub _ _ cap _ hc.1 hc.2 (by omega) (IR _) (fun Aj=>?_)⟩;simp only [v6,acl] at Aj;have:=TP Aj.1;omega
   cases h
  |some m=>
   dsimp only at h;split at h
   · rename_i hc
     simp only [v6,aeg] at hc;injection h with h;subst h;have hb:=lY (P:=P) (w:=w) (len:=afI rows) (cap:=cap) h1 h2 h3 hm hc.1.1 (fun _=>hc.1.2) (by simp;omega);simp only [aaG] at hb;refine ⟨_,rX hu hs hb,sub _ _ m _ hc.1.1 (by omega) hc.1.2 (by omega) (fun Aj=>?_)⟩;simp only [acl] at Aj;exact Aj.symm
   cases h
 |own tk e off len cap ex=>
  obtain ⟨li,a,cP,rfl,hl,he,BC,cO,F1,hex,Av⟩:=hx.gF;have LC:=ae5 tk e off len cap ex rfl;subst LC;dsimp only at h;have sub: ∀(l h c m m':Nat) (ex':Bool),l<=h->h<=m->m<=cap->m<=m'->m'<=cP->(ex'=afP->m'=m)->
   VR im loc (.own tk e (off+l) (h-l) (m-l) ex') (.slice (if m'=l then a else a.map (·.add (l*e))) (h-l) (m'-l)):=by
   intro l h c m m' ex' hlh Y' hmc hmm anl ait;refine .own tk e (off+l) (h-l) (m-l) ex' li _ (m'-l) hl he (by omega) (by omega) (by omega) (fun hx=>by have:=ait hx;omega) ?_
   by_cases Ja:m'=l
   · exact .inl (by omega)
   rw [ut Ja]
   rcases Av with h0|⟨Uc,rfl,pQ⟩
   · exact .inl (by omega)
   refine .inr ⟨Uc,?_,?_⟩
   · simp only [afd,pP];congr 2;rw [WF];omega
   have:=aah e (show off+l+(m'-l)<=off+cP by omega)
   omega
  cases mx with
  |none=>
   dsimp only at h;split at h
   · rename_i hc
     simp only [v6,aeg] at hc;injection h with h;subst h;have hb:=lY (P:=P) (w:=w) (len:=len) (cap:=cP) h1 h2 h3 hm hc.1 (fun _=>by simp;omega) (by simp);simp only [aev] at hb;exact ⟨_,rX hu hs hb,sub _ _ 0 cap cP ex hc.1 hc.2 (IR _) F1 (IR _) hex⟩
   cases h
  |some m=>
   dsimp only at h;split at h
   · rename_i hc
     simp only [v6,aeg] at hc;injection h with h;subst h;have hb:=lY (P:=P) (w:=w) (len:=len) (cap:=cP) h1 h2 h3 hm hc.1.1 (fun _=>hc.1.2) (by simp;omega);simp only [aaG] at hb;exact ⟨_,rX hu hs hb,sub _ _ 0 m m afP hc.1.1 hc.1.2 hc.2 (IR _) (by omega) (fun _=>rfl)⟩
   cases h
 |_=>cases h
end
end Go.Vm
/- Two aggregates of plain cells are compared cell by cell. -/
namespace Go.Vm
theorem wY: ∀(a b c d:List PV),afI a=afI b->dj (a++c) (b++d)=match dj a b with|some afP=>dj c d|x=>x
 | [],[],c,d,_=>by simp [dj]
 |x::xs,y::ys,c,d,h=>by
  simp only [List.cons_append,dj];cases pN x y with
  |none=>rfl
  |some r=>
   cases r with
   |false=>rfl
   |true=>exact wY xs ys c d (by simpa using h)
 | [],_::_,_,_,h=>by simp at h
 |_::_,[],_,_,h=>by simp at h
section
variable {P : Program} {im : Im} {loc : Loc} {w : World}
def whole (P:Program) (t:TypeId) (us:List Value):Value:=if gE P t then .agg ⟨us⟩ else us.getD 0 Go.undef
def iy (P:Program) (d:Nat) (r:Option Nat) (f:Field):Option Nat:=
 match r with
 |some n=>if f.offset==n&&f.name != "_" then (match flat P d f.type with
  |some m=>if nN P f.type m then afM (n+m) else afN
  |none=>afN) else afN
 |none=>afN
theorem oJ {d:Nat}: ∀(fs:List Field),fs.foldl (iy P d) afN=afN
 | []=>rfl
 |f::fs=>by rw [aer];exact oJ fs
theorem HN {d:Nat} {t:TypeId} {n:Nat} (h:flat P d t=afM n) (hr:gE P t=afV):n=1:=by
 cases d with
 |zero=>cases h
 |succ d=>
  simp only [flat] at h;split at h
  · split at h
    · injection h with h;exact h.symm
    cases h
  · rename_i fs hu
    unfold gE at hr;rw [hu] at hr;cases hr
  cases h
theorem zy {d:Nat} {t:TypeId} {m k:Nat} {us:List Value} (h:flat P d t=afM m) (hs:nN P t m=afP) (hk:k+m<=afI us) (Nw:(P.underlying t).isSome=afP):
 (Go.part t ⟨us⟩ k).run P w= .ok (whole P t ((us.drop k).take m)) w:=by
 unfold whole;cases hr:gE P t with
 |true=>
  simp only [Go.part,EQ,Bz hr,AC,if_true,jR hs,If]
  congr 2
  apply ac1;simp [aeA]
 |false=>
  have h1:=HN h hr;subst h1;simp only [Go.part,EQ,BA Nw hr,AC,aax,if_false];have dz:k<(afI us):=by omega
  have:(⟨us⟩:Array Value)[k]? =afM us[k]:=by simp [dz]
  rw [this];simp [afu,dz]
theorem Gy {d:Nat} {t:TypeId} {n:Nat} (h:flat P d t=afM n):(P.underlying t).isSome=afP:=by
 cases d with
 |zero=>cases h
 |succ d=>
  simp only [flat] at h;cases hu:P.underlying t with
  |none=>rw [hu] at h;cases h
  |some _=>rfl
theorem DX {d:Nat}: ∀{fs:List Field} {k n:Nat},fs.foldl (iy P d) (afM k)=afM n->k<=n
 | [],k,n,h=>by simp at h;omega
 |f::fs,k,n,h=>by
  rw [aer] at h;cases hs:iy P d (afM k) f with
  |none=>rw [hs,oJ] at h;cases h
  |some k'=>
   rw [hs] at h;have:=DX h;unfold iy at hs;dsimp only at hs;split at hs
   · split at hs
     · split at hs
       · injection hs with hs;omega
       cases hs
     cases hs
   cases hs
theorem HO: ∀(d:Nat) (t:TypeId) (n:Nat),flat P d t=afM n-> ∀(D:Nat),d<=D-> ∀(xs ys:List PV) (us vs:List Value) (b:Bool),eI im loc xs us->eI im loc ys vs->afI xs=n->afI ys=n->
 dj xs ys=afM b->(Op.equalIn D t (whole P t us) (whole P t vs)).run P w= .ok b w
 |0,t,n,h,_,_,_,_,_,_,_,_,_,_,_,_=>by cases h
 |d+1,t,n,h,0,hD,_,_,_,_,_,_,_,_,_,_=>by omega
 |d+1,t,n,h,D+1,hD,xs,ys,us,vs,b,hx,hy,hxn,hyn,he=>by
  have Ud:gE P t=afV->n=1-> ∃x y u v,xs=[x]/\ys=[y]/\us=[u]/\vs=[v]/\VR im loc x u/\VR im loc y v/\pN x y=afM b:=by
   intro hr h1;subst h1
   match xs,us,ys,vs,hx,hy,hxn,hyn,he with
   | [x],[u],[y],[v],.cons _ _ _ _ h1 _,.cons _ _ _ _ h2 _,_,_,he=>
    refine ⟨x,y,u,v,rfl,rfl,rfl,rfl,h1,h2,?_⟩;simp only [dj] at he;cases hc:pN x y with
    |none=>rw [hc] at he;cases he
    |some r=>rw [hc] at he;cases r<;>simpa using he
  simp only [flat] at h;split at h
  · rename_i k hu
    have hr:gE P t=afV:=by unfold gE;rw [hu]
    split at h
    · injection h with h
      obtain ⟨x,y,u,v,rfl,rfl,rfl,rfl,h1,h2,h3⟩:=Ud hr h.symm;simp only [whole,hr,aax,if_false,afu,aeG,aaG];unfold pN at h3;split at h3
      · split at h3
        · rename_i hk
          have:=eU.1 hk;subst this;injection h3 with h3;subst h3;rw [h1.ga,h2.ga];exact run_equalIn_int w D t _ _ _ _ hu
        cases h3
      cases h3
    cases h
  · rename_i fs hu
    have hr:gE P t=afP:=by unfold gE;rw [hu]
    split at h
    · cases h
    rename_i bW
    have hf:P.fieldsOf t=fs:=by simp [Program.fieldsOf,hu]
    have bW:P.stoodInHeld t=afV:=by simpa using bW
    have hxl:=hx.mj;have hyl:=hy.mj;simp only [whole,hr,if_true];rw [run_equalIn_agg w D t _ _ (by rw [hf];exact hu) bW,hf];change (match fs.toList.foldl (iy P d) (afM 0) with|some n=>if nN P t n then afM n else afN|none=>afN)=afM n at h;cases Zd:fs.toList.foldl (iy P d) (afM 0) with
    |none=>rw [Zd] at h;cases h
    |some n'=>
     rw [Zd] at h;dsimp only at h;split at h
     · injection h with h
       subst h;have key: ∀(l:List Field) (k:Nat),l.foldl (iy P d) (afM k)=afM n'-> ∀(b':Bool),dj (xs.drop k) (ys.drop k)=afM b'->
        (Op.eqFields D ⟨us⟩ ⟨vs⟩ l).run P w= .ok b' w:=by
        intro l
        induction l with
        |nil=>intro k hk b' Ai;simp only [List.foldl_nil,ww] at hk;subst hk;rw [aeu (by omega),aeu (by omega)] at Ai;simp only [dj,ww] at Ai;subst Ai;simp [Op.eqFields]
        |cons f l ih=>
         intro k hk b' Ai;rw [aer] at hk;cases hs:iy P d (afM k) f with
         |none=>rw [hs,oJ] at hk;cases hk
         |some k'=>
          rw [hs] at hk;have TR:=DX hk;unfold iy at hs;dsimp only at hs;split at hs
          · rename_i hc
            simp only [v6,beq_iff_eq,bne_iff_ne,ne_eq] at hc;split at hs
            · rename_i m hm
              split at hs
              · rename_i pL
                injection hs with hs;subst hs;have Nw:=Gy hm;have e1:xs.drop k=(xs.drop k).take m++xs.drop (k+m):=by rw [<- afj,aeR]
                have e2:ys.drop k=(ys.drop k).take m++ys.drop (k+m):=by rw [<- afj,aeR]
                rw [e1,e2,wY _ _ _ _ (by simp;omega)] at Ai;have dK:f.name≠ "_" :=hc.2;simp only [Op.eqFields,EQ,dK,ne_eq,not_false_eq_true,if_true,hc.1];rw [zy (w:=w) hm pL (by omega) Nw];simp only [AC];rw [zy (w:=w) hm pL (by omega) Nw];simp only [AC];cases hq:dj ((xs.drop k).take m) ((ys.drop k).take m) with
                |none=>rw [hq] at Ai;cases Ai
                |some r=>
                 have DY:=HO d f.type m hm D (by omega) _ _ _ _ r ((hx.drop k).take m) ((hy.drop k).take m) (by simp;omega) (by simp;omega) hq;rw [DY];simp only [AC];rw [hq] at Ai;cases r with
                 |false=>simp only [ww] at Ai;subst Ai;simp
                 |true=>dsimp only at Ai;have:=ih (k+m) hk b' Ai;simpa using this
              cases hs
            cases hs
          cases hs
       exact key fs.toList 0 Zd b (by simpa using he)
     cases h
  cases h
end
end Go.Vm
/- Maps; copy and clear. -/
namespace Go.Vm
theorem VR.wZ {im:Im} {loc:Loc} {x:PV} {v:Value} (h:valOf x=afM v):VR im loc x v:=by
 cases x with
 |agg cs=>
  simp only [valOf,Do] at h;obtain ⟨vs,HP,rfl⟩:=h;refine .agg cs vs ?_
  induction cs generalizing vs with
  |nil=>simp at HP;subst HP;exact .nil
  |cons c cs ih=>rw [afk] at HP;simp only [Option.bind_eq_bind,Option.bind_eq_some_iff,Option.pure_def,ww] at HP;obtain ⟨v,hv,us,wI,rfl⟩:=HP;exact .cons _ _ _ _ (.DQ hv) (ih us wI)
 |_=>exact .DQ h
theorem Jw {im:Im} {loc:Loc} {x:PV} {v:Value} (h:VR im loc x v) (hp: ∀c∈x.cells,c.plain=afP):valOf x=afM v:=by
 cases x with
 |agg cs=>
  obtain ⟨vs,rfl,hr⟩:=h.oI;simp only [valOf,Do];refine ⟨vs,?_,rfl⟩;simp only [PV.cells] at hp;clear h
  induction cs generalizing vs with
  |nil=>cases hr;rfl
  |cons c cs ih=>
   cases hr with
   |cons _ v _ us h1 h2=>rw [afk];simp [h1.plain (hp c (by simp)),ih (fun d hd=>hp d (by simp [hd])) us h2]
 |_=>exact h.plain (hp _ (by simp [PV.cells]))
section
variable {P : Program} {im : Im} {loc : Loc} {ax : cw} {fz : List Nat} {w : World}
theorem uT: ∀{xs ys:List PV} {us vs:List Value},dj xs ys=afM afP->eI im loc xs us->eI im loc ys vs->us=vs/\ ∀u∈us,∃k n,u= .int k n
 | [],[],_,_,_,.nil,.nil=>⟨rfl,by simp⟩
 |x::xs,y::ys,_,_,h,.cons _ u _ us h1 h2,.cons _ v _ vs h3 h4=>by
  simp only [dj] at h;split at h
  · rename_i Ue
    obtain ⟨rfl,qe⟩:=uT h h2 h4;unfold pN at Ue;split at Ue
    · rename_i k a l b
      split at Ue
      · rename_i TQ
        have:=eU.1 TQ;subst this;have OX:a=b:=by simpa using Ue
        subst OX;rw [h1.ga,h3.ga];exact ⟨rfl,by
         intro u hu;rcases aeq.1 hu with rfl|hu
         · exact ⟨_,_,rfl⟩
         exact qe u hu⟩
      cases Ue
    cases Ue
  · cases h
  cases h
 | [],_::_,_,_,h,_,_=>by simp [dj] at h
 |_::_,[],_,_,h,_,_=>by simp [dj] at h
theorem yR: ∀(us:List Value) (n:Nat),(∀u∈us,∃k m,u= .int k m)->(us.zip us).all (fun (x,y)=>Instr.sameBits n x y)=afP
 | [],_,_=>rfl
 |u::us,n,h=>by obtain ⟨k,m,rfl⟩:=h u (by simp);simp only [List.zip_cons_cons,List.all_cons,v6];exact ⟨by cases n<;>simp [Instr.sameBits],yR us n fun u hu=>h u (by simp [hu])⟩
theorem jz {n:Option Nat} {x:PV} {u:Value} (h:je n x=afP) (hv:VR im loc x u):(n=afN/\ ∃k m,x= .int k m/\u= .int k m)\/(∃m cs us,n=afM m/\x= .agg cs/\afI cs=m/\u= .agg ⟨us⟩/\eI im loc cs us):=by
 unfold je at h;split at h
 · exact .inl ⟨rfl,_,_,rfl,hv.ga⟩
 · rename_i m cs
   obtain ⟨us,rfl,hr⟩:=hv.oI;exact .inr ⟨m,cs,us,rfl,rfl,by simpa using h,rfl,hr⟩
 cases h
theorem QF {n:Option Nat} {x y:PV} {u v:Value} (hx:je n x=afP) (hy:je n y=afP) (h:dj x.cells y.cells=afM afP) (hu:VR im loc x u) (hv:VR im loc y v):
 u=v/\Instr.sameBits 10000 u u=afP:=by
 rcases jz hx hu with ⟨rfl,k,m,rfl,rfl⟩|⟨m,cs,us,rfl,rfl,_,rfl,hr⟩
 · rcases jz hy hv with ⟨_,l,m',rfl,rfl⟩|⟨_,_,_,h',_⟩
   · obtain ⟨h1,_⟩:=uT (im:=im) (loc:=loc) h (.cons _ _ _ _ (.int k m) .nil) (.cons _ _ _ _ (.int l m') .nil)
     injection h1 with h1;exact ⟨h1,by simp [Instr.sameBits]⟩
   cases h'
 rcases jz hy hv with ⟨h',_⟩|⟨_,ds,vs,_,rfl,_,rfl,hs⟩
 · cases h'
 obtain ⟨rfl,h2⟩:=uT h hr hs
 refine ⟨rfl,?_⟩;simp only [Instr.sameBits,beq_self_eq_true,afr];exact yR us 9999 h2
theorem fy.get: ∀{es:List (PV×PV)} {kx:List MapEntry},fy es kx-> ∀{i:Nat} {p:PV×PV},es[i]? =afM p-> ∃e,kx[i]? =afM e/\valOf p.1=afM e.key/\valOf p.2=afM e.val
 |(k,v)::r,e::r',h,0,p,hp=>by simp at hp;subst hp;exact ⟨e,rfl,h.1,h.2.1⟩
 |(k,v)::r,e::r',h,i+1,p,hp=>by obtain ⟨e',h1,h2⟩:=fy.get h.2.2 (i:=i) (p:=p) (by simpa using hp);exact ⟨e',by simpa using h1,h2⟩
 | [],[],h,i,p,hp=>by simp at hp
 | [],_::_,h,_,_,_=>by simp [fy] at h
 |_::_,[],h,_,_,_=>by simp [fy] at h
theorem Jx {q:IntKind} {k:PV} {u:Value} (hu:VR im loc k u) (hk:je afN k=afP): ∀{es:List (PV×PV)} {kx:List MapEntry} {i:Nat} {r:Option Nat},fy es kx->fj afN k es i=afM r->
 ∃r',Instr.findNow (.int q) u kx i=afM r'/\match r with|none=>r'=afN|some j=>i<=j/\ ∃p e,es[j-i]? =afM p/\kx[j-i]? =afM e/\r'=afM (j,e.val)/\je afN p.1=afP/\dj k.cells p.1.cells=afM afP
 | [],[],i,r,_,h=>by simp only [fj,ww] at h;subst h;exact ⟨afN,rfl,rfl⟩
 |(a,v)::es,e::kx,i,r,hm,h=>by
  simp only [fj] at h;split at h
  case isFalse=>cases h
  rename_i hka;obtain ⟨h1,h2,h3⟩:=hm;obtain ⟨_,kk,kn,rfl,rfl⟩:_/\ ∃kk kn,k= .int kk kn/\u= .int kk kn:=by
   rcases jz hk hu with ⟨_,kk,kn,e1,e2⟩|⟨_,_,_,e1,_⟩
   · exact ⟨trivial,kk,kn,e1,e2⟩
   cases e1
  obtain ⟨ak,an,rfl,hae⟩: ∃ak an,a= .int ak an/\e.key= .int ak an:=by
   rcases jz (im:=im) (loc:=loc) hka (VR.wZ h1) with ⟨_,kk,kn,e1,e2⟩|⟨_,_,_,e1,_⟩
   · exact ⟨kk,kn,e1,e2⟩
   cases e1
  simp only [PV.cells,dj,pN] at h;cases tQ:fk kk ak with
  |false=>rw [tQ] at h;simp at h
  |true=>
   have:=eU.1 tQ;subst this;rw [tQ] at h;simp only [if_true] at h;simp only [Instr.findNow,hae,Instr.sameNow,if_true];cases hb:(kn==an) with
   |true=>rw [hb] at h;simp only [ww] at h;subst h;refine ⟨_,rfl,IR _,(.int kk an,v),e,by simp,by simp,rfl,hka,?_⟩;simp [PV.cells,dj,pN,tQ,hb]
   |false=>
    rw [hb] at h;simp only at h;obtain ⟨r',g1,g2⟩:=Jx (q:=q) (k:= .int kk kn) (.int kk kn) hk h3 h;refine ⟨r',g1,?_⟩;cases r with
    |none=>exact g2
    |some j=>
     obtain ⟨q1,p,e',q2,q3,q4,q5,q6⟩:=g2;refine ⟨by omega,p,e',?_,?_,q4,q5,q6⟩
     · rw [show j-i=(j- (i+1))+1 by omega];simpa using q2
     rw [show j-i=(j- (i+1))+1 by omega];simpa using q3
 | [],_::_,i,r,hm,h=>by simp [fy] at hm
 |_::_,[],i,r,hm,h=>by simp [fy] at hm
theorem Jy {n:Nat} {kt:TypeId} (tP:gE P kt=afP) (QB:flat P 100 kt=afM n) {k:PV} {u:Value} (hu:VR im loc k u) (hk:je (afM n) k=afP): ∀{es:List (PV×PV)} {kx:List MapEntry} {i:Nat} {r:Option Nat},fy es kx->fj (afM n) k es i=afM r->
 ∃r',(Instr.findAsking kt u kx i).run P w= .ok r' w/\match r with|none=>r'=afN|some j=>i<=j/\ ∃p e,es[j-i]? =afM p/\kx[j-i]? =afM e/\r'=afM (j,e.val)/\je (afM n) p.1=afP/\dj k.cells p.1.cells=afM afP
 | [],[],i,r,_,h=>by simp only [fj,ww] at h;subst h;exact ⟨afN,rfl,rfl⟩
 |(a,v)::es,e::kx,i,r,hm,h=>by
  simp only [fj] at h;split at h
  case isFalse=>cases h
  rename_i hka;obtain ⟨h1,h2,h3⟩:=hm;have hva:VR im loc a e.key:=VR.wZ h1;have heq: ∀b,dj k.cells a.cells=afM b->(Op.equal kt u e.key).run P w= .ok b w:=by
   intro b hb;rcases jz hk hu with ⟨h',_⟩|⟨m,cs,us,h',rfl,hl,rfl,hr⟩
   · cases h'
   injection h' with h';subst h'
   rcases jz hka hva with ⟨h',_⟩|⟨m,ds,vs,h',rfl,lL,he,hs⟩
   · cases h'
   injection h' with h';subst h'
   rw [he];have:=HO (P:=P) (w:=w) 100 kt n QB Op.maxDepth (by decide) cs ds us vs b hr hs hl lL hb;simp only [whole,tP,if_true] at this;exact this
  cases hb:dj k.cells a.cells with
  |none=>rw [hb] at h;cases h
  |some b=>
   rw [hb] at h;have bT:=heq b hb;cases b with
   |true=>simp only [ww] at h;subst h;refine ⟨afM (i,e.val),by simp [Instr.findAsking,bT],IR _,(a,v),e,by simp,by simp,rfl,hka,hb⟩
   |false=>
    simp only at h;obtain ⟨r',g1,g2⟩:=Jy tP QB hu hk h3 h;refine ⟨r',by simp [Instr.findAsking,bT,g1],?_⟩;cases r with
    |none=>exact g2
    |some j=>
     obtain ⟨q1,p,e',q2,q3,q4,q5,q6⟩:=g2;refine ⟨by omega,p,e',?_,?_,q4,q5,q6⟩
     · rw [show j-i=(j- (i+1))+1 by omega];simpa using q2
     rw [show j-i=(j- (i+1))+1 by omega];simpa using q3
 | [],_::_,i,r,hm,h=>by simp [fy] at hm
 |_::_,[],i,r,hm,h=>by simp [fy] at hm
theorem DZ: ∀(d:Nat) (t:TypeId) (n:Nat),flat P d t=afM n-> ∀(D:Nat),d<=D-> ∀(em:Bool) (xs:List PV) (us:List Value),eI im loc xs us->afI us=n->
 (Instr.checkKey em D t (whole P t us)).run P w= .ok () w
 |0,t,n,h,_,_,_,_,_,_,_=>by cases h
 |d+1,t,n,h,0,hD,_,_,_,_,_=>by omega
 |d+1,t,n,h,D+1,hD,em,xs,us,hx,hun=>by
  simp only [flat] at h;split at h
  · rename_i k hu
    have hr:gE P t=afV:=by unfold gE;rw [hu]
    split at h
    · injection h with h;subst h
      match us,xs,hx,hun with
      | [u],[x],.cons _ _ _ _ h1 _,_=>simp only [whole,hr,aax,if_false,afu,aeG,aaG,Instr.checkKey,EQ,run_underlying hu,AC];cases u<;>simp
    cases h
  · rename_i fs hu
    have hr:gE P t=afP:=by unfold gE;rw [hu]
    split at h
    · cases h
    change (match fs.toList.foldl (iy P d) (afM 0) with|some n=>if nN P t n then afM n else afN|none=>afN)=afM n at h
    cases Zd:fs.toList.foldl (iy P d) (afM 0) with
    |none=>rw [Zd] at h;cases h
    |some n'=>
     rw [Zd] at h;dsimp only at h;split at h
     · injection h with h;subst h
       simp only [whole,hr,if_true,Instr.checkKey,EQ,run_underlying hu,AC];rw [<- Array.forIn_toList];have hk: ∃k,fs.toList.foldl (iy P d) (afM k)=afM n':=⟨0,Zd⟩;clear Zd;obtain ⟨k,hk⟩:=hk;generalize fs.toList=L at hk
       induction L generalizing k with
       |nil=>simp
       |cons f l ih=>
        rw [aer] at hk;cases hs:iy P d (afM k) f with
        |none=>rw [hs,oJ] at hk;cases hk
        |some k'=>
         rw [hs] at hk;have TR:=DX hk;unfold iy at hs;dsimp only at hs;split at hs
         · rename_i hc
           simp only [v6,beq_iff_eq,bne_iff_ne,ne_eq] at hc;split at hs
           · rename_i m hm
             split at hs
             · rename_i pL
               injection hs with hs;subst hs;have p1:=zy (w:=w) (us:=us) hm pL (k:=k) (by omega) (Gy hm);have p2:=DZ d f.type m hm D (by omega) em ((xs.drop k).take m) ((us.drop k).take m) ((hx.drop k).take m) (by simp;omega);simp only [List.forIn_cons,EQ,hc.2,ne_eq,not_false_eq_true,if_true,hc.1,p1,p2,AC,If];exact ih _ hk
             cases hs
           cases hs
         cases hs
     cases h
  cases h
theorem OY {kt:TypeId} {q:IntKind} (hq:P.underlying kt=afM (.int q)) (em:Bool) (n:Nat) (k:IntKind) (m:Int):(Instr.checkKey em (n+1) kt (.int k m)).run P w= .ok () w:=by simp [Instr.checkKey,run_underlying hq]
theorem uU {r:Nat} {es:Array MapEntry} {clock:Nat} (hb:w.heap[r]? =afM (.map es clock)):(getObj r).run P w= .ok (.map es clock) w:=by simp [getObj,Sem.run,hb]
theorem D0 {r:Nat} {es:Array MapEntry} {clock:Nat} (o:Obj) (hb:w.heap[r]? =afM (.map es clock)):(setObj r o).run P w= .ok () {w with heap:=w.heap.setIfInBounds r o}:=by simp [setObj,Sem.run,hb]
theorem Jz {kt:TypeId} {d:TypeDesc} {k:Value} {l:List MapEntry} {a:Option (Nat×Value)} (hd:P.underlying kt=afM d) (h:Instr.findNow d k l 0=afM a):(Instr.findKey kt k l).run P w= .ok a w:=by simp [Instr.findKey,run_underlying hd,h]
theorem CH {kt:TypeId} {n:Option Nat} (h:wQ P kt n=afP) {k:PV} {u:Value} (hu:VR im loc k u) (hk:je n k=afP) (em:Bool):(Instr.checkKey em 10000 kt u).run P w= .ok () w:=by
 rcases jz hk hu with ⟨rfl,kk,m,rfl,rfl⟩|⟨m,cs,us,rfl,rfl,hl,rfl,hr⟩
 · simp only [wQ] at h
   split at h
   · rename_i q hq
     exact OY hq em 9999 kk m
   cases h
 simp only [wQ,v6,beq_iff_eq] at h
 have:=DZ (P:=P) (w:=w) 100 kt m h.2 10000 (by decide) em cs us hr (by rw [<- hr.mj];exact hl);simp only [whole,h.1,if_true] at this;exact this
theorem D1 {kt:TypeId} {n:Option Nat} (h:wQ P kt n=afP) {k:PV} {u:Value} (hu:VR im loc k u) (hk:je n k=afP) {es:List (PV×PV)} {kx:List MapEntry} {r:Option Nat} (hm:fy es kx) (hf:fj n k es 0=afM r):
 ∃r',(Instr.findKey kt u kx).run P w= .ok r' w/\match r with|none=>r'=afN|some j=> ∃p e,es[j]? =afM p/\kx[j]? =afM e/\r'=afM (j,e.val)/\je n p.1=afP/\dj k.cells p.1.cells=afM afP:=by
 cases n with
 |none=>
  simp only [wQ] at h;split at h
  · rename_i q hq
    obtain ⟨r',h1,h2⟩:=Jx (q:=q) hu hk hm hf;refine ⟨r',Jz hq h1,?_⟩;cases r with
    |none=>exact h2
    |some j=>exact h2.2
  cases h
 |some m=>
  simp only [wQ,v6,beq_iff_eq] at h;obtain ⟨r',h1,h2⟩:=Jy (P:=P) (w:=w) h.1 h.2 hu hk hm hf;refine ⟨r',?_,?_⟩
  · rw [run_findKey_eq w ?_ u kx]
    · exact h1
    have:=h.1
    unfold gE at this
    revert this
    cases P.underlying kt with
    |none=>exact id
    |some d=>cases d<;>exact id
  cases r with
  |none=>exact h2
  |some j=>exact h2.2
theorem VR.QG {t:Nat} {v:Value} (h:VR im loc (.mp t) v): ∃li,loc t=afM li/\v= .map (afM li.c6):=by cases h with|mp _ li h=>exact ⟨li,h,rfl⟩
theorem LN {t kt et:TypeId} {n:Option Nat} {zero m k:PV} {ok:Bool} {um uk:Value} {r:mT} (ht:P.underlying t=afM (.map kt et)) (Z3:wQ P kt n=afP)
 (hz: ∃i z,P.info? et=afM i/\i.zero=afM z/\VR im loc zero z) (hm:VR im loc m um) (hk:VR im loc k uk)
 (h:rR ax n zero ok m k=afM r) (hkn:iR im loc ax w r):
 ∃v,(Instr.lookup t um uk ok).run P w= .ok v w/\VR im loc r.v v/\r.news=[]/\r.wr=[]:=by
 unfold rR at h;cases m with
 |mp tk=>
  dsimp only at h;obtain ⟨li,hl,rfl⟩:=hm.QG;cases hs:ax[tk]? with
  |none=>rw [hs] at h;cases h
  |some b=>
   rw [hs] at h;cases b with
   |map es=>
    dsimp only at h;split at h
    case isFalse=>cases h
    rename_i OZ;cases hf:fj n k es 0 with
    |none=>rw [hf] at h;cases h
    |some q=>
     rw [hf] at h;have F3:tk∈r.rd:=by
      revert h
      cases q with
      |none=>intro h;simp only [ww] at h;subst h;simp
      |some j=>
       dsimp only;cases es[j]? with
       |none=>intro h;cases h
       |some p=>intro h;simp only [ww] at h;subst h;simp
     obtain ⟨b',JA,qH⟩:=hkn.tok tk (.inl F3) li hl;rw [hs] at JA;injection JA with JA;subst JA;obtain ⟨kx,clock,hw,hrel⟩:=qH;obtain ⟨r',qG,F7⟩:=D1 (P:=P) (w:=w) Z3 hk OZ hrel hf;have TP:=CH (P:=P) (w:=w) Z3 hk OZ (kx.isEmpty);obtain ⟨i,z,hi,hiz,hvz⟩:=hz;have Lu:(zeroValue et).run P w= .ok z w:=by simp [zeroValue,typeInfo,hi,hiz]
     cases q with
     |none=>
      dsimp only at h F7;subst F7;injection h with h;subst h;refine ⟨if ok then .tuple #[z,.bool afV] else z,?_,?_,rfl,rfl⟩
      · simp only [Instr.lookup,EQ,run_underlying ht,AC,uU hw,If,TP,qG,Lu]
      cases ok with
      |true=>exact .cy _ _ (.cons _ _ _ _ hvz (.cons _ _ _ _ (.bool afV) .nil))
      |false=>exact hvz
     |some j=>
      dsimp only at h F7;obtain ⟨p,e,h1,h2,rfl,h4,h5⟩:=F7;rw [h1] at h;simp only [ww] at h;subst h;obtain ⟨e',Bq,Lv,hv2⟩:=fy.get hrel h1;rw [h2] at Bq;injection Bq with Bq;subst Bq;refine ⟨if ok then .tuple #[e.val,.bool afP] else e.val,?_,?_,rfl,rfl⟩
      · simp only [Instr.lookup,EQ,run_underlying ht,AC,uU hw,If,TP,qG]
      cases ok with
      |true=>exact .cy _ _ (.cons _ _ _ _ (.wZ hv2) (.cons _ _ _ _ (.bool afP) .nil))
      |false=>exact .wZ hv2
   |_=>cases h
 |_=>cases h
theorem fy.snoc: ∀{es:List (PV×PV)} {kx:List MapEntry} {p:PV×PV} {e:MapEntry},fy es kx->valOf p.1=afM e.key->valOf p.2=afM e.val->fy (es++[p]) (kx++[e])
 | [],[],p,e,_,h1,h2=>⟨h1,h2,trivial⟩
 |(k,v)::r,e::r',p,e',h,h1,h2=>⟨h.1,h.2.1,fy.snoc h.2.2 h1 h2⟩
 | [],_::_,_,_,h,_,_=>by simp [fy] at h
 |_::_,[],_,_,h,_,_=>by simp [fy] at h
theorem fy.set: ∀{es:List (PV×PV)} {kx:List MapEntry} {i:Nat} {p:PV×PV} {f:MapEntry->MapEntry},fy es kx->(∀e,valOf p.1=afM (f e).key/\valOf p.2=afM (f e).val)->fy (es.set i p) (kx.modify i f)
 | [],[],i,p,f,h,_=>by simp [fy]
 |(k,v)::r,e::r',0,p,f,h,h1=>⟨(h1 e).1,(h1 e).2,h.2.2⟩
 |(k,v)::r,e::r',i+1,p,f,h,h1=>by simp only [List.set_cons_succ,List.modify_succ_cons];exact ⟨h.1,h.2.1,fy.set h.2.2 h1⟩
 | [],_::_,_,_,_,h,_=>by simp [fy] at h
 |_::_,[],_,_,_,h,_=>by simp [fy] at h
theorem JB {t kt et:TypeId} {n:Option Nat} {m k x:PV} {um uk ux:Value} {r:mT} (ht:P.underlying t=afM (.map kt et)) (Z3:wQ P kt n=afP)
 (hm:VR im loc m um) (hk:VR im loc k uk) (hx:VR im loc x ux)
 (h:CC ax fz n m k x=afM r) (hkn:iR im loc ax w r):
 ∃w',(Instr.mapUpdate t um uk ux).run P w= .ok () w'/\rT im loc ax w r im loc w'/\r.v= .undef:=by
 unfold CC at h;cases m with
 |mp tk=>
  dsimp only at h;obtain ⟨li,hl,rfl⟩:=hm.QG;cases hs:ax[tk]? with
  |none=>rw [hs] at h;cases h
  |some b=>
   rw [hs] at h;cases b with
   |map es=>
    dsimp only at h;split at h
    case isFalse=>cases h
    rename_i OZ;simp only [v6,aaS] at OZ;obtain ⟨OZ,hnf⟩:=OZ;cases hkp:k.cz with
    |none=>rw [hkp] at h;cases h
    |some kc=>
     cases hxp:x.cz with
     |none=>rw [hkp,hxp] at h;cases h
     |some xc=>
      rw [hkp,hxp] at h;dsimp only at h;obtain ⟨_,aiw⟩:=ma hkp;obtain ⟨_,aix⟩:=ma hxp;have vk:=Jw hk aiw;have vx:=Jw hx aix;cases hf:fj n k es 0 with
      |none=>rw [hf] at h;cases h
      |some q=>
       rw [hf] at h;have Z4: ∃bb,r={v:= .undef,wr:=[(tk,bb)]}:=by
        revert h
        cases q with
        |none=>intro h;simp only [ww] at h;exact ⟨_,h.symm⟩
        |some j=>intro h;simp only [ww] at h;exact ⟨_,h.symm⟩
       obtain ⟨bb,hr⟩:=Z4;obtain ⟨b',JA,qH⟩:=hkn.tok tk (.inr ⟨bb,by rw [hr];simp⟩) li hl;rw [hs] at JA;injection JA with JA;subst JA;obtain ⟨kx,clock,hw,hrel⟩:=qH;obtain ⟨r',qG,F7⟩:=D1 (P:=P) (w:=w) Z3 hk OZ hrel hf;have TP:=CH (P:=P) (w:=w) Z3 hk OZ afV;have dz:=(NE.1 hw).1;cases q with
       |none=>
        dsimp only at h F7;subst F7;injection h with h;refine ⟨{w with heap:=w.heap.setIfInBounds li.c6 (.map (kx.push {key:=uk,val:=ux,born:=clock}) (clock+1))},?_,rT.write hkn (t:=tk) (k0:= .map es) (o:= .map (kx.push {key:=uk,val:=ux,born:=clock}) (clock+1)) (li:=li) (by rw [<- h]) (by rw [<- h]) hl hs rfl rfl rfl rfl rfl ?_,by rw [<- h]⟩
        · simp only [Instr.mapUpdate,EQ,run_underlying ht,AC,uU hw,TP,qG]
          exact D0 _ hw
        refine ⟨kx.push {key:=uk,val:=ux,born:=clock},clock+1,by simp [dz],?_⟩
        rw [Array.toList_push];exact hrel.snoc vk vx
       |some j=>
        dsimp only at h F7;obtain ⟨p,e,h1,h2,rfl,h4,h5⟩:=F7;injection h with h;obtain ⟨e',Bq,Lv,hv2⟩:=fy.get hrel h1;rw [h2] at Bq;injection Bq with Bq;subst Bq;obtain ⟨QH,ae9⟩:=QF (im:=im) (loc:=loc) OZ h4 h5 hk (.wZ Lv);have ae':((kx[j]?).map (·.key)).getD uk=uk:=by
         have:kx[j]? =afM e:=by simpa using h2
         rw [this];exact QH.symm
        refine ⟨{w with heap:=w.heap.setIfInBounds li.c6 (.map (kx.modify j fun e=>{e with key:=uk,val:=ux}) clock)},?_,rT.write hkn (t:=tk) (k0:= .map es) (o:= .map (kx.modify j fun e=>{e with key:=uk,val:=ux}) clock) (li:=li) (by rw [<- h]) (by rw [<- h]) hl hs rfl rfl rfl rfl rfl ?_,by rw [<- h]⟩
        · simp only [Instr.mapUpdate,EQ,run_underlying ht,AC,uU hw,TP,qG,ae',Instr.keyThatStays,ae9,if_true,If]
          exact D0 _ hw
        refine ⟨kx.modify j fun e=>{e with key:=uk,val:=ux},clock,by simp [dz],?_⟩
        rw [Array.toList_modify];exact hrel.set fun e=>⟨vk,vx⟩
   |_=>cases h
 |_=>cases h
theorem LO {esz:Nat} {y:PV} {u:Value} {new:List Row} (hy:VR im loc y u) (hr:rowsOf ax esz y=afM new) (n:Nat) (hn:n<=afI new)
 (bB: ∀b o,im b=afM o->w.heap[b]? =afM o) (tok: ∀t,t∈iv y-> ∀li,loc t=afM li-> ∃k,ax[t]? =afM k/\BR im loc w li k):
 (Builtin.lenOf u).run P w= .ok (afI new) w/\(Builtin.firstCells esz n u).run P w= .ok ((new.take n).flatMap aU).toArray w/\(∀r∈new,afI r=esz)/\(∀r∈new,∀c∈r,c.plain=afP):=by
 have QJ: ∀(a:Option Addr) (l c:Nat),(Builtin.firstCells esz 0 (.slice a l c)).run P w= .ok #[] w:=by
  intro a l c;cases a with
  |none=>simp [Builtin.firstCells]
  |some a=>have:=run_loadCells_list (P:=P) w a [] (by simp);simpa [Builtin.firstCells] using this
 have get: ∀(rows:List Row) (b o l c:Nat) (g:Nat->Option Value),bK g o esz rows->(∀k v,g k=afM v->w.cell? ⟨b,k,afN⟩=afM v)->n<=afI rows->
  (Builtin.firstCells esz n (.slice (afM ⟨b,o,afN⟩) l c)).run P w= .ok ((rows.take n).flatMap aU).toArray w:=by
  intro rows b o l c g cW hg F5;have h1:=cW.take n;have QB:=dv h1.m7;have:=run_loadCells_list (P:=P) w ⟨b,o,afN⟩ ((rows.take n).flatMap aU) (fun j v hj=>by rw [pP];exact hg _ _ (h1.flat j v hj));simp only [Builtin.firstCells];rw [show n*esz=((rows.take n).flatMap aU).length by rw [QB,aeH,afe F5]];exact this
 unfold rowsOf at hr;cases y with
 |sl e pM rows=>
  obtain ⟨a,cap,rfl,_,_,kJ⟩:=hy.mZ;cases rows with
  |nil=>
   simp at hr;subst hr;have:n=0:=by simpa using hn
   subst this;exact ⟨rfl,by simpa using QJ a 0 cap,by simp,by simp⟩
  |cons r rs=>
   dsimp only at hr;split at hr
   · rename_i he
     have he:e=esz:=by simpa using he
     subst he;injection hr with hr;subst hr;obtain ⟨b,o,rfl,cW⟩:=kJ (by simp);exact ⟨rfl,get (r::rs) b o _ cap _ cW (fun k v hk=>ph bB hk) hn,cW.m7,cW.plain⟩
   cases hr
 |own t e off len cap ex=>
  dsimp only at hr;split at hr
  · rename_i he
    have he:e=esz:=by simpa using he
    subst he;obtain ⟨li,a,cP,rfl,hl,h2,h3,h4,h5,h6,h7⟩:=hy.gF;obtain ⟨k,gC,hb⟩:=tok t (by simp [iv]) li hl;rw [gC] at hr;cases k with
    |arr e' rows=>
     simp only [ww] at hr;subst hr;obtain ⟨b1,b2,b3⟩:=hb;have cO:((rows.drop off).take len).length=len:=by simp;omega
     have LC:e'=e:=by rw [<- b1,h2]
     subst LC;rw [cO] at hn ⊢;cases rows with
     |nil=>
      have:len=0:=by simp at b2;omega
      subst this;have:n=0:=by omega
      subst this;exact ⟨rfl,by simpa using QJ a 0 cP,by simp,by simp⟩
     |cons r rs=>
      obtain ⟨arr,el,rV,HK,I8,cW⟩:=b3 (by simp);have uQ:=(cW.drop off).take len;refine ⟨rfl,?_,uQ.m7,uQ.plain⟩;rcases aeZ n with h0|h0
      · subst h0;simpa using QJ a len cP
      rcases h7 with h7|⟨h7,rfl,h9⟩
      · omega
      exact get _ li.c6 (li.sh+off*e') len cP _ uQ (fun k v hk=>j8 rV hk) (by rw [cO];exact hn)
    |_=>cases hr
  cases hr
 |_=>cases hr
theorem JC {esz:Nat} {t off len cap:Nat} {ex:Bool} {u:Value} {rows new:List Row} {r:mT} {d:List Nat} {v:PV} (hx:VR im loc (.own t esz off len cap ex) u) (hs:ax[t]? =afM (.arr esz rows)) (hn:new≠[]) (hl:(afI new)<=len)
 (Jr: ∀r∈new,afI r=esz) (Uf: ∀r∈new,∀c∈r,c.plain=afP) (hr:r={v:=v,wr:=[(t,.arr esz (kz off new rows))],rd:=d}) (hk:iR im loc ax w r):
 ∃b o c w',u= .slice (afM ⟨b,o,afN⟩) len c/\(storeCells ⟨b,o,afN⟩ (new.flatMap aU)).run P w= .ok () w'/\rT im loc ax w r im loc w':=by
 obtain ⟨li,a,cP,rfl,lL,he,BC,F1,hex,hxk,Av⟩:=hx.gF;obtain ⟨k,gC,hb⟩:=hk.tok t (.inr ⟨_,by rw [hr];simp;rfl⟩) li lL;rw [hs] at gC;injection gC with gC;subst gC;obtain ⟨b1,b2,b3⟩:=hb;have F5:0<(afI new):=List.length_pos_iff.2 hn;have m9:rows≠[]:=by intro e;subst e;simp at b2;omega
 obtain ⟨arr,el,rV,HK,I8,cW⟩:=b3 m9;rcases Av with h0|⟨_,rfl,pQ⟩
 · omega
 have F6:=dv Jr
 have F2:=aah esz (show off+afI new<=(afI rows) by omega);rw [WF] at F2;have DU:li.sh+off*esz+(new.flatMap aU).length<=arr.size:=by rw [F6];omega
 have bT:=run_storeCells_at P li.c6 (li.sh+off*esz) el (new.flatMap aU) 0 arr w rV (by simpa using DU) (m8 Uf);refine ⟨li.c6,li.sh+off*esz,cP,_,rfl,bT,?_⟩;refine rT.write hk (t:=t) (k0:= .arr esz rows) (li:=li) (by rw [hr]) (by rw [hr]) lL hs (by cases rows with|nil=>exact absurd rfl m9|cons _ _=>rfl) (bO rV) rfl rfl rfl ?_;rw [wV _ _ _ (by omega)];refine ⟨b1,by rw [cQ _ _ _ (by omega)];exact b2,fun _=>⟨(arr.toList.take (li.sh+off*esz+0)++new.flatMap aU++arr.toList.drop (li.sh+off*esz+0+(new.flatMap aU).length)).toArray,el,?_,?_,?_,?_⟩⟩
 · rw [bO rV]
   have dz:=(NE.1 rV).1;simp [dz]
 · rw [<- HK]
   have:=cQ (li.sh+off*esz) (new.flatMap aU) arr.toList (by simpa using DU);simp only [lZ] at this;simpa using this
 · rw [cQ _ _ _ (by omega)];exact I8
 refine cW.lZ (by omega) Jr Uf (fun k=>?_)
 have:=gG (li.sh+off*esz) (new.flatMap aU) arr.toList (by simpa using DU) k;simp only [lZ] at this;simp only [acZ,afv];rw [this,F6];simp
end
end Go.Vm
/- Operation by operation: the theorem. -/
namespace Go.Vm
section
variable {P : Program} {im : Im} {loc : Loc} {ax : cw} {fz : List Nat} {w : World} {e : Env} {ρ : Operand -> Value}
theorem QK {esz:Nat} {x:PV} (h:tK esz x=afP):(∀e c r,x= .sl e c r->r=[]\/e=esz)/\(∀tk e o l c ex,x= .own tk e o l c ex->e=esz):=by
 constructor
 · rintro e c r rfl
   simp only [tK,aeQ,acl,afa] at h;exact h.symm
 rintro tk e o l c ex rfl
 simpa [tK] using h
theorem eB {x:Sem Value} {v:Value} (h:x.run P w= .ok v w):(do pure (Next.value (<- x)):Sem Next).run P w= .ok (.value v) w:=by simp only [EQ,h,AC,If]
theorem JD {x y:fv} {l:List Operand} (h:eJ [x,y] l=afP): ∃a b,l=[a,b]/\bu x a=afP/\bu y b=afP:=by
 match l,h with
 | [],h=>simp [eJ] at h
 | [_],h=>simp [eJ] at h
 | [a,b],h=>simp only [eJ,v6,aft] at h;exact ⟨a,b,rfl,h.1,h.2⟩
 |_::_::_::_,h=>simp [eJ] at h
theorem JE {x:fv} {l:List Operand} (h:eJ [x] l=afP): ∃a,l=[a]/\bu x a=afP:=by
 match l,h with
 | [],h=>simp [eJ] at h
 | [a],h=>simp only [eJ,aft] at h;exact ⟨a,rfl,h⟩
 |_::_::_,h=>simp [eJ] at h
theorem QL {prims:FuncId->Bool} {x:kv} {o:Oper} {r:mT} (hc:wa P prims o.type x o.op=afP) (nM: ∀y∈x.fa,∀o',bu y o'=afP->VR im loc (y.ev e) (ρ o'))
 (h:bA e ax fz x=afM r) (hk:iR im loc ax w r):QE P ρ o im loc ax w r:=by
 unfold wa at hc;split at hc
 case h_1 x o' fo=>injection h with h;subst h;exact .pure hk rfl rfl (by simp [execOp,fo]) (nM x (by simp [kv.fa]) o' hc)
 case h_2 x o' fo=>injection h with h;subst h;exact .pure hk rfl rfl (by simp [execOp,fo]) (nM x (by simp [kv.fa]) o' hc)
 case h_3 c a b d e' f fo=>
  simp only [v6] at hc;have h1:=nM c (by simp [kv.fa]) d hc.1.1;simp only [bA] at h;split at h
  · rename_i hb;rw [hb] at h1;have h1:=h1.jg
    injection h with h;subst h;exact .pure hk rfl rfl (by simp [execOp,fo,h1,asBool]) (nM a (by simp [kv.fa]) _ hc.1.2)
  · rename_i hb;rw [hb] at h1;have h1:=h1.jg
    injection h with h;subst h;exact .pure hk rfl rfl (by simp [execOp,fo,h1,asBool]) (nM b (by simp [kv.fa]) _ hc.2)
  cases h
 case h_4 op x y op' t a b u fo=>simp only [v6,beq_iff_eq] at hc;obtain ⟨⟨rfl,h1⟩,h2⟩:=hc;simp only [bA,Do] at h;obtain ⟨z,hz,rfl⟩:=h;obtain ⟨v,bT,hv⟩:=T9 (P:=P) (w:=w) (t:=t) (a:=a) (b:=b) (nM x (by simp [kv.fa]) a h1) (nM y (by simp [kv.fa]) b h2) hz;exact .pure hk rfl rfl (by simp only [execOp,fo];exact eB bT) hv
 case h_5 neg x y op t a b u fo=>
  simp only [v6] at hc;obtain ⟨⟨⟨h0,ht⟩,h1⟩,h2⟩:=hc;have hx:=nM x (by simp [kv.fa]) a h1;have hy:=nM y (by simp [kv.fa]) b h2;simp only [bA] at h;split at h
  · rename_i p q hp hq
    rw [hp] at hx;rw [hq] at hy;injection h with h;subst h;have ho:op=if neg then .neq else .eql:=by cases neg<;>simpa using h0
    refine .pure (v:= .bool (if neg then !(p==q) else p==q)) hk rfl rfl ?_ (.bool _);simp only [execOp,fo,hx.jg,hy.jg];exact eB (Qw ho (HM ht))
  cases h
 case h_6 n neg x y op t a b u fo=>
  simp only [v6,aaS,beq_iff_eq] at hc;obtain ⟨⟨⟨⟨⟨h0,hr⟩,hn⟩,hg⟩,h1⟩,h2⟩:=hc;have hx:=nM x (by simp [kv.fa]) a h1;have hy:=nM y (by simp [kv.fa]) b h2;simp only [bA] at h;split at h
  · rename_i p q hp hq
    rw [hp] at hx;rw [hq] at hy;obtain ⟨us,hu1,hu2⟩:=hx.oI;obtain ⟨vs,Lv,hv2⟩:=hy.oI;split at h
    case isFalse=>cases h
    rename_i cO;simp only [v6,acl] at cO;rw [Do] at h;obtain ⟨c,LD,rfl⟩:=h;have ho:op=if neg then .neq else .eql:=by cases neg<;>simpa using h0
    have hq2:=HO (P:=P) (w:=w) 100 t n hn 10000 (by omega) p q us vs c hu2 hv2 cO.1 cO.2 LD;simp only [whole,hr,if_true] at hq2;refine .pure (v:= .bool (if neg then !c else c)) hk rfl rfl ?_ (.bool _);simp only [execOp,fo,hu1,Lv];refine eB ?_;simp only [EQ,run_eqGuard_agg w op t a b ⟨us⟩ ⟨vs⟩ hg,AC];cases neg with
    |true=>simp only [if_true] at ho ⊢;subst ho;rw [run_neq_struct,hq2];rfl
    |false=>simp only [aax,if_false] at ho ⊢;subst ho;rw [run_eql_struct,hq2];rfl
  cases h
 case h_7 op x op' t a fo=>simp only [v6,beq_iff_eq] at hc;obtain ⟨rfl,h1⟩:=hc;simp only [bA,Do] at h;obtain ⟨z,hz,rfl⟩:=h;obtain ⟨v,bT,hv⟩:=Z0 (P:=P) (w:=w) (nM x (by simp [kv.fa]) a h1) hz;exact .pure hk rfl rfl (by simp only [execOp,fo];exact eB bT) hv
 case h_8 k x s d a fo=>
  simp only [v6] at hc;obtain ⟨⟨hs,hd⟩,h1⟩:=hc;have hx:=nM x (by simp [kv.fa]) a h1;obtain ⟨ds,Ug⟩:=adc.1 hs;simp only [bA] at h;split at h
  · rename_i k' n hp
    rw [hp] at hx;injection h with h;subst h;split at hd
    · rename_i l hl
      have:=eU.1 hd;subst this;refine .pure hk rfl rfl ?_ (.int _ _);simp only [execOp,fo,hx.ga];exact eB (Qx Ug hl)
    cases hd
  cases h
 case h_9 x args argTypes fo=>
  simp only [v6] at hc;obtain ⟨ht,h1⟩:=hc;obtain ⟨a,ha,h1a⟩:=JE h1;have kA:args= #[a]:=ac1 (by simpa using ha);subst kA;have hx:=nM x (by simp [kv.fa]) a h1a;split at ht
  · rename_i t ht0
    unfold qE at ht;split at ht
    · rename_i el hu
      have bT: ∀{v:Value},(Builtin.len_ argTypes o.type #[ρ a]).run P w= .ok v w->(execOp ρ o).run P w= .ok (.value v) w:=by intro v hv;simp only [execOp,fo,resolve,EQ,If,AC,invoke,builtin];rw [show aes ρ #[a]= #[ρ a] by simp,hv];rfl
      simp only [bA] at h;split at h
      · rename_i e' c rows hp
        rw [hp] at hx;obtain ⟨ad,cap,hv,_⟩:=hx.mZ;injection h with h;subst h;exact .pure hk rfl rfl (bT (by simp [Builtin.len_,ht0,run_underlying hu,hv,goInt])) (.int _ _)
      · rename_i tk e' off len cap ex hp
        rw [hp] at hx;obtain ⟨li,ad,cP,hv,_⟩:=hx.gF;injection h with h;subst h;exact .pure hk rfl rfl (bT (by simp [Builtin.len_,ht0,run_underlying hu,hv,goInt])) (.int _ _)
      cases h
    cases ht
  cases ht
 case h_10 n args argTypes fo=>
  simp only [v6] at hc;obtain ⟨h0,ht⟩:=hc;have dK:args.size≠0:=by intro hz;have:args= #[]:=Array.eq_empty_of_size_eq_zero hz;subst this;simp at h0
  have ha0:(aes ρ args)[0]? =afM (ρ args[0]):=by simp [show 0<args.size by omega]
  simp only [bA,ww] at h;subst h;have bT: ∀{v:Value},(Builtin.len_ argTypes o.type (aes ρ args)).run P w= .ok v w->(execOp ρ o).run P w= .ok (.value v) w:=by intro v hv;simp only [execOp,fo,resolve,EQ,If,AC,invoke,builtin,hv]
  refine .pure hk rfl rfl (bT ?_) (.int _ _);split at ht
  · rename_i t ht0
    split at ht
    · rename_i m el hu
      have hm:m=n:=by simpa using ht
      subst hm;simp only [Builtin.len_,ht0,ha0,EQ,run_underlying hu,AC,goInt];cases ρ args[0]<;>rfl
    · rename_i el hu
      split at ht
      · rename_i m el2 hu2
        have hm:m=n:=by simpa using ht
        subst hm;simp only [Builtin.len_,ht0,ha0,EQ,run_underlying hu,AC,goInt];cases ρ args[0]<;>simp [run_underlying hu2]
      cases ht
    cases ht
  cases ht
 case h_11 x el a fo=>
  have hx:=nM x (by simp [kv.fa]) a hc;simp only [bA] at h;cases bW:(x.ev e).stored with
  |none=>rw [bW] at h;cases h
  |some cs=>rw [bW] at h;injection h with h;obtain ⟨rfl,As⟩:=zt bW;obtain ⟨bj,hv,he⟩:=DR (el:=el) (hx.cells As) h.symm hk;refine ⟨_,_,bj,?_,.inr ⟨_,rfl,hv⟩,he⟩;simp [execOp,fo,Instr.box,newVar,newRow]
 case h_12 cells t fo=>
  simp only [bA,ww] at h;unfold sP at hc;cases hi:P.info? t with
  |none=>rw [hi] at hc;cases hc
  |some i=>
   rw [hi] at hc;cases hz:i.zero with
   |none=>simp [hz] at hc
   |some z=>simp [hz] at hc;obtain ⟨bj,hv,he⟩:=DR (el:=t) (wR (im:=im) (loc:=loc) hc) h.symm hk;refine ⟨_,_,bj,?_,.inr ⟨_,rfl,hv⟩,he⟩;simp [execOp,fo,Instr.alloc,newVar,newRow,zeroValue,typeInfo,hi,hz]
 case h_13 zero parts t ps fo=>simp only [v6] at hc;obtain ⟨⟨⟨hz,_⟩,hp⟩,mR⟩:=hc;simp only [bA,Do] at h;obtain ⟨cs,lO,rfl⟩:=h;have hrel:=Az (im:=im) (loc:=loc) (e:=e) (ρ:=ρ) (fun y hy=>nM y (by simpa [kv.fa] using hy)) hp;obtain ⟨v,bT,hv⟩:=OV (P:=P) (w:=w) (qs:=ps.map fun (i,x)=>(i,ρ x)) hz mR (by simpa using hrel) lO;exact .pure hk rfl rfl (by simp only [execOp,fo];exact eB bT) hv
 case h_14 esz n zero parts t m ps fo=>
  simp only [v6,beq_iff_eq] at hc;obtain ⟨⟨⟨⟨rfl,mR⟩,kI⟩,LG⟩,hp⟩:=hc;split at mR
  · rename_i el hu
    simp only [v6,beq_iff_eq,aaS] at mR;obtain ⟨⟨⟨hs,hz⟩,hzl⟩,hnz⟩:=mR;simp only [bA,Do] at h;obtain ⟨rows,kJ,h⟩:=h;obtain ⟨i,z,hi,HL,cO,JF⟩:=DW hz LG;have C6:z.cells.size=esz:=by omega
    have cW:=BG JF cO n;rw [C6] at cW
    obtain ⟨Lt,h1,h2,h3,h4⟩:=Ay (n:=n) (esz:=esz) (wc (im:=im) (loc:=loc) (e:=e) (ρ:=ρ) (fun y hy=>nM y (by simpa [kv.fa] using hy)) hp) cW (by simp) (by simp) kJ;obtain ⟨bj,hv,he⟩:=CG (el:=el) h.symm hk h2 h3 h4 rfl (IR _);refine ⟨_,_,bj,?_,.inr ⟨_,rfl,hv⟩,he⟩;have Lu:(zeroValue el).run P w= .ok z w:=by simp [zeroValue,typeInfo,hi,HL]
    have kI:n*esz<=1048576:=by simpa using kI
    have aiz: ¬(n*esz>2^24):=by omega
    simp only [execOp,fo,Instr.buildSlice,EQ,run_underlying hu,AC,jR hs,aiz,if_false]
    by_cases h0:n*esz=0
    · have Uc:n=0:=by
       rcases afg.1 h0 with h|h
       · exact h
       rw [h] at hnz;simp at hnz
      subst Uc;simp only [afw] at h1;simp only [afw,if_true,EQ,If,AC,aeI];have e0:(aes (fun x=>(#[]:Array Value)[x%(#[]:Array Value).size]!) (aeC 0))=(aes (fun x=>z.cells[x%esz]!) (aeC 0)):=by simp
      rw [e0,h1];simp [newRow]
    simp only [h0,if_false,EQ,Lu,AC,If]
    simp only [C6,aeI,h1];simp [newRow]
  cases mR
 case h_15 agg p t a fo=>simp only [v6] at hc;have hx:=nM p (by simp [kv.fa]) a hc.2;simp only [bA] at h;obtain ⟨v,bT,hv,hn,hw⟩:=Jp (P:=P) hx hc.1 h hk;exact .pure hk hn hw (by simp only [execOp,fo];exact eB bT) hv
 case h_16 sz p v t a b fo=>simp only [v6] at hc;simp only [bA] at h;obtain ⟨w',bT,wC,hu⟩:=OS (P:=P) (nM p (by simp [kv.fa]) a hc.1.2) (nM v (by simp [kv.fa]) b hc.2) hc.1.1 h hk;exact ⟨.skip,w',loc,by simp only [execOp,fo,EQ,bT,AC,If],.inl ⟨rfl,hu⟩,wC⟩
 case h_17 x a fo=>
  have hx:=nM x (by simp [kv.fa]) a hc;simp only [bA] at h;split at h
  · rename_i t s r' o' hp
    rw [hp] at hx;injection h with h;subst h;obtain ⟨li,h1,h2,h3,hv⟩:=hx.ya;exact .pure hk rfl rfl (by simp only [execOp,fo,hv];rfl) (by rw [<- hv];exact hx)
  · rename_i c o' hp
    rw [hp] at hx;injection h with h;subst h;obtain ⟨b,o2,vs,h1,h2,hv⟩:=hx.wT;exact .pure hk rfl rfl (by simp only [execOp,fo,hv];rfl) (by rw [<- hv];exact hx)
  · rename_i f a' b' hp
    rw [hp] at hx;injection h with h;subst h;generalize hg:ρ a=g at hx;cases hx with
    |ez fn a b as bs ha hb=>exact .pure hk rfl rfl (by simp only [execOp,fo,hg];rfl) (.ez _ _ _ _ _ ha hb)
  cases h
 case h_18 off p t a f fo=>
  simp only [v6] at hc;obtain ⟨hc,h1⟩:=hc;have hx:=nM p (by simp [kv.fa]) a h1;split at hc
  · rename_i fs hu
    split at hc
    · rename_i g hg
      simp only [v6,beq_iff_eq] at hc;obtain ⟨BC,hi⟩:=hc;cases Z5:P.info? g.type with
      |none=>rw [Z5] at hi;cases hi
      |some i=>
       rw [Z5] at hi;have hz:i.size≠0:=by simpa using hi
       simp only [bA] at h;have: ∃z,(match p.ev e with| .ptr t s r o=>afM (PV.ptr t s r (o+off))| .bD c o=>afM (PV.bD c (o+off))|_=>afN)=afM z/\r={v:=z}:=by
        revert h
        cases p.ev e<;>intro h<;>first|(injection h with h;exact ⟨_,rfl,h.symm⟩)|cases h
       obtain ⟨z,hz',rfl⟩:=this;obtain ⟨v,bT,hv⟩:=Qz (P:=P) (w:=w) hx hu hg BC Z5 hz hz';exact .pure hk rfl rfl (by simp only [execOp,fo];exact eB bT) hv
    cases hc
  cases hc
 case h_19 agg off x t a f fo=>
  simp only [v6] at hc;obtain ⟨hc,h1⟩:=hc;have hx:=nM x (by simp [kv.fa]) a h1;split at hc
  · rename_i fs hu
    split at hc
    · rename_i g hg
      simp only [v6,beq_iff_eq] at hc;obtain ⟨BC,hag⟩:=hc;simp only [bA] at h;split at h
      · rename_i cs hp
        rw [hp] at hx;obtain ⟨vs,hv,nO⟩:=hx.oI;rw [Do] at h;obtain ⟨z,hz,rfl⟩:=h;rw [<- BC] at hz;obtain ⟨v,bT,LF⟩:=Jo (P:=P) (w:=w) hag nO hz;refine .pure hk rfl rfl ?_ LF;simp only [execOp,fo];exact eB (by simp only [Instr.field,EQ,run_underlying hu,AC,hg,hv,asAgg,If,bT])
      cases h
    cases hc
  cases hc
 case h_20 esz x i t a j fo=>
  simp only [v6] at hc;obtain ⟨⟨hs,h1⟩,h2⟩:=hc;have hx:=nM x (by simp [kv.fa]) a h1;have hi:=nM i (by simp [kv.fa]) j h2;simp only [bA] at h;cases hn:jy (i.ev e) with
  |none=>rw [hn] at h;cases h
  |some n=>
   rw [hn] at h;dsimp only at h;obtain ⟨k,Br⟩:=nY hi hn;unfold x6 at hs;split at hs
   · rename_i el hu
     have: ∃z,(match x.ev e with
      | .sl s _ rows=>match rows[n]? with
       |some cs=>if M2 s esz then afM (PV.bD cs 0) else afN
       |none=>afN
      | .own t s off len _ _=>if aet n len&&M2 s esz then afM (PV.ptr t s (off+n) 0) else afN
      |_=>afN)=afM z/\r={v:=z}:=by
      revert h
      cases x.ev e with
      |sl s c rows=>
       dsimp only;cases rows[n]? with
       |none=>intro h;cases h
       |some cs=>
        dsimp only;split
        · intro h;injection h with h;exact ⟨_,rfl,h.symm⟩
        intro h;cases h
      |own t s off len cap ex=>
       dsimp only;split
       · intro h;injection h with h;exact ⟨_,rfl,h.symm⟩
       intro h;cases h
      |_=>intro h;cases h
     obtain ⟨z,hz,rfl⟩:=this;obtain ⟨v,bT,hv⟩:=QA (P:=P) (w:=w) (k:=k) hx hu hs hz;exact .pure hk rfl rfl (by simp only [execOp,fo,Br];exact eB bT) hv
   cases hs
 case h_21 n esz p i t a j fo=>
  simp only [v6] at hc;obtain ⟨⟨hs,h1⟩,h2⟩:=hc;have hx:=nM p (by simp [kv.fa]) a h1;have hi:=nM i (by simp [kv.fa]) j h2;simp only [bA] at h;cases hn:jy (i.ev e) with
  |none=>rw [hn] at h;cases h
  |some m=>
   rw [hn] at h;dsimp only at h;split at h
   · rename_i dz
     have dz:m<n:=by simpa using dz
     obtain ⟨k,Br⟩:=nY hi hn;unfold Nr at hs;split at hs
     · rename_i m' el hu
       simp only [v6,beq_iff_eq] at hs;obtain ⟨rfl,hs⟩:=hs;have: ∃z,(match p.ev e with| .ptr t s r o=>afM (PV.ptr t s r (o+m*esz))| .bD c o=>afM (PV.bD c (o+m*esz))|_=>afN)=afM z/\r={v:=z}:=by
        revert h
        cases p.ev e<;>intro h<;>first|(injection h with h;exact ⟨_,rfl,h.symm⟩)|cases h
       obtain ⟨z,hz,rfl⟩:=this;obtain ⟨v,bT,hv⟩:=OQ (P:=P) (w:=w) (k:=k) hx hu hs dz hz;exact .pure hk rfl rfl (by simp only [execOp,fo,Br];exact eB bT) hv
     cases hs
   cases h
 case h_22 n esz agg x i t a j fo=>
  simp only [v6] at hc;obtain ⟨⟨hs,h1⟩,h2⟩:=hc;have hx:=nM x (by simp [kv.fa]) a h1;have hi:=nM i (by simp [kv.fa]) j h2;simp only [bA] at h;cases hn:jy (i.ev e) with
  |none=>rw [hn] at h;cases h
  |some m=>
   rw [hn] at h;dsimp only at h;split at h
   · rename_i dz
     have dz:m<n:=by simpa using dz
     obtain ⟨k,Br⟩:=nY hi hn;split at hs
     · rename_i m' el hu
       simp only [v6,beq_iff_eq] at hs;obtain ⟨⟨rfl,hs⟩,hag⟩:=hs;split at h
       · rename_i cs hp
         rw [hp] at hx;obtain ⟨vs,hv,nO⟩:=hx.oI;rw [Do] at h;obtain ⟨z,hz,rfl⟩:=h;obtain ⟨v,bT,LF⟩:=Jo (P:=P) (w:=w) hag nO hz;refine .pure hk rfl rfl ?_ LF;have aiB:(0:Int)<=(m:Int)/\(m:Int)<(m':Int):=by omega
         simp only [execOp,fo];exact eB (by simp only [Instr.index,Br,asIntOf,EQ,If,run_underlying hu,AC,hv,aiB,and_self,if_true,jR hs,aeD,bT])
       cases h
     cases hs
   cases h
 case h_23 x i t a j fo=>
  simp only [v6] at hc;obtain ⟨⟨hs,h1⟩,h2⟩:=hc;have hx:=nM x (by simp [kv.fa]) a h1;have hi:=nM i (by simp [kv.fa]) j h2;have hu:P.underlying t=afM .string:=by
   split at hs
   · assumption
   cases hs
  simp only [bA] at h;split at h
  · rename_i n s hn hp
    rw [hp] at hx;obtain ⟨k,Br⟩:=nY hi hn;split at h
    · rename_i b hb
      injection h with h;subst h;refine .pure hk rfl rfl ?_ (.int _ _);have h0:(0:Int)<=(n:Int):=by omega
      simp only [execOp,fo];exact eB (by simp only [Instr.index,Br,asIntOf,EQ,If,run_underlying hu,AC,hx.Dq,h0,if_true,aeD,hb])
    cases h
  cases h
 case h_24 esz x l hh m t a b c d fo=>
  simp only [v6] at hc;obtain ⟨⟨⟨⟨⟨h0,hs⟩,h1⟩,h2⟩,h3⟩,h4⟩:=hc;have hx:=nM x (by simp [kv.fa]) a h1;simp only [bA] at h;split at h
  · cases h
  rename_i he
  have he:tK esz (x.ev e)=afP:=by simpa using he
  obtain ⟨Qo,wb⟩:=QK he;split at h
  · rename_i lo hi mx O0 hhi hmx
    rw [Do] at h;obtain ⟨z,hz,rfl⟩:=h;unfold x6 at hs;split at hs
    · rename_i el hu
      have b1:=uR (im:=im) (loc:=loc) (e:=e) (ρ:=ρ) (fun y hy=>nM y (by simp only [kv.fa,aeq,ad2];exact .inr (.inl (.inl hy)))) h2 O0;have b2:=uR (im:=im) (loc:=loc) (e:=e) (ρ:=ρ) (fun y hy=>nM y (by simp only [kv.fa,aeq,ad2];exact .inr (.inl (.inr hy)))) h3 hhi;have b3:=uR (im:=im) (loc:=loc) (e:=e) (ρ:=ρ) (fun y hy=>nM y (by simp only [kv.fa,aeq,ad2];exact .inr (.inr hy))) h4 hmx;have LQ:mx.isSome=afP->hi.isSome=afP:=by
       intro hmm;cases m with
       |none=>simp at hmx;subst hmx;cases hmm
       |some mo=>
        cases hh with
        |none=>simp at h0
        |some ho=>simp only [Do] at hhi;obtain ⟨q,_,rfl⟩:=hhi;rfl
      obtain ⟨v,bT,hv⟩:=OW (P:=P) (w:=w) hx hu hs b1 b2 b3 LQ Qo wb hz;exact .pure hk rfl rfl (by simp only [execOp,fo];exact eB bT) hv
    cases hs
  cases h
 case h_25 esz zero l c t a b fo=>
  simp only [v6] at hc;obtain ⟨⟨⟨mR,LG⟩,h1⟩,h2⟩:=hc;have hx:=nM l (by simp [kv.fa]) a h1;have hy:=nM c (by simp [kv.fa]) b h2;split at mR
  · rename_i el hu
    simp only [v6,beq_iff_eq,aaS] at mR;obtain ⟨⟨⟨⟨hs,hz⟩,hzl⟩,LK⟩,hnz⟩:=mR;simp only [bA] at h;split at h
    · rename_i n m hn hm
      obtain ⟨k1,gC⟩:=nY hx hn;obtain ⟨k2,Br⟩:=nY hy hm;split at h
      · rename_i kI
        simp only [v6,aeg] at kI;injection h with h;obtain ⟨i,z,hi,HL,cO,JF⟩:=DW hz LG;have C6:z.cells.size=esz:=by omega
        have cW:=BG JF cO m;rw [C6] at cW
        have gX:m<=1048576:=by simpa [eA] using kI.2
        obtain ⟨bj,hv,he⟩:=CG (el:=el) h.symm hk cW (by simp) (by simp) rfl kI.1;refine ⟨_,_,bj,?_,.inr ⟨_,rfl,hv⟩,he⟩;have Lu:(zeroValue el).run P w= .ok z w:=by simp [zeroValue,typeInfo,hi,HL]
        have hti:(typeInfo el).run P w= .ok i w:=by simp [typeInfo,hi]
        have Qp:i.bytes<=1048576:=by unfold Dn at LK;rw [hi] at LK;simpa using LK
        have hw1:IntKind.i64.wrap (n:Int)=n:=Dp (by omega) (by omega);have hw2:IntKind.i64.wrap (m:Int)=m:=Dp (by omega) (by omega);have al5:i.bytes*m<=1099511627776:=by have:=afi Qp gX;omega
        have CF: ¬((i.bytes:Int)*(m:Int)>2^48):=by
         have:((i.bytes*m:Nat):Int)=(i.bytes:Int)*(m:Int):=by simp
         omega
        have LR:(sizeOf el).run P w= .ok esz w:=jR hs;simp only [execOp,fo,gC,Br,Instr.makeSlice,asInt,asIntOf,EQ,run_underlying hu,AC,If,hti,hw1,hw2];have Nx:((agd ((m:Int)<0)||agd ((i.bytes:Int)*(m:Int)>2^48))||agd ((n:Int)<0)||agd ((n:Int)>(m:Int)))=afV:=by simp only [Bool.or_eq_false_iff,decide_eq_false_iff_not];refine ⟨⟨⟨by omega,CF⟩,by omega⟩,by omega⟩
        rw [Nx];simp only [aax,if_false,EQ,run_askRoom,AC,LR,aeD]
        by_cases h0:m*esz=0
        · have hm0:m=0:=by
           rcases afg.1 h0 with h|h
           · exact h
           rw [h] at hnz;simp at hnz
          subst hm0;simp [newRow]
          congr 2
          apply Array.ext<;>simp
        simp only [h0,if_false,EQ,Lu,AC,If,C6]
        simp [newRow]
      cases h
    cases h
  cases mR
 case h_26 fn a b g c d fo=>
  simp only [v6,beq_iff_eq] at hc;obtain ⟨⟨rfl,h1⟩,h2⟩:=hc;simp only [bA,ww] at h;subst h;have r1:=mD (im:=im) (loc:=loc) (e:=e) (ρ:=ρ) (fun y hy=>nM y (by simp [kv.fa,hy])) h1;have r2:=mD (im:=im) (loc:=loc) (e:=e) (ρ:=ρ) (fun y hy=>nM y (by simp [kv.fa,hy])) h2;refine .pure (v:= .func (.func fn) (c.map ρ) (d.map ρ)) hk rfl rfl (by simp only [execOp,fo];exact eB rfl) ?_;have:=VR.ez (im:=im) (loc:=loc) fn _ _ _ _ r1 r2;have e1:(⟨c.toList.map ρ⟩:Array Value)=c.map ρ:=ac1 (by simp);have e2:(⟨d.toList.map ρ⟩:Array Value)=d.map ρ:=ac1 (by simp);rw [e1,e2] at this;exact this
 case h_27 t fo=>
  simp only [bA,ww] at h
  let li:LI:=⟨w.heap.size,0,0,0,0⟩
  refine ⟨.value (.map (afM w.heap.size)),{w with heap:=w.heap.push (.map #[] 0)},loc.set (afI ax) li,?_,.inr ⟨_,rfl,?_⟩,?_⟩
  · simp [execOp,fo,Instr.makeMap]
  · subst h;exact .mp (afI ax) li (Loc.eC _ _ _)
  refine rT.new hk (k:= .map []) (o:= .map #[] 0) li (by rw [<- h]) (by rw [<- h]) rfl rfl rfl rfl rfl ⟨#[],0,by simp [li],trivial⟩
 case h_28 i x a j fo=>
  simp only [v6,beq_iff_eq] at hc;obtain ⟨rfl,h1⟩:=hc;have hx:=nM x (by simp [kv.fa]) a h1;simp only [bA] at h;split at h
  · rename_i vs hp
    rw [hp] at hx;obtain ⟨us,hv,nO⟩:=hx.Ar;rw [Do] at h;obtain ⟨z,hz,rfl⟩:=h;obtain ⟨u,hu,hur⟩:=nO.get i z hz;have Bs:(⟨us⟩:Array Value)[i]? =afM u:=by simpa using hu
    exact .pure hk rfl rfl (by simp only [execOp,fo];exact eB (by simp [Instr.extract,hv,Bs])) hur
  cases h
 case h_29 esz x y args argTypes fo=>
  simp only [v6] at hc;obtain ⟨mR,h1⟩:=hc;obtain ⟨a,b,OX,h1a,h1b⟩:=JD h1;have kA:args= #[a,b]:=ac1 (by simpa using OX);subst kA;have hx:=nM x (by simp [kv.fa]) a h1a;have hy:=nM y (by simp [kv.fa]) b h1b;split at mR
  · rename_i t tx cW
    have D2:argTypes= #[t,tx]:=ac1 (by simpa using cW);subst D2;simp only [v6] at mR;obtain ⟨mR,TS⟩:=mR;unfold qE at TS;split at TS
    · rename_i e' Zc
      split at mR
      · rename_i el hu
        simp only [v6] at mR;obtain ⟨⟨⟨hs,LK⟩,hnz⟩,hz⟩:=mR;cases hi:P.info? el with
        |none=>rw [hi] at hz;cases hz
        |some i=>
         rw [hi] at hz;cases HL:i.zero with
         |none=>simp [HL] at hz
         |some z=>
          have Ju:z.cells.size=esz:=by rw [afh,HL,afh] at hz;simpa using hz
          have pL:i.size=esz:=by unfold nN at hs;rw [hi] at hs;simpa using hs
          have Qp:i.bytes<=1048576:=by unfold Dn at LK;rw [hi] at LK;simpa using LK
          simp only [bA] at h;obtain ⟨v',w',bj,bT,hv,wC⟩:=DT (P:=P) (ty:=o.type) hu Zc hi pL HL Ju Qp hx hy h hk;refine ⟨.value v',w',bj,?_,.inr ⟨v',rfl,hv⟩,wC⟩;simp only [execOp,fo,resolve,EQ,If,AC,invoke,builtin];rw [show aes ρ #[a,b]= #[ρ a,ρ b] by simp,bT];rfl
      cases mR
    cases TS
  cases mR
 case h_30 n zero ok m k t a b ok' fo=>
  simp only [v6,beq_iff_eq] at hc;obtain ⟨⟨⟨rfl,mR⟩,h1⟩,h2⟩:=hc;have hm:=nM m (by simp [kv.fa]) a h1;have tQ:=nM k (by simp [kv.fa]) b h2;split at mR
  · rename_i kt et ht
    simp only [v6] at mR;obtain ⟨Z3,hz⟩:=mR;have hz': ∃i z,P.info? et=afM i/\i.zero=afM z/\VR im loc zero z:=by
     cases hi:P.info? et with
     |none=>rw [hi] at hz;cases hz
     |some i=>
      cases HL:i.zero with
      |none=>rw [hi] at hz;simp [HL] at hz
      |some z=>rw [hi] at hz;simp [HL] at hz;exact ⟨i,z,rfl,HL,HJ hz⟩
    simp only [bA] at h;obtain ⟨v,bT,hv,hn,hw⟩:=LN (P:=P) ht Z3 hz' hm tQ h hk;exact .pure hk hn hw (by simp only [execOp,fo];exact eB bT) hv
  cases mR
 case h_31 n m k v t a b c fo=>
  simp only [v6] at hc;obtain ⟨⟨⟨mR,h1⟩,h2⟩,h3⟩:=hc;split at mR
  · rename_i kt et ht
    simp only [bA] at h;obtain ⟨w',bT,wC,hu⟩:=JB (P:=P) ht mR (nM m (by simp [kv.fa]) a h1) (nM k (by simp [kv.fa]) b h2) (nM v (by simp [kv.fa]) c h3) h hk;exact ⟨.skip,w',loc,by simp only [execOp,fo,EQ,bT,AC,If],.inl ⟨rfl,hu⟩,wC⟩
  cases mR
 case h_32 esz x y args argTypes fo=>
  simp only [v6] at hc;obtain ⟨mR,h1⟩:=hc;obtain ⟨a,b,OX,h1a,h1b⟩:=JD h1;have kA:args= #[a,b]:=ac1 (by simpa using OX);subst kA;have hx:=nM x (by simp [kv.fa]) a h1a;have hy:=nM y (by simp [kv.fa]) b h1b;split at mR
  · rename_i t tx cW
    have D2:argTypes= #[t,tx]:=ac1 (by simpa using cW);subst D2;simp only [v6] at mR;obtain ⟨TS,_⟩:=mR;unfold x6 at TS;split at TS
    · rename_i el hu
      have O1: ∀{v:Value} {w':World},(Builtin.copy_ #[t,tx] o.type #[ρ a,ρ b]).run P w= .ok v w'->(execOp ρ o).run P w= .ok (.value v) w':=by intro v w' hv;simp only [execOp,fo,resolve,EQ,If,AC,invoke,builtin];rw [show aes ρ #[a,b]= #[ρ a,ρ b] by simp,hv];rfl
      simp only [bA] at h;split at h
      · rename_i src tk s off len cap ex Ak TU
        rw [TU] at hx;have Z6:Nat.min (afI src) len=min (afI src) len:=rfl;have F3:r.rd=iv (y.ev e):=by
         split at h
         · injection h with h;rw [<- h]
         split at h
         · split at h
           · injection h with h;rw [<- h]
           cases h
         cases h
        obtain ⟨g1,g2,g3,g4⟩:=LO (P:=P) (w:=w) hy Ak (min (afI src) len) (Nat.min_le_left _ _) hk.bB (fun t ht=>hk.tok t (.inl (by rw [F3];exact ht)));have BH:(src.take (min (afI src) len))=src.take len:=by
         rcases Nat.le_total (afI src) len with h'|h'
         · rw [afe h',aeN (IR _),aeN h']
         rw [Nat.min_eq_right h']
        rw [BH] at g2;have LR:(sizeOf el).run P w= .ok esz w:=jR TS;split at h
        · rename_i F8
          injection h with h;subst h;rw [F8] at g2;have h0:min (afI src) len=0:=by have:=congrArg afz F8;simp only [aeH,aeP] at this;omega
          obtain ⟨li,ad,cP,hv,_⟩:=hx.gF;refine .pure (v:= .int .i64 0) hk rfl rfl (O1 ?_) (.int _ _);have Ze:(Builtin.firstCells esz 0 (ρ b)).run P w= .ok #[] w:=by rw [h0] at g2;simpa using g2
          simp only [Builtin.copy_,hv];cases ad with
          |none=>simp [run_underlying hu,g1,Z6,h0,LR,Ze,goInt]
          |some ad=>simp [run_underlying hu,g1,Z6,h0,LR,Ze,goInt,storeCells]
        rename_i r1 rs QM
        split at h
        · rename_i s' rows bW
          split at h
          · rename_i LD
            simp only [v6,acl,aaS] at LD;obtain ⟨rfl,hnf⟩:=LD;injection h with h;have T':s'=s:=by obtain ⟨li,ad,cP,hv,hl,he,_⟩:=hx.gF;obtain ⟨k,gC,hb⟩:=hk.tok tk (.inr ⟨_,by rw [<- h];simp;rfl⟩) li hl;rw [bW] at gC;injection gC with gC;subst gC;rw [<- hb.1,he]
            subst T';have uQ: ∀q,q∈r1::rs->q∈src:=fun q hq=>by rw [<- QM] at hq;exact List.mem_of_mem_take hq
            have Zf:min (afI src) len=afI rs+1:=by have:=congrArg afz QM;simp only [aeH,ae7] at this;omega
            rw [QM] at g2;obtain ⟨b',o',c',w',hv,bT,wC⟩:=JC (P:=P) (new:=r1::rs) hx bW (by simp) (by simp;omega) (fun q hq=>g3 q (uQ q hq)) (fun q hq=>g4 q (uQ q hq)) h.symm hk;refine ⟨.value (.int .i64 (Int.ofNat (afI rs+1))),w',loc,O1 ?_,.inr ⟨_,rfl,by rw [<- h];exact .int _ _⟩,wC⟩;rw [Zf] at g2;simp only [Builtin.copy_,hv];simp [run_underlying hu,g1,Z6,Zf,LR,g2,goInt,-ad8];rw [bT];rfl
          cases h
        cases h
      cases h
    cases TS
  cases mR
 case h_33 esz zero x args argTypes fo=>
  simp only [v6] at hc;obtain ⟨mR,h1⟩:=hc;obtain ⟨a,ha,h1a⟩:=JE h1;have kA:args= #[a]:=ac1 (by simpa using ha);subst kA;have hx:=nM x (by simp [kv.fa]) a h1a;split at mR
  · rename_i t cW
    have D2:argTypes= #[t]:=ac1 (by simpa using cW);subst D2;split at mR
    · rename_i el hu
      simp only [v6,beq_iff_eq] at mR;obtain ⟨⟨⟨hs,hz⟩,hzl⟩,LG⟩:=mR;have O1: ∀{v:Value} {w':World},(Builtin.clear_ #[t] o.type #[ρ a]).run P w= .ok v w'->(execOp ρ o).run P w= .ok (.value v) w':=by intro v w' hv;simp only [execOp,fo,resolve,EQ,If,AC,invoke,builtin];rw [show aes ρ #[a]= #[ρ a] by simp,hv];rfl
      simp only [bA] at h;split at h
      · rename_i tk s off len cap ex TU
        rw [TU] at hx;split at h
        · injection h with h;subst h
          obtain ⟨li,ad,cP,hv,_⟩:=hx.gF;refine .pure (v:= .tuple #[]) hk rfl rfl (O1 ?_) (.undef _);simp only [Builtin.clear_,hv];cases ad<;>simp [run_underlying hu]
        rename_i len
        split at h
        · rename_i s' rows bW
          split at h
          · rename_i LD
            simp only [v6,acl,aaS] at LD;obtain ⟨rfl,hnf⟩:=LD;injection h with h;have T':s'=s:=by obtain ⟨li,ad,cP,hv,hl,he,_⟩:=hx.gF;obtain ⟨k,gC,hb⟩:=hk.tok tk (.inr ⟨_,by rw [<- h];simp;rfl⟩) li hl;rw [bW] at gC;injection gC with gC;subst gC;rw [<- hb.1,he]
            subst T';obtain ⟨i,z,hi,HL,cO,JF⟩:=DW hz LG;have Jr: ∀q∈ac2 (len+1) zero,afI q=s':=fun q hq=>by rw [(af5.1 hq).2];exact hzl
            have Uf: ∀q∈ac2 (len+1) zero,∀c∈q,c.plain=afP:=fun q hq c hc=>by rw [(af5.1 hq).2] at hc;exact afc.1 LG c hc
            obtain ⟨b',o',c',w',hv,bT,wC⟩:=JC (P:=P) (new:=ac2 (len+1) zero) hx bW (by simp) (by simp) Jr Uf h.symm hk;refine ⟨.value (.tuple #[]),w',loc,O1 ?_,.inr ⟨_,rfl,by rw [<- h];exact .undef _⟩,wC⟩;have Lu:(zeroValue el).run P w= .ok z w:=by simp [zeroValue,typeInfo,hi,HL]
            have hzc:(Builtin.zeroCells z.cells (len+1)).toList=(ac2 (len+1) zero).flatMap aU:=by
             have cW:=BG JF cO (len+1);have QB:=dv Jr;have pL:=wW z.cells (len+1);apply aeB;intro j;rcases aau j ((ac2 (len+1) zero).flatMap aU).length with hj|hj
             · have hfj:=cW.flat j _ (UV hj)
               rw [UV hj,<- hfj];simp only [Builtin.zeroCells,aeM,Array.getElem?_toList]
             rw [PP hj,PP]
             simp only [ae6,pL];rw [QB] at hj;simp only [List.length_replicate] at hj;rw [<- cO,hzl];exact hj
            simp only [Builtin.clear_,hv];simp [run_underlying hu,Lu,hzc,-ad8];rw [bT];rfl
          cases h
        cases h
      · rename_i e1 c1 TU
        rw [TU] at hx;injection h with h;subst h;obtain ⟨ad,cP,hv,_⟩:=hx.mZ;refine .pure (v:= .tuple #[]) hk rfl rfl (O1 ?_) (.undef _);simp only [Builtin.clear_,hv];cases ad<;>simp [run_underlying hu]
      cases h
    cases mR
  cases mR
 case h_34 isMax x xs b args TV fo=>
  simp only [v6] at hc;obtain ⟨hb,h1⟩:=hc;simp only [bA] at h;have hrel:=mD (im:=im) (loc:=loc) (e:=e) (ρ:=ρ) (fun y hy=>nM y (by simpa [kv.fa] using hy)) h1;split at h
  · rename_i k a hp
    rw [Do] at h;obtain ⟨z,hz,rfl⟩:=h;have gx:DI e (x::xs)= .int k a::DI e xs:=by simp [DI,hp]
    rw [gx] at hrel;generalize hl:args.toList.map ρ=l at hrel;cases hrel with
    |cons _ u _ us h1 h2=>
     obtain rfl:=h1.ga;obtain ⟨c,rfl,bT⟩:=Nu (P:=P) (w:=w) (isMax:=isMax) h2 hz;refine .pure hk rfl rfl ?_ (.int k c);have lL:(args.map ρ).toList= .int k a::us:=by simpa using hl
     have Qp:b=if isMax then .max else .min:=by cases isMax<;>simpa using hb
     subst Qp;cases isMax with
     |true=>simp only [if_true] at fo bT;simp only [execOp,fo,resolve,EQ,If,AC,invoke,builtin,Builtin.max_,lL,bT]
     |false=>simp only [aax,if_false] at fo bT;simp only [execOp,fo,resolve,EQ,If,AC,invoke,builtin,Builtin.min_,lL,bT]
  cases h
 case h_37 x y t m ps fo=>
  simp only [v6,beq_iff_eq] at hc;obtain ⟨⟨rfl,mR⟩,hp⟩:=hc;split at mR
  · rename_i el hu
    simp only [v6] at mR;obtain ⟨hs,hz⟩:=mR;split at hp
    · rename_i i a j b hps
      simp only [v6,beq_iff_eq] at hp;obtain ⟨⟨⟨rfl,rfl⟩,h1⟩,h2⟩:=hp;simp only [bA] at h;split at h
      · rename_i As
        simp only [v6] at As;injection h with h;have hx:=nM x (by simp [kv.fa]) a h1;have hy:=nM y (by simp [kv.fa]) b h2;obtain ⟨bj,hv,he⟩:=Jq (el:=el) hx hy h.symm hk;refine ⟨_,_,bj,?_,.inr ⟨_,rfl,hv⟩,he⟩;have HL: ∃i z,P.info? el=afM i/\i.zero=afM z/\z.cells.size=1:=by
         cases hi:P.info? el with
         |none=>rw [hi] at hz;cases hz
         |some i=>
          cases hq:i.zero with
          |none=>rw [hi] at hz;simp [hq] at hz
          |some z=>rw [hi] at hz;simp [hq] at hz;exact ⟨i,z,rfl,hq,hz⟩
        obtain ⟨i,z,hi,hq,pL⟩:=HL;have Lu:(zeroValue el).run P w= .ok z w:=by simp [zeroValue,typeInfo,hi,hq]
        have c1:(ρ a).cells= #[ρ a]:=by obtain ⟨q1,q2⟩:=hx.HI As.1;cases Lv:ρ a<;>first|rfl|exact absurd Lv (q1 _)|exact absurd Lv (q2 _)
        have c2:(ρ b).cells= #[ρ b]:=by obtain ⟨q1,q2⟩:=hy.HI As.2;cases Lv:ρ b<;>first|rfl|exact absurd Lv (q1 _)|exact absurd Lv (q2 _)
        have fl: ∀q:Value,Instr.fill (fun i=>afM (i*1,1)) #[q,q] [(0,ρ a),(1,ρ b)]=afM #[ρ a,ρ b]:=fun q=>by
         have s1:(⟨lZ (0*1) (ρ a).cells.toList (#[q,q]:Array Value).toList⟩:Array Value)= #[ρ a,q]:=by rw [c1];rfl
         have s2:(⟨lZ (1*1) (ρ b).cells.toList (#[ρ a,q]:Array Value).toList⟩:Array Value)= #[ρ a,ρ b]:=by rw [c2];rfl
         rw [yb (place:=fun i=>afM (i*1,1)) rfl (by rw [c1];rfl) (by simp),s1,yb (place:=fun i=>afM (i*1,1)) rfl (by rw [c2];rfl) (by simp),s2];rfl
        simp only [execOp,fo,Instr.buildSlice,EQ,run_underlying hu,AC,jR hs];have e0:(aes (fun x=>z.cells[x%z.cells.size]!) (aeC (2*1)))= #[z.cells[0]!,z.cells[0]!]:=by rw [pL,show aeC (2*1)= #[0,1] from by decide];simp [Nat.mod_one]
        have big: ¬(2*1>2^24):=by decide
        have nz: ¬(2*1=0):=by decide
        have ml:(ps.map fun (i,x)=>(i,ρ x)).toList=[(0,ρ a),(1,ρ b)]:=by rw [aeI,hps];rfl
        simp only [big,nz,if_false,EQ,Lu,AC,If];rw [e0,ml,fl];simp [newRow]
      cases h
    cases hp
  cases mR
 case h_38 n m k v t a b c fo=>
  simp only [v6] at hc;obtain ⟨⟨⟨mR,h1⟩,h2⟩,h3⟩:=hc;split at mR
  · rename_i kt et ht
    simp only [bA] at h;obtain ⟨w',bT,wC,hu⟩:=JB (P:=P) ht mR (nM m (by simp [kv.fa]) a h1) (nM k (by simp [kv.fa]) b h2) (nM v (by simp [kv.fa]) c h3) h hk;exact ⟨.skip,w',loc,by simp only [execOp,fo,EQ,bT,AC,If],.inl ⟨rfl,hu⟩,wC⟩
  cases mR
 all_goals first|(simp only [bA] at h;cases h;done)|(simp at hc;done)
end
end Go.Vm
/- What goes over the border of a pure call, and what comes back. -/
namespace Go.Vm
def fX:Loc:=fun _=>afN
def grow (im:Im) (w:World) (bs:List Nat):Im:=fun b=>match im b with
 |some o=>afM o
 |none=>if bs.contains b then w.heap[b]? else afN
theorem HQ (im:Im) (w:World) (bs:List Nat):mY im (grow im w bs):=fun b o h=>by unfold grow;rw [h]
theorem Ny {im:Im} {w:World} {bs:List Nat} (h: ∀b o,im b=afM o->w.heap[b]? =afM o): ∀b o,grow im w bs b=afM o->w.heap[b]? =afM o:=by
 intro b o hb;unfold grow at hb;split at hb
 · rename_i o' ho;injection hb with hb;subst hb;exact h b _ ho
 split at hb
 · exact hb
 cases hb
theorem Uh {im:Im} {w:World} {bs:List Nat} (h: ∀b o,im b=afM o->w.heap[b]? =afM o) {b:Nat} (hb:b∈bs):grow im w bs b=w.heap[b]?:=by
 unfold grow;split
 · rename_i o ho;exact (h b o ho).symm
 rw [rc (by simpa using hb)]
theorem QN {im:Im} {w:World} {bs:List Nat} {b:Nat} {o:Obj} (h:grow im w bs b=afM o):im b=afM o\/b∈bs:=by
 unfold grow at h;split at h
 · rename_i o' ho;injection h with h;subst h;exact .inl ho
 split at h
 · rename_i hc;exact .inr (by simpa using hc)
 cases h
def zz (loc:Loc) (ax:cw) (tk:List Nat):List Nat:=tk.filterMap fun t=>if (ax[t]?).any jx.bH then (loc t).map (·.c6) else afN
theorem zA {loc:Loc} {ax:cw} {tk:List Nat} {b:Nat}:b∈zz loc ax tk↔ ∃t li k,t∈tk/\loc t=afM li/\ax[t]? =afM k/\k.bH=afP/\li.c6=b:=by
 unfold zz;rw [List.mem_filterMap];constructor
 · rintro ⟨t,ht,h⟩
   split at h
   · rename_i hs
     rw [Do] at h;obtain ⟨li,hl,rfl⟩:=h;cases hk:ax[t]? with
     |none=>rw [hk] at hs;cases hs
     |some k=>rw [hk] at hs;exact ⟨t,li,k,ht,hl,hk,hs,rfl⟩
   cases h
 rintro ⟨t,li,k,ht,hl,hk,hs,rfl⟩
 exact ⟨t,ht,by rw [hk,hl];simp [hs]⟩
theorem mE {e:Nat} {rows:List Row} (h:rows≠[]):(jx.arr e rows).bH=afP:=by
 cases rows with
 |nil=>exact absurd rfl h
 |cons _ _=>rfl
section
variable {im dX : Im} {loc : Loc} {ax : cw} {w : World}
def Over (im dX:Im) (loc:Loc) (ax:cw) (w:World) (t:Nat):Prop:=
 ∀li,loc t=afM li-> ∃k,ax[t]? =afM k/\BR im loc w li k/\(k.bH=afP->dX li.c6=w.heap[li.c6]?)
def Z7 (dX:Im) (loc:Loc) (bx:Nat->Option (List PV)) (t:Nat):Prop:=
 ∀li cs,loc t=afM li->bx t=afM cs-> ∃vs,eI dX fX cs vs/\ ∀(j:Nat) (v:Value),vs[j]? =afM v->mX dX li.c6 (li.sh+j)=afM v
theorem yc {b o:Nat} {cs:Array Value} {el:TypeId} {fr:Nat×Nat} (h:im b=afM (.cells cs el fr)):mX im b o=cs[o]?:=by unfold mX;rw [h]
theorem bK.JG {get:Nat->Option Value} {sh esz off len:Nat} {rows:List Row} (h:bK get sh esz rows):bK get (sh+off*esz) esz ((rows.drop off).take len):=(h.drop off).take len
mutual
theorem Z8 (hi:mY im dX) {bx:Nat->Option (List PV)} {tb:Nat->List Nat} (hb: ∀t,(∀u,u∈tb t->Over im dX loc ax w u)->Over im dX loc ax w t->Z7 dX loc bx t):
 ∀{x y:PV} {v:Value},(∀t,t∈iH tb x->Over im dX loc ax w t)->VR im loc x v->Bv ax bx x=afM y->VR dX fX y v
 | .undef,y,v,_,_,h=>by simp [Bv] at h
 | .jd,y,v,_,_,h=>by simp [Bv] at h
 | .int k n,y,v,_,hv,h=>by simp only [Bv,ww] at h;subst h;rw [hv.ga];exact .int _ _
 | .bool b,y,v,_,hv,h=>by simp only [Bv,ww] at h;subst h;rw [hv.jg];exact .bool _
 | .str b,y,v,_,hv,h=>by simp only [Bv,ww] at h;subst h;rw [hv.Dq];exact .str _
 | .agg cs,y,v,ht,hv,h=>by simp only [Bv,Do] at h;obtain ⟨ys,QO,rfl⟩:=h;obtain ⟨vs,rfl,nO⟩:=hv.oI;exact .agg _ _ (w3 hi hb (fun t h=>ht t (by simpa [iH] using h)) nO QO)
 | .cy cs,y,v,ht,hv,h=>by simp only [Bv,Do] at h;obtain ⟨ys,QO,rfl⟩:=h;obtain ⟨vs,rfl,nO⟩:=hv.Ar;exact .cy _ _ (w3 hi hb (fun t h=>ht t (by simpa [iH] using h)) nO QO)
 | .sl e c rows,y,v,_,hv,h=>by simp only [Bv,ww] at h;subst h;obtain ⟨a,cap,rfl,h1,h2,h3⟩:=hv.mZ;exact .sl e afV rows a cap h1 (by simp) fun dK=>let ⟨b,o,ha,hr⟩:=h3 dK;⟨b,o,ha,hr.mono fun _ _ e=>hi.cell e⟩
 | .own t e off len cap ex,y,v,ht,hv,h=>by
  obtain ⟨li,a,cP,rfl,hl,h2,h3,h4,h5,h6,h7⟩:=hv.gF;obtain ⟨k,hk,qH,Ui⟩:=ht t (by simp [iH]) li hl;simp only [Bv,hk] at h;cases k with
  |arr e' rows=>
   simp only [ww] at h;subst h;obtain ⟨b1,b2,b3⟩:=qH;have cO:((rows.drop off).take len).length=len:=by simp;omega
   have he:e'=e:=by rw [<- b1,h2]
   subst he;have:=VR.sl (im:=dX) (loc:=fX) e' afV ((rows.drop off).take len) a cP (by omega) (by simp) (fun dK=>by
    have m9:rows≠[]:=by intro e;subst e;simp at dK
    obtain ⟨arr,el,rV,HK,I8,cW⟩:=b3 m9;rcases h7 with h7|⟨_,rfl,_⟩
    · exfalso;apply dK;apply aeJ.1;omega
    refine ⟨_,_,rfl,cW.JG.mono fun k v hkv=>?_⟩
    rw [yc (by rw [Ui (mE m9)];exact rV)];exact hkv)
   rwa [cO] at this
  |_=>cases h
 | .ptr t e row off,y,v,ht,hv,h=>by
  obtain ⟨li,hl,he,hn,rfl⟩:=hv.ya;obtain ⟨k,hk,qH,Ui⟩:=ht t (by simp [iH]) li hl;simp only [Bv,hk] at h;cases k with
  |arr e' rows=>
   simp only [Do] at h;obtain ⟨r,hr,rfl⟩:=h;obtain ⟨b1,b2,b3⟩:=qH;have m9:rows≠[]:=by intro e;subst e;simp at hr
   obtain ⟨arr,el,rV,HK,I8,cW⟩:=b3 m9;have LC:e'=e:=by rw [<- b1,he]
   subst LC;obtain ⟨h1,h2⟩:=rU (im:=dX) (loc:=fX) cW hr;exact .bD r off li.c6 (li.sh+row*e') _ h1 fun j v hj=>by rw [yc (by rw [Ui (mE m9)];exact rV)];exact h2 j v hj
  |box cs=>
   dsimp only at h;split at h
   · rename_i tP
     have tP:row=0:=by simpa using tP
     subst tP;rw [Do] at h;obtain ⟨ys,QO,rfl⟩:=h;obtain ⟨vs,h1,h2⟩:=hb t (fun u hu=>ht u (by simp [iH,hu])) (ht t (by simp [iH])) li ys hl QO;exact .bD ys off li.c6 (li.sh+0*e) vs h1 fun j v hj=>by simpa using h2 j v hj
   cases h
  |_=>cases h
 | .bD cs off,y,v,ht,hv,h=>by simp only [Bv,Do] at h;obtain ⟨ys,QO,rfl⟩:=h;obtain ⟨b,o,vs,h1,h2,rfl⟩:=hv.wT;exact .bD ys off b o vs (w3 hi hb (fun t h=>ht t (by simpa [iH] using h)) h1 QO) fun j v hj=>hi.cell (h2 j v hj)
 | .mp t,y,v,_,_,h=>by simp [Bv] at h
 | .ez fn a b,y,v,ht,hv,h=>by
  simp only [Bv] at h;cases ha:Bw ax bx a with
  |none=>rw [ha] at h;cases h
  |some a'=>
   cases Ai:Bw ax bx b with
   |none=>rw [ha,Ai] at h;cases h
   |some b'=>
    rw [ha,Ai] at h;simp only [ww] at h;subst h;cases hv with
    |ez _ _ _ as bs h1 h2=>exact .ez fn a' b' as bs (w3 hi hb (fun t h=>ht t (by simp [iH,h])) h1 ha) (w3 hi hb (fun t h=>ht t (by simp [iH,h])) h2 Ai)
 | .dH,y,v,_,hv,h=>by simp only [Bv,ww] at h;subst h;cases hv;exact .dH
theorem w3 (hi:mY im dX) {bx:Nat->Option (List PV)} {tb:Nat->List Nat} (hb: ∀t,(∀u,u∈tb t->Over im dX loc ax w u)->Over im dX loc ax w t->Z7 dX loc bx t):
 ∀{x y:List PV} {v:List Value},(∀t,t∈dm tb x->Over im dX loc ax w t)->eI im loc x v->Bw ax bx x=afM y->eI dX fX y v
 | [],y,v,_,hv,h=>by simp only [Bw,ww] at h;subst h;cases hv;exact .nil
 |x::xs,y,v,ht,hv,h=>by
  simp only [Bw] at h;cases hx:Bv ax bx x with
  |none=>rw [hx] at h;cases h
  |some x'=>
   cases OT:Bw ax bx xs with
   |none=>rw [hx,OT] at h;cases h
   |some xs'=>
    rw [hx,OT] at h;simp only [ww] at h;subst h;cases hv with
    |cons _ u _ us h1 h2=>exact .cons _ _ _ _ (Z8 hi hb (fun t h=>ht t (by simp [dm,h])) h1 hx) (w3 hi hb (fun t h=>ht t (by simp [dm,h])) h2 OT)
end
theorem Nz (hi:mY im dX): ∀(n:Nat) (t:Nat),(∀u,u∈c7 ax n t->Over im dX loc ax w u)->Over im dX loc ax w t->Z7 dX loc (wN ax n) t
 |0,t,_,_=>by intro li cs _ h;cases h
 |n+1,t,ht,hto=>by
  intro li cs hl h;obtain ⟨k,hk,qH,Ui⟩:=hto li hl;simp only [wN,hk] at h;cases k with
  |box cells=>dsimp only at h;obtain ⟨b1,b2,b3,vs,el,h4,h5,h6⟩:=qH;refine ⟨vs,w3 hi (fun t'=>Nz hi n t') (tb:=c7 ax n) (fun u hu=>ht u (by simp [c7,hk,hu])) h6 h,fun j v hj=>?_⟩;rw [yc (by rw [Ui rfl];exact h4),b3];simpa using hj
  |_=>cases h
end
end Go.Vm
/- A pure call: what comes back. -/
namespace Go.Vm
section
variable {im dX : Im} {loc bj : Loc} {ax : cw} {w : World}
mutual
theorem JH: ∀{x:PV} {v:Value},x.jP=afP->VR im loc x v->VR dX bj x v
 | .int k n,v,_,h=>by rw [h.ga];exact .int _ _
 | .bool b,v,_,h=>by rw [h.jg];exact .bool _
 | .str s,v,_,h=>by rw [h.Dq];exact .str _
 | .agg cs,v,hn,h=>by obtain ⟨vs,rfl,hr⟩:=h.oI;exact .agg _ _ (BI (by simpa [PV.jP] using hn) hr)
 | .cy cs,v,hn,h=>by obtain ⟨vs,rfl,hr⟩:=h.Ar;exact .cy _ _ (BI (by simpa [PV.jP] using hn) hr)
 | .undef,_,hn,_=>by simp [PV.jP] at hn
 | .jd,_,hn,_=>by simp [PV.jP] at hn
 | .sl ..,_,hn,_=>by simp [PV.jP] at hn
 | .own ..,_,hn,_=>by simp [PV.jP] at hn
 | .ptr ..,_,hn,_=>by simp [PV.jP] at hn
 | .bD ..,_,hn,_=>by simp [PV.jP] at hn
 | .mp ..,_,hn,_=>by simp [PV.jP] at hn
 | .ez ..,_,hn,_=>by simp [PV.jP] at hn
 | .dH,_,hn,_=>by simp [PV.jP] at hn
theorem BI: ∀{x:List PV} {v:List Value},uL x=afP->eI im loc x v->eI dX bj x v
 | [],_,_,h=>by cases h;exact .nil
 |x::xs,_,hn,h=>by
  simp only [uL,v6] at hn;cases h with
  |cons _ u _ us h1 h2=>exact .cons _ _ _ _ (JH hn.1 h1) (BI hn.2 h2)
end
mutual
theorem QP (hi:mY im dX): ∀{x y:PV} {v:Value},(∀t,t∈iH rJ x->Over im dX loc ax w t)->VR im loc x v->x5 ax x=afM y->VR dX bj y v
 | .int k n,y,v,_,hv,h=>by simp only [x5,ww] at h;subst h;rw [hv.ga];exact .int _ _
 | .bool b,y,v,_,hv,h=>by simp only [x5,ww] at h;subst h;rw [hv.jg];exact .bool _
 | .str b,y,v,_,hv,h=>by simp only [x5,ww] at h;subst h;rw [hv.Dq];exact .str _
 | .agg cs,y,v,ht,hv,h=>by simp only [x5,Do] at h;obtain ⟨ys,QO,rfl⟩:=h;obtain ⟨vs,rfl,nO⟩:=hv.oI;exact .agg _ _ (HR hi (fun t h=>ht t (by simpa [iH] using h)) nO QO)
 | .cy cs,y,v,ht,hv,h=>by simp only [x5,Do] at h;obtain ⟨ys,QO,rfl⟩:=h;obtain ⟨vs,rfl,nO⟩:=hv.Ar;exact .cy _ _ (HR hi (fun t h=>ht t (by simpa [iH] using h)) nO QO)
 | .sl e c rows,y,v,_,hv,h=>by simp only [x5,ww] at h;subst h;obtain ⟨a,cap,rfl,h1,h2,h3⟩:=hv.mZ;exact .sl e afV rows a cap h1 (by simp) fun dK=>let ⟨b,o,ha,hr⟩:=h3 dK;⟨b,o,ha,hr.mono fun _ _ e=>hi.cell e⟩
 | .own t e off len cap ex,y,v,ht,hv,h=>by
  obtain ⟨li,a,cP,rfl,hl,h2,h3,h4,h5,h6,h7⟩:=hv.gF;obtain ⟨k,hk,qH,Ui⟩:=ht t (by simp [iH]) li hl;simp only [x5,hk] at h;cases k with
  |arr e' rows=>
   simp only [ww] at h;subst h;obtain ⟨b1,b2,b3⟩:=qH;have cO:((rows.drop off).take len).length=len:=by simp;omega
   have he:e'=e:=by rw [<- b1,h2]
   subst he;have:=VR.sl (im:=dX) (loc:=bj) e' afV ((rows.drop off).take len) a cP (by omega) (by simp) (fun dK=>by
    have m9:rows≠[]:=by intro e;subst e;simp at dK
    obtain ⟨arr,el,rV,HK,I8,cW⟩:=b3 m9;rcases h7 with h7|⟨_,rfl,_⟩
    · exfalso;apply dK;apply aeJ.1;omega
    refine ⟨_,_,rfl,cW.JG.mono fun k v hkv=>?_⟩
    rw [yc (by rw [Ui (mE m9)];exact rV)];exact hkv)
   rwa [cO] at this
  |_=>cases h
 | .undef,_,_,_,_,h=>by simp [x5] at h
 | .jd,_,_,_,_,h=>by simp [x5] at h
 | .ptr ..,_,_,_,_,h=>by simp [x5] at h
 | .bD ..,_,_,_,_,h=>by simp [x5] at h
 | .mp ..,_,_,_,_,h=>by simp [x5] at h
 | .ez ..,_,_,_,_,h=>by simp [x5] at h
 | .dH,_,_,_,_,h=>by simp [x5] at h
theorem HR (hi:mY im dX): ∀{x y:List PV} {v:List Value},(∀t,t∈dm rJ x->Over im dX loc ax w t)->eI im loc x v->HB ax x=afM y->eI dX bj y v
 | [],y,v,_,hv,h=>by simp only [HB,ww] at h;subst h;cases hv;exact .nil
 |x::xs,y,v,ht,hv,h=>by
  simp only [HB] at h;cases hx:x5 ax x with
  |none=>rw [hx] at h;cases h
  |some x'=>
   cases OT:HB ax xs with
   |none=>rw [hx,OT] at h;cases h
   |some xs'=>
    rw [hx,OT] at h;simp only [ww] at h;subst h;cases hv with
    |cons _ u _ us h1 h2=>exact .cons _ _ _ _ (QP hi (fun t h=>ht t (by simp [dm,h])) h1 hx) (HR hi (fun t h=>ht t (by simp [dm,h])) h2 OT)
end
theorem oK {l:List Nat} {t:Nat}:has l t=afP↔t∈l:=by
 unfold has;rw [List.any_eq_true];constructor
 · rintro ⟨x,hx,h⟩
   have:t=x:=by simpa using h
   subst this;exact hx
 intro h;exact ⟨t,h,by simp⟩
theorem jh {l:List Nat} {t:Nat}:has l t=afV↔t∉l:=by rw [<- oK];simp
def aiF:Im:=fun _=>afN
structure Zg (db:Loc) (na:cw) (FX:List Nat) (w:World) (seen seen':List Nat) (news:cw) (JI:List LI) (ts:List (Option Nat)):Prop where
 HS:(afI JI)=afI news
 Jl:(afI ts)=afI news
 br: ∀(j:Nat) (k:jx) (li:LI),news[j]? =afM k->JI[j]? =afM li->(∃e rows,k= .arr e rows)/\BR aiF fX w li k
 own: ∀(j:Nat) (k:jx) (li:LI) (t:Nat),news[j]? =afM k->JI[j]? =afM li->ts[j]? =afM (afM t)->db t=afM li/\na[t]? =afM k/\t∉FX/\t∈seen'/\t∉seen
 dum: ∀(j:Nat) (k:jx),news[j]? =afM k->ts[j]? =afM afN->k.bH=afV
 inj: ∀(i j t:Nat),ts[i]? =afM (afM t)->ts[j]? =afM (afM t)->i=j
 sub: ∀t,t∈seen->t∈seen'
theorem Zg.none {db:Loc} {na:cw} {FX:List Nat} {seen:List Nat}:Zg db na FX w seen seen [] [] [] where
 HS:=rfl
 Jl:=rfl
 br:=fun j k li h=>by simp at h
 own:=fun j k li t h=>by simp at h
 dum:=fun j k h=>by simp at h
 inj:=fun i j t h=>by simp at h
 sub:=fun _ h=>h
theorem gb {α:Type} {a b:List α} {j:Nat} {x:α} (h:(a++b)[j]? =afM x):(j<afI a/\a[j]? =afM x)\/(afI a<=j/\b[j-(afI a)]? =afM x):=by
 rcases aau j (afI a) with hj|hj
 · rw [aav hj] at h;exact .inl ⟨hj,h⟩
 rw [aal hj] at h;exact .inr ⟨hj,h⟩
theorem Zg.append {db:Loc} {na:cw} {FX s0 s1 s2:List Nat} {n1 n2:cw} {l1 l2:List LI} {t1 t2:List (Option Nat)} (h:Zg db na FX w s0 s1 n1 l1 t1) (k:Zg db na FX w s1 s2 n2 l2 t2):
 Zg db na FX w s0 s2 (n1++n2) (l1++l2) (t1++t2):=by
 have e1:=h.HS;have e2:=h.Jl;have QQ: ∀(j t:Nat),t1[j]? =afM (afM t)->t∈s1:=by intro j t ht;have hj:=(ac0.1 ht).1;exact (h.own j n1[j] l1[j] t (UV (by omega)) (UV (by omega)) ht).2.2.2.1
 have NA: ∀(j t:Nat),t2[j]? =afM (afM t)->t∉s1:=by intro j t ht;have hj:=(ac0.1 ht).1;have:=k.HS;have:=k.Jl;exact (k.own j n2[j] l2[j] t (UV (by omega)) (UV (by omega)) ht).2.2.2.2
 refine ⟨by simp [e1,k.HS],by simp [e2,k.Jl],fun j b li hb hl=>?_,fun j b li t hb hl ht=>?_,fun j b hb ht=>?_,fun i j t hi hj=>?_,fun t ht=>k.sub t (h.sub t ht)⟩
 · rcases gb hb with ⟨h1,hb⟩|⟨h1,hb⟩
   · rcases gb hl with ⟨h2,hl⟩|⟨h2,hl⟩
     · exact h.br j b li hb hl
     omega
   rcases gb hl with ⟨h2,hl⟩|⟨h2,hl⟩
   · omega
   rw [e1] at hl;exact k.br _ b li hb hl
 · rcases gb hb with ⟨h1,hb⟩|⟨h1,hb⟩
   · rcases gb hl with ⟨h2,hl⟩|⟨h2,hl⟩
     · rcases gb ht with ⟨h3,ht⟩|⟨h3,ht⟩
       · obtain ⟨a1,a2,a3,a4,a5⟩:=h.own j b li t hb hl ht
         exact ⟨a1,a2,a3,k.sub t a4,a5⟩
       omega
     omega
   rcases gb hl with ⟨h2,hl⟩|⟨h2,hl⟩
   · omega
   rcases gb ht with ⟨h3,ht⟩|⟨h3,ht⟩
   · omega
   rw [e1] at hl;rw [e2] at ht
   obtain ⟨a1,a2,a3,a4,a5⟩:=k.own _ b li t hb hl ht;exact ⟨a1,a2,a3,a4,fun hs=>a5 (h.sub t hs)⟩
 · rcases gb hb with ⟨h1,hb⟩|⟨h1,hb⟩
   · rcases gb ht with ⟨h3,ht⟩|⟨h3,ht⟩
     · exact h.dum j b hb ht
     omega
   rcases gb ht with ⟨h3,ht⟩|⟨h3,ht⟩
   · omega
   rw [e2] at ht;exact k.dum _ b hb ht
 rcases gb hi with ⟨h1,hi⟩|⟨h1,hi⟩
 · rcases gb hj with ⟨h2,hj⟩|⟨h2,hj⟩
   · exact h.inj i j t hi hj
   exact absurd (QQ i t hi) (NA _ t hj)
 rcases gb hj with ⟨h2,hj⟩|⟨h2,hj⟩
 · exact absurd (QQ j t hj) (NA _ t hi)
 have:=k.inj _ _ t hi hj;omega
def Zh (db:Loc) (na:cw) (Dr:Im) (w:World):Prop:= ∀t li,db t=afM li-> ∃k,na[t]? =afM k/\BR Dr db w li k
mutual
theorem QR {Dr:Im} {db:Loc} {na:cw} {FX:List Nat} (hk:Zh db na Dr w): ∀{x y:PV} {v:Value} {nx:Nat} {seen seen':List Nat} {news:cw},
 VR Dr db x v->yO na FX nx seen x=afM (y,news,seen')->
 ∃JI ts,Zg db na FX w seen seen' news JI ts/\ ∀(Ds:Im) (pR:Loc),(∀(j:Nat) (li:LI),JI[j]? =afM li->pR (nx+j)=afM li)->VR Ds pR y v
 | .int k n,y,v,nx,seen,seen',news,hv,h=>by simp only [yO,ww,ae1] at h;obtain ⟨rfl,rfl,rfl⟩:=h;exact ⟨[],[],.none,fun _ _ _=>by rw [hv.ga];exact .int _ _⟩
 | .bool k,y,v,nx,seen,seen',news,hv,h=>by simp only [yO,ww,ae1] at h;obtain ⟨rfl,rfl,rfl⟩:=h;exact ⟨[],[],.none,fun _ _ _=>by rw [hv.jg];exact .bool _⟩
 | .agg cs,y,v,nx,seen,seen',news,hv,h=>by simp only [yO,Do,ae1] at h;obtain ⟨⟨ys,n2,s2⟩,hr,rfl,rfl,rfl⟩:=h;obtain ⟨vs,rfl,nO⟩:=hv.oI;obtain ⟨JI,ts,h1,h2⟩:=HT hk nO hr;exact ⟨JI,ts,h1,fun Ds pR hl=> .agg _ _ (h2 Ds pR hl)⟩
 | .cy cs,y,v,nx,seen,seen',news,hv,h=>by simp only [yO,Do,ae1] at h;obtain ⟨⟨ys,n2,s2⟩,hr,rfl,rfl,rfl⟩:=h;obtain ⟨vs,rfl,nO⟩:=hv.Ar;obtain ⟨JI,ts,h1,h2⟩:=HT hk nO hr;exact ⟨JI,ts,h1,fun Ds pR hl=> .cy _ _ (h2 Ds pR hl)⟩
 | .sl e c rows,y,v,nx,seen,seen',news,hv,h=>by
  obtain ⟨a,cap,rfl,h1,h2,h3⟩:=hv.mZ;cases c with
  |false=>simp [yO] at h
  |true=>
   cases rows with
   |cons r rs=>simp [yO] at h
   |nil=>
    simp only [yO,ww,ae1] at h;obtain ⟨rfl,rfl,rfl⟩:=h;have F1:cap=0:=h2 rfl;subst F1;refine ⟨[⟨0,0,e,0,0⟩],[afN],⟨rfl,rfl,fun j k li hj hl=>?_,fun j k li t hj hl ht=>?_,fun j k hj ht=>?_,fun i j t hi hj=>?_,fun _ h=>h⟩,fun Ds pR hl=>?_⟩
    · cases j with
      |zero=>simp at hj hl;subst hj hl;exact ⟨⟨_,_,rfl⟩,rfl,rfl,fun dK=>absurd rfl dK⟩
      |succ j=>simp at hj
    · cases j<;>simp at ht
    · cases j with
      |zero=>simp at hj;subst hj;rfl
      |succ j=>simp at hj
    · cases i<;>simp at hi
    exact .own nx e 0 0 0 afV ⟨0,0,e,0,0⟩ a 0 (hl 0 _ rfl) rfl (IR _) (IR _) (IR _) (by simp) (.inl rfl)
 | .own t e off len cap ex,y,v,nx,seen,seen',news,hv,h=>by
  obtain ⟨li,a,cP,rfl,hl,h2,h3,h4,h5,h6,h7⟩:=hv.gF;obtain ⟨k,tQ,qH⟩:=hk t li hl;simp only [yO,tQ] at h;cases k with
  |arr e' rows=>
   dsimp only at h;split at h
   · cases h
   rename_i hs
   simp only [aeQ,not_or,Bool.not_eq_true] at hs;simp only [ww,ae1] at h;obtain ⟨rfl,rfl,rfl⟩:=h;refine ⟨[li],[afM t],⟨rfl,rfl,fun j k li' hj lL=>?_,fun j k li' t' hj lL ht=>?_,fun j k hj ht=>?_,fun i j t hi hj=>?_,fun _ h=>aey _ h⟩,fun Ds pR Jt=>?_⟩
   · cases j with
     |zero=>simp at hj lL;subst hj lL;exact ⟨⟨_,_,rfl⟩,qH⟩
     |succ j=>simp at hj
   · cases j with
     |zero=>simp at hj lL ht;subst hj lL ht;exact ⟨hl,tQ,jh.1 hs.2,by simp,jh.1 hs.1⟩
     |succ j=>simp at hj
   · cases j<;>simp at ht
   · cases i with
     |zero=>
      cases j with
      |zero=>rfl
      |succ j=>simp at hj
     |succ i=>simp at hi
   exact .own nx e off len cap afV li a cP (Jt 0 _ rfl) h2 h3 h4 h5 (fun h=>by cases h) h7
  |_=>cases h
 | .str s,y,v,nx,seen,seen',news,hv,h=>by simp [yO] at h
 | .undef,y,v,nx,seen,seen',news,hv,h=>by simp [yO] at h
 | .jd,y,v,nx,seen,seen',news,hv,h=>by simp [yO] at h
 | .ptr ..,y,v,nx,seen,seen',news,hv,h=>by simp [yO] at h
 | .bD ..,y,v,nx,seen,seen',news,hv,h=>by simp [yO] at h
 | .mp ..,y,v,nx,seen,seen',news,hv,h=>by simp [yO] at h
 | .ez ..,y,v,nx,seen,seen',news,hv,h=>by simp [yO] at h
 | .dH,y,v,nx,seen,seen',news,hv,h=>by simp [yO] at h
theorem HT {Dr:Im} {db:Loc} {na:cw} {FX:List Nat} (hk:Zh db na Dr w): ∀{x y:List PV} {v:List Value} {nx:Nat} {seen seen':List Nat} {news:cw},
 eI Dr db x v->HC na FX nx seen x=afM (y,news,seen')->
 ∃JI ts,Zg db na FX w seen seen' news JI ts/\ ∀(Ds:Im) (pR:Loc),(∀(j:Nat) (li:LI),JI[j]? =afM li->pR (nx+j)=afM li)->eI Ds pR y v
 | [],y,v,nx,seen,seen',news,hv,h=>by simp only [HC,ww,ae1] at h;obtain ⟨rfl,rfl,rfl⟩:=h;cases hv;exact ⟨[],[],.none,fun _ _ _=> .nil⟩
 |x::xs,y,v,nx,seen,seen',news,hv,h=>by
  simp only [HC] at h;cases h1:yO na FX nx seen x with
  |none=>rw [h1] at h;cases h
  |some r1=>
   obtain ⟨y1,n1,s1⟩:=r1;rw [h1] at h;dsimp only at h;cases h2:HC na FX (nx+afI n1) s1 xs with
   |none=>rw [h2] at h;cases h
   |some r2=>
    obtain ⟨y2,n2,s2⟩:=r2;rw [h2] at h;simp only [ww,ae1] at h;obtain ⟨rfl,rfl,rfl⟩:=h;cases hv with
    |cons _ u _ us hx OT=>
     obtain ⟨l1,t1,a1,b1⟩:=QR hk hx h1;obtain ⟨l2,t2,a2,b2⟩:=HT hk OT h2;refine ⟨l1++l2,t1++t2,a1.append a2,fun Ds pR hl=> .cons _ _ _ _ (b1 Ds pR fun j li hj=>?_) (b2 Ds pR fun j li hj=>?_)⟩
     · have:=(ac0.1 hj).1
       exact hl j li (by rw [aav this];exact hj)
     have:=hl (afI n1+j) li (by rw [aal (by rw [a1.HS];omega),a1.HS,show (afI n1)+j-(afI n1)=j by omega];exact hj)
     rwa [<- aep] at this
end
end
end Go.Vm
