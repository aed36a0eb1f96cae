/- The logical machine, part 1: VmDef, VmWp, VmChk, VmRel, VmRen, VmOps1, VmEff, VmOps2, VmOps3, VmOps4, VmOps5, VmOps6, VmOps7, VmOps8, VmOps9, VmEq, VmMap, VmOpsA, VmCall, VmCall2, VmCall3, VmFp. -/
import GoSem.Dispatch
import Derived.Laws.StructEq
import Derived.Calls
import Derived.Below
import Derived.Laws.CopyRow
import Derived.Deep.AppendSrc
import Derived.Deep.Upon
import Derived.WideKeyRuns
open Option renaming map_eq_some_iff->EQ,isSome_iff_exists->abi,getD_none->adV,getD_some->adW,any_some->ae5,some->aet,none->aew
open Option.some renaming injEq->If
open List renaming getElem?_eq_getElem->IR,getElem?_eq_some_iff->aaF,mem_singleton->ab4,getElem?_append_right->aba,getElem?_append_left->abc,replicate->abe,getElem?_eq_none->abg,getElem?_toArray->abk,size_toArray->abl,flatMap_cons->abm,mem_append->abo,length_append->abu,mem_of_getElem?->abw,mem_iff_getElem->aby,mem_cons_of_mem->abz,foldl_cons->abC,ext_getElem?->abD,length_cons->acl,flatMap_nil->acm,all_eq_true->aco,length_eq_zero_iff->acp,drop_eq_nil_of_le->ad2,take_append_drop->ad4,getElem?_drop->ad8,mem_replicate->adc,mem_flatMap->adU,length_nil->adY,drop_drop->ae8,mem_cons->ae9,length->aec,length->aef
open Go.Result renaming andThen_ok->NE
open Bool renaming and_eq_true->PP,not_eq_true'->abG,or_eq_true->ae0,true->aez,false->aeG
open Nat renaming beq->UV,le_refl->WF,mul_le_mul_right->aaE,ble->ab1,add_mul->ab3,lt_or_ge->abh,add_assoc->abn,blt->abv,le_max_right->abJ,beq_eq->acr,ble_eq->ad1,le_max_left->ad3,eq_zero_or_pos->ad9,mul_eq_zero->ae3,mul_le_mul->ae7,zero_add->aea
open Go.Sem renaming run_bind->aa9,run_pure->abb
open Prod.mk renaming injEq->abd
open Array renaming getElem?_eq_some_iff->abf,ext'->abj,getElem?_setIfInBounds->abA,range->abE,map->ad6,toList_map->adX
open Int renaming toNat_natCast->adh
open Decidable renaming decide->aeH
/- Definitions of a logical machine over pure values: what it computes is tied to the model's runs in VmSound. -/
namespace Go.Vm
universe u
theorem v6{α:Sort u}{a b:α}:cond aez a b=a:=rfl
theorem ww{α:Sort u}{a b:α}:cond aeG a b=b:=rfl
theorem AC{c:Prop}{h:Decidable c}(p:c){α:Sort u}{t e:α}:ite c t e=t:=if_pos p
theorem Do{c:Prop}{h:Decidable c}(p:¬c){α:Sort u}{t e:α}:ite c t e=e:=if_neg p
inductive PV where
 |undef
 |na
 |int (k:IntKind) (n:Int)
 |bool (b:Bool)
 |str (s:ByteArray)
 |agg (cs:List PV)
 |cV (cs:List PV)
 |sl (aO:Nat) (vP:Bool) (rows:List (List PV))
 |own (t aO off len cap:Nat) (ex:Bool)
 |ptr (t aO row off:Nat)
 |bR (cells:List PV) (off:Nat)
 |mp (t:Nat)
 |fx (fn:FuncId) (fst cap:List PV)
 |eW
instance:Inhabited PV:=⟨.undef⟩
abbrev Row:=List PV
inductive om where
 |arr (aO:Nat) (rows:List Row)
 |box (cells:List PV)
 |map (es:List (PV×PV))
 |dead
abbrev cU:=List om
abbrev Env:=List (Nat×PV)
inductive gR where
 |t (n:Nat)
 |c (v:PV)
inductive CM where
 |pur|own|shr|fp
inductive oC where
 |Xy (x:gR)
 |pick (c a b:gR)
 |bin (op:BinOp) (x y:gR)
 |Pv (neg:Bool) (x y:gR)
 |eqc (n:Nat) (neg:Bool) (x y:gR)
 |un (op:UnOp) (x:gR)
 |conv (k:IntKind) (x:gR)
 |len (x:gR)
 |R0 (n:Nat)
 |box (x:gR)
 |alloc (cells:List PV)
 |build (zero:List PV) (parts:List (Nat×Nat×gR))
 |Fj (aO n:Nat) (zero:Row) (parts:List (Nat×gR))
 |HH (x y:gR)
 |load (agg:Option Nat) (p:gR)
 |store (sz:Nat) (p v:gR)
 |Pw (x:gR)
 |Px (off:Nat) (p:gR)
 |eM (agg:Option Nat) (off:Nat) (x:gR)
 |Py (aO:Nat) (x i:gR)
 |HI (n aO:Nat) (p i:gR)
 |idx (n aO:Nat) (agg:Option Nat) (x i:gR)
 |Pz (x i:gR)
 |Vu (aO:Nat) (x:gR) (lo hi mx:Option gR)
 |mks (aO:Nat) (zero:Row) (len cap:gR)
 |mkf (fn:FuncId) (fst cap:List gR)
 |mkm (z:Option PV)
 |lookup (n:Option Nat) (zero:PV) (ok:Bool) (m k:gR)
 |Nt (n:Option Nat) (m k v:gR)
 |ext (i:Nat) (x:gR)
 |append (aO:Nat) (x y:gR)
 |copy (aO:Nat) (x y:gR)
 |clear (aO:Nat) (zero:Row) (x:gR)
 |mm (rV:Bool) (x:gR) (xs:List gR)
 |call (m:CM) (f:FuncId) (args:List gR)
 |Bz (x:gR) (args:List gR)
 |bad
structure ck where
 dst:Option Nat
 op:oC
 guard:Option (Nat×Bool)
inductive lY where
 |skip
 |region (draw:Option (List Nat)) (ops:List ck) (gS:List Nat)
 |seq (a b:lY)
 |cond (c:gR) (a b:lY)
 |block (id:Nat) (b:lY)
 |loop (live:List (Nat×Option Nat)) (b:lY)
 |exit (id:Nat)
 |ret
inductive RV where
 |tmp (t:Nat)
 |cell (t:Nat) (agg:Option Nat)
structure ax where
 Jf:Nat
 code:lY
 res:List RV
inductive Xz where
 |code (x:ax)
 |nN (T2:Bool) (f:List PV->Option (PV×cU))
 |Ly (f:List PV->cU->List Nat->Option (PV×cU×List Nat))
abbrev p8:=FuncId->Option Xz
structure St where
 env:Env
 aA:cU
 fz:List Nat
 kn:Nat
inductive jQ where
 |normal
 |exit (id:Nat)
 |ret
def lk (t:Nat):Env->PV
 | []=> .undef
 |(s,v)::r=>if UV s t then v else lk t r
def gR.ev (e:Env):gR->PV
 | .t n=>lk n e
 | .c v=>v
def PV.wa:PV->Bool
 | .undef| .na| .agg _| .cV _=>aeG
 |_=>aez
def PV.plain:PV->Bool
 | .int _ _| .bool _| .str _=>aez
 |_=>aeG
def PV.cells:PV->List PV
 | .agg cs=>cs
 |v=>[v]
def PV.stored (v:PV):Option (List PV):=if v.cells.all PV.wa then aet v.cells else aew
def PV.cW (v:PV):Option (List PV):=if v.cells.all PV.plain then aet v.cells else aew
def part (agg:Option Nat) (off:Nat) (cs:List PV):Option PV:=
 match agg with
 |some s=>if off+s<=(aef cs) then aet (.agg ((cs.drop off).take s)) else aew
 |none=>cs[off]?
def vQ (off:Nat) (new old:List PV):List PV:=old.take off++new++old.drop (off+aef new)
def aa (k:IntKind) (n:Int):Int:=
 match k,n with
 | .i64,.ofNat m=>if abv m 9223372036854775808 then .ofNat m else IntKind.wrap .i64 n
 | .i64,.negSucc m=>if abv m 9223372036854775808 then .negSucc m else IntKind.wrap .i64 n
 | .u64,.ofNat m=> .ofNat (Nat.mod m 18446744073709551616)
 |k,n=>IntKind.wrap k n
def arith (op:BinOp) (k:IntKind) (a b:Int):Option PV:=
 match op with
 | .add=>aet (.int k (aa k (a+b)))
 | .sub=>aet (.int k (aa k (a-b)))
 | .mul=>aet (.int k (aa k (a*b)))
 | .quo=>if b=0 then aew else aet (.int k (aa k (a.tdiv b)))
 | .rem=>if b=0 then aew else aet (.int k (a.tmod b))
 | .and=>aet (.int k (k.wrap (BitVec.ofInt k.bits a&&&BitVec.ofInt k.bits b).toNat))
 | .or=>aet (.int k (k.wrap (BitVec.ofInt k.bits a|||BitVec.ofInt k.bits b).toNat))
 | .xor=>aet (.int k (k.wrap (BitVec.ofInt k.bits a^^^BitVec.ofInt k.bits b).toNat))
 | .andNot=>aet (.int k (k.wrap (BitVec.ofInt k.bits a&&& ~~~ BitVec.ofInt k.bits b).toNat))
 | .eql=>aet (.bool (a==b))
 | .neq=>aet (.bool (a !=b))
 | .lss=>aet (.bool (aeH (a<b)))
 | .leq=>aet (.bool (aeH (a<=b)))
 | .gtr=>aet (.bool (aeH (a>b)))
 | .geq=>aet (.bool (aeH (a>=b)))
 | .shl| .shr=>aew
def GF (op:BinOp) (k:IntKind) (a b:Int):Option PV:=
 if b<0 then aew else
 let n:=min b.toNat k.bits
 match op with
 | .shl=>aet (.int k (k.wrap (a*2^n)))
 | .shr=>aet (.int k (a.fdiv (2^n)))
 |_=>aew
def gM:IntKind->IntKind->Bool
 | .i8,.i8| .i16,.i16| .i32,.i32| .i64,.i64| .u8,.u8| .u16,.u16| .u32,.u32| .u64,.u64=>aez
 |_,_=>aeG
def Vv (op:BinOp) (x y:PV):Option PV:=
 match x,y with
 | .int k a,.int l b=>
  match op with
  | .shl=>GF .shl k a b
  | .shr=>GF .shr k a b
  |op=>if gM k l then arith op k a b else aew
 |_,_=>aew
def xb:PV->PV->Option Bool
 | .int k a,.int l b=>if gM k l then aet (a==b) else aew
 |_,_=>aew
def dP:List PV->List PV->Option Bool
 | [],[]=>aet aez
 |x::xs,y::ys=>
  match xb x y with
  |some aez=>dP xs ys
  |some aeG=>aet aeG
  |none=>aew
 |_,_=>aew
def unE (op:UnOp) (x:PV):Option PV:=
 match op,x with
 | .neg,.int k n=>aet (.int k (aa k (0-n)))
 | .not,.bool b=>aet (.bool !b)
 |_,_=>aew
def rowsOf (aA:cU) (aO:Nat):PV->Option (List Row)
 | .sl e _ rows=>match rows with
  | []=>aet []
  |_=>if UV e aO then aet rows else aew
 | .own t e off len _ _=>if UV e aO then (match aA[t]? with
  |some (.arr _ rows)=>aet ((rows.drop off).take len)
  |_=>aew) else aew
 |_=>aew
def lZ:PV->List Nat
 | .own t _ _ _ _ _=>[t]
 |_=>[]
structure tz where
 v:PV
 news:cU:=[]
 wr:List (Nat×om):=[]
 rd:List Nat:=[]
 fr:List Nat:=[]
def qT:List (Nat×Nat×PV)->List PV->Option (List PV)
 | [],cs=>aet cs
 |(off,sz,v)::r,cs=>
  match v.stored with
  |some w=>if UV (aef w) sz&&ab1 (off+sz) (aef cs) then qT r (vQ off w cs) else aew
  |none=>aew
def vg:List (Nat×PV)->List Row->Nat->Option (List Row)
 | [],rows,_=>aet rows
 |(i,v)::r,rows,aO=>
  match v.cW with
  |some w=>if UV (aef w) aO&&abv i (aef rows) then vg r (rows.set i w) aO else aew
  |none=>aew
def ma:PV->Option Nat
 | .int _ n=>match n with
  | .ofNat m=>aet m
  | .negSucc _=>aew
 |_=>aew
def mC (n:Option Nat) (k:PV):Bool:=
 match n,k with
 |none,.int _ _=>aez
 |some n,.agg cs=>UV (aef cs) n
 |_,_=>aeG
def gT (n:Option Nat) (k:PV):List (PV×PV)->Nat->Option (Option Nat)
 | [],_=>aet aew
 |(a,_)::r,i=>
  if mC n a then
   match dP k.cells a.cells with
   |some aez=>aet (aet i)
   |some aeG=>gT n k r (i+1)
   |none=>aew
  else aew
def gU:Nat:=1048576
def tI (aA:cU) (agg:Option Nat):PV->Option tz
 | .ptr t _ row off=>match aA[t]? with
  |some (.arr _ rows)=>match rows[row]? with
   |some cs=>(part agg off cs).map fun v=>{v,rd:=[t]}
   |none=>aew
  |some (.box cs)=>if UV row 0 then (part agg off cs).map fun v=>{v,rd:=[t]} else aew
  |_=>aew
 | .bR cs off=>(part agg off cs).map fun v=>{v}
 |_=>aew
def has (l:List Nat) (t:Nat):Bool:=l.any (UV t)
def xd (aA:cU) (fz:List Nat) (sz:Nat) (v:PV):PV->Option tz
 | .ptr t _ row off=>match aA[t]? with
  |some (.arr e rows)=>match rows[row]?,v.cW with
   |some cs,aet w=>if UV (aef w) sz&&ab1 (off+sz) (aef cs)&&!has fz t then
    aet {v:= .undef,wr:=[(t,.arr e (rows.set row (vQ off w cs)))]} else aew
   |_,_=>aew
  |some (.box cs)=>match v.stored with
   |some w=>if UV row 0&&UV (aef w) sz&&ab1 (off+sz) (aef cs)&&!has fz t then
    aet {v:= .undef,wr:=[(t,.box (vQ off w cs))]} else aew
   |none=>aew
  |_=>aew
 |_=>aew
def zt (aO:Nat):PV->Bool
 | .sl e _ rows=>UV e aO||rows.isEmpty
 | .own _ e _ _ _ _=>UV e aO
 |_=>aeG
def vR (x:PV) (lo hi mx:Option Nat):Option PV:=
 match x with
 | .sl e vP rows=>
  let l:=lo.getD 0
  let h:=hi.getD (aef rows)
  match mx with
  |none=>if ab1 l h&&ab1 h (aef rows) then aet (.sl e (vP&&UV h (aef rows)) ((rows.drop l).take (h-l))) else aew
  |some m=>if ab1 l h&&ab1 h m&&ab1 m (aef rows) then aet (.sl e (UV h m) ((rows.drop l).take (h-l))) else aew
 | .own t e off len cap ex=>
  let l:=lo.getD 0
  let h:=hi.getD len
  match mx with
  |none=>if ab1 l h&&ab1 h cap then aet (.own t e (off+l) (h-l) (cap-l) ex) else aew
  |some m=>if ab1 l h&&ab1 h m&&ab1 m cap then aet (.own t e (off+l) (h-l) (m-l) aez) else aew
 |_=>aew
def ot:Nat->List Row->List Row->List Row
 |_,[],rows=>rows
 |i,w::r,rows=>ot (i+1) r (rows.set i w)
def lr (aA:cU) (fz:List Nat) (aO:Nat) (x y:PV):Option tz:=
 match rowsOf aA aO y with
 |none=>aew
 |some new=>
  match new with
  | []=>match x with
   | .sl _ vP rows=>if vP&&rows.isEmpty then aet {v:= .own (aef aA) aO 0 0 0 aeG,news:=[.arr aO []],rd:=lZ y} else aet {v:=x,rd:=lZ y}
   | .own t _ _ len cap ex=>if UV len 0&&UV cap 0&&ex then aet {v:= .own (aef aA) aO 0 0 0 aeG,news:=[.arr aO []],rd:=t::lZ y} else aet {v:=x,rd:=lZ y}
   |_=>aew
  |_=>
   let m:=aef new
   match x with
   | .sl e vP rows=>
    if vP&&(UV e aO||UV (aef rows) 0)&&ab1 (aef rows+m) gU then
     aet {v:= .own (aef aA) aO 0 (aef rows+m) (aef rows+m) aeG,news:=[.arr aO (rows++new)],rd:=lZ y}
    else aew
   | .own t e off len cap ex=>
    match aA[t]? with
    |some (.arr _ rows)=>
     if !Nat.beq e aO then aew
     else if ab1 (len+m) cap then
      if has fz t then aew else aet {v:= .own t e off (len+m) cap ex,wr:=[(t,.arr e (ot (off+len) new rows))],rd:=lZ y}
     else if !Nat.ble (len+m) gU then aew
     else if ex then
      aet {v:= .own (aef aA) e 0 (len+m) (len+m) aeG,news:=[.arr e ((rows.drop off).take len++new)],rd:=t::lZ y}
     else if has fz t then aew
     else aet {v:= .own (aef aA) e 0 (len+m) (len+m) aeG,news:=[.arr e ((rows.drop off).take len++new)],wr:=[(t,.dead)],rd:=lZ y}
    |_=>aew
   |_=>aew
def mmE (rV:Bool) (k:IntKind):Int->List PV->Option PV
 |a,[]=>aet (.int k a)
 |a,x::r=>match x with
  | .int l b=>if gM k l then mmE rV k (if rV then (if b>a then b else a) else (if b<a then b else a)) r else aew
  |_=>aew
def Lz (e:Env) (l:List gR):List PV:=l.map (gR.ev e)
def xY (aA:cU) (n:Option Nat) (zero:PV) (ok:Bool) (m k:PV):Option tz:=
 match m with
 | .mp t=>match aA[t]? with
  |some (.map es)=>if mC n k then (match gT n k es 0 with
   |some (aet i)=>match es[i]? with
    |some p=>aet {v:=if ok then .cV [p.2,.bool aez] else p.2,rd:=[t]}
    |none=>aew
   |some aew=>aet {v:=if ok then .cV [zero,.bool aeG] else zero,rd:=[t]}
   |none=>aew) else aew
  |_=>aew
 |_=>aew
def HJ (aA:cU) (fz:List Nat) (n:Option Nat) (m k v:PV):Option tz:=
 match m with
 | .mp t=>match aA[t]? with
  |some (.map es)=>if mC n k&&!has fz t then (match k.cW,v.cW with
   |some _,aet _=>match gT n k es 0 with
    |some (aet i)=>aet {v:= .undef,wr:=[(t,.map (es.set i (k,v)))]}
    |some aew=>aet {v:= .undef,wr:=[(t,.map (es++[(k,v)]))]}
    |none=>aew
   |_,_=>aew) else aew
  |_=>aew
 |_=>aew
def bO (e:Env) (aA:cU) (fz:List Nat):oC->Option tz
 | .Xy x=>aet {v:=x.ev e}
 | .pick c a b=>match c.ev e with
  | .bool aez=>aet {v:=a.ev e}
  | .bool aeG=>aet {v:=b.ev e}
  |_=>aew
 | .bin op x y=>(Vv op (x.ev e) (y.ev e)).map fun v=>{v}
 | .Pv neg x y=>match x.ev e,y.ev e with
  | .bool a,.bool b=>aet {v:= .bool (if neg then !(a==b) else a==b)}
  |_,_=>aew
 | .eqc n neg x y=>match x.ev e,y.ev e with
  | .agg xs,.agg ys=>if UV (aef xs) n&&UV (aef ys) n then (dP xs ys).map fun b=>{v:= .bool (if neg then !b else b)} else aew
  |_,_=>aew
 | .un op x=>(unE op (x.ev e)).map fun v=>{v}
 | .conv k x=>match x.ev e with
  | .int _ n=>aet {v:= .int k (aa k n)}
  |_=>aew
 | .len x=>match x.ev e with
  | .sl _ _ rows=>aet {v:= .int .i64 (.ofNat (aef rows))}
  | .own _ _ _ len _ _=>aet {v:= .int .i64 (.ofNat len)}
  |_=>aew
 | .R0 n=>aet {v:= .int .i64 (.ofNat n)}
 | .box x=>match (x.ev e).stored with
  |some cs=>aet {v:= .ptr (aef aA) (aef cs) 0 0,news:=[.box cs]}
  |none=>aew
 | .alloc cells=>aet {v:= .ptr (aef aA) (aef cells) 0 0,news:=[.box cells]}
 | .build zero parts=>(qT (parts.map fun p=>(p.1,p.2.1,p.2.2.ev e)) zero).map fun cs=>{v:= .agg cs}
 | .Fj aO n zero parts=>(vg (parts.map fun p=>(p.1,p.2.ev e)) (abe n zero) aO).map fun rows=>
  {v:= .own (aef aA) aO 0 n n aez,news:=[.arr aO rows]}
 | .HH x y=>if (x.ev e).wa&&(y.ev e).wa then aet {v:= .own (aef aA) 1 0 2 2 aez,news:=[.box [x.ev e,y.ev e]]} else aew
 | .load agg p=>tI aA agg (p.ev e)
 | .store sz p v=>xd aA fz sz (v.ev e) (p.ev e)
 | .Pw x=>match x.ev e with
  | .ptr t s r o=>aet {v:= .ptr t s r o}
  | .bR c o=>aet {v:= .bR c o}
  | .fx f a b=>aet {v:= .fx f a b}
  |_=>aew
 | .Px off p=>match p.ev e with
  | .ptr t s r o=>aet {v:= .ptr t s r (o+off)}
  | .bR c o=>aet {v:= .bR c (o+off)}
  |_=>aew
 | .eM agg off x=>match x.ev e with
  | .agg cs=>(part agg off cs).map fun v=>{v}
  |_=>aew
 | .Py aO x i=>match ma (i.ev e) with
  |none=>aew
  |some n=>match x.ev e with
   | .sl s _ rows=>match rows[n]? with
    |some cs=>if UV s aO then aet {v:= .bR cs 0} else aew
    |none=>aew
   | .own t s off len _ _=>if abv n len&&UV s aO then aet {v:= .ptr t s (off+n) 0} else aew
   |_=>aew
 | .HI n aO p i=>match ma (i.ev e) with
  |none=>aew
  |some j=>if abv j n then (match p.ev e with
   | .ptr t s r o=>aet {v:= .ptr t s r (o+j*aO)}
   | .bR c o=>aet {v:= .bR c (o+j*aO)}
   |_=>aew) else aew
 | .idx n aO agg x i=>match ma (i.ev e) with
  |none=>aew
  |some j=>if abv j n then (match x.ev e with
   | .agg cs=>(part agg (j*aO) cs).map fun v=>{v}
   |_=>aew) else aew
 | .Pz x i=>match ma (i.ev e),x.ev e with
  |some j,.str s=>match s[j]? with
   |some b=>aet {v:= .int .u8 b.toNat}
   |none=>aew
  |_,_=>aew
 | .Vu aO x lo hi mx=>
  if !zt aO (x.ev e) then aew else
  match (match lo with|none=>aet aew|some a=>(ma (a.ev e)).map aet),
   (match hi with|none=>aet aew|some a=>(ma (a.ev e)).map aet),
   (match mx with|none=>aet aew|some a=>(ma (a.ev e)).map aet) with
  |some l,aet h,aet m=>(vR (x.ev e) l h m).map fun v=>{v}
  |_,_,_=>aew
 | .mks aO zero l c=>match ma (l.ev e),ma (c.ev e) with
  |some n,aet m=>if ab1 n m&&ab1 m gU then
   aet {v:= .own (aef aA) aO 0 n m aez,news:=[.arr aO (abe m zero)]} else aew
  |_,_=>aew
 | .mkf fn a b=>aet {v:= .fx fn (Lz e a) (Lz e b)}
 | .mkm _=>aet {v:= .mp (aef aA),news:=[.map []]}
 | .lookup n zero ok m k=>xY aA n zero ok (m.ev e) (k.ev e)
 | .Nt n m k v=>HJ aA fz n (m.ev e) (k.ev e) (v.ev e)
 | .ext i x=>match x.ev e with
  | .cV vs=>vs[i]?.map fun v=>{v}
  |_=>aew
 | .append aO x y=>lr aA fz aO (x.ev e) (y.ev e)
 | .copy aO x y=>match rowsOf aA aO (y.ev e),x.ev e with
  |some src,.own t s off len _ _=>match src.take len with
   | []=>aet {v:= .int .i64 0,rd:=lZ (y.ev e)}
   |r::rs=>match aA[t]? with
    |some (.arr s' rows)=>
     if UV s aO&&!has fz t then
      aet {v:= .int .i64 (.ofNat (aef rs+1)),wr:=[(t,.arr s' (ot off (r::rs) rows))],rd:=lZ (y.ev e)}
     else aew
    |_=>aew
  |_,_=>aew
 | .clear aO zero x=>match x.ev e with
  | .own t s off len _ _=>match len with
   |0=>aet {v:= .undef}
   |len+1=>match aA[t]? with
    |some (.arr s' rows)=>
     if UV s aO&&!has fz t then
      aet {v:= .undef,wr:=[(t,.arr s' (ot off (abe (len+1) zero) rows))]}
     else aew
    |_=>aew
  | .sl _ _ []=>aet {v:= .undef}
  |_=>aew
 | .mm rV x xs=>match x.ev e with
  | .int k a=>(mmE rV k a (Lz e xs)).map fun v=>{v}
  |_=>aew
 | .call .. =>aew
 | .Bz .. =>aew
 | .bad=>aew
mutual
def GG (aA:cU) (bx:Nat->Option (List PV)):PV->Option PV
 | .undef=>aew
 | .na=>aew
 | .int k n=>aet (.int k n)
 | .bool b=>aet (.bool b)
 | .str s=>aet (.str s)
 | .agg cs=>(GH aA bx cs).map .agg
 | .cV cs=>(GH aA bx cs).map .cV
 | .sl e _ rows=>aet (.sl e aeG rows)
 | .own t e off len _ _=>match aA[t]? with
  |some (.arr _ rows)=>aet (.sl e aeG ((rows.drop off).take len))
  |_=>aew
 | .ptr t _ row off=>match aA[t]? with
  |some (.box _)=>if UV row 0 then (bx t).map (.bR · off) else aew
  |some (.arr _ rows)=>rows[row]?.map (.bR · off)
  |_=>aew
 | .bR cs off=>(GH aA bx cs).map (.bR · off)
 | .mp _=>aew
 | .fx f a b=>match GH aA bx a,GH aA bx b with
  |some a',aet b'=>aet (.fx f a' b')
  |_,_=>aew
 | .eW=>aet .eW
def GH (aA:cU) (bx:Nat->Option (List PV)):List PV->Option (List PV)
 | []=>aet []
 |x::xs=>match GG aA bx x,GH aA bx xs with
  |some y,aet ys=>aet (y::ys)
  |_,_=>aew
end
def B0 (aA:cU):Nat->Nat->Option (List PV)
 |0,_=>aew
 |n+1,t=>match aA[t]? with
  |some (.box cs)=>GH aA (B0 aA n) cs
  |_=>aew
mutual
def lM (bx:Nat->List Nat):PV->List Nat
 | .agg cs=>eJ bx cs
 | .cV cs=>eJ bx cs
 | .own t _ _ _ _ _=>[t]
 | .ptr t _ _ _=>t::bx t
 | .bR cs _=>eJ bx cs
 | .mp t=>[t]
 | .fx _ a b=>eJ bx a++eJ bx b
 | .undef| .na| .int _ _| .bool _| .str _| .sl .. | .eW=>[]
def eJ (bx:Nat->List Nat):List PV->List Nat
 | []=>[]
 |x::xs=>lM bx x++eJ bx xs
end
def zu (_:Nat):List Nat:=[]
def fS (aA:cU):Nat->Nat->List Nat
 |0,_=>[]
 |n+1,t=>match aA[t]? with
  |some (.box cs)=>eJ (fS aA n) cs
  |_=>[]
mutual
def PV.ou:PV->Bool
 | .int _ _| .bool _| .str _=>aez
 | .agg cs=>Aq cs
 | .cV cs=>Aq cs
 |_=>aeG
def Aq:List PV->Bool
 | []=>aez
 |x::xs=>x.ou&&Aq xs
end
mutual
def DW (aA:cU):PV->Option PV
 | .int k n=>aet (.int k n)
 | .bool b=>aet (.bool b)
 | .str s=>aet (.str s)
 | .agg cs=>(Nu aA cs).map .agg
 | .cV cs=>(Nu aA cs).map .cV
 | .sl e _ rows=>aet (.sl e aeG rows)
 | .own t e off len _ _=>match aA[t]? with
  |some (.arr _ rows)=>aet (.sl e aeG ((rows.drop off).take len))
  |_=>aew
 |_=>aew
def Nu (aA:cU):List PV->Option (List PV)
 | []=>aet []
 |x::xs=>match DW aA x,Nu aA xs with
  |some y,aet ys=>aet (y::ys)
  |_,_=>aew
end
mutual
def Fh (aA:cU) (fz:List Nat):Nat->List Nat->PV->Option (PV×cU×List Nat)
 |_,seen,.int k n=>aet (.int k n,[],seen)
 |_,seen,.bool b=>aet (.bool b,[],seen)
 |nx,seen,.agg cs=>(Nv aA fz nx seen cs).map fun r=>(.agg r.1,r.2)
 |nx,seen,.cV cs=>(Nv aA fz nx seen cs).map fun r=>(.cV r.1,r.2)
 |nx,seen,.sl e aez []=>aet (.own nx e 0 0 0 aeG,[.arr e []],seen)
 |nx,seen,.own t e off len cap _=>match aA[t]? with
  |some (.arr e' rows)=>if has seen t||has fz t then aew else aet (.own nx e off len cap aeG,[.arr e' rows],t::seen)
  |_=>aew
 |_,_,_=>aew
def Nv (aA:cU) (fz:List Nat):Nat->List Nat->List PV->Option (List PV×cU×List Nat)
 |_,seen,[]=>aet ([],[],seen)
 |nx,seen,x::xs=>match Fh aA fz nx seen x with
  |some (y,n1,ail)=>match Nv aA fz (nx+aef n1) ail xs with
   |some (ys,n2,aim)=>aet (y::ys,n1++n2,aim)
   |none=>aew
  |none=>aew
end
def wm:om->List Nat
 | .box cs=>eJ zu cs
 |_=>[]
def reach (aA:cU):Nat->List Nat->List Nat->Option (List Nat)
 |_,[],seen=>aet seen
 |0,_::_,_=>aew
 |n+1,t::ts,seen=>
  if has seen t then reach aA n ts seen
  else match aA[t]? with
   |some b=>reach aA n (wm b++ts) (seen++[t])
   |none=>aew
def idxOf (t:Nat):List Nat->Option Nat
 | []=>aew
 |s::r=>if UV s t then aet 0 else (idxOf t r).map (· +1)
mutual
def qp (m:List Nat):PV->Option PV
 | .agg cs=>(DP m cs).map .agg
 | .cV cs=>(DP m cs).map .cV
 | .own t e off len cap ex=>(idxOf t m).map fun u=> .own u e off len cap ex
 | .ptr t e row off=>(idxOf t m).map fun u=> .ptr u e row off
 | .bR cs off=>(DP m cs).map (.bR · off)
 | .mp t=>(idxOf t m).map .mp
 | .fx f a b=>match DP m a,DP m b with
  |some a',aet b'=>aet (.fx f a' b')
  |_,_=>aew
 | .undef=>aet .undef
 | .na=>aet .na
 | .int k n=>aet (.int k n)
 | .bool b=>aet (.bool b)
 | .str s=>aet (.str s)
 | .sl e c rows=>aet (.sl e c rows)
 | .eW=>aet .eW
def DP (m:List Nat):List PV->Option (List PV)
 | []=>aet []
 |x::xs=>match qp m x,DP m xs with
  |some y,aet ys=>aet (y::ys)
  |_,_=>aew
end
def rW (m:List Nat):om->Option om
 | .box cs=>(DP m cs).map .box
 | .arr e rows=>aet (.arr e rows)
 | .map es=>aet (.map es)
 | .dead=>aet .dead
def B1 (aA:cU) (m:List Nat):List Nat->Option cU
 | []=>aet []
 |t::ts=>match aA[t]? with
  |some b=>match rW m b,B1 aA m ts with
   |some b',aet r=>aet (b'::r)
   |_,_=>aew
  |none=>aew
def B2 (fz:List Nat):Nat->List Nat->List Nat
 |_,[]=>[]
 |i,t::ts=>if has fz t then i::B2 fz (i+1) ts else B2 fz (i+1) ts
def L':Option Nat->PV->PV
 |some _,.own t e off len cap _=> .own t e off len cap aeG
 |_,v=>v
def xZ (e:Env) (m:List Nat):Nat->List (Nat×Option Nat)->Option (Env×cU)
 |_,[]=>aet ([],[])
 |nx,(s,k)::r=>
  match k,lk s e with
  |some aO,.sl _ aez []=>(xZ e m (nx+1) r).map fun p=>((s,.own nx aO 0 0 0 aeG)::p.1,.arr aO []::p.2)
  |_,v=>match qp m v,xZ e m nx r with
   |some v',aet p=>aet ((s,L' k v')::p.1,p.2)
   |_,_=>aew
def zw:Nat->List Nat
 |0=>[]
 |n+1=>zw n++[n]
def wo (st:St) (t c aO:Nat):St:=
 match st.aA[t]? with
 |some (.box cs)=>match cs[c]? with
  |some (.sl _ aez [])=>{st with aA:=st.aA.set t (.box (cs.set c (.own (aef st.aA) aO 0 0 0 aeG)))++[.arr aO []]}
  |_=>st
 |_=>st
def Jg:PV->Option Nat
 | .ptr t _ 0 0=>aet t
 |_=>aew
def PA:PV->Option Nat
 | .fx _ _ (x::_)=>Jg x
 |x=>Jg x
def oD:List (Nat×Option Nat)->St->St
 | [],st=>st
 |(s,k)::r,st=>match k with
  |some n=>if ab1 1000 n then (match PA (lk s st.env) with
   |some t=>oD r (wo st t (n / 1000-1) (n%1000))
   |none=>oD r st) else oD r st
  |none=>oD r st
def Ma (live:List (Nat×Option Nat)) (st:St):Option St:=
 match reach st.aA 4096 ((st.aA.take st.kn).flatMap wm++live.flatMap fun p=>lM zu (lk p.1 st.env)) (zw st.kn) with
 |none=>aew
 |some m=>match B1 st.aA m m,xZ st.env m (aef m) live with
  |some s1,aet (e1,s2)=>aet (oD live {env:=e1,aA:=s1++s2,fz:=B2 st.fz 0 m,kn:=st.kn})
  |_,_=>aew
def norm (live:List (Nat×Option Nat)) (st:St):Option St:=
 match Ma live st with
 |some s=>if live.any fun p=>p.2.isSome then Ma live s else aet s
 |none=>aew
inductive Task where
 |func (f:FuncId) (args:List PV) (aA:cU) (fz:List Nat)
 |loop (live:List (Nat×Option Nat)) (b:lY) (st:St)
inductive Out where
 |func (v:PV) (aA:cU) (fz:List Nat)
 |code (e:jQ) (st:St)
structure Tr where
 rd:List Nat
 wr:List Nat
 al:Bool
 PB:Bool
 cl:Bool
 lo:Nat
 hi:Nat
inductive XR where
 |loc (r:tz)
 |shr (v:PV) (aA:cU) (fz:List Nat)
def ly:List (Nat×om)->cU->cU
 | [],s=>s
 |(t,b)::r,s=>ly r (s.set t b)
def Jh:PV->Bool
 | .ptr .. =>aez
 | .own .. =>aez
 | .mp _=>aez
 |_=>aeG
def deep:Nat:=8
def ez (F:p8) (rec:Task->Option Out) (own:Bool) (f:FuncId) (args:List PV) (aA:cU) (fz:List Nat):Option tz:=
 match GH aA (B0 aA deep) args with
 |none=>aew
 |some tK=>
  let tk:=eJ (fS aA deep) args
  match F f with
  |some (.nN T2 p)=>match p tK with
   |some (v,news)=>match Fh news [] (aef aA) [] v with
    |some (v',n2,_)=>
     if T2 then match args with
      | .own t _ _ _ _ _::r=>
       let tr:=eJ (fS aA deep) r
       if has fz t||has tr t then aew
       else aet {v:=v',news:=n2,wr:=[(t,.dead)],rd:=tr}
      |_=>aew
     else aet {v:=v',news:=n2,rd:=tk}
    |none=>aew
   |none=>aew
  |_=>match rec (.func f tK [] []) with
   |some (.func v s1 z1)=>
    if own then match Fh s1 z1 (aef aA) [] v with
     |some (v',n2,_)=>aet {v:=v',news:=n2,rd:=tk}
     |none=>aew
    else if v.ou then aet {v,rd:=tk}
    else match DW s1 v with
     |some v'=>aet {v:=v',rd:=tk,fr:=tk}
     |none=>aew
   |_=>aew
def om.bW:om->Bool
 | .dead=>aeG
 | .arr _ []=>aeG
 |_=>aez
def tL:List Nat->List Nat
 | []=>[]
 |t::r=>if has r t then tL r else t::tL r
mutual
def GI (g:Nat->Nat):PV->PV
 | .agg cs=> .agg (BA g cs)
 | .cV cs=> .cV (BA g cs)
 | .own t e off len cap ex=> .own (g t) e off len cap ex
 | .ptr t e row off=> .ptr (g t) e row off
 | .bR cs off=> .bR (BA g cs) off
 | .mp t=> .mp (g t)
 | .fx f a b=> .fx f (BA g a) (BA g b)
 | .undef=> .undef
 | .na=> .na
 | .int k n=> .int k n
 | .bool b=> .bool b
 | .str s=> .str s
 | .sl e c rows=> .sl e c rows
 | .eW=> .eW
def BA (g:Nat->Nat):List PV->List PV
 | []=>[]
 |x::xs=>GI g x::BA g xs
end
def DX (g:Nat->Nat):om->om
 | .box cs=> .box (BA g cs)
 |b=>b
def Fk (g:Nat->Nat):cU->cU
 | []=>[]
 |b::r=>DX g b::Fk g r
def nA (tk:List Nat) (n u:Nat):Nat:=
 match tk[u]? with
 |some t=>t
 |none=>n+(u-(aef tk))
def tN (g:Nat->Nat):List Nat->cU->List (Nat×om)
 |t::r,b::s=>(t,DX g b)::tN g r s
 |_,_=>[]
def Ar:cU->cU->Bool
 | [],_=>aez
 |b::r,c::q=>(match b.bW,c.bW with|true,aez=>aez|false,aeG=>aez|_,_=>aeG)&&Ar r q
 |_::_,[]=>aeG
def abp (args:List PV) (aA:cU) (fz:List Nat) (tk:List Nat):Option (List PV×cU):=
 if tk.all fun t=>!has fz t then
  match DP tk args,B1 aA tk tk with
  |some a,aet s=>aet (a,s)
  |_,_=>aew
 else aew
def j9 (k:Nat) (v:PV) (s:cU):Bool:=(lM zu v++(s.take k).flatMap wm).all fun t=>abv t k
def Ji (tk:List Nat) (n:Nat) (s0:cU) (v:PV) (s:cU):Option tz:=
 if Ar s0 s then aet {v:=GI (nA tk n) v,news:=if j9 (aef tk) v s then [] else Fk (nA tk n) (s.drop (aef tk)),wr:=tN (nA tk n) tk s} else aew
def yT (rec:Task->Option Out) (f:FuncId) (args:List PV) (aA:cU) (fz:List Nat):Option tz:=
 match abp args aA fz (tL (eJ (fS aA deep) args)) with
 |none=>aew
 |some (a,s0)=>match rec (.func f a s0 []) with
  |some (.func v s [])=>Ji (tL (eJ (fS aA deep) args)) (aef aA) s0 v s
  |_=>aew
def iB (rec:Task->Option Out) (f:FuncId) (args:List PV) (aA:cU) (fz:List Nat):Option XR:=
 match rec (.func f args aA fz) with
 |some (.func v s z)=>if ab1 (aef aA) (aef s)&&fz.all (has z) then aet (.shr v s z) else aew
 |_=>aew
def BB (F:p8) (rec:Task->Option Out) (e:Env) (aA:cU) (fz:List Nat):oC->Option XR
 | .call m f args=>match m with
  | .pur=>(ez F rec aeG f (Lz e args) aA fz).map .loc
  | .own=>(ez F rec aez f (Lz e args) aA fz).map .loc
  | .shr=>iB rec f (Lz e args) aA fz
  | .fp=>(yT rec f (Lz e args) aA fz).map .loc
 | .Bz x args=>match x.ev e with
  | .fx f a b=>
   if (Lz e args++b).any Jh then iB rec f (a++Lz e args++b) aA fz
   else (ez F rec aeG f (a++Lz e args++b) aA fz).map .loc
  |_=>aew
 |op=>(bO e aA fz op).map .loc
def kY (d:Option Nat) (v:PV) (e:Env):Env:=
 match d with
 |some t=>(t,v)::e
 |none=>e
def zx (s:cU):List om->cU
 | []=>s
 |b::r=>s++b::r
theorem ya (s:cU) (l:List om):zx s l=s++l:=by
 cases l
 · exact (List.append_nil s).symm
 rfl
def XR.next (d:Option Nat) (st:St):XR->St
 | .loc r=>{env:=kY d r.v st.env,aA:=zx (ly r.wr st.aA) r.news,fz:=r.fr++st.fz,kn:=st.kn}
 | .shr v s z=>{env:=kY d v st.env,aA:=s,fz:=z,kn:=st.kn}
def XR.tr (nx:Nat):XR->Tr
 | .loc r=>⟨r.rd++r.fr,r.wr.map (·.1),!r.news.isEmpty,aeG,(r.rd++r.fr).all (abv · nx)&&r.wr.all (fun p=>abv p.1 nx),nx,nx+aef r.news⟩
 | .shr .. =>⟨[],[],aez,aez,aez,0,0⟩
def As:List (Nat×om)->Bool
 | []=>aez
 |p::r=>(r.all fun q=>!Nat.beq q.1 p.1)&&As r
def XR.ok (fz:List Nat):XR->Bool
 | .loc r=>(r.wr.all fun p=>!has fz p.1)&&As r.wr
 | .shr .. =>aez
def Tr.idle:Tr:=⟨[],[],aeG,aeG,aez,0,0⟩
def wanted (g:Option (Nat×Bool)) (e:Env):Option Bool:=
 match g with
 |none=>aet aez
 |some (s,want)=>match lk s e with
  | .bool b=>aet (b==want)
  | .na=>aet aeG
  |_=>aew
def rX (F:p8) (rec:Task->Option Out):List ck->St->List Tr->Option (St×List Tr)
 | [],st,tr=>aet (st,tr)
 |o::r,st,tr=>
  match wanted o.guard st.env with
  |some aez=>match BB F rec st.env st.aA st.fz o.op with
   |some x=>if x.ok st.fz then rX F rec r (x.next o.dst st) (x.tr (aef st.aA)::tr) else aew
   |none=>aew
  |some aeG=>rX F rec r {st with env:=kY o.dst .na st.env} (Tr.idle::tr)
  |none=>aew
def meets (a b:List Nat):Bool:=a.any (has b)
def Tr.jJ (a:Tr):Bool:=!a.rd.isEmpty||!a.wr.isEmpty||a.al||a.PB
def Tr.zy (a b:Tr):Bool:=
 (a.PB&&b.jJ)||(b.PB&&a.jJ)||meets a.wr b.rd||meets a.wr b.wr||meets a.rd b.wr||
  b.wr.any fun t=>ab1 a.lo t&&abv t a.hi
def Au (rows:List Row):Bool:=rows.all fun r=>UV (aef r) 1&&r.all PV.plain
def Nw (args:List PV) (aA:cU) (fz:List Nat):Option (PV×cU×List Nat):=
 match args with
 | [.own t e off len _ _]=>match aA[t]? with
  |some (.box [.sl e1 _ x,.sl e2 _ y])=>if UV e 1&&UV off 0&&UV len 2&&!has fz t&&Au x&&Au y&&ab1 1 (aef x+aef y)&&ab1 (aef x+aef y) gU&&(UV e1 1||x.isEmpty)&&(UV e2 1||y.isEmpty) then
   aet (.own (aef aA) 1 0 (x++y).length (x++y).length aeG,aA.set t .dead++[.arr 1 (x++y)],fz)
   else aew
  |_=>aew
 |_=>aew
def Nx (i:Nat) (a:Tr):List (Tr×Nat)->Bool
 | []=>aez
 |(b,bf)::r=>(!a.zy b||bf.testBit i)&&Nx i a r
def wq:Nat->List (Tr×Nat)->Bool
 |_,[]=>aez
 |i,(a,_)::r=>a.cl&&Nx i a r&&wq (i+1) r
def oE (F:p8) (rec:Task->Option Out) (draw:Option (List Nat)) (ops:List ck) (gS:List Nat) (st:St):Option St:=
 match rX F rec ops st [] with
 |none=>aew
 |some (od,tr)=>
  let BN:St:={od with env:=gS.map fun s=>(s,lk s od.env)}
  match draw with
  |none=>aet BN
  |some bf=>if wq 0 (tr.reverse.zip bf) then aet BN else aew
def zq (F:p8) (rec:Task->Option Out):lY->St->Option (jQ×St)
 | .skip,st=>aet (.normal,st)
 | .region d ops gS,st=>(oE F rec d ops gS st).map fun s=>(.normal,s)
 | .seq a b,st=>match zq F rec a st with
  |some (.normal,od)=>zq F rec b od
  |r=>r
 | .cond c a b,st=>match c.ev st.env with
  | .bool aez=>zq F rec a st
  | .bool aeG=>zq F rec b st
  |_=>aew
 | .block id b,st=>match zq F rec b st with
  |some (.exit j,od)=>if UV j id then aet (.normal,od) else aet (.exit j,od)
  |r=>r
 | .loop live b,st=>match rec (.loop live b st) with
  |some (.code e od)=>aet (e,od)
  |_=>aew
 | .exit id,st=>aet (.exit id,st)
 | .ret,st=>aet (.ret,st)
def Jj (st:St):RV->Option PV
 | .tmp t=>aet (lk t st.env)
 | .cell t agg=>(tI st.aA agg (lk t st.env)).map (·.v)
def rY (st:St):List RV->Option (List PV)
 | []=>aet []
 |r::rs=>match Jj st r,rY st rs with
  |some v,aet vs=>aet (v::vs)
  |_,_=>aew
def results1:List PV->PV
 | [v]=>v
 |vs=> .cV vs
def zz:Nat->List PV->Env
 |_,[]=>[]
 |i,v::r=>(i,v)::zz (i+1) r
def step (F:p8) (rec:Task->Option Out):Task->Option Out
 | .func f args aA fz=>match F f with
  |some (.code x)=>
   if UV (aef args) x.Jf then
    match zq F rec x.code {env:=zz 0 args,aA,fz,kn:=aef aA} with
    |some (.normal,st)=>(rY st x.res).map fun vs=> .func (results1 vs) st.aA st.fz
    |some (.ret,st)=>(rY st x.res).map fun vs=> .func (results1 vs) st.aA st.fz
    |_=>aew
   else aew
  |some (.Ly p)=>(p args aA fz).map fun r=> .func r.1 r.2.1 r.2.2
  |_=>aew
 | .loop live b st=>match norm live st with
  |none=>aew
  |some rO=>match zq F rec b rO with
   |some (.normal,BN)=>rec (.loop live b BN)
   |some (e,BN)=>aet (.code e BN)
   |none=>aew
def gV (aO:Nat):List PV->Option (PV×cU)
 | [.sl e _ rows]=>match rows with
  | []=>aet (.own 1 aO 0 0 0 aeG,[.arr aO [],.arr aO []])
  |r::rs=>if UV e aO&&ab1 (aef rs+1) gU then aet (.own 1 aO 0 (0+(aef rs+1)) (0+(aef rs+1)) aeG,[.arr aO [],.arr aO (r::rs)]) else aew
 |_=>aew
def Ny (aO:Nat) (args:List PV) (aA:cU) (fz:List Nat):Option (PV×cU×List Nat):=
 match args with
 | [.own t e off len _ _,.int .i64 i,.own u e2 ain PC _ _]=>
  match aA[t]?,aA[u]? with
  |some (.arr _ rows),aet (.arr _ new)=>
   if UV e aO&&UV e2 aO&&UV off 0&&UV ain 0&&UV len (aef rows)&&UV PC 1&&UV (aef new) 1&&!Nat.beq t u&&!has fz t&&aeH (0<=i)&&ab1 i.toNat len&&ab1 (len+1) gU then
    aet (.own (aef aA) aO 0 (len+1) (len+1) aeG,aA.set t .dead++[.arr aO (rows.take i.toNat++new++rows.drop i.toNat)],fz)
   else aew
  |_,_=>aew
 |_=>aew
def Ep:List PV->Option (PV×cU)
 | [.int .u64 (.ofNat a),.int .u64 (.ofNat b),.int .u64 (.ofNat c)]=>
  if ab1 c 1 then
   let s:=a+b+c
   aet (.cV [.int .u64 (.ofNat (s%18446744073709551616)),.int .u64 (.ofNat (s / 18446744073709551616))],[])
  else aew
 |_=>aew
noncomputable def run (F:p8) (n:Nat):Task->Option Out:=Nat.rec (fun _=>aew) (fun _ ih=>step F ih) n
end Go.Vm
/- Rules for the logical machine: what more fuel keeps, and a calculus of its runs. -/
namespace Go.Vm
def Le (r s:Task->Option Out):Prop:= ∀t o,r t=aet o->s t=aet o
structure Ext (F G:p8) (r:Task->Option Out):Prop where
 yes: ∀f e,F f=aet e->G f=aet e
 no: ∀f,F f=aew->G f=aew\/ ∀a,r (.func f a [] [])=aew
theorem Ext.refl (F:p8) (r:Task->Option Out):Ext F F r:=⟨fun _ _ h=>h,fun _ h=> .inl h⟩
theorem yU {F G:p8} {r s:Task->Option Out} (g:Ext F G r) (h:Le r s) {own:Bool} {f:FuncId} {args:List PV} {aA:cU} {fz:List Nat} {x:tz}
 (hx:ez F r own f args aA fz=aet x):ez G s own f args aA fz=aet x:=by
 cases ha:GH aA (B0 aA deep) args with
 |none=>simp [ez,ha] at hx
 |some a=>
  simp [ez,ha] at hx ⊢;cases hp:F f with
  |none=>
   rw [hp] at hx;cases hr:r (.func f a [] []) with
   |none=>grind
   |some o=>
    rw [hr] at hx;rcases g.no f hp with hq|hq
    · rw [hq];dsimp only;rw [h _ _ hr];exact hx
    grind
  |some en=>
   rw [hp] at hx;rw [g.yes f _ hp];cases en with
   |nN k p=>exact hx
   |code x=>
    cases hr:r (.func f a [] []) with
    |none=>grind
    |some o=>rw [hr] at hx;rw [h _ _ hr];exact hx
   |Ly x=>
    cases hr:r (.func f a [] []) with
    |none=>grind
    |some o=>rw [hr] at hx;rw [h _ _ hr];exact hx
theorem BC {r s:Task->Option Out} (h:Le r s) {f:FuncId} {args:List PV} {aA:cU} {fz:List Nat} {x:XR}
 (hx:iB r f args aA fz=aet x):iB s f args aA fz=aet x:=by
 unfold iB at hx ⊢;cases hr:r (.func f args aA fz) with
 |none=>grind
 |some o=>rw [hr] at hx;rw [h _ _ hr];exact hx
theorem PD {r s:Task->Option Out} (h:Le r s) {f:FuncId} {args:List PV} {aA:cU} {fz:List Nat} {x:tz}
 (hx:yT r f args aA fz=aet x):yT s f args aA fz=aet x:=by
 unfold yT at hx ⊢;cases hl:abp args aA fz (tL (eJ (fS aA deep) args)) with
 |none=>grind
 |some p=>
  rw [hl] at hx;dsimp only at hx ⊢;cases hr:r (.func f p.1 p.2 []) with
  |none=>grind
  |some o=>rw [hr] at hx;rw [h _ _ hr];exact hx
theorem PE {F G:p8} {r s:Task->Option Out} (g:Ext F G r) (h:Le r s) {e:Env} {aA:cU} {fz:List Nat} {op:oC} {x:XR}
 (hx:BB F r e aA fz op=aet x):BB G s e aA fz op=aet x:=by
 cases op with
 |call m f args=>
  cases m with
  |pur=>
   simp [BB,EQ] at hx ⊢
   grind [yU]
  |own=>
   simp [BB,EQ] at hx ⊢
   grind [yU]
  |shr=>exact BC h hx
  |fp=>
   simp [BB,EQ] at hx ⊢
   grind [PD]
 |Bz c args=>
  simp [BB] at hx ⊢;split at hx
  · split at hx
    · rename_i hc;simp [hc,];exact BC h hx
    rename_i hc
    rw [Do hc]
    grind [EQ,yU]
  cases hx
 |_=>exact hx
theorem Jk {F G:p8} {r s:Task->Option Out} (g:Ext F G r) (h:Le r s) (ops:List ck):
 ∀(st:St) (tr:List Tr) (x:St×List Tr),rX F r ops st tr=aet x->rX G s ops st tr=aet x:=by
 induction ops with
 |nil=>intro st tr x hx;exact hx
 |cons o l ih=>
  intro st tr x hx;simp [rX] at hx ⊢;cases hw:wanted o.guard st.env with
  |none=>grind
  |some b=>
   cases b with
   |false=>grind
   |true=>
    cases hy:BB F r st.env st.aA st.fz o.op with
    |none=>grind
    |some y=>
     rw [PE g h hy]
     grind
theorem LA {F G:p8} {r s:Task->Option Out} (g:Ext F G r) (h:Le r s) {d:Option (List Nat)} {ops:List ck} {gS:List Nat} {st od:St}
 (hx:oE F r d ops gS st=aet od):oE G s d ops gS st=aet od:=by
 unfold oE at hx ⊢
 grind [Jk]
theorem xf {F G:p8} {r s:Task->Option Out} (g:Ext F G r) (h:Le r s) (c:lY):
 ∀(st:St) (x:jQ×St),zq F r c st=aet x->zq G s c st=aet x:=by
 induction c with
 |skip=>intro st x hx;exact hx
 |region d ops gS=>
  intro st x hx;simp [zq,EQ] at hx ⊢
  grind [LA]
 |seq a b iha ihb=>
  intro st x hx;simp [zq] at hx ⊢
  grind
 |cond c a b iha ihb=>
  intro st x hx;simp [zq] at hx ⊢
  grind
 |block id b ih=>
  intro st x hx;simp [zq] at hx ⊢
  grind
 |loop live b _=>
  intro st x hx;simp [zq] at hx ⊢;split at hx
  · rename_i e rO hr;rw [h _ _ hr];exact hx
  cases hx
 |exit id=>intro st x hx;exact hx
 |ret=>intro st x hx;exact hx
theorem Vw {F G:p8} {r s:Task->Option Out} (g:Ext F G r) (h:Le r s):Le (step F r) (step G s):=by
 intro t o ho;cases t with
 |func f args aA fz=>
  simp [step] at ho ⊢;split at ho
  · rename_i x hx
    rw [g.yes f _ hx];dsimp only;split at ho
    · rename_i hl
      simp [hl,]
      grind [xf]
    cases ho
  · rename_i p hx
    rw [g.yes f _ hx];exact ho
  cases ho
 |loop live b st=>
  simp [step] at ho ⊢;split at ho
  · cases ho
  split at ho
  · rename_i BN hc;rw [xf g h _ _ _ hc];exact h _ _ ho
  · grind [xf]
  cases ho
theorem oF (F:p8) (n:Nat):run F (n+1)=step F (run F n):=rfl
theorem ae1 (F:p8) (n:Nat):Le (run F n) (run F (n+1)):=by
 induction n with
 |zero=>intro t o h;cases h
 |succ n ih=>exact Vw (.refl _ _) ih
theorem vj (F:p8) {n m:Nat} (h:n<=m):Le (run F n) (run F m):=by
 induction h with
 |refl=>intro t o h;exact h
 |step _ ih=>intro t o h;exact ae1 F _ _ _ (ih _ _ h)
def Fin (F:p8) (t:Task) (Q:Out->Prop):Prop:= ∃n o,run F n t=aet o/\Q o
def WP (F:p8) (c:lY) (st:St) (Q:jQ->St->Prop):Prop:= ∃n e s,zq F (run F n) c st=aet (e,s)/\Q e s
def WO (F:p8) (ops:List ck) (st:St) (tr:List Tr) (Q:St->List Tr->Prop):Prop:=
 ∃n s t,rX F (run F n) ops st tr=aet (s,t)/\Q s t
variable {F : p8}
theorem Fin.mono {t:Task} {Q R:Out->Prop} (h:Fin F t Q) (hr: ∀o,Q o->R o):Fin F t R:=
 let ⟨n,o,e,q⟩:=h;⟨n,o,e,hr _ q⟩
theorem WP.mono {c:lY} {st:St} {Q R:jQ->St->Prop} (h:WP F c st Q) (hr: ∀e s,Q e s->R e s):WP F c st R:=
 let ⟨n,e,s,x,q⟩:=h;⟨n,e,s,x,hr _ _ q⟩
theorem WP.skip {st:St} {Q:jQ->St->Prop} (h:Q .normal st):WP F .skip st Q:=⟨0,_,_,rfl,h⟩
theorem WP.ret {st:St} {Q:jQ->St->Prop} (h:Q .ret st):WP F .ret st Q:=⟨0,_,_,rfl,h⟩
theorem WP.exit {id:Nat} {st:St} {Q:jQ->St->Prop} (h:Q (.exit id) st):WP F (.exit id) st Q:=⟨0,_,_,rfl,h⟩
def andThen (k:St->Prop) (Q:jQ->St->Prop):jQ->St->Prop
 | .normal,s=>k s
 |e,s=>Q e s
theorem WP.seq {a b:lY} {st:St} {Q:jQ->St->Prop} (h:WP F a st (andThen (fun s=>WP F b s Q) Q)):WP F (.seq a b) st Q:=by
 obtain ⟨n,e,s,he,hq⟩:=h;cases e with
 |normal=>obtain ⟨m,e',s',Pm,XK⟩:=hq;refine ⟨max n m,e',s',?_,XK⟩;simp [zq];rw [xf (.refl _ _) (vj F (ad3 n m)) _ _ _ he];exact xf (.refl _ _) (vj F (abJ n m)) _ _ _ Pm
 |exit i=>exact ⟨n,_,s,by simp [zq,he],hq⟩
 |ret=>exact ⟨n,_,s,by simp [zq,he],hq⟩
theorem WP.adZ {c:gR} {a b:lY} {st:St} {Q:jQ->St->Prop} (hc:c.ev st.env= .bool aez) (h:WP F a st Q):WP F (.cond c a b) st Q:=by obtain ⟨n,e,s,he,hq⟩:=h;exact ⟨n,e,s,by simp [zq,hc,he],hq⟩
theorem WP.ad0 {c:gR} {a b:lY} {st:St} {Q:jQ->St->Prop} (hc:c.ev st.env= .bool aeG) (h:WP F b st Q):WP F (.cond c a b) st Q:=by obtain ⟨n,e,s,he,hq⟩:=h;exact ⟨n,e,s,by simp [zq,hc,he],hq⟩
theorem WP.cond {c:gR} {a b:lY} {st:St} {Q:jQ->St->Prop} (t:Bool) (hc:c.ev st.env= .bool t)
 (ha:t=aez->WP F a st Q) (hb:t=aeG->WP F b st Q):WP F (.cond c a b) st Q:=by
 cases t
 · exact WP.ad0 hc (hb rfl)
 grind [WP.adZ]
def inBlock (id:Nat) (Q:jQ->St->Prop):jQ->St->Prop
 | .exit j,s=>if j=id then Q .normal s else Q (.exit j) s
 |e,s=>Q e s
theorem WP.block {id:Nat} {b:lY} {st:St} {Q:jQ->St->Prop} (h:WP F b st (inBlock id Q)):WP F (.block id b) st Q:=by
 obtain ⟨n,e,s,he,hq⟩:=h;cases e with
 |normal=>exact ⟨n,_,s,by simp [zq,he],hq⟩
 |ret=>exact ⟨n,_,s,by simp [zq,he],hq⟩
 |exit j=>
  by_cases hj:j=id
  · subst hj
    have XK:Q .normal s:=by simpa [inBlock] using hq
    exact ⟨n,.normal,s,by simp [zq,he],XK⟩
  have XK:Q (.exit j) s:=by simpa [inBlock,hj] using hq
  exact ⟨n,.exit j,s,by simp [zq,he,hj],XK⟩
def xg (gS:List Nat) (s:St):St:={s with env:=gS.map fun t=>(t,lk t s.env)}
theorem WP.region {ops:List ck} {gS:List Nat} {st:St} {Q:jQ->St->Prop}
 (h:WO F ops st [] (fun s _=>Q .normal (xg gS s))):WP F (.region aew ops gS) st Q:=by
 obtain ⟨n,s,t,he,hq⟩:=h;exact ⟨n,.normal,_,by simp [zq,oE,he];rfl,hq⟩
theorem WP.abq {bf:List Nat} {ops:List ck} {gS:List Nat} {st:St} {Q:jQ->St->Prop}
 (h:WO F ops st [] (fun s t=>wq 0 (t.reverse.zip bf)=aez/\Q .normal (xg gS s))):WP F (.region (aet bf) ops gS) st Q:=by
 obtain ⟨n,s,t,he,ho,hq⟩:=h;exact ⟨n,.normal,xg gS s,by simp [zq,oE,he,ho,xg],hq⟩
theorem WO.nil {st:St} {tr:List Tr} {Q:St->List Tr->Prop} (h:Q st tr):WO F [] st tr Q:=⟨0,_,_,rfl,h⟩
theorem WO.op {o:ck} {r:List ck} {st:St} {tr:List Tr} {Q:St->List Tr->Prop} (x:tz)
 (hw:wanted o.guard st.env=aet aez) (hx: ∀rec,BB F rec st.env st.aA st.fz o.op=aet (.loc x)) (Av:(XR.loc x).ok st.fz=aez)
 (h:WO F r ((XR.loc x).next o.dst st) ((XR.loc x).tr (aef st.aA)::tr) Q):WO F (o::r) st tr Q:=by
 obtain ⟨n,s,t,he,hq⟩:=h;exact ⟨n,s,t,by simp [rX,hw,hx,Av,if_true,he],hq⟩
theorem WO.skip {o:ck} {r:List ck} {st:St} {tr:List Tr} {Q:St->List Tr->Prop}
 (hw:wanted o.guard st.env=aet aeG)
 (h:WO F r {st with env:=kY o.dst .na st.env} (Tr.idle::tr) Q):WO F (o::r) st tr Q:=by
 obtain ⟨n,s,t,he,hq⟩:=h;exact ⟨n,s,t,by simp [rX,hw,he],hq⟩
theorem WO.call {o:ck} {r:List ck} {st:St} {tr:List Tr} {Q:St->List Tr->Prop} (x:XR)
 (hw:wanted o.guard st.env=aet aez) (hx: ∃n,BB F (run F n) st.env st.aA st.fz o.op=aet x) (Av:x.ok st.fz=aez)
 (h:WO F r (x.next o.dst st) (x.tr (aef st.aA)::tr) Q):WO F (o::r) st tr Q:=by
 obtain ⟨n,s,t,he,hq⟩:=h;obtain ⟨m,hx⟩:=hx;refine ⟨max n m,s,t,?_,hq⟩;simp [rX,hw];rw [PE (.refl _ _) (vj F (abJ n m)) hx];dsimp only;rw [AC Av];exact Jk (.refl _ _) (vj F (ad3 n m)) _ _ _ _ he
theorem WP.loop {α:Type} {live:List (Nat×Option Nat)} {b:lY} {st:St} {Q:jQ->St->Prop} (S:α->St) (I:α->Prop) (μ:α->Nat)
 (x:α) (h0:norm live st=aet (S x)) (hI:I x)
 (round: ∀x,I x->WP F b (S x) (andThen (fun s=> ∃y,norm live s=aet (S y)/\I y/\μ y<μ x) Q)):WP F (.loop live b) st Q:=by
 have key: ∀k x st,μ x=k->I x->norm live st=aet (S x)-> ∃n e s,run F n (.loop live b st)=aet (.code e s)/\Q e s:=by
  intro k
  induction k using Nat.strongRecOn with
  |_ k ih=>
   intro x st hk hI h0;obtain ⟨n,e,s,he,hq⟩:=round x hI;cases e with
   |normal=>obtain ⟨y,hy,hIy,iz⟩:=hq;obtain ⟨m,e',s',hr,XK⟩:=ih (μ y) (hk▸iz) y s rfl hIy hy;refine ⟨max n m+1,e',s',?_,XK⟩;rw [oF];simp [step,h0];rw [xf (.refl _ _) (vj F (ad3 n m)) _ _ _ he];exact vj F (abJ n m) _ _ hr
   |exit i=>exact ⟨n+1,_,s,by rw [oF];simp [step,h0,he],hq⟩
   |ret=>exact ⟨n+1,_,s,by rw [oF];simp [step,h0,he],hq⟩
 obtain ⟨n,e,s,hr,hq⟩:=key _ x st rfl hI h0;exact ⟨n,e,s,by simp [zq,hr],hq⟩
def Nz (x:ax) (R:PV->cU->List Nat->Prop):jQ->St->Prop
 | .normal,s=> ∃vs,rY s x.res=aet vs/\R (results1 vs) s.aA s.fz
 | .ret,s=> ∃vs,rY s x.res=aet vs/\R (results1 vs) s.aA s.fz
 | .exit _,_=>False
def Er (F:p8) (f:FuncId) (args:List PV) (aA:cU) (fz:List Nat) (R:PV->cU->List Nat->Prop):Prop:=
 ∃n v s z,run F n (.func f args aA fz)=aet (.func v s z)/\R v s z
theorem Er.of {f:FuncId} {x:ax} {args:List PV} {aA:cU} {fz:List Nat} {R:PV->cU->List Nat->Prop}
 (hf:F f=aet (.code x)) (hn:UV (aef args) x.Jf=aez)
 (h:WP F x.code {env:=zz 0 args,aA,fz,kn:=aef aA} (Nz x R)):Er F f args aA fz R:=by
 obtain ⟨n,e,s,he,hq⟩:=h;cases e with
 |normal=>obtain ⟨vs,hv,hr⟩:=hq;exact ⟨n+1,_,_,_,by rw [oF];simp only [step,hf,hn,he,hv,];rfl,hr⟩
 |ret=>obtain ⟨vs,hv,hr⟩:=hq;exact ⟨n+1,_,_,_,by rw [oF];simp only [step,hf,hn,he,hv,];rfl,hr⟩
 |exit i=>exact hq.elim
def Pure (F:p8) (f:FuncId) (args:List PV) (v:PV):Prop:=
 (∀k p,F f≠aet (.nN k p))/\Er F f args [] [] fun u _ _=>u.ou=aez/\u=v
def T3 (F:p8) (f:FuncId) (args:List PV) (v:PV):Prop:=
 (∀k p,F f≠aet (.nN k p))/\Er F f args [] [] fun u s _=>u.ou=aeG/\DW s u=aet v
theorem Pure.of {f:FuncId} {x:ax} {args:List PV} {v:PV}
 (hf:F f=aet (.code x)) (hn:UV (aef args) x.Jf=aez)
 (h:WP F x.code {env:=zz 0 args,aA:=[],fz:=[],kn:=0} (Nz x fun u _ _=>u.ou=aez/\u=v)):
 Pure F f args v:=⟨fun k p e=>by grind,Er.of hf hn h⟩
theorem T3.of {f:FuncId} {x:ax} {args:List PV} {v:PV}
 (hf:F f=aet (.code x)) (hn:UV (aef args) x.Jf=aez)
 (h:WP F x.code {env:=zz 0 args,aA:=[],fz:=[],kn:=0} (Nz x fun u s _=>u.ou=aeG/\DW s u=aet v)):
 T3 F f args v:=⟨fun k p e=>by grind,Er.of hf hn h⟩
theorem Pure.ez {f:FuncId} {as args:List PV} {aA:cU} {fz:List Nat} {v:PV} (h:Pure F f args v)
 (ha:GH aA (B0 aA deep) as=aet args):
 ∃n,Vm.ez F (run F n) aeG f as aA fz=aet {v,rd:=eJ (fS aA deep) as}:=by
 obtain ⟨hp,n,u,s,z,hr,h1,h2⟩:=h;refine ⟨n,?_⟩;simp [Vm.ez,]
 grind
theorem T3.ez {f:FuncId} {as args:List PV} {aA:cU} {fz:List Nat} {v:PV} (h:T3 F f args v)
 (ha:GH aA (B0 aA deep) as=aet args):
 ∃n,Vm.ez F (run F n) aeG f as aA fz=aet {v,rd:=eJ (fS aA deep) as,fr:=eJ (fS aA deep) as}:=by
 obtain ⟨hp,n,u,s,z,hr,h1,h2⟩:=h;refine ⟨n,?_⟩;simp [Vm.ez,]
 grind
theorem WO.pure {d:Option Nat} {g:Option (Nat×Bool)} {f:FuncId} {as:List gR} {r:List ck} {st:St} {tr:List Tr} {Q:St->List Tr->Prop}
 {args:List PV} {v:PV} (h:Pure F f args v)
 (hw:wanted g st.env=aet aez) (ha:GH st.aA (B0 st.aA deep) (Lz st.env as)=aet args)
 (k:WO F r ((XR.loc {v,rd:=eJ (fS st.aA deep) (Lz st.env as)}).next d st) ((XR.loc {v,rd:=eJ (fS st.aA deep) (Lz st.env as)}).tr (aef st.aA)::tr) Q):
 WO F (⟨d,.call .pur f as,g⟩::r) st tr Q:=by
 obtain ⟨n,hn⟩:=h.ez (fz:=st.fz) ha;exact WO.call _ hw ⟨n,by simp only [BB,hn];rfl⟩ rfl k
end Go.Vm
/- The look at an operation of the model: is the logical machine's operation its own? -/
namespace Go.Vm
mutual
def yV:PV->Value->Bool
 | .int k n,.int l m=>gM k l&&n==m
 | .bool a,.bool b=>a==b
 | .sl _ _ [],.slice aew 0 0=>aez
 | .agg cs,.agg vs=>Jl cs vs.toList
 | .eW,.nilFunc=>aez
 | .str s,.string t=>s.data.toList==t.data.toList
 | .undef,_=>aez
 |_,_=>aeG
def Jl:List PV->List Value->Bool
 | [],[]=>aez
 |x::xs,v::vs=>yV x v&&Jl xs vs
 |_,_=>aeG
end
def bF:gR->Operand->Bool
 | .t n,.tmp m=>n==m
 | .c v,.const u=>yV v u
 | .c (.fx f [] []),.func g=>f==g
 | .c .undef,_=>aez
 |_,_=>aeG
def fX:List gR->List Operand->Bool
 | [],[]=>aez
 |x::xs,o::os=>bF x o&&fX xs os
 |_,_=>aeG
def NA:Option gR->Option Operand->Bool
 |none,aew=>aez
 |some x,aet o=>bF x o
 |_,_=>aeG
section
variable (P : Program)
def js (t:TypeId):Bool:=
 match P.underlying t with
 |some (.struct _)|some (.array _ _)=>aez
 |_=>aeG
def tD (t:TypeId) (n:Nat):Bool:=(P.info? t).any fun i=>i.size==n
def IU (t:TypeId):Bool:=(P.info? t).any fun i=>ab1 i.bytes 1048576
def Fl (t:TypeId) (agg:Option Nat):Bool:=
 (P.underlying t).isSome&&match agg with
 |some n=>js P t&&tD P t n
 |none=>!js P t&&tD P t 1
def C' (t:TypeId) (aO:Nat):Bool:=
 match P.underlying t with
 |some (.slice e)=>tD P e aO
 |_=>aeG
def xh (t:TypeId):Bool:=
 match P.underlying t with
 |some (.slice _)=>aez
 |_=>aeG
def T4 (t:TypeId) (n aO:Nat):Bool:=
 match P.underlying t with
 |some (.array m e)=>m==n&&tD P e aO
 |_=>aeG
def yW (t:TypeId) (cells:List PV):Bool:=
 match (P.info? t).bind (·.zero) with
 |some v=>Jl cells v.cells.toList
 |none=>aeG
def flat:Nat->TypeId->Option Nat
 |0,_=>aew
 |d+1,t=>
  match P.underlying t with
  |some (.int _)=>if tD P t 1 then aet 1 else aew
  |some (.struct fs)=>
   if P.stoodInHeld t then aew else
   match fs.toList.foldl (fun r f=>match r with
    |some n=>if f.offset==n&&f.name != "_" then (match flat d f.type with
     |some m=>if tD P f.type m then aet (n+m) else aew
     |none=>aew) else aew
    |none=>aew) (aet 0) with
   |some n=>if tD P t n then aet n else aew
   |none=>aew
  |_=>aew
def R2 (t:TypeId) (n:Nat):Bool:=flat P 100 t==aet n
def zA (place:Nat->Option (Nat×Nat)):List (Nat×Nat×gR)->List (Nat×Operand)->Bool
 | [],[]=>aez
 |(off,sz,x)::r,(i,o)::s=>(match place i with|some (a,b)=>a==off&&b==sz|none=>aeG)&&bF x o&&zA place r s
 |_,_=>aeG
def qU:List (Nat×gR)->List (Nat×Operand)->Bool
 | [],[]=>aez
 |(i,x)::r,(j,o)::s=>i==j&&bF x o&&qU r s
 |_,_=>aeG
def placeOf (t:TypeId):Nat->Option (Nat×Nat):=
 match P.underlying t with
 |some (.struct fs)=>fun i=>(fs[i]?).bind fun f=>(P.info? f.type).map fun j=>(f.offset,j.size)
 |some (.array _ e)=>fun i=>(P.info? e).map fun j=>(i*j.size,j.size)
 |_=>fun _=>aew
def B3 (t:TypeId) (n:Option Nat):Bool:=
 match n with
 |none=>(match P.underlying t with|some (.int _)=>aez|_=>aeG)
 |some n=>js P t&&flat P 100 t==aet n
def abr (f:FuncId):Bool:=(P.funcs[f]?).any fun fn=>fn.body.isSome&&!(fn.name== "runtime.NumGoroutine")
def BD (prims:FuncId->Bool) (ty:TypeId):oC->Op->Bool
 | .Xy x,.move o=>bF x o
 | .Xy x,.assign o=>bF x o
 | .pick c a b,.pick d e f=>bF c d&&bF a e&&bF b f
 | .bin op x y,.binOp op' _ a b _=>op==op'&&bF x a&&bF y b
 | .Pv neg x y,.binOp op t a b _=>(if neg then op== .neq else op== .eql)&&P.underlying t matches aet .bool&&bF x a&&bF y b
 | .eqc n neg x y,.binOp op t a b _=>(if neg then op== .neq else op== .eql)&&js P t&&R2 P t n&&!P.eqGuardType P.depth t&&bF x a&&bF y b
 | .un op x,.unOp op' _ a=>op==op'&&bF x a
 | .conv k x,.convert s d a=>(P.underlying s).isSome&&(match P.underlying d with|some (.int l)=>gM k l|_=>aeG)&&bF x a
 | .len x,.call {callee:= .builtin .len,args,argTypes}=>(match argTypes[0]? with|some t=>xh P t|none=>aeG)&&fX [x] args.toList
 | .R0 n,.call {callee:= .builtin .len,args,argTypes}=>!args.isEmpty&&(match argTypes[0]? with
  |some t=>(match P.underlying t with
   |some (.array m _)=>m==n
   |some (.pointer e)=>(match P.underlying e with|some (.array m _)=>m==n|_=>aeG)
   |_=>aeG)
  |none=>aeG)
 | .box x,.box _ a=>bF x a
 | .alloc cells,.alloc t=>yW P t cells
 | .build zero parts,.build t ps=>yW P t zero&&js P t&&zA (placeOf P t) parts ps.toList
  &&(match P.underlying t with|some (.struct fs)=>fs.all fun f=>(P.info? f.type).isSome|some (.array _ e)=>(P.info? e).isSome|_=>aeG)
 | .Fj aO n zero parts,.buildSlice t m ps=>n==m&&(match P.underlying t with|some (.slice e)=>tD P e aO&&yW P e zero&&(aef zero)==aO&&!(aO==0)|_=>aeG)&&ab1 (n*aO) 1048576&&zero.all PV.plain&&qU parts ps.toList
 | .load agg p,.load t a=>Fl P t agg&&bF p a
 | .store sz p v,.store t a b=>tD P t sz&&bF p a&&bF v b
 | .Pw x,.nilCheck a=>bF x a
 | .Px off p,.fieldAddr t a f=>(match P.underlying t with
  |some (.struct fs)=>(match fs[f]? with|some g=>g.offset==off&&(P.info? g.type).any fun i=>!(i.size==0)|none=>aeG)
  |_=>aeG)&&bF p a
 | .eM agg off x,.field t a f=>(match P.underlying t with
  |some (.struct fs)=>(match fs[f]? with|some g=>g.offset==off&&Fl P g.type agg|none=>aeG)
  |_=>aeG)&&bF x a
 | .Py aO x i,.indexAddr t a j=>C' P t aO&&bF x a&&bF i j
 | .HI n aO p i,.indexAddr t a j=>T4 P t n aO&&bF p a&&bF i j
 | .idx n aO agg x i,.index t a j=>(match P.underlying t with|some (.array m e)=>m==n&&tD P e aO&&Fl P e agg|_=>aeG)&&bF x a&&bF i j
 | .Pz x i,.index t a j=>P.underlying t matches aet .string&&bF x a&&bF i j
 | .Vu aO x l h m,.slice t a b c d=>(m.isNone||h.isSome)&&C' P t aO&&bF x a&&NA l b&&NA h c&&NA m d
 | .mks aO zero l c,.makeSlice t a b=>(match P.underlying t with|some (.slice e)=>tD P e aO&&yW P e zero&&(aef zero)==aO&&IU P e&&!(aO==0)|_=>aeG)&&zero.all PV.plain&&bF l a&&bF c b
 | .mkf fn a b,.makeFunc (.func g) c d=>fn==g&&fX a c.toList&&fX b d.toList
 | .mkm _,.makeMap _ aew=>aez
 | .ext i x,.extract a j=>i==j&&bF x a
 | .append aO x y,.call {callee:= .builtin .append,args,argTypes}=>(match argTypes.toList with
  | [t,u]=>(match P.underlying t with|some (.slice e)=>tD P e aO&&IU P e&&!(aO==0)&&(P.info? e).any (fun i=>i.zero.any fun z=>z.cells.size==aO)|_=>aeG)&&xh P u
  |_=>aeG)&&fX [x,y] args.toList
 | .lookup n zero ok m k,.lookup t a b ok'=>ok==ok'&&(match P.underlying t with|some (.map kt et)=>B3 P kt n&&(match (P.info? et).bind (·.zero) with|some v=>yV zero v|none=>aeG)|_=>aeG)&&bF m a&&bF k b
 | .Nt n m k v,.mapUpdate t a b c=>(match P.underlying t with|some (.map kt _)=>B3 P kt n|_=>aeG)&&bF m a&&bF k b&&bF v c
 | .copy aO x y,.call {callee:= .builtin .copy,args,argTypes}=>(match argTypes.toList with| [t,u]=>C' P t aO&&xh P u|_=>aeG)&&fX [x,y] args.toList
 | .clear aO zero x,.call {callee:= .builtin .clear,args,argTypes}=>(match argTypes.toList with
  | [t]=>(match P.underlying t with|some (.slice e)=>tD P e aO&&yW P e zero&&(aef zero)==aO&&zero.all PV.plain|_=>aeG)
  |_=>aeG)&&fX [x] args.toList
 | .mm rV x xs,.call {callee:= .builtin b,args,argTypes:=_}=>(if rV then b== .max else b== .min)&&fX (x::xs) args.toList
 | .call _ f args,.call {callee:= .value (.func g),args:=as,argTypes:=_}=>f==g&&(prims f||abr P f)&&fX args as.toList
 | .Bz x args,.call {callee:= .value (.tmp t),args:=as,argTypes:=_}=>bF x (.tmp t)&&fX args as.toList
 | .HH x y,.buildSlice t m ps=>m==2&&(match P.underlying t with|some (.slice e)=>tD P e 1&&(P.info? e).any (fun i=>i.zero.any fun z=>z.cells.size==1)|_=>aeG)&&(match ps.toList with| [(i,a),(j,b)]=>i==0&&j==1&&bF x a&&bF y b|_=>aeG)
 | .Nt n m k v,.insert t a b c=>(match P.underlying t with|some (.map kt _)=>B3 P kt n|_=>aeG)&&bF m a&&bF k b&&bF v c
 | .bad,_=>aez
 |_,_=>ty==0&&aeG
end
end Go.Vm
/- What a pure value says of a value of the model, a block of the call's own of the memory. -/
namespace Go.Vm
structure Tape (w w':World):Prop where
 eq:w'.tape=w.tape
 dr:w.drawn<=w'.drawn
theorem Tape.refl (w:World):Tape w w:=⟨rfl,WF _⟩
theorem Tape.trans {a b c:World} (h2:Tape b c) (h1:Tape a b):Tape a c:=⟨h2.eq.trans h1.eq,Nat.le_trans h1.dr h2.dr⟩
theorem Tape.same {w w':World} (h:w'.tape=w.tape) (k:w'.drawn=w.drawn):Tape w w':=⟨h,by omega⟩
structure LI where
 eg:Nat
 sh:Nat
 aO:Nat
 n:Nat
 sz:Nat
abbrev Im:=Nat->Option Obj
abbrev Loc:=Nat->Option LI
def tO (im:Im) (b o:Nat):Option Value:=
 match im b with
 |some (.cells c _ _)=>c[o]?
 |_=>aew
def mD:PV->Option Value
 | .int k n=>aet (.int k n)
 | .bool b=>aet (.bool b)
 | .str s=>aet (.string s)
 |_=>aew
def bY (get:Nat->Option Value) (sh aO:Nat) (rows:List Row):Prop:=
 ∀(i:Nat) (r:Row),rows[i]? =aet r->aef r=aO/\ ∀(j:Nat) (c:PV),r[j]? =aet c-> ∃v,mD c=aet v/\get (sh+i*aO+j)=aet v
mutual
inductive VR (im:Im) (loc:Loc):PV->Value->Prop
 |undef (v:Value):VR im loc .undef v
 |na:VR im loc .na Go.undef
 |int (k:IntKind) (n:Int):VR im loc (.int k n) (.int k n)
 |bool (b:Bool):VR im loc (.bool b) (.bool b)
 |str (s:ByteArray):VR im loc (.str s) (.string s)
 |agg (cs:List PV) (vs:List Value) (h:fW im loc cs vs):VR im loc (.agg cs) (.agg ⟨vs⟩)
 |cV (cs:List PV) (vs:List Value) (h:fW im loc cs vs):VR im loc (.cV cs) (.tuple ⟨vs⟩)
 |sl (aO:Nat) (vP:Bool) (rows:List Row) (a:Option Addr) (cap:Nat) (hc:(aef rows)<=cap) (hk:vP=aez->cap=aef rows)
  (h:rows≠[]-> ∃b o,a=aet ⟨b,o,aew⟩/\bY (tO im b) o aO rows):VR im loc (.sl aO vP rows) (.slice a (aef rows) cap)
 |own (t aO off len cap:Nat) (ex:Bool) (li:LI) (a:Option Addr) (eh:Nat) (hl:loc t=aet li) (he:li.aO=aO) (hn:off+cap<=li.n) (hc:len<=cap)
  (hx:cap<=eh) (hk:ex=aez->eh=cap)
  (h:eh=0\/(li.n≠0/\a=aet ⟨li.eg,li.sh+off*aO,aew⟩/\li.sh+(off+eh)*aO<=li.sz)):VR im loc (.own t aO off len cap ex) (.slice a len eh)
 |ptr (t aO row off:Nat) (li:LI) (hl:loc t=aet li) (he:li.aO=aO) (hn:row<li.n):
  VR im loc (.ptr t aO row off) (.pointer (aet ⟨li.eg,li.sh+row*aO+off,aew⟩))
 |bR (cs:List PV) (off b o:Nat) (vs:List Value) (h:fW im loc cs vs) (hv: ∀(j:Nat) (v:Value),vs[j]? =aet v->tO im b (o+j)=aet v):
  VR im loc (.bR cs off) (.pointer (aet ⟨b,o+off,aew⟩))
 |mp (t:Nat) (li:LI) (hl:loc t=aet li):VR im loc (.mp t) (.map (aet li.eg))
 |fx (fn:FuncId) (a b:List PV) (as bs:List Value) (ha:fW im loc a as) (hb:fW im loc b bs):VR im loc (.fx fn a b) (.func (.func fn) ⟨as⟩ ⟨bs⟩)
 |eW:VR im loc .eW .nilFunc
inductive fW (im:Im) (loc:Loc):List PV->List Value->Prop
 |nil:fW im loc [] []
 |cons (x:PV) (v:Value) (xs:List PV) (vs:List Value) (h:VR im loc x v) (hs:fW im loc xs vs):fW im loc (x::xs) (v::vs)
end
def rZ (im fA:Im):Prop:= ∀b o,im b=aet o->fA b=aet o
def pR (loc bz:Loc):Prop:= ∀t li,loc t=aet li->bz t=aet li
theorem rZ.refl (im:Im):rZ im im:=fun _ _ h=>h
theorem rZ.trans {a b c:Im} (h:rZ a b) (k:rZ b c):rZ a c:=fun x o e=>k x o (h x o e)
theorem pR.refl (loc:Loc):pR loc loc:=fun _ _ h=>h
theorem pR.trans {a b c:Loc} (h:pR a b) (k:pR b c):pR a c:=fun x o e=>k x o (h x o e)
theorem rZ.cell {im fA:Im} (h:rZ im fA) {b o:Nat} {v:Value} (hc:tO im b o=aet v):tO fA b o=aet v:=by
 unfold tO at hc ⊢;cases hb:im b with
 |none=>grind
 |some x=>rw [hb] at hc;rw [h b x hb];exact hc
theorem bY.mono {g g':Nat->Option Value} {sh aO:Nat} {rows:List Row} (h:bY g sh aO rows) (hg: ∀k v,g k=aet v->g' k=aet v):
 bY g' sh aO rows:=by
 intro i r hr;obtain ⟨h1,h2⟩:=h i r hr
 grind
mutual
theorem VR.mono {im fA:Im} {loc bz:Loc} (hi:rZ im fA) (hl:pR loc bz): ∀{x:PV} {v:Value},VR im loc x v->VR fA bz x v
 |_,_,.undef v=> .undef v
 |_,_,.na=> .na
 |_,_,.int k n=> .int k n
 |_,_,.bool b=> .bool b
 |_,_,.str s=> .str s
 |_,_,.agg cs vs h=> .agg cs vs (fW.mono hi hl h)
 |_,_,.cV cs vs h=> .cV cs vs (fW.mono hi hl h)
 |_,_,.sl aO vP rows a cap hc hk h=> .sl aO vP rows a cap hc hk fun fy=>let ⟨b,o,ha,hr⟩:=h fy;⟨b,o,ha,hr.mono fun _ _ e=>hi.cell e⟩
 |_,_,.own t aO off len cap ex li a eh h1 h2 h3 h4 h5 h6 h7=> .own t aO off len cap ex li a eh (hl _ _ h1) h2 h3 h4 h5 h6 h7
 |_,_,.ptr t aO row off li h1 h2 h3=> .ptr t aO row off li (hl _ _ h1) h2 h3
 |_,_,.bR cs off b o vs h hv=> .bR cs off b o vs (fW.mono hi hl h) fun j v e=>hi.cell (hv j v e)
 |_,_,.mp t li h=> .mp t li (hl _ _ h)
 |_,_,.fx fn a b as bs ha hb=> .fx fn a b as bs (fW.mono hi hl ha) (fW.mono hi hl hb)
 |_,_,.eW=> .eW
theorem fW.mono {im fA:Im} {loc bz:Loc} (hi:rZ im fA) (hl:pR loc bz): ∀{x:List PV} {v:List Value},fW im loc x v->fW fA bz x v
 |_,_,.nil=> .nil
 |_,_,.cons x v xs vs h hs=> .cons x v xs vs (VR.mono hi hl h) (fW.mono hi hl hs)
end
theorem fW.qA {im:Im} {loc:Loc}: ∀{x:List PV} {v:List Value},fW im loc x v->aef x=aef v
 |_,_,.nil=>rfl
 |_,_,.cons _ _ _ _ _ hs=>by simp [hs.qA]
theorem fW.get {im:Im} {loc:Loc}: ∀{xs:List PV} {vs:List Value},fW im loc xs vs-> ∀(i:Nat) (x:PV),xs[i]? =aet x-> ∃v,vs[i]? =aet v/\VR im loc x v
 |_,_,.nil,i,x,h=>by simp at h
 |_,_,.cons y v xs vs h hs,0,x,e=>by grind
 |_,_,.cons y v xs vs h hs,i+1,x,e=>by
  obtain ⟨u,hu,hr⟩:=hs.get i x (by simpa using e)
  grind
theorem fW.append {im:Im} {loc:Loc}: ∀{xs:List PV} {vs:List Value},fW im loc xs vs-> ∀{ys:List PV} {us:List Value},fW im loc ys us->fW im loc (xs++ys) (vs++us)
 |_,_,.nil,_,_,k=>k
 |_,_,.cons y v xs vs h hs,_,_,k=> .cons _ _ _ _ h (hs.append k)
theorem fW.take {im:Im} {loc:Loc}: ∀{xs:List PV} {vs:List Value},fW im loc xs vs-> ∀n,fW im loc (xs.take n) (vs.take n)
 |_,_,.nil,n=>by simp;exact .nil
 |_,_,.cons y v xs vs h hs,0=> .nil
 |_,_,.cons y v xs vs h hs,n+1=> .cons _ _ _ _ h (hs.take n)
theorem fW.drop {im:Im} {loc:Loc}: ∀{xs:List PV} {vs:List Value},fW im loc xs vs-> ∀n,fW im loc (xs.drop n) (vs.drop n)
 |_,_,.nil,n=>by simp;exact .nil
 |_,_,.cons y v xs vs h hs,0=> .cons _ _ _ _ h hs
 |_,_,.cons y v xs vs h hs,n+1=>hs.drop n
theorem fW.of {im:Im} {loc:Loc}: ∀(xs:List PV) (vs:List Value),aef xs=aef vs->(∀(i:Nat) (x:PV) (v:Value),xs[i]? =aet x->vs[i]? =aet v->VR im loc x v)->fW im loc xs vs
 | [],[],_,_=> .nil
 |x::xs,v::vs,hl,h=> .cons x v xs vs (h 0 x v rfl rfl) (fW.of xs vs (by simpa using hl) fun i a b ha hb=>h (i+1) a b (by simpa using ha) (by simpa using hb))
theorem VR.plain {im:Im} {loc:Loc} {x:PV} {v:Value} (h:VR im loc x v) (hp:x.plain=aez):mD x=aet v:=by cases h<;>first|rfl|cases hp
theorem VR.Jm {im:Im} {loc:Loc} {x:PV} {v:Value} (h:mD x=aet v):VR im loc x v:=by cases x<;>simp [mD,] at h<;>first|(subst h;constructor)|cases h
theorem VR.cells {im:Im} {loc:Loc} {x:PV} {v:Value} (h:VR im loc x v) (hs: ∀c∈x.cells,c.wa=aez):fW im loc x.cells v.cells.toList:=by
 cases h with
 |agg cs vs h=>exact h
 |undef v=>have:=hs .undef (by simp [PV.cells]);cases this
 |na=>have:=hs .na (by simp [PV.cells]);cases this
 |cV cs vs h=>have:=hs (.cV cs) (by simp [PV.cells]);cases this
 |int k n=>exact .cons _ _ _ _ (.int k n) .nil
 |bool b=>exact .cons _ _ _ _ (.bool b) .nil
 |str s=>exact .cons _ _ _ _ (.str s) .nil
 |sl aO vP rows a cap hc hk h=>exact .cons _ _ _ _ (.sl aO vP rows a cap hc hk h) .nil
 |own t aO off len cap ex li a eh h1 h2 h3 h4 h5 h6 h7=>exact .cons _ _ _ _ (.own t aO off len cap ex li a eh h1 h2 h3 h4 h5 h6 h7) .nil
 |ptr t aO row off li h1 h2 h3=>exact .cons _ _ _ _ (.ptr t aO row off li h1 h2 h3) .nil
 |bR cs off b o vs h hv=>exact .cons _ _ _ _ (.bR cs off b o vs h hv) .nil
 |mp t li h=>exact .cons _ _ _ _ (.mp t li h) .nil
 |fx fn a b as bs ha hb=>exact .cons _ _ _ _ (.fx fn a b as bs ha hb) .nil
 |eW=>exact .cons _ _ _ _ .eW .nil
theorem VR.NB {im:Im} {loc:Loc} {x:PV} {v:Value} (h:VR im loc x v) (hs:x.wa=aez):(∀us,v≠ .agg us)/\ ∀us,v≠ .tuple us:=by cases h<;>first|(simp [PV.wa] at hs;done)|simp
def valOf:PV->Option Value
 | .agg cs=>(cs.mapM mD).map fun vs=> .agg ⟨vs⟩
 |x=>mD x
def ij:List (PV×PV)->List MapEntry->Prop
 | [],[]=>True
 |(k,v)::r,e::r'=>valOf k=aet e.key/\valOf v=aet e.val/\ij r r'
 |_,_=>False
def BR (im:Im) (loc:Loc) (w:World) (li:LI):om->Prop
 | .arr e rows=>li.aO=e/\li.n=aef rows/\(rows≠[]-> ∃cs el,w.heap[li.eg]? =aet (.cells cs el (0,0))/\cs.size=li.sz/\li.sh+aef rows*e<=li.sz/\bY (fun k=>cs[k]?) li.sh e rows)
 | .box cells=>(li.aO=aef cells/\li.n=1\/li.aO=1/\li.n=aef cells)/\True/\li.sh=0/\ ∃vs el,w.heap[li.eg]? =aet (.cells ⟨vs⟩ el (0,0))/\aef vs=li.sz/\fW im loc cells vs
 | .map es=> ∃nO clock,w.heap[li.eg]? =aet (.map nO clock)/\ij es nO.toList
 | .dead=>True
theorem BR.mono {im fA:Im} {loc bz:Loc} {w w':World} {li:LI} {k:om} (h:BR im loc w li k) (hi:rZ im fA) (hl:pR loc bz)
 (hw:w'.heap[li.eg]? =w.heap[li.eg]?):BR fA bz w' li k:=by
 cases k with
 |arr e rows=>exact ⟨h.1,h.2.1,fun fy=>let ⟨cs,el,h1,h2,h3⟩:=h.2.2 fy;⟨cs,el,by grind,h2,h3⟩⟩
 |box cells=>obtain ⟨h1,h2,h3,vs,el,h4,h5,h6⟩:=h;exact ⟨h1,h2,h3,vs,el,by grind,h5,h6.mono hi hl⟩
 |map es=>obtain ⟨en,cl,h1,h2⟩:=h;exact ⟨en,cl,by grind,h2⟩
 |dead=>trivial
theorem BR.lt {im:Im} {loc:Loc} {w:World} {li:LI} {k:om} (h:BR im loc w li k) (hs:k.bW=aez):li.eg<w.heap.size:=by
 have get: ∀{o:Obj},w.heap[li.eg]? =aet o->li.eg<w.heap.size:=fun e=>by
  grind
 cases k with
 |arr e rows=>
  cases rows with
  |nil=>cases hs
  |cons r rs=>obtain ⟨cs,el,h1,_⟩:=h.2.2 (by simp);exact get h1
 |box cells=>obtain ⟨_,_,_,vs,el,h4,_⟩:=h;exact get h4
 |map es=>obtain ⟨en,cl,h1,h2⟩:=h;exact get h1
 |dead=>cases hs
structure SR (im:Im) (loc:Loc) (aA:cU) (fz:List Nat) (w:World):Prop where
 bP: ∀b o,im b=aet o->w.heap[b]? =aet o
 eg: ∀t li,loc t=aet li-> ∃k,aA[t]? =aet k/\BR im loc w li k
 k7: ∀t u li lj k k',loc t=aet li->loc u=aet lj->aA[t]? =aet k->aA[u]? =aet k'->k.bW=aez->k'.bW=aez->li.eg=lj.eg->t=u
 free: ∀t li k,loc t=aet li->aA[t]? =aet k->k.bW=aez->has fz t=aeG->im li.eg=aew
def ER (im:Im) (loc:Loc) (e:Env) (tmps:Array Value):Prop:= ∀t,VR im loc (lk t e) (tmps.getD t Go.undef)
theorem ER.mono {im fA:Im} {loc bz:Loc} (hi:rZ im fA) (hl:pR loc bz) {e:Env} {tmps:Array Value} (h:ER im loc e tmps):ER fA bz e tmps:=
 fun t=>(h t).mono hi hl
theorem wz (t s:Nat) (v:PV) (e:Env):lk t ((s,v)::e)=if s=t then v else lk t e:=by simp only [lk];simp
theorem ER.put {im:Im} {loc:Loc} {e:Env} {tmps:Array Value} (h:ER im loc e tmps) {d:Nat} {x:PV} {v:Value} (hd:d<tmps.size) (hv:VR im loc x v):
 ER im loc ((d,x)::e) (tmps.setIfInBounds d v):=by
 intro t;rw [wz]
 by_cases hdt:d=t
 · simp_all
 have:=h t
 simp_all
end Go.Vm
/- Renaming the blocks. -/
namespace Go.Vm
theorem Da {t:Nat}: ∀{m:List Nat} {u:Nat},idxOf t m=aet u->m[u]? =aet t
 | [],u,h=>by simp [idxOf] at h
 |s::r,u,h=>by
  simp [idxOf] at h;split at h
  · rename_i e
    injection h with h;subst h;simp_all
  rw [EQ] at h
  obtain ⟨v,hv,rfl⟩:=h;simpa using Da hv
section
variable {im : Im} {loc eB : Loc} {m : List Nat}
def Ren (m:List Nat) (loc eB:Loc):Prop:= ∀(u t:Nat),m[u]? =aet t->eB u=loc t
mutual
theorem XL (hm:Ren m loc eB): ∀{x y:PV} {v:Value},VR im loc x v->qp m x=aet y->VR im eB y v
 | .undef,y,v,h,hr=>by simp [qp,If] at hr;subst hr;exact .undef _
 | .na,y,v,h,hr=>by simp [qp,If] at hr;subst hr;cases h;exact .na
 | .int k n,y,v,h,hr=>by simp [qp,If] at hr;subst hr;cases h;exact .int _ _
 | .bool b,y,v,h,hr=>by simp [qp,If] at hr;subst hr;cases h;exact .bool _
 | .str b,y,v,h,hr=>by simp [qp,If] at hr;subst hr;cases h;exact .str _
 | .eW,y,v,h,hr=>by simp [qp,If] at hr;subst hr;cases h;exact .eW
 | .agg cs,y,v,h,hr=>by simp [qp,EQ] at hr;obtain ⟨Mb,h1,rfl⟩:=hr;cases h with|agg _ vs h=>exact .agg _ _ (yb hm h h1)
 | .cV cs,y,v,h,hr=>by simp [qp,EQ] at hr;obtain ⟨Mb,h1,rfl⟩:=hr;cases h with|cV _ vs h=>exact .cV _ _ (yb hm h h1)
 | .sl e c rows,y,v,h,hr=>by simp [qp,If] at hr;subst hr;cases h with|sl _ _ _ a cap h1 h2 h3=>exact .sl _ _ _ a cap h1 h2 h3
 | .own t e off len cap ex,y,v,h,hr=>by simp [qp,EQ] at hr;obtain ⟨u,h1,rfl⟩:=hr;cases h with|own _ _ _ _ _ _ li a eh g1 g2 g3 g4 g5 g6 g7=>exact .own _ _ _ _ _ _ li a eh (by rw [hm u t (Da h1)];exact g1) g2 g3 g4 g5 g6 g7
 | .ptr t e row off,y,v,h,hr=>by simp [qp,EQ] at hr;obtain ⟨u,h1,rfl⟩:=hr;cases h with|ptr _ _ _ _ li g1 g2 g3=>exact .ptr _ _ _ _ li (by rw [hm u t (Da h1)];exact g1) g2 g3
 | .bR cs off,y,v,h,hr=>by simp [qp,EQ] at hr;obtain ⟨Mb,h1,rfl⟩:=hr;cases h with|bR _ _ b o vs h hv=>exact .bR _ _ b o vs (yb hm h h1) hv
 | .mp t,y,v,h,hr=>by simp [qp,EQ] at hr;obtain ⟨u,h1,rfl⟩:=hr;cases h with|mp _ li g1=>exact .mp _ li (by rw [hm u t (Da h1)];exact g1)
 | .fx f a b,y,v,h,hr=>by
  simp [qp] at hr;split at hr
  · rename_i a' b' ha hb
    injection hr with hr;subst hr;cases h with|fx _ _ _ as bs h1 h2=>exact .fx _ _ _ _ _ (yb hm h1 ha) (yb hm h2 hb)
  cases hr
theorem yb (hm:Ren m loc eB): ∀{x y:List PV} {v:List Value},fW im loc x v->DP m x=aet y->fW im eB y v
 | [],y,v,h,hr=>by simp [DP,If] at hr;subst hr;cases h;exact .nil
 |x::xs,y,v,h,hr=>by
  simp [DP] at hr;split at hr
  · rename_i x' xs' h1 h2
    injection hr with hr;subst hr;cases h with|cons _ u _ us g1 g2=>exact .cons _ _ _ _ (XL hm g1 h1) (yb hm g2 h2)
  cases hr
end
theorem HK: ∀{x y:List PV},DP m x=aet y->aef y=aef x
 | [],y,h=>by simp [DP,If] at h;subst h;rfl
 |x::xs,y,h=>by
  simp [DP] at h;split at h
  · rename_i x' xs' h1 h2
    injection h with h;subst h;simp [HK h2]
  cases h
theorem Mc {w:World} {li:LI} {k k':om} (hm:Ren m loc eB) (hr:rW m k=aet k') (h:BR im loc w li k):BR im eB w li k':=by
 cases k with
 |arr e rows=>simp [rW,If] at hr;subst hr;exact h
 |map es=>simp [rW,If] at hr;subst hr;exact h
 |dead=>simp [rW,If] at hr;subst hr;trivial
 |box cs=>simp [rW,EQ] at hr;obtain ⟨Mb,h1,rfl⟩:=hr;obtain ⟨g1,g2,g3,vs,el,g4,g5,g6⟩:=h;exact ⟨by rw [HK h1];exact g1,g2,g3,vs,el,g4,g5,yb hm g6 h1⟩
theorem Fm {k k':om} (hr:rW m k=aet k'):k'.bW=k.bW:=by
 cases k with
 |arr e rows=>simp [rW,If] at hr;subst hr;rfl
 |map es=>simp [rW,If] at hr;subst hr;rfl
 |dead=>simp [rW,If] at hr;subst hr;rfl
 |box cs=>simp [rW,EQ] at hr;obtain ⟨Mb,h1,rfl⟩:=hr;rfl
theorem GJ {aA:cU}: ∀{l:List Nat} {s1:cU},B1 aA m l=aet s1->aef s1=aef l/\ ∀(u t:Nat),l[u]? =aet t-> ∃k k',aA[t]? =aet k/\rW m k=aet k'/\s1[u]? =aet k'
 | [],s1,h=>by simp [B1,] at h;grind
 |t::ts,s1,h=>by
  simp [B1] at h;split at h
  · rename_i b hb
    split at h
    · rename_i b' r h1 h2
      injection h with h;subst h;obtain ⟨g1,g2⟩:=GJ h2
      grind
    cases h
  cases h
end
end Go.Vm
/- Operation by operation: the model's run gives what the logical machine says. First part: what reads no memory. -/
namespace Go.Vm
theorem gx {k l:IntKind}:gM k l=aez↔k=l:=by cases k<;>cases l<;>simp [gM]
theorem IV {n:Int} (h1: -9223372036854775808<=n) (h2:n<9223372036854775808):IntKind.wrap .i64 n=n:=by
 simp [IntKind.wrap,IntKind.bits,IntKind.signed,]
 grind
theorem xi (k:IntKind) (n:Int):aa k n=k.wrap n:=by
 unfold aa;split
 · rename_i m
   split
   · rename_i h
     have h:m<9223372036854775808:=by simpa using h
     grind [IV]
   rfl
 · rename_i m
   split
   · rename_i h
     have h:m<9223372036854775808:=by simpa using h
     grind [IV]
   rfl
 · rfl
 rfl
section
variable {P : Program} {im : Im} {loc : Loc} {w : World}
theorem VR.jd {k:IntKind} {n:Int} {v:Value} (h:VR im loc (.int k n) v):v= .int k n:=by cases h;rfl
theorem VR.mE {b:Bool} {v:Value} (h:VR im loc (.bool b) v):v= .bool b:=by cases h;rfl
theorem VR.IW {b:ByteArray} {v:Value} (h:VR im loc (.str b) v):v= .string b:=by cases h;rfl
theorem VR.uF {cs:List PV} {v:Value} (h:VR im loc (.agg cs) v): ∃vs,v= .agg ⟨vs⟩/\fW im loc cs vs:=by cases h with|agg _ vs h=>grind
theorem VR.Fo {cs:List PV} {v:Value} (h:VR im loc (.cV cs) v): ∃vs,v= .tuple ⟨vs⟩/\fW im loc cs vs:=by cases h with|cV _ vs h=>grind
mutual
theorem NC: ∀{x:PV} {v:Value},yV x v=aez->VR im loc x v
 | .int k n,v,h=>by
  cases v<;>simp only [yV] at h<;>first|cases h|skip
  simp only [PP,beq_iff_eq,gx] at h;obtain ⟨rfl,rfl⟩:=h;exact .int _ _
 | .bool a,v,h=>by
  cases v<;>simp only [yV] at h<;>first|cases h|skip
  rename_i b;have:a=b:=by simpa using h
  subst this;exact .bool _
 | .str a,v,h=>by
  cases v<;>simp only [yV] at h<;>first|cases h|skip
  rename_i b;have h1:a.data.toList=b.data.toList:=by simpa using h
  obtain ⟨⟨x⟩⟩:=a;obtain ⟨⟨y⟩⟩:=b;have h2:x=y:=h1;subst h2;exact .str _
 | .sl e c [],v,h=>by
  cases v with
  |slice a n cap=>
   cases a with
   |none=>
    cases n with
    |zero=>
     cases cap with
     |zero=>exact .sl e c [] aew 0 (Nat.zero_le _) (fun _=>rfl) (fun fy=>absurd rfl fy)
     |succ c=>simp [yV] at h
    |succ n=>simp [yV] at h
   |some a=>simp [yV] at h
  |_=>simp [yV] at h
 | .sl e c (_::_),v,h=>by simp [yV] at h
 | .agg cs,v,h=>by
  cases v<;>simp only [yV] at h<;>first|cases h|skip
  rename_i vs;exact .agg cs vs.toList (B4 h)
 | .eW,v,h=>by
  cases v<;>simp only [yV] at h<;>first|cases h|skip
  exact .eW
 | .undef,v,_=> .undef v
 | .na,v,h=>by simp [yV] at h
 | .cV _,v,h=>by simp [yV] at h
 | .own ..,v,h=>by simp [yV] at h
 | .ptr ..,v,h=>by simp [yV] at h
 | .bR ..,v,h=>by simp [yV] at h
 | .mp _,v,h=>by simp [yV] at h
 | .fx ..,v,h=>by simp [yV] at h
theorem B4: ∀{x:List PV} {v:List Value},Jl x v=aez->fW im loc x v
 | [],[],_=> .nil
 |x::xs,v::vs,h=>by simp only [Jl,PP] at h;exact .cons _ _ _ _ (NC h.1) (B4 h.2)
 | [],_::_,h=>by simp [Jl] at h
 |_::_,[],h=>by simp [Jl] at h
end
theorem abt {op : BinOp} {t : TypeId} {a b : Operand} {x y : PV} {u v : Value} {z : PV} (hx : VR im loc x u) (hy : VR im loc y v) (h : Vv op x y = aet z) :
    ∃ r, (do eqGuard op t a b u v; binOp op t u v : Sem Value).run P w = .ok r w /\ VR im loc z r := by
  unfold Vv at h
  split at h
  · obtain rfl := hx.jd
    obtain rfl := hy.jd
    split at h
    · simp only [GF] at h
      split at h
      · cases h
      rename_i hb
      injection h with h; subst h
      refine ⟨_, ?_, .int _ _⟩
      simp only [binOp, Op.shift, hb, ]
      rfl
    · simp only [GF] at h
      split at h
      · cases h
      rename_i hb
      injection h with h; subst h
      refine ⟨_, ?_, .int _ _⟩
      simp only [binOp, Op.shift, hb, ]
      rfl
    split at h
    · rename_i au8 au9 hk
      have := gx.1 hk; subst this
      unfold arith at h
      split at h
      all_goals first
        | (injection h with h; subst h
           first
             | (refine ⟨_, ?_, .int _ _⟩
                simp only [binOp, xi, ne_eq, ]
                rfl)
             | (refine ⟨_, ?_, .bool _⟩
                simp only [binOp, ne_eq, ]
                rfl))
        | (split at h
           · cases h
           rename_i hb
           injection h with h; subst h
           refine ⟨_, ?_, .int _ _⟩
           simp only [binOp, Op.intDiv, xi, ne_eq, hb]
           rfl)
        | cases h
    cases h
  cases h
theorem XM {neg:Bool} {op:BinOp} {t:TypeId} {p q:Operand} {a b:Bool} (ho:op=if neg then .neq else .eql) (ht:P.underlying t=aet .bool):
 (do eqGuard op t p q (.bool a) (.bool b);binOp op t (.bool a) (.bool b):Sem Value).run P w= .ok (.bool (if neg then !(a==b) else a==b)) w:=by
 have h1:(Op.equal t _ _).run P w= .ok _ w:=run_equalIn_bool' w 9999 t a b ht;cases neg<;>simp [] at ho<;>subst ho<;>simp [eqGuard,binOp,h1]
theorem ae2 {op:UnOp} {x z:PV} {u:Value} (hx:VR im loc x u) (h:unE op x=aet z): ∃r,(Op.unary op u).run P w= .ok r w/\VR im loc z r:=by
 unfold unE at h;split at h
 · injection h with h;subst h
   obtain rfl:=hx.jd;exact ⟨_,rfl,by rw [xi];exact .int _ _⟩
 · injection h with h;subst h
   obtain rfl:=hx.mE;exact ⟨_,rfl,.bool _⟩
 cases h
theorem XN {s d:TypeId} {k k':IntKind} {n:Int} {ds:TypeDesc} (hs:P.underlying s=aet ds) (hd:P.underlying d=aet (.int k)):
 (convert s d (.int k' n)).run P w= .ok (.int k (aa k n)) w:=by
 simp [convert,run_underlying hs,run_underlying hd,xi];cases ds<;>rfl
theorem GK {t:TypeId} (h:js P t=aez):(isAgg t).run P w= .ok aez w:=by
 unfold js at h;split at h
 · rename_i f hu;simp [isAgg,run_underlying hu]
 · rename_i n f hu;simp [isAgg,run_underlying hu]
 cases h
theorem GL {t:TypeId} (hs:(P.underlying t).isSome=aez) (h:js P t=aeG):(isAgg t).run P w= .ok aeG w:=by
 cases hu:P.underlying t with
 |none=>grind
 |some d=>unfold js at h;rw [hu] at h;cases d<;>first|(simp [isAgg,run_underlying hu];done)|cases h
theorem nP {t:TypeId} {n:Nat} (h:tD P t n=aez):(sizeOf t).run P w= .ok n w:=by
 unfold tD at h;cases hi:P.info? t with
 |none=>grind
 |some i=>
  rw [hi] at h;have:i.size=n:=by simpa using h
  simp [sizeOf,typeInfo,hi,this]
theorem PF {agg:Option Nat} {t:TypeId} {off:Nat} {cs:List PV} {vs:List Value} {x:PV} (ha:Fl P t agg=aez) (h:fW im loc cs vs)
 (hp:part agg off cs=aet x): ∃v,(Go.part t ⟨vs⟩ off).run P w= .ok v w/\VR im loc x v:=by
 unfold Fl at ha;simp [] at ha;obtain ⟨hs,ha⟩:=ha;cases agg with
 |some n=>
  simp [] at ha;simp only [part] at hp;split at hp
  · rename_i p9
    injection hp with hp;subst hp;refine ⟨.agg ⟨(vs.drop off).take n⟩,?_,.agg _ _ ((h.drop off).take n)⟩;simp only [Go.part,aa9,GK ha.1,NE,if_true,nP ha.2,];simp
  cases hp
 |none=>simp [] at ha;obtain ⟨v,hv,hr⟩:=h.get off x hp;simp [Go.part,GL hs ha.1,];simp_all
theorem Aw {agg:Option Nat} {t:TypeId} {b o off:Nat} {cs:List PV} {vs:List Value} {x:PV} (ha:Fl P t agg=aez) (h:fW im loc cs vs)
 (hm: ∀(j:Nat) (v:Value),vs[j]? =aet v->w.cell? ⟨b,o+j,aew⟩=aet v)
 (hp:part agg off cs=aet x): ∃v,(loadVar t ⟨b,o+off,aew⟩).run P w= .ok v w/\VR im loc x v:=by
 unfold Fl at ha;simp [] at ha;obtain ⟨hs,ha⟩:=ha;have au': ∀k j:Nat,(⟨b,k,aew⟩:Addr).add j=⟨b,k+j,aew⟩:=by intro k j;unfold Addr.add;simp
 cases agg with
 |some n=>
  simp [] at ha;simp only [part] at hp;split at hp
  · injection hp with hp;subst hp
    refine ⟨.agg ⟨(vs.drop off).take n⟩,?_,.agg _ _ ((h.drop off).take n)⟩;have hl:((vs.drop off).take n).length=n:=by have:=h.qA;simp;omega
    have:=run_loadCells_list (P:=P) w ⟨b,o+off,aew⟩ ((vs.drop off).take n) (by
     grind)
    rw [hl] at this;simp [loadVar,GK ha.1,nP ha.2,this,]
  cases hp
 |none=>simp [] at ha;obtain ⟨v,hv,hr⟩:=h.get off x hp;simp [loadVar,GL hs ha.1,];simp_all
end
end Go.Vm
/- What an operation does to the memory, and the shapes in which it does it. -/
namespace Go.Vm
structure yc (im:Im) (loc:Loc) (aA:cU) (w:World) (r:tz) (fA:Im) (bz:Loc) (w':World):Prop where
 jt:rZ im fA
 eS:pR loc bz
 bP: ∀b o,fA b=aet o->w'.heap[b]? =aet o
 fa: ∀b o,fA b=aet o->im b=aet o\/w.heap.size<=b\/ ∃t li k,has r.fr t=aez/\loc t=aet li/\aA[t]? =aet k/\k.bW=aez/\li.eg=b
 os:w'.os=w.os
 tape:Tape w w'
 output:w'.output=w.output
 size:w.heap.size<=w'.heap.size
 frame: ∀b,b<w.heap.size->(∀t k li k0,(t,k)∈r.wr->loc t=aet li->aA[t]? =aet k0->k0.bW=aez->li.eg≠b)->w'.heap[b]? =w.heap[b]?
 Vx: ∀t k,(t,k)∈r.wr->k.bW=aez-> ∃k0,aA[t]? =aet k0/\k0.bW=aez
 wr: ∀t k li,(t,k)∈r.wr->loc t=aet li->BR fA bz w' li k
 oo: ∀t li,bz t=aet li->loc t=aet li\/(aef aA<=t/\t<aef aA+aef r.news)
 news: ∀(j:Nat) (k:om) (li:LI),r.news[j]? =aet k->bz (aef aA+j)=aet li->BR fA bz w' li k/\
  (k.bW=aez->fA li.eg=aew/\(w.heap.size<=li.eg\/ ∃t lt k0,(t,om.dead)∈r.wr/\loc t=aet lt/\aA[t]? =aet k0/\k0.bW=aez/\lt.eg=li.eg))
 distinct: ∀(i j:Nat) (ki kj:om) (li lj:LI),r.news[i]? =aet ki->r.news[j]? =aet kj->ki.bW=aez->kj.bW=aez->
  bz (aef aA+i)=aet li->bz (aef aA+j)=aet lj->li.eg=lj.eg->i=j
theorem GM {α:Type} {n:Nat} {l:List α} {loc:Loc} {A:LI->α->Prop} (h: ∀(j:Nat) (k:α),l[j]? =aet k-> ∃li,loc (n+j)=aet li/\A li k):
 ∀(j:Nat) (k:α) (li:LI),l[j]? =aet k->loc (n+j)=aet li->A li k:=fun j k li hj hl=>by
 grind
structure mb (im:Im) (loc:Loc) (aA:cU) (w:World) (r:tz):Prop where
 bP: ∀b o,im b=aet o->w.heap[b]? =aet o
 tok: ∀t,t∈r.rd\/(∃k,(t,k)∈r.wr)-> ∀li,loc t=aet li-> ∃k,aA[t]? =aet k/\BR im loc w li k
 free: ∀t k,(t,k)∈r.wr-> ∀li k',loc t=aet li->aA[t]? =aet k'->k'.bW=aez->im li.eg=aew
 fresh: ∀j,j<aef r.news->loc (aef aA+j)=aew
 k7: ∀t u li lj k k',(t∈r.rd\/ ∃b,(t,b)∈r.wr)->(u∈r.rd\/ ∃b,(u,b)∈r.wr)->loc t=aet li->loc u=aet lj->aA[t]? =aet k->aA[u]? =aet k'->k.bW=aez->k'.bW=aez->li.eg=lj.eg->t=u
section
variable {im : Im} {loc : Loc} {aA : cU} {w : World} {r : tz}
theorem yc.none (hk:mb im loc aA w r) (hn:r.news=[]) (hw:r.wr=[]):yc im loc aA w r im loc w where
 jt:= .refl _
 eS:= .refl _
 bP:=hk.bP
 fa:=fun _ _ h=> .inl h
 os:=rfl
 tape:= .refl _
 output:=rfl
 size:=WF _
 frame:=fun _ _ _=>rfl
 Vx:=fun t k h=>by grind
 wr:=fun t k li h=>by grind
 oo:=fun _ _ h=> .inl h
 news:=fun j k li h=>by grind
 distinct:=fun i j ki kj li lj h=>by grind
def Loc.set (loc:Loc) (t:Nat) (li:LI):Loc:=fun u=>if u=t then aet li else loc u
theorem Loc.jE (loc:Loc) (t:Nat) (li:LI):loc.set t li t=aet li:=by simp [Loc.set]
theorem Loc.B5 {loc:Loc} {t:Nat} (li:LI) (h:loc t=Option.none):pR loc (loc.set t li):=by
 intro u l hu;unfold Loc.set
 grind
theorem yc.new (hk:mb im loc aA w r) {k:om} {o:Obj} {w':World} (li:LI) (hn:r.news=[k]) (hw:r.wr=[])
 (hh:w'.heap=w.heap.push o) (ho:w'.os=w.os) (ht:w'.tape=w.tape) (hp:w'.output=w.output) (hl:li.eg=w.heap.size)
 (hb:BR im (loc.set (aef aA) li) w' li k) (hd:w.drawn<=w'.drawn:=by first|exact WF _|exact Nat.le_succ _):yc im loc aA w r im (loc.set (aef aA) li) w' where
 jt:= .refl _
 eS:=Loc.B5 li (by have:=hk.fresh 0 (by simp [hn]);simpa using this)
 bP:=fun b o h=>by
  have h1:=hk.bP b o h
  grind
 fa:=fun _ _ h=> .inl h
 os:=ho
 tape:=⟨ht,hd⟩
 output:=hp
 size:=by rw [hh];simp
 frame:=fun b HL _=>by grind
 Vx:=fun t k h=>by grind
 wr:=fun t k li h=>by grind
 oo:=fun t l h=>by
  unfold Loc.set at h
  grind
 news:=GM fun j k' h=>by
  rw [hn] at h;cases j with
  |zero=>
   simp at h;subst h;refine ⟨li,Loc.jE _ _ _,hb,fun _=>⟨?_,.inl (by omega)⟩⟩;cases hi:im li.eg with
   |none=>rfl
   |some o=>have:=hk.bP _ _ hi;grind
  |succ j=>simp at h
 distinct:=fun i j ki kj li lj h1 h2 _ _ _ _ _=>by
  grind
theorem yc.XO (hk:mb im loc aA w r) {aO:Nat} (hn:r.news=[.arr aO []]) (hw:r.wr=[]):yc im loc aA w r im (loc.set (aef aA) ⟨0,0,aO,0,0⟩) w where
 jt:= .refl _
 eS:=Loc.B5 _ (by have:=hk.fresh 0 (by simp [hn]);simpa using this)
 bP:=hk.bP
 fa:=fun _ _ h=> .inl h
 os:=rfl
 tape:= .refl _
 output:=rfl
 size:=WF _
 frame:=fun _ _ _=>rfl
 Vx:=fun t k h=>by grind
 wr:=fun t k li h=>by grind
 oo:=fun t l h=>by
  unfold Loc.set at h
  grind
 news:=GM fun j k' h=>by
  rw [hn] at h;cases j with
  |zero=>simp at h;subst h;exact ⟨_,Loc.jE _ _ _,⟨rfl,rfl,fun fy=>absurd rfl fy⟩,fun hs=>by cases hs⟩
  |succ j=>simp at h
 distinct:=fun i j ki kj li lj h1 h2 _ _ _ _ _=>by
  grind
theorem yc.write (hk:mb im loc aA w r) {t:Nat} {k k0:om} {o:Obj} {w':World} {li:LI} (hn:r.news=[]) (hw:r.wr=[(t,k)])
 (hl:loc t=aet li) (h0:aA[t]? =aet k0) (hs:k0.bW=aez)
 (hh:w'.heap=w.heap.setIfInBounds li.eg o) (ho:w'.os=w.os) (ht:w'.tape=w.tape) (hp:w'.output=w.output)
 (hb:BR im loc w' li k) (hd:w.drawn<=w'.drawn:=by first|exact WF _|exact Nat.le_succ _):yc im loc aA w r im loc w' where
 jt:= .refl _
 eS:= .refl _
 bP:=fun b o' h=>by
  have h1:=hk.bP b o' h;have yX:=hk.free t k (by simp [hw]) li k0 hl h0 hs
  grind
 fa:=fun _ _ h=> .inl h
 os:=ho
 tape:=⟨ht,hd⟩
 output:=hp
 size:=by rw [hh];simp
 frame:=fun b _ h=>by
  grind
 Vx:=fun t' k' hm _=>by
  grind
 wr:=fun t' k' li' h h'=>by
  grind
 oo:=fun _ _ h=> .inl h
 news:=fun j k li h=>by grind
 distinct:=fun i j ki kj li lj h=>by grind
end
end Go.Vm
/- Operation by operation, second part: addresses, reads, new blocks. -/
namespace Go.Vm
section
variable {P : Program} {im : Im} {loc : Loc} {aA : cU} {w : World}
theorem vT (b o n:Nat):(⟨b,o,aew⟩:Addr).add n=⟨b,o+n,aew⟩:=by unfold Addr.add;simp
theorem VR.Db {t e r o:Nat} {v:Value} (h:VR im loc (.ptr t e r o) v):
 ∃li,loc t=aet li/\li.aO=e/\r<li.n/\v= .pointer (aet ⟨li.eg,li.sh+r*e+o,aew⟩):=by
 cases h with|ptr _ _ _ _ li h1 h2 h3=>grind
theorem VR.B6 {cs:List PV} {off:Nat} {v:Value} (h:VR im loc (.bR cs off) v):
 ∃b o vs,fW im loc cs vs/\(∀(j:Nat) (v:Value),vs[j]? =aet v->tO im b (o+j)=aet v)/\v= .pointer (aet ⟨b,o+off,aew⟩):=by
 cases h with|bR _ _ b o vs h1 h2=>grind
theorem oe {b o:Nat} {cs:Array Value} {el:TypeId} {fr:Nat×Nat} {v:Value} (h:w.heap[b]? =aet (.cells cs el fr)) (hc:cs[o]? =aet v):
 w.cell? ⟨b,o,aew⟩=aet v:=by simp [World.cell?,h,hc]
theorem vn (hk: ∀b o,im b=aet o->w.heap[b]? =aet o) {b o:Nat} {v:Value} (h:tO im b o=aet v):w.cell? ⟨b,o,aew⟩=aet v:=by
 unfold tO at h
 grind [oe]
def bn (r:Row):List Value:=r.map fun c=>(mD c).getD Go.undef
theorem yd {get:Nat->Option Value} {sh aO:Nat} {rows:List Row} (h:bY get sh aO rows) {i:Nat} {r:Row} (hr:rows[i]? =aet r):
 fW im loc r (bn r)/\ ∀(j:Nat) (v:Value),(bn r)[j]? =aet v->get (sh+i*aO+j)=aet v:=by
 obtain ⟨_,hc⟩:=h i r hr;constructor
 · refine fW.of _ _ (by simp [bn]) fun j x v hx hv=>?_
   obtain ⟨u,hu,_⟩:=hc j x hx;simp [bn,] at hv
   grind [VR.Jm]
 intro j v hv
 cases hx:r[j]? with
 |none=>simp [bn,hx] at hv
 |some x=>
  simp [bn,] at hv
  grind
theorem PG {agg:Option Nat} {t:TypeId} {p:PV} {u:Value} {r:tz} (hp:VR im loc p u) (ha:Fl P t agg=aez) (h:tI aA agg p=aet r)
 (hk:mb im loc aA w r): ∃v,(Instr.loadAt t u).run P w= .ok v w/\VR im loc r.v v/\r.news=[]/\r.wr=[]:=by
 unfold tI at h;split at h
 · rename_i tk e row off
   obtain ⟨li,hl,he,hn,rfl⟩:=hp.Db;split at h
   · rename_i e' rows hs
     split at h
     · rename_i cs wB
       rw [EQ] at h;obtain ⟨x,hx,rfl⟩:=h;obtain ⟨k,j8,hb⟩:=hk.tok tk (.inl (by simp)) li hl;rw [hs] at j8;injection j8 with j8;subst j8;have fy:rows≠[]:=by grind
       obtain ⟨h1,h2,h3⟩:=hb;obtain ⟨arr,el,DQ,_,_,oG⟩:=h3 fy;obtain ⟨hv,hg⟩:=yd oG wB;have R3:e'=e:=by rw [<- h1,he]
       subst R3;obtain ⟨v,dq,tM⟩:=Aw ha hv
        (fun j v hj=>oe DQ (hg j v hj)) hx
       exact ⟨v,by assumption,tM,rfl,rfl⟩
     cases h
   · rename_i cs hs
     split at h
     · rename_i zB
       have zB:row=0:=by simpa using zB
       subst zB;rw [EQ] at h;obtain ⟨x,hx,rfl⟩:=h;obtain ⟨k,j8,hb⟩:=hk.tok tk (.inl (by simp)) li hl;rw [hs] at j8;injection j8 with j8;subst j8;obtain ⟨h1,h2,h3,vs,el,h4,h5,h6⟩:=hb;obtain ⟨v,dq,tM⟩:=Aw (o:=li.sh+0*e) ha h6
        (fun j v hj=>oe h4 (by grind)) hx
       exact ⟨v,by assumption,tM,rfl,rfl⟩
     cases h
   cases h
 · rename_i cs off
   obtain ⟨b,o,vs,h1,h2,rfl⟩:=hp.B6;rw [EQ] at h;obtain ⟨x,hx,rfl⟩:=h;obtain ⟨v,dq,tM⟩:=Aw ha h1 (fun j v hj=>vn hk.bP (h2 j v hj)) hx;exact ⟨v,by assumption,tM,rfl,rfl⟩
 cases h
theorem Jn {cs:List PV} {vs:List Value} {el:TypeId} {r:tz} (h:fW im loc cs vs) (hr:r={v:= .ptr (aef aA) (aef cs) 0 0,news:=[.box cs]}) (hk:mb im loc aA w r):
 ∃bz,VR im bz r.v (.pointer (aet ⟨w.heap.size,0,aew⟩))/\yc im loc aA w r im bz {w with heap:=w.heap.push (.cells ⟨vs⟩ el)}:=by
 subst hr
 let li:LI:=⟨w.heap.size,0,aef cs,1,aef vs⟩
 refine ⟨loc.set (aef aA) li,?_,?_⟩
 · have:=VR.ptr (im:=im) (loc:=loc.set (aef aA) li) (aef aA) (aef cs) 0 0 li (Loc.jE _ _ _) rfl (Nat.zero_lt_one)
   grind
 refine yc.new hk li rfl rfl rfl rfl rfl rfl rfl ⟨.inl ⟨rfl,rfl⟩,trivial,rfl,vs,el,?_,rfl,h.mono (.refl _) (Loc.B5 li (by have:=hk.fresh 0 (by simp);simpa using this))⟩
 simp [li]
theorem PH {x y:PV} {u v:Value} {el:TypeId} {r:tz} (hx:VR im loc x u) (hy:VR im loc y v) (hr:r={v:= .own (aef aA) 1 0 2 2 aez,news:=[.box [x,y]]}) (hk:mb im loc aA w r):
 ∃bz,VR im bz r.v (.slice (aet ⟨w.heap.size,0,aew⟩) 2 2)/\yc im loc aA w r im bz {w with heap:=w.heap.push (.cells #[u,v] el)}:=by
 subst hr
 let li:LI:=⟨w.heap.size,0,1,2,2⟩
 refine ⟨loc.set (aef aA) li,?_,?_⟩
 · exact .own (aef aA) 1 0 2 2 aez li _ 2 (Loc.jE _ _ _) rfl (WF _) (WF _) (WF _) (fun _=>rfl) (.inr ⟨by simp [],by simp [li],by simp [li]⟩)
 refine yc.new hk li rfl rfl rfl rfl rfl rfl rfl ⟨.inr ⟨rfl,rfl⟩,trivial,rfl,[u,v],el,?_,rfl,(fW.cons _ _ _ _ hx (.cons _ _ _ _ hy .nil)).mono (.refl _) (Loc.B5 li (by have:=hk.fresh 0 (by simp);simpa using this))⟩
 simp [li]
theorem XP {off:Nat} {t:TypeId} {f:Nat} {fs:Array Field} {g:Field} {i:TypeInfo} {p z:PV} {u:Value} (hp:VR im loc p u)
 (hu:P.underlying t=aet (.struct fs)) (hf:fs[f]? =aet g) (ho:g.offset=off) (hi:P.info? g.type=aet i) (hz:i.size≠0)
 (h:(match (generalizing:=false) p with| .ptr t s r o=>some (PV.ptr t s r (o+off))| .bR c o=>some (PV.bR c (o+off))|_=>none)=some z):
 ∃v,(Instr.fieldAt t u f).run P w= .ok v w/\VR im loc z v:=by
 have wb:(sizeOf g.type).run P w= .ok i.size w:=by simp [sizeOf,typeInfo,hi]
 cases p with
 |ptr tk s r o=>injection h with h;subst h;obtain ⟨li,hl,he,hn,rfl⟩:=hp.Db;refine ⟨_,?_,.ptr tk s r _ li hl he hn⟩;simp [Instr.fieldAt,run_underlying hu,hf,Instr.sureAddr,fieldPlace,wb,hz,vT,ho,abn]
 |bR cs o=>injection h with h;subst h;obtain ⟨b,o',vs,h1,h2,rfl⟩:=hp.B6;refine ⟨_,?_,.bR cs _ b o' vs h1 h2⟩;simp [Instr.fieldAt,run_underlying hu,hf,Instr.sureAddr,fieldPlace,wb,hz,vT,ho,abn]
 |_=>cases h
theorem tQ {x:PV} {n:Nat} {u:Value} (hx:VR im loc x u) (h:ma x=aet n): ∃k,u= .int k (n:Int):=by
 unfold ma at h;split at h
 · rename_i k m
   obtain rfl:=hx.jd;split at h
   · grind
   cases h
 cases h
theorem Vy {n aO j:Nat} {t e:TypeId} {p z:PV} {u:Value} {k:IntKind} (hp:VR im loc p u)
 (hu:P.underlying t=aet (.array n e)) (hs:tD P e aO=aez) (hj:j<n)
 (h:(match (generalizing:=false) p with| .ptr t s r o=>some (PV.ptr t s r (o+j*aO))| .bR c o=>some (PV.bR c (o+j*aO))|_=>none)=some z):
 ∃v,(Instr.indexAt t u (.int k j)).run P w= .ok v w/\VR im loc z v:=by
 have wb:=nP (w:=w) hs;cases p with
 |ptr tk s r o=>injection h with h;subst h;obtain ⟨li,hl,he,hn,rfl⟩:=hp.Db;refine ⟨_,?_,.ptr tk s r _ li hl he hn⟩;simp [Instr.indexAt,asIntOf,run_underlying hu,Instr.sureAddr,wb,vT,abn];intro h;omega
 |bR cs o=>injection h with h;subst h;obtain ⟨b,o',vs,h1,h2,rfl⟩:=hp.B6;refine ⟨_,?_,.bR cs _ b o' vs h1 h2⟩;simp [Instr.indexAt,asIntOf,run_underlying hu,Instr.sureAddr,wb,vT,abn];intro h;omega
 |_=>cases h
theorem VR.r8 {aO:Nat} {vP:Bool} {rows:List Row} {v:Value} (h:VR im loc (.sl aO vP rows) v):
 ∃a cap,v= .slice a (aef rows) cap/\aef rows<=cap/\(vP=aez->cap=aef rows)/\(rows≠[]-> ∃b o,a=aet ⟨b,o,aew⟩/\bY (tO im b) o aO rows):=by
 cases h with|sl _ _ _ a cap hc hk h=>grind
theorem VR.jK {t aO off len cap:Nat} {ex:Bool} {v:Value} (h:VR im loc (.own t aO off len cap ex) v):
 ∃li a eh,v= .slice a len eh/\loc t=aet li/\li.aO=aO/\off+cap<=li.n/\len<=cap/\cap<=eh/\(ex=aez->eh=cap)/\
  (eh=0\/(li.n≠0/\a=aet ⟨li.eg,li.sh+off*aO,aew⟩/\li.sh+(off+eh)*aO<=li.sz)):=by
 cases h with|own _ _ _ _ _ _ li a eh h1 h2 h3 h4 h5 h6 h7=>grind
theorem run_indexAt_slice {t e:TypeId} {aO j len cap b o:Nat} {k:IntKind} (hu:P.underlying t=aet (.slice e)) (hs:tD P e aO=aez) (hj:j<len):
 (Instr.indexAt t (.slice (aet ⟨b,o,aew⟩) len cap) (.int k j)).run P w= .ok (.pointer (aet ⟨b,o+j*aO,aew⟩)) w:=by
 have wb:=nP (w:=w) hs;simp [Instr.indexAt,asIntOf,run_underlying hu,wb,vT];omega
theorem XQ {aO n:Nat} {t e:TypeId} {x z:PV} {u:Value} {k:IntKind} (hx:VR im loc x u)
 (hu:P.underlying t=aet (.slice e)) (hs:tD P e aO=aez)
 (h:(match (generalizing:=false) x with
  | .sl s _ rows=>match rows[n]? with
   |some cs=>if UV s aO then aet (PV.bR cs 0) else aew
   |none=>aew
  | .own t s off len _ _=>if abv n len&&UV s aO then aet (PV.ptr t s (off+n) 0) else aew
  |_=>aew)=aet z):
 ∃v,(Instr.indexAt t u (.int k n)).run P w= .ok v w/\VR im loc z v:=by
 cases x with
 |sl s vP rows=>
  dsimp only at h;cases wB:rows[n]? with
  |none=>grind
  |some cs=>
   rw [wB] at h;dsimp only at h;split at h
   · rename_i hse
     have hse:s=aO:=by simpa using hse
     subst hse;injection h with h;subst h;obtain ⟨a,cap,rfl,_,_,hr⟩:=hx.r8;have fy:rows≠[]:=by grind
     obtain ⟨b,o,rfl,oG⟩:=hr fy;have hn:n<(aef rows):=by
      grind
     refine ⟨_,run_indexAt_slice hu hs hn,?_⟩;obtain ⟨hv,hg⟩:=yd oG wB;have:=VR.bR cs 0 b _ _ hv hg;simpa using this
   cases h
 |own tk s off len cap ex=>
  dsimp only at h;split at h
  · rename_i hc
    simp [] at hc;have hn:n<len:=by simpa using hc.1
    have hse:s=aO:=by simpa using hc.2
    injection h with h;obtain ⟨li,a,eh,rfl,hl,he,GN,eT,LB,_,hd⟩:=hx.jK;rcases hd with hd|⟨fy,rfl,_⟩
    · omega
    refine ⟨_,run_indexAt_slice hu hs hn,?_⟩
    have:=VR.ptr (im:=im) tk s (off+n) 0 li hl he (by omega)
    grind
  cases h
 |_=>cases h
theorem run_sliceBound {x k:Nat} {kd:IntKind} {code:BoundsCode} (h:x<=k):(Instr.sliceBound (.int kd x) k code).run P w= .ok x w:=by
 have:(0:Int)<=(x:Int)/\(x:Int)<=(k:Int):=by omega
 simp [Instr.sliceBound,asIntOf,this]
def Es (v:Option Value) (n:Option Nat):Prop:=
 match v,n with
 |none,aew=>True
 |some v,aet n=> ∃k,v= .int k (n:Int)
 |_,_=>False
theorem qt {len cap:Nat} {lo hi mx:Option Nat} {vl vh vm:Option Value} (h1:Es vl lo) (h2:Es vh hi) (h3:Es vm mx)
 (hm:mx.isSome=aez->hi.isSome=aez) (p9:lo.getD 0<=hi.getD len) (hhm:hi.isSome=aez->hi.getD len<=mx.getD cap) (hmc:mx.getD cap<=cap):
 (Instr.sliceBounds aez len cap vl vh vm).run P w= .ok (lo.getD 0,hi.getD len,mx.getD cap) w:=by
 cases mx with
 |none=>
  cases vm with
  |some v=>exact h3.elim
  |none=>
   cases hi with
   |none=>
    cases vh with
    |some v=>exact h2.elim
    |none=>
     cases lo with
     |none=>
      cases vl with
      |some v=>exact h1.elim
      |none=>rfl
     |some l=>
      cases vl with
      |none=>exact h1.elim
      |some v=>obtain ⟨k,rfl⟩:=h1;simp [] at p9;simp [Instr.sliceBounds,run_sliceBound p9]
   |some hh=>
    cases vh with
    |none=>exact h2.elim
    |some v=>
     obtain ⟨k,rfl⟩:=h2;simp [] at p9 hhm;cases lo with
     |none=>
      cases vl with
      |some v=>exact h1.elim
      |none=>simp [Instr.sliceBounds,run_sliceBound hhm]
     |some l=>
      cases vl with
      |none=>exact h1.elim
      |some v=>obtain ⟨k,rfl⟩:=h1;simp [] at p9;simp [Instr.sliceBounds,run_sliceBound hhm,run_sliceBound p9]
 |some m=>
  cases vm with
  |none=>exact h3.elim
  |some v=>
   obtain ⟨k,rfl⟩:=h3;cases hi with
   |none=>simp at hm
   |some hh=>
    cases vh with
    |none=>exact h2.elim
    |some v=>
     obtain ⟨k,rfl⟩:=h2;simp [] at p9 hhm hmc;cases lo with
     |none=>
      cases vl with
      |some v=>exact h1.elim
      |none=>simp [Instr.sliceBounds,run_sliceBound hhm,run_sliceBound hmc]
     |some l=>
      cases vl with
      |none=>exact h1.elim
      |some v=>obtain ⟨k,rfl⟩:=h1;simp [] at p9;simp [Instr.sliceBounds,run_sliceBound hhm,run_sliceBound p9,run_sliceBound hmc]
end
end Go.Vm
/- Operation by operation, third part: stores, aggregates. -/
namespace Go.Vm
def rQ {α:Type} (off:Nat) (new old:List α):List α:=old.take off++new++old.drop (off+aef new)
theorem jL {α:Type} (off:Nat) (new old:List α) (h:off+aef new<=aef old) (j:Nat):
 (rQ off new old)[j]? =if off<=j/\j<off+(aef new) then new[j-off]? else old[j]?:=by
 unfold rQ;have hl:(old.take off).length=off:=by simp;omega
 grind
theorem dJ {α:Type} (off:Nat) (new old:List α) (h:off+aef new<=aef old):(rQ off new old).length=(aef old):=by unfold rQ;simp;omega
theorem fW.rQ {im:Im} {loc:Loc} {off:Nat} {xs ys:List PV} {vs us:List Value} (h:fW im loc xs vs) (k:fW im loc ys us):
 fW im loc (Vm.rQ off xs ys) (Vm.rQ off vs us):=by
 unfold Vm.rQ;rw [<- h.qA];exact ((k.take off).append h).append (k.drop _)
theorem fW.Md {im:Im} {loc:Loc}: ∀{xs:List PV} {vs:List Value},fW im loc xs vs->(∀c∈xs,c.plain=aez)->
 ∀(j:Nat) (c:PV),xs[j]? =aet c-> ∃v,mD c=aet v/\vs[j]? =aet v:=by
 intro xs vs h hp j c hc;obtain ⟨v,hv,hr⟩:=h.get j c hc;exact ⟨v,hr.plain (hp c (abw hc)),hv⟩
theorem Vz {i row aO j off n sh:Nat} (fy:i≠row) (hj:j<aO) (hn:off+n<=aO):
 ¬(sh+row*aO+off<=sh+i*aO+j/\sh+i*aO+j<sh+row*aO+off+n):=by
 rcases Nat.lt_or_gt_of_ne fy with h|h
 · have:=aaE aO (h)
   grind
 have:=aaE aO (h)
 grind
theorem bY.store {get get':Nat->Option Value} {sh aO row off:Nat} {rows:List Row} {cs ws:List PV} {vs:List Value}
 (h:bY get sh aO rows) (hr:rows[row]? =aet cs) (p9:off+aef ws<=aef cs)
 (hw: ∀(j:Nat) (c:PV),ws[j]? =aet c-> ∃v,mD c=aet v/\vs[j]? =aet v) (hl:(aef vs)=aef ws)
 (hg: ∀k,get' k=if sh+row*aO+off<=k/\k<sh+row*aO+off+(aef vs) then vs[k- (sh+row*aO+off)]? else get k):
 bY get' sh aO (rows.set row (rQ off ws cs)):=by
 intro i r hi;rw [List.getElem?_set] at hi;have zB:row<(aef rows):=by
  grind
 obtain ⟨IA,T5⟩:=h row cs hr;split at hi
 · rename_i e
   subst e;injection hi with hi;subst hi;refine ⟨by rw [dJ _ _ _ p9];exact IA,fun j c hc=>?_⟩;rw [jL _ _ _ p9] at hc
   grind
 rename_i fy
 obtain ⟨XA,hrc⟩:=h i r hi;refine ⟨XA,fun j c hc=>?_⟩;obtain ⟨v,hv,XS⟩:=hrc j c hc;refine ⟨v,hv,?_⟩;have hj:j<aO:=by
  grind
 rw [hg,Do (Vz (fun e=>fy e.symm) hj (by omega))];exact XS
section
variable {P : Program} {im : Im} {loc : Loc} {aA : cU} {fz : List Nat} {w : World}
theorem cm {g:Nat} {cur cs:Array Value} {t:TypeId} (hg:w.heap[g]? =aet (.cells cur t (0,0))):
 (w.setRow g cs).heap=w.heap.setIfInBounds g (.cells cs t (0,0)):=by
 unfold World.setRow
 grind
theorem PI {v:Value} (h:(∀us,v≠ .agg us)/\ ∀us,v≠ .tuple us):v.oneCell'=aez:=by cases v<;>first|rfl|grind|grind
theorem fW.one: ∀{xs:List PV} {vs:List Value},fW im loc xs vs->(∀c∈xs,c.wa=aez)-> ∀v∈vs,v.oneCell'=aez
 |_,_,.nil,_,_,hv=>by cases hv
 |_,_,.cons x u xs vs h hs,ho,v,hv=>by
  cases hv with
  |head=>exact PI (h.NB (ho x (by simp)))
  |tail _ hm=>exact fW.one hs (fun c hc=>ho c (by simp [hc])) v hm
theorem B7 {c:PV} (h:c.plain=aez):c.wa=aez:=by cases c<;>first|rfl|cases h
theorem Et {v:PV} {ws:List PV} (h:v.stored=aet ws):ws=v.cells/\ ∀c∈v.cells,c.wa=aez:=by
 unfold PV.stored at h
 grind
theorem qu {v:PV} {ws:List PV} (h:v.cW=aet ws):ws=v.cells/\ ∀c∈v.cells,c.plain=aez:=by
 unfold PV.cW at h
 grind
theorem HM {t el:TypeId} {sz b o:Nat} {x:Value} {cur:Array Value} (hs:tD P t sz=aez) (hb:w.heap[b]? =aet (.cells cur el (0,0)))
 (hx:x.cells.size=sz) (p9:o+sz<=cur.size) (h1: ∀v∈x.cells.toList,v.oneCell'=aez):
 (Instr.storeAt t (.pointer (aet ⟨b,o,aew⟩)) x).run P w= .ok () (w.setRow b (rQ o x.cells.toList cur.toList).toArray):=by
 have:=run_storeCells_at P b o el x.cells.toList 0 cur w hb (by simp;omega) h1;simp [Instr.storeAt,storeVar,nP hs,hx,]
 assumption
theorem VA {t:TypeId} {sz:Nat} {p v:PV} {u x:Value} {r:tz} (hp:VR im loc p u) (hv:VR im loc v x) (hs:tD P t sz=aez)
 (h:xd aA fz sz v p=aet r) (hk:mb im loc aA w r):
 ∃w',(Instr.storeAt t u x).run P w= .ok () w'/\yc im loc aA w r im loc w'/\r.v= .undef:=by
 unfold xd at h;cases p with
 |ptr tk e row off=>
  dsimp only at h;obtain ⟨li,hl,he,hn,rfl⟩:=hp.Db;cases Ax:aA[tk]? with
  |none=>grind
  |some eg=>
   rw [Ax] at h;cases eg with
   |arr e' rows=>
    dsimp only at h;cases wB:rows[row]? with
    |none=>grind
    |some cs=>
     cases hw:v.cW with
     |none=>grind
     |some ws=>
      rw [wB,hw] at h;dsimp only at h;split at h
      · rename_i hc
        simp [] at hc;obtain ⟨rfl,R4⟩:=qu hw;injection h with h;subst h;obtain ⟨k,j8,hb⟩:=hk.tok tk (.inr ⟨_,ab4.2 rfl⟩) li hl;rw [Ax] at j8;injection j8 with j8;subst j8;have fy:rows≠[]:=by grind
        obtain ⟨h1,h2,h3⟩:=hb;obtain ⟨arr,el,DQ,RR,PJ,oG⟩:=h3 fy;have R3:e'=e:=by rw [<- h1,he]
        subst R3;have IA:=(oG row cs wB).1;have T6:=hv.cells (fun c hc=>B7 (R4 c hc));have XB:x.cells.size=sz:=by have:=T6.qA;grind
        have XA:row<(aef rows):=by omega
        have LC:=aaE e' (show row+1<=(aef rows) from XA);rw [ab3] at LC;have wC:li.sh+row*e'+off+sz<=arr.size:=by omega
        have dq:=HM hs DQ XB wC (T6.one (fun c hc=>B7 (R4 c hc)));refine ⟨_,dq,?_,rfl⟩;refine yc.write hk rfl rfl hl Ax (by cases rows with|nil=>grind|cons _ _=>rfl) (cm DQ) rfl rfl rfl ?_;refine ⟨h1,by simpa using h2,fun _=>⟨(rQ (li.sh+row*e'+off) x.cells.toList arr.toList).toArray,el,?_,?_,by simpa using PJ,?_⟩⟩
        · grind [cm]
        · grind [abl,dJ]
        refine oG.store wB (by omega) (T6.Md R4) T6.qA.symm (fun k=>?_)
        grind [jL]
      cases h
   |box cs=>
    dsimp only at h;cases hw:v.stored with
    |none=>grind
    |some ws=>
     rw [hw] at h;dsimp only at h;split at h
     · rename_i hc
       simp [] at hc;obtain ⟨⟨⟨zB,eT⟩,p9⟩,XT⟩:=hc;subst zB;obtain ⟨rfl,GO⟩:=Et hw;injection h with h;subst h;obtain ⟨k,j8,hb⟩:=hk.tok tk (.inr ⟨_,ab4.2 rfl⟩) li hl;rw [Ax] at j8;injection j8 with j8;subst j8;obtain ⟨h1,h2,h3,vs,el,h4,h5,h6⟩:=hb;have T6:=hv.cells GO;have XB:x.cells.size=sz:=by have:=T6.qA;grind
       have hcv:=h6.qA;have dq:=HM (o:=li.sh+0*e+off) hs h4 XB (by simp [];omega) (T6.one GO);refine ⟨_,dq,?_,rfl⟩;refine yc.write hk rfl rfl hl Ax rfl (cm h4) rfl rfl rfl ?_;refine ⟨by rw [show (vQ off v.cells cs).length=(aef cs) by have:=dJ off v.cells cs (by omega);assumption];exact h1,h2,h3,rQ off x.cells.toList vs,el,?_,?_,?_⟩
       · grind [cm]
       · grind [dJ]
       exact fW.rQ T6 h6
     cases h
   |_=>cases h
 |_=>cases h
end
end Go.Vm
/- Operation by operation, fourth part: aggregates, rows, slices. -/
namespace Go.Vm
theorem bY.tail {get:Nat->Option Value} {sh aO:Nat} {r:Row} {rs:List Row} (h:bY get sh aO (r::rs)):bY get (sh+aO) aO rs:=by
 intro i x hx;obtain ⟨h1,h2⟩:=h (i+1) x (by simpa using hx)
 grind
theorem bY.drop {get:Nat->Option Value} {sh aO:Nat} {rows:List Row} (h:bY get sh aO rows) (n:Nat):bY get (sh+n*aO) aO (rows.drop n):=by
 intro i x hx;rw [ad8] at hx;obtain ⟨h1,h2⟩:=h (n+i) x hx
 grind
theorem bY.take {get:Nat->Option Value} {sh aO:Nat} {rows:List Row} (h:bY get sh aO rows) (n:Nat):bY get sh aO (rows.take n):=by
 intro i x hx;have hi:i<n:=by
  grind
 rw [List.getElem?_take_of_lt hi] at hx;exact h i x hx
theorem bY.append {get:Nat->Option Value} {sh aO:Nat} {xs ys:List Row} (h:bY get sh aO xs) (k:bY get (sh+aef xs*aO) aO ys):bY get sh aO (xs++ys):=by
 intro i r hr;rcases abh i (aef xs) with hi|hi
 · rw [abc hi] at hr;exact h i r hr
 rw [aba hi] at hr
 obtain ⟨h1,h2⟩:=k _ r hr;refine ⟨h1,fun j c hc=>?_⟩;obtain ⟨v,hv,hg⟩:=h2 j c hc;refine ⟨v,hv,?_⟩;rw [<- hg];congr 1;have:i*aO=aef xs*aO+(i-(aef xs))*aO:=by rw [<- ab3];congr 1;omega
 omega
theorem bY.sd {get:Nat->Option Value} {sh aO:Nat} {rows:List Row} (h:bY get sh aO rows): ∀r∈rows,aef r=aO:=by intro r hr;obtain ⟨i,hi,rfl⟩:=aby.1 hr;exact (h i _ (IR hi)).1
theorem oH (r:Row):(bn r).length=(aef r):=by simp [bn]
theorem eC {aO:Nat}: ∀{rows:List Row},(∀r∈rows,aef r=aO)->(rows.flatMap bn).length=aef rows*aO
 | [],_=>by simp
 |r::rs,h=>by
  have ih:=eC (rows:=rs) (fun x hx=>h x (by simp [hx]))
  grind [abu,oH,acl,ab3]
theorem bY.flat {get:Nat->Option Value} {aO:Nat}: ∀{rows:List Row} {sh:Nat},bY get sh aO rows-> ∀(j:Nat) (v:Value),(rows.flatMap bn)[j]? =aet v->get (sh+j)=aet v
 | [],_,_,j,v,h=>by simp at h
 |r::rs,sh,hr,j,v,h=>by
  rw [abm] at h;have hl:(bn r).length=aO:=by rw [oH];exact hr.sd r (by simp)
  rcases abh j aO with hj|hj
  · rw [abc (by omega)] at h
    have:=(yd (im:=fun _=>aew) (loc:=fun _=>aew) hr (i:=0) rfl).2 j v h;simpa using this
  rw [aba (by omega),hl] at h
  have:=bY.flat hr.tail (j-aO) v h
  grind
theorem bY.Eu {aO:Nat}: ∀{rows:List Row} {get:Nat->Option Value} {sh:Nat},(∀r∈rows,aef r=aO)->(∀r∈rows,∀c∈r,c.plain=aez)->
 (∀(j:Nat) (v:Value),(rows.flatMap bn)[j]? =aet v->get (sh+j)=aet v)->bY get sh aO rows
 | [],_,_,_,_,_=>by intro i r h;simp at h
 |r::rs,get,sh,hl,hp,hg=>by
  have XA:(bn r).length=aO:=by grind [oH]
  have h1:bY get sh aO [r]:=by
   intro i x hx;cases i with
   |succ i=>simp at hx
   |zero=>
    simp at hx;subst hx;refine ⟨hl r (by simp),fun j c hc=>?_⟩;have hcp:=hp r (by simp) c (abw hc);obtain ⟨v,hv⟩: ∃v,mD c=aet v:=by cases c<;>first|exact ⟨_,rfl⟩|cases hcp
    refine ⟨v,hv,?_⟩;have hj:j<aO:=by
     grind
    have:=hg j v (by rw [abm,abc (by omega)];simp [bn,hc,hv]);simpa using this
  have h2:bY get (sh+aO) aO rs:=bY.Eu (fun x hx=>hl x (by simp [hx])) (fun x hx=>hp x (by simp [hx])) (fun j v hj=>by simp_all [aba,abn]);have:=h1.append (by simpa using h2);simpa using this
theorem bY.plain {get:Nat->Option Value} {sh aO:Nat} {rows:List Row} (h:bY get sh aO rows): ∀r∈rows,∀c∈r,c.plain=aez:=by intro r hr c hc;obtain ⟨i,hi,rfl⟩:=aby.1 hr;obtain ⟨j,hj,rfl⟩:=aby.1 hc;obtain ⟨v,hv,_⟩:=(h i _ (IR hi)).2 j _ (IR hj);cases hh:rows[i][j]<;>rw [hh] at hv<;>first|rfl|cases hv
theorem sf {rows:List Row} (hp: ∀r∈rows,∀c∈r,c.plain=aez): ∀u∈rows.flatMap bn,u.oneCell'=aez:=by intro u hu;obtain ⟨r,hr,hu⟩:=adU.1 hu;obtain ⟨c,hc,rfl⟩:=List.mem_map.1 hu;have:=hp r hr c hc;cases c<;>first|rfl|cases this
section
variable {P : Program} {im : Im} {loc : Loc} {aA : cU} {fz : List Nat} {w : World}
theorem GP {aO:Nat} {y:PV} {u:Value} {new:List Row} {tx e':TypeId} (hy:VR im loc y u) (hr:rowsOf aA aO y=aet new) (hx:P.underlying tx=aet (.slice e'))
 (bP: ∀b o,im b=aet o->w.heap[b]? =aet o) (tok: ∀t,t∈lZ y-> ∀li,loc t=aet li-> ∃k,aA[t]? =aet k/\BR im loc w li k):
 Src P aO tx u (aef new) (new.flatMap bn) w/\(∀r∈new,aef r=aO)/\(∀r∈new,∀c∈r,c.plain=aez):=by
 unfold rowsOf at hr;cases y with
 |sl e vP rows=>
  obtain ⟨a,cap,rfl,_,_,oG⟩:=hy.r8;cases rows with
  |nil=>
   simp at hr;subst hr;refine ⟨?_,by simp,by simp⟩;cases a with
   |none=>exact Src.ofNil w hx cap
   |some a=>grind [Src.ofSlice]
  |cons r rs=>
   dsimp only at hr;split at hr
   · rename_i he
     have he:e=aO:=by simpa using he
     subst he;injection hr with hr;subst hr;obtain ⟨b,o,rfl,dH⟩:=oG (by simp);refine ⟨Src.ofSlice w hx ⟨b,o,aew⟩ _ cap _ (eC dH.sd) (fun j v hj=>?_) (sf dH.plain),dH.sd,dH.plain⟩;rw [vT];exact vn bP (dH.flat j v hj)
   cases hr
 |own t e off len cap ex=>
  dsimp only at hr;split at hr
  · rename_i he
    have he:e=aO:=by simpa using he
    subst he;obtain ⟨li,a,eh,rfl,hl,h2,h3,h4,h5,h6,h7⟩:=hy.jK;obtain ⟨k,j8,hb⟩:=tok t (by simp [lZ]) li hl;rw [j8] at hr;cases k with
    |arr e' rows=>
     simp [If] at hr;subst hr;obtain ⟨b1,b2,b3⟩:=hb;have eT:((rows.drop off).take len).length=len:=by simp;omega
     have R3:e'=e:=by rw [<- b1,h2]
     subst R3;cases rows with
     |nil=>
      have:len=0:=by grind
      subst this;simp;cases a with
      |none=>exact Src.ofNil w hx eh
      |some a=>grind [Src.ofSlice]
     |cons r rs=>
      obtain ⟨arr,el,DQ,RR,PJ,dH⟩:=b3 (by simp);have BO:=(dH.drop off).take len;rcases h7 with h7|⟨h7,rfl,h9⟩
      · have:len=0:=by omega
        subst this;refine ⟨?_,by simp,by simp⟩;simp;cases a with
        |none=>exact Src.ofNil w hx eh
        |some a=>grind [Src.ofSlice]
      rw [eT]
      refine ⟨Src.ofSlice w hx ⟨li.eg,li.sh+off*e',aew⟩ len eh _ (by rw [eC BO.sd,eT]) (fun j v hj=>?_) (sf BO.plain),BO.sd,BO.plain⟩;rw [vT];exact oe DQ (BO.flat j v hj)
    |_=>cases hr
  cases hr
 |_=>cases hr
end
end Go.Vm
/- Operation by operation, fifth part: append. -/
namespace Go.Vm
theorem B8: ∀(new:List Row) (i:Nat) (rows:List Row),i+aef new<=aef rows->ot i new rows=rQ i new rows
 | [],i,rows,h=>by simp [ot,rQ]
 |r::rs,i,rows,h=>by
  simp [acl] at h;rw [ot,B8 rs (i+1) (rows.set i r) (by simp;omega)];apply abD;intro j;rw [jL _ _ _ (by simp;omega),jL _ _ _ (by simp;omega)]
  grind
theorem bY.rQ {get get':Nat->Option Value} {sh aO i:Nat} {new rows:List Row} (h:bY get sh aO rows) (p9:i+aef new<=aef rows)
 (hl: ∀r∈new,aef r=aO) (hp: ∀r∈new,∀c∈r,c.plain=aez)
 (hg: ∀k,get' k=if sh+i*aO<=k/\k<sh+i*aO+aef new*aO then (new.flatMap bn)[k- (sh+i*aO)]? else get k):
 bY get' sh aO (rQ i new rows):=by
 have hfl:=eC hl;have old: ∀k r,rows[k]? =aet r->(k<i\/i+aef new<=k)->aef r=aO/\ ∀(j:Nat) (c:PV),r[j]? =aet c-> ∃v,mD c=aet v/\get' (sh+k*aO+j)=aet v:=by
  intro k r hk hor;obtain ⟨h1,h2⟩:=h k r hk;refine ⟨h1,fun j c hc=>?_⟩;obtain ⟨v,hv,XS⟩:=h2 j c hc;refine ⟨v,hv,?_⟩;have hj:j<aO:=by
   rcases abh j (aef r) with h|h
   · omega
   rw [abg h] at hc;cases hc
  rw [hg,Do]
  · exact XS
  rcases hor with hor|hor
  · have:=aaE aO (show k+1<=i from hor)
    rw [ab3] at this;omega
  have:=aaE aO hor
  rw [ab3] at this;omega
 have ND:bY get' (sh+i*aO) aO new:=bY.Eu hl hp fun j v hj=>by
  have R5:j<aef new*aO:=by
   rcases abh j (aef new*aO) with h|h
   · exact h
   rw [abg (by omega)] at hj;cases hj
  rw [hg,AC ⟨by omega,by omega⟩,<- hj];congr 1;omega
 intro k r hk;rw [jL _ _ _ p9] at hk;split at hk
 · rename_i hc
   obtain ⟨h1,h2⟩:=ND _ r hk;refine ⟨h1,fun j c IB=>?_⟩;obtain ⟨v,hv,XS⟩:=h2 j c IB;refine ⟨v,hv,?_⟩;rw [<- XS];congr 1;have:k*aO=i*aO+(k-i)*aO:=by rw [<- ab3];congr 1;omega
   omega
 grind
theorem grownCap_ge (w:World) (R6 old:Nat) (e:TypeId):R6<=grownCap w R6 old e:=by unfold grownCap;simp [Question.cut]
theorem XU {R6 old bytes:Nat} (h:old<R6) (hn:R6<=1048576) (hb:bytes<=1048576):Builtin.nextslicecap R6 old*bytes<=281474976710656:=by
 have h1:=nextslicecap_le h;have h2:Builtin.nextslicecap R6 old<=2097152:=by omega
 have:=ae7 h2 hb;omega
theorem B9 (z:Array Value) (n:Nat):(Builtin.zeroCells z n).size=n*z.size:=by simp [Builtin.zeroCells]
section
variable {P : Program} {im : Im} {loc : Loc} {aA : cU} {fz : List Nat} {w : World}
theorem mn (t tx ty e:TypeId) (i:TypeInfo) (ht:P.underlying t=aet (.slice e)) (hi:P.info? e=aet i) (b off zC sCap:Nat) (x:Value) (n:Nat) (news:List Value) (hs:Src P i.size tx x n news w)
 (ye:zC+n<=sCap) {cur:Array Value} {el:TypeId} (hb:w.heap[b]? =aet (.cells cur el (0,0))) (p9:off+zC*i.size+aef news<=cur.size):
 (Builtin.append_ #[t,tx] ty #[.slice (aet ⟨b,off,aew⟩) zC sCap,x]).run P w=
  .ok (.slice (aet ⟨b,off,aew⟩) (zC+n) sCap) (w.setRow b (rQ (off+zC*i.size) news cur.toList).toArray):=by
 have cO:=run_storeCells_at P b (off+zC*i.size) el news 0 cur w hb (by simpa using p9) hs.one;rcases hs.kind with ⟨e',hk⟩|hk<;>simp [Builtin.append_,run_underlying ht,run_underlying hk,sizeOf,typeInfo,hi,hs.len,ye,hs.cells,Addr.add_lit,cO,rQ]
theorem GQ {aO:Nat} {olds new:List Row} {rest:Array Value} {el:TypeId} {r:tz} {w':World} {nc:Nat} (hr:r.v= .own (aef aA) aO 0 (aef olds+aef new) (aef olds+aef new) aeG)
 (hn:r.news=[.arr aO (olds++new)]) (hk:mb im loc aA w r) (fy:new≠[])
 (hh:w'.heap=w.heap.push (.cells (((olds.flatMap bn)++(new.flatMap bn)).toArray++rest) el))
 (Me: ∀r∈olds,aef r=aO) (hp1: ∀r∈olds,∀c∈r,c.plain=aez) (PK: ∀r∈new,aef r=aO) (hp2: ∀r∈new,∀c∈r,c.plain=aez)
 (hnc:(aef olds)+aef new<=nc) (hrs:rest.size=(nc- (aef olds+aef new))*aO):
 ∃li:LI,li.eg=w.heap.size/\VR im (loc.set (aef aA) li) r.v (.slice (aet ⟨w.heap.size,0,aew⟩) (aef olds+aef new) nc)/\
  BR im (loc.set (aef aA) li) w' li (.arr aO (olds++new))/\pR loc (loc.set (aef aA) li):=by
 have anc:=eC Me;have ane:=eC PK;have wb:(((olds.flatMap bn)++(new.flatMap bn)).toArray++rest).size=nc*aO:=by simp [Array.size_append,abl,abu,anc,ane,hrs];rw [<- ab3,<- ab3];congr 1;omega
 let li:LI:=⟨w.heap.size,0,aO,(olds++new).length,nc*aO⟩
 refine ⟨li,rfl,?_,⟨rfl,rfl,fun _=>⟨_,el,by grind,wb,?_,?_⟩⟩,Loc.B5 li (by have:=hk.fresh 0 (by simp [hn]);simpa using this)⟩
 · rw [hr]
   have:=VR.own (im:=im) (loc:=loc.set (aef aA) li) (aef aA) aO 0 (aef olds+aef new) (aef olds+aef new) aeG li (aet ⟨w.heap.size,0,aew⟩) nc
    (Loc.jE _ _ _) rfl (by simp [li]) (WF _) hnc (by simp)
    (.inr ⟨by simp [li];grind,by simp [li],by simp [li]⟩)
   exact this
 · simp [li]
   simp_all [aaE,]
 refine bY.Eu (fun r hr=>?_) (fun r hr=>?_) (fun j v hj=>?_)
 · rcases abo.1 hr with h|h
   · exact Me r h
   exact PK r h
 · rcases abo.1 hr with h|h
   · exact hp1 r h
   exact hp2 r h
 grind
end
end Go.Vm
/- Operation by operation, sixth part: append, whole. -/
namespace Go.Vm
section
variable {P : Program} {im : Im} {loc : Loc} {aA : cU} {fz : List Nat} {w : World}
theorem Jo {t tx ty e:TypeId} {i:TypeInfo} {z:Value} {aO:Nat} (ht:P.underlying t=aet (.slice e)) (hi:P.info? e=aet i) (hz:i.zero=aet z) (PL:z.cells.size=aO)
 (VB:i.bytes<=1048576) {qB:Option Addr} {zC sCap:Nat} {olds:List Row} {new:List Row} {x:Value}
 (yY:(Builtin.firstCells i.size zC (.slice qB zC sCap)).run P w.drew= .ok (olds.flatMap bn).toArray w.drew)
 (hs:Src P i.size tx x (aef new) (new.flatMap bn) w) (hg:sCap<zC+aef new) (hm:zC+aef new<=1048576):
 ∃(nc:Nat) (rest:Array Value),zC+aef new<=nc/\rest.size=(nc- (zC+aef new))*aO/\
  (Builtin.append_ #[t,tx] ty #[.slice qB zC sCap,x]).run P w= .ok (.slice (aet ⟨w.heap.size,0,aew⟩) (zC+aef new) nc)
   (w.drew.alloc (.cells (((olds.flatMap bn)++(new.flatMap bn)).toArray++rest) e)):=by
 refine ⟨_,_,grownCap_ge w _ sCap e,by rw [B9,PL],
  run_append_grow_src w t tx ty e i z ht hi hz qB zC sCap _ yY x _ _ hs hg (by omega) (XU hg hm VB)⟩
theorem Jp {t tx ty e e' : TypeId} {i : TypeInfo} {z : Value} {aO : Nat} (ht : P.underlying t = aet (.slice e)) (htx : P.underlying tx = aet (.slice e')) (hi : P.info? e = aet i) (wb : i.size = aO)
    (hz : i.zero = aet z) (PL : z.cells.size = aO) (VB : i.bytes <= 1048576)
    {x y : PV} {u v : Value} {r : tz} (hx : VR im loc x u) (hy : VR im loc y v) (h : lr aA fz aO x y = aet r) (hk : mb im loc aA w r) :
    ∃ v' w' bz, (Builtin.append_ #[t, tx] ty #[u, v]).run P w = .ok v' w' /\ VR im bz r.v v' /\ yc im loc aA w r im bz w' := by
  unfold lr at h
  cases HN : rowsOf aA aO y with
  | none => grind
  | some new =>
    rw [HN] at h
    dsimp only at h
    cases new with
    | nil =>
      dsimp only at h
      have key : ∀ (a : Option Addr) (n cap : Nat), u = .slice a n cap -> n <= cap -> aet ({ v := x, rd := lZ y } : tz) = aet r ->
          ∃ v' w' bz, (Builtin.append_ #[t, tx] ty #[u, v]).run P w = .ok v' w' /\ VR im bz r.v v' /\ yc im loc aA w r im bz w' := by
        intro a n cap hu p9 hr
        injection hr with hr; subst hr
        obtain ⟨hs, _, _⟩ := GP hy HN htx hk.bP (fun t ht => hk.tok t (.inl ht))
        simp only [acm, adY] at hs
        subst hu
        rw [<- wb] at hs
        exact ⟨_, _, loc, run_append_nothing w t tx ty e i ht hi a n cap p9 _ hs, hx, yc.none hk rfl rfl⟩
      have fresh : ∀ (a : Option Addr) (rd : List Nat), u = .slice a 0 0 -> (∀ t ∈ lZ y, t ∈ rd) -> aet ({ v := .own (aef aA) aO 0 0 0 aeG, news := [.arr aO []], rd := rd } : tz) = aet r ->
          ∃ v' w' bz, (Builtin.append_ #[t, tx] ty #[u, v]).run P w = .ok v' w' /\ VR im bz r.v v' /\ yc im loc aA w r im bz w' := by
        intro a rd hu XC hr
        injection hr with hr; subst hr
        obtain ⟨hs, _, _⟩ := GP hy HN htx hk.bP (fun t ht => hk.tok t (.inl (XC t ht)))
        simp only [acm, adY] at hs
        subst hu
        rw [<- wb] at hs
        exact ⟨_, _, _, run_append_nothing w t tx ty e i ht hi a 0 0 (WF _) _ hs, .own _ aO 0 0 0 aeG ⟨0, 0, aO, 0, 0⟩ a 0 (Loc.jE _ _ _) rfl (WF _) (WF _) (WF _) (by simp) (.inl rfl), yc.XO hk rfl rfl⟩
      cases x with
      | sl e vP rows =>
        obtain ⟨a, cap, hu, p9, IA, _⟩ := hx.r8
        grind
      | own tk e off len cap ex =>
        obtain ⟨li, a, eh, hu, h1, h2, h3, h4, h5, h6, _⟩ := hx.jK
        dsimp only at h
        split at h
        · rename_i hc
          simp only [PP, acr] at hc
          obtain ⟨⟨rfl, rfl⟩, hc⟩ := hc
          have := h6 hc
          subst this
          exact fresh a _ hu (fun _ h => abz _ h) h
        grind
      | _ => cases h
    | cons n0 ns =>
      dsimp only at h
      generalize ND : n0 :: ns = new at h HN
      have fy : new ≠ [] := by grind
      have PM : 0 < (aef new) := by grind
      cases x with
      | sl e1 vP rows =>
        dsimp only at h
        split at h
        · rename_i hc
          simp only [PP, ae0, acr, ad1] at hc
          obtain ⟨⟨aiq, Jq⟩, lz⟩ := hc
          injection h with h
          obtain ⟨a, cap, rfl, LB, hck, oG⟩ := hx.r8
          have anf := hck aiq
          have Ao : mb im loc aA w { v := .own (aef aA) aO 0 ((aef rows) + (aef new)) ((aef rows) + (aef new)) aeG, news := [.arr aO (rows ++ new)], rd := lZ y } := by rw [h]; exact hk
          obtain ⟨hs, NF, XV⟩ := GP hy HN htx Ao.bP (fun t ht => Ao.tok t (.inl ht))
          rw [<- wb] at hs
          have yY : (Builtin.firstCells i.size (aef rows) (.slice a (aef rows) cap)).run P w.drew = .ok (rows.flatMap bn).toArray w.drew /\ (∀ r ∈ rows, (aef r) = aO) /\ (∀ r ∈ rows, ∀ c ∈ r, c.plain = aez) := by
            cases hrw : rows with
            | nil =>
              refine ⟨?_, by simp, by simp⟩
              cases a with
              | none => rfl
              | some a => grind [run_firstCells_some]
            | cons r0 rs =>
              rw [<- hrw]
              have ae4 : rows ≠ [] := by rw [hrw]; simp
              obtain ⟨b, o, rfl, dH⟩ := oG ae4
              have he1 : e1 = aO := by
                grind
              subst he1
              refine ⟨run_firstCells_some w.drew i.size (aef rows) ⟨b, o, aew⟩ (aef rows) cap _ (by rw [wb]; exact eC dH.sd) (fun j v hj => ?_), dH.sd, dH.plain⟩
              rw [vT]
              exact vn Ao.bP (dH.flat j v hj)
          obtain ⟨yY, hol, iA⟩ := yY
          obtain ⟨nc, rest, hnc, hrs, dq⟩ := Jo ht hi hz PL VB yY hs (by omega) (by assumption)
          obtain ⟨li, hlb, tM, yf, p9⟩ := GQ
            (w' := w.drew.alloc (.cells (((rows.flatMap bn) ++ (new.flatMap bn)).toArray ++ rest) e)) rfl rfl Ao fy rfl hol iA NF XV hnc hrs
          subst h
          exact ⟨_, _, _, dq, tM, yc.new Ao li rfl rfl rfl rfl rfl rfl hlb yf⟩
        cases h
      | own tk e1 off len cap ex =>
        dsimp only at h
        obtain ⟨li, a, eh, rfl, hl, he, GN, eT, LB, hex, IC⟩ := hx.jK
        cases cO : aA[tk]? with
        | none => grind
        | some eg =>
          rw [cO] at h
          cases eg with
          | arr e2 rows =>
            dsimp only at h
            split at h
            · cases h
            rename_i R3
            have R3 : e1 = aO := by simpa using R3
            subst R3
            split at h
            ·
              rename_i ye
              have ye : len + (aef new) <= cap := by simpa using ye
              split at h
              · cases h
              rename_i XT
              injection h with h
              subst h
              obtain ⟨hs, NF, XV⟩ := GP hy HN htx hk.bP (fun t ht => hk.tok t (.inl ht))
              rw [<- wb] at hs
              obtain ⟨k, j8, hb⟩ := hk.tok tk (.inr ⟨_, ab4.2 rfl⟩) li hl
              rw [cO] at j8; injection j8 with j8; subst j8
              obtain ⟨b1, b2, b3⟩ := hb
              have vo : rows ≠ [] := by grind
              have BE : e2 = e1 := by rw [<- b1, he]
              subst BE
              obtain ⟨arr, el, DQ, RR, PJ, dH⟩ := b3 vo
              rcases IC with h0 | ⟨_, rfl, wC⟩
              · omega
              have PN := eC NF
              have LC := aaE e2 (show off + (len + (aef new)) <= (aef rows) by omega)
              have R7 : (off + (len + (aef new))) * e2 = off * e2 + len * e2 + (aef new) * e2 := by grind
              have NG : li.sh + off * e2 + len * i.size + (new.flatMap bn).length <= arr.size := by grind
              have dq := mn t tx ty e i ht hi li.eg (li.sh + off * e2) len eh v (aef new) (new.flatMap bn) hs (by omega) DQ NG
              refine ⟨_, _, loc, dq, ?_, ?_⟩
              · exact .own tk e2 off (len + (aef new)) cap ex li _ eh hl he GN ye LB hex (.inr ⟨by omega, rfl, wC⟩)
              refine yc.write hk rfl rfl hl cO (by cases rows with | nil => grind | cons _ _ => rfl) (cm DQ) rfl rfl rfl ?_
              rw [B8 _ _ _ (by omega)]
              refine ⟨b1, by grind [dJ], fun _ => ⟨(rQ (li.sh + off * e2 + len * i.size) (new.flatMap bn) arr.toList).toArray, el, ?_, ?_, ?_, ?_⟩⟩
              · grind [cm]
              · grind [abl, dJ]
              · rw [dJ _ _ _ (by omega)]; exact PJ
              refine dH.rQ (by omega) NF XV (fun k => ?_)
              simp only [abk]
              rw [jL _ _ _ (by simpa using NG), PN]
              have : li.sh + off * e2 + len * i.size = li.sh + (off + len) * e2 := by rw [wb, ab3]; omega
              rw [this]
              simp
            rename_i ye
            have ye : ¬ (len + (aef new) <= cap) := by simpa using ye
            split at h
            · cases h
            rename_i lz
            have lz : len + (aef new) <= 1048576 := by simpa [gU] using lz
            have old : ∀ (rd : List Nat) (wr : List (Nat × om)), (tk ∈ rd \/ ∃ k, (tk, k) ∈ wr) ->
                mb im loc aA w { v := .own (aef aA) e1 0 (len + (aef new)) (len + (aef new)) aeG, news := [.arr e1 ((rows.drop off).take len ++ new)], wr := wr, rd := rd } ->
                (Builtin.firstCells i.size len (.slice a len eh)).run P w.drew = .ok (((rows.drop off).take len).flatMap bn).toArray w.drew /\ ((rows.drop off).take len).length = len /\
                  (∀ r ∈ (rows.drop off).take len, (aef r) = e1) /\ (∀ r ∈ (rows.drop off).take len, ∀ c ∈ r, c.plain = aez) := by
              intro rd wr ID Ao
              obtain ⟨k, j8, hb⟩ := Ao.tok tk ID li hl
              rw [cO] at j8; injection j8 with j8; subst j8
              obtain ⟨b1, b2, b3⟩ := hb
              have BE : e2 = e1 := by rw [<- b1, he]
              subst BE
              have Fi : ((rows.drop off).take len).length = len := by simp; omega
              by_cases RS : len = 0
              · subst RS
                refine ⟨?_, Fi, by simp, by simp⟩
                simp only [List.take_zero, acm]
                cases a with
                | none => exact run_firstCells_none w.drew i.size 0 0 eh
                | some a => exact run_firstCells_some w.drew i.size 0 a 0 eh [] (by simp) (by simp)
              have vo : rows ≠ [] := by intro e; subst e; simp at Fi; omega
              obtain ⟨arr, el, DQ, RR, PJ, dH⟩ := b3 vo
              have BO := (dH.drop off).take len
              rcases IC with h0 | ⟨_, rfl, _⟩
              · omega
              refine ⟨run_firstCells_some w.drew i.size len _ len eh _ (by rw [wb, eC BO.sd, Fi]) (fun j v hj => ?_), Fi, BO.sd, BO.plain⟩
              rw [vT]
              exact oe DQ (BO.flat j v hj)
            split at h
            ·
              rename_i ais
              injection h with h
              have Ao : mb im loc aA w { v := .own (aef aA) e1 0 (len + (aef new)) (len + (aef new)) aeG, news := [.arr e1 ((rows.drop off).take len ++ new)], wr := [], rd := tk :: lZ y } := by rw [h]; exact hk
              obtain ⟨yY, Fi, hol, iA⟩ := old (tk :: lZ y) [] (.inl (by simp)) Ao
              obtain ⟨hs, NF, XV⟩ := GP hy HN htx Ao.bP (fun t ht => Ao.tok t (.inl (abz _ ht)))
              rw [<- wb] at hs
              have hce := hex ais
              obtain ⟨nc, rest, hnc, hrs, dq⟩ := Jo ht hi hz PL VB yY hs (by omega) lz
              obtain ⟨lj, hlb, tM, yf, p9⟩ := GQ (im := im) (loc := loc) (olds := (rows.drop off).take len) (new := new) (r := { v := .own (aef aA) e1 0 (len + (aef new)) (len + (aef new)) aeG, news := [.arr e1 ((rows.drop off).take len ++ new)], wr := [], rd := tk :: lZ y })
                (w' := w.drew.alloc (.cells (((((rows.drop off).take len).flatMap bn) ++ (new.flatMap bn)).toArray ++ rest) e)) (by rw [Fi]) rfl Ao fy rfl hol iA NF XV (by rw [Fi]; exact hnc) (by rw [Fi]; exact hrs)
              subst h
              rw [Fi] at tM
              exact ⟨_, _, _, dq, tM, yc.new Ao lj rfl rfl rfl rfl rfl rfl hlb yf⟩
            rename_i ais
            split at h
            · cases h
            rename_i XT
            injection h with h
            have Ao : mb im loc aA w { v := .own (aef aA) e1 0 (len + (aef new)) (len + (aef new)) aeG, news := [.arr e1 ((rows.drop off).take len ++ new)], wr := [(tk, .dead)], rd := lZ y } := by rw [h]; exact hk
            obtain ⟨yY, Fi, hol, iA⟩ := old (lZ y) [(tk, .dead)] (.inr ⟨_, ab4.2 rfl⟩) Ao
            obtain ⟨hs, NF, XV⟩ := GP (P := P) (w := w) hy HN htx Ao.bP (fun t ht => Ao.tok t (.inl ht))
            have BP := hs
            rw [<- wb] at hs
            subst h
            rcases abh eh (len + (aef new)) with hg | hg
            ·
              obtain ⟨nc, rest, hnc, hrs, dq⟩ := Jo (P := P) (w := w) (tx := tx) (ty := ty) ht hi hz PL VB (sCap := eh) yY hs hg lz
              obtain ⟨lj, hlb, tM, yf, p9⟩ := GQ (im := im) (loc := loc) (olds := (rows.drop off).take len) (new := new) (r := { v := .own (aef aA) e1 0 (len + (aef new)) (len + (aef new)) aeG, news := [.arr e1 ((rows.drop off).take len ++ new)], wr := [(tk, .dead)], rd := lZ y })
                (w' := w.drew.alloc (.cells (((((rows.drop off).take len).flatMap bn) ++ (new.flatMap bn)).toArray ++ rest) e)) (by rw [Fi]) rfl Ao fy rfl hol iA NF XV (by rw [Fi]; exact hnc) (by rw [Fi]; exact hrs)
              rw [Fi] at tM
              refine ⟨_, _, _, dq, tM, ?_⟩
              have qB := yc.new (r := { v := .own (aef aA) e1 0 (len + (aef new)) (len + (aef new)) aeG, news := [.arr e1 ((rows.drop off).take len ++ new)], wr := [], rd := lZ y })
                (w' := w.drew.alloc (.cells (((((rows.drop off).take len).flatMap bn) ++ (new.flatMap bn)).toArray ++ rest) e))
                ⟨Ao.bP, fun t ht => Ao.tok t (by rcases ht with ht | ⟨k, ht⟩; exact .inl ht; cases ht), fun t k h => absurd h (by simp), Ao.fresh, fun t u li lj k k' h1 h2 => Ao.k7 t u li lj k k' (by rcases h1 with h | ⟨k, h⟩; exact .inl h; cases h) (by rcases h2 with h | ⟨k, h⟩; exact .inl h; cases h)⟩ lj rfl rfl rfl rfl rfl rfl hlb yf
              exact { jt := qB.jt, eS := qB.eS, bP := qB.bP, fa := qB.fa, os := qB.os, tape := qB.tape, output := qB.output, size := qB.size,
                      frame := fun b hb _ => qB.frame b hb (fun t k li k0 h => absurd h (by simp)),
                      Vx := (fun t k hm hs => by
                        obtain ⟨rfl, rfl⟩ : t = tk /\ k = .dead := by simpa using hm
                        cases hs),
                      wr := fun t k li hm qC => by
                        obtain ⟨rfl, rfl⟩ : t = tk /\ k = .dead := by simpa using hm
                        trivial,
                      oo := qB.oo,
                      news := fun j k li hj hl => by
                        obtain ⟨h2, h3⟩ := qB.news j k li hj hl
                        refine ⟨h2, fun hs => ⟨(h3 hs).1, ?_⟩⟩
                        rcases (h3 hs).2 with h | ⟨t, lt, k0, hm, _⟩
                        · exact .inl h
                        exact absurd hm (by simp),
                      distinct := qB.distinct }
            ·
              obtain ⟨k, j8, hb⟩ := Ao.tok tk (.inr ⟨_, ab4.2 rfl⟩) li hl
              rw [cO] at j8; injection j8 with j8; subst j8
              obtain ⟨b1, b2, b3⟩ := hb
              have BE : e2 = e1 := by rw [<- b1, he]
              subst BE
              rcases IC with h0 | ⟨hn0, rfl, wC⟩
              · omega
              have vo : rows ≠ [] := by intro e; subst e; simp at b2; omega
              obtain ⟨arr, el, DQ, RR, PJ, dH⟩ := b3 vo
              have BO := (dH.drop off).take len
              have PN := eC NF
              have ait := eC hol
              rw [Fi] at ait
              have LC := aaE e2 (show off + (len + (aef new)) <= off + eh by omega)
              have R7 : (off + (len + (aef new))) * e2 = off * e2 + len * e2 + (aef new) * e2 := by rw [ab3, ab3]; omega
              have NG : li.sh + off * e2 + len * i.size + (new.flatMap bn).length <= arr.size := by rw [wb, PN]; omega
              have dq := mn (P := P) (w := w) t tx ty e i ht hi li.eg (li.sh + off * e2) len eh v (aef new) (new.flatMap bn) hs hg DQ NG
              have T7 := cm (cs := (rQ (li.sh + off * e2 + len * i.size) (new.flatMap bn) arr.toList).toArray) DQ
              have iz := (abf.1 DQ).1
              have GR : (om.arr e2 rows).bW = aez := by cases rows with | nil => exact absurd rfl vo | cons _ _ => rfl
              have Jr := Ao.free tk .dead (ab4.2 rfl) li (.arr e2 rows) hl cO GR
              let lj : LI := ⟨li.eg, li.sh + off * e2, e2, ((rows.drop off).take len ++ new).length, li.sz⟩
              have XW : loc (aef aA) = aew := by have := Ao.fresh 0 (by simp); simpa using this
              have hlj : lj.n = len + (aef new) := by simp only [lj, abu, Fi]
              refine ⟨_, _, loc.set (aef aA) lj, dq, ?_, ?_⟩
              · exact .own (aef aA) e2 0 (len + (aef new)) (len + (aef new)) aeG lj _ eh (Loc.jE _ _ _) rfl (by omega) (WF _) hg (by simp)
                  (.inr ⟨by omega, by simp [lj], by simp only [lj, aea]; rw [ab3] at wC; omega⟩)
              have yf : BR im (loc.set (aef aA) lj) (w.setRow li.eg (rQ (li.sh + off * e2 + len * i.size) (new.flatMap bn) arr.toList).toArray) lj (.arr e2 ((rows.drop off).take len ++ new)) := by
                refine ⟨rfl, rfl, fun _ => ⟨(rQ (li.sh + off * e2 + len * i.size) (new.flatMap bn) arr.toList).toArray, el, by rw [T7]; simp [lj, iz], ?_, ?_, ?_⟩⟩
                · simp only [lj, abl]
                  rw [dJ _ _ _ (by simpa using NG)]; simpa using RR
                · simp only [lj, abu, Fi]
                  rw [ab3]; rw [R7] at LC; omega
                refine bY.Eu (fun r hr => ?_) (fun r hr => ?_) (fun j u hj => ?_)
                · rcases abo.1 hr with h | h
                  · exact hol r h
                  exact NF r h
                · rcases abo.1 hr with h | h
                  · exact iA r h
                  exact XV r h
                rw [List.flatMap_append] at hj
                simp only [lj, abk]
                rw [jL _ _ _ (by simpa using NG), PN, wb]
                rcases abh j (len * e2) with R5 | R5
                · rw [abc (by omega)] at hj
                  rw [Do (by omega)]
                  have := BO.flat j u hj
                  simpa using this
                rw [aba (by omega), ait] at hj
                have hjb := (aaF.1 hj).1
                rw [AC ⟨by omega, by omega⟩, <- hj]
                congr 1
                omega
              exact { jt := .refl _, eS := Loc.B5 lj XW,
                      bP := fun b o hb => by
                        have h1 := Ao.bP b o hb
                        have ae6 : li.eg ≠ b := fun e => by rw [e, hb] at Jr; cases Jr
                        rw [T7, abA, Do ae6]; exact h1,
                      fa := fun _ _ h => .inl h, os := rfl, tape := ⟨rfl, WF _⟩, output := rfl,
                      size := by rw [T7]; simp,
                      Vx := (fun t k hm hs => by
                        obtain ⟨rfl, rfl⟩ : t = tk /\ k = .dead := by simpa using hm
                        cases hs),
                      frame := fun b _ hb => by
                        have ae6 := hb tk .dead li _ (ab4.2 rfl) hl cO GR
                        rw [T7, abA, Do ae6],
                      wr := fun t k li hm qC => by
                        obtain ⟨rfl, rfl⟩ : t = tk /\ k = .dead := by simpa using hm
                        trivial,
                      oo := fun t l h => by
                        unfold Loc.set at h
                        split at h
                        · rename_i e; subst e; exact .inr ⟨WF _, by simp⟩
                        exact .inl h,
                      news := GM (fun j k hj => by
                        cases j with
                        | zero =>
                          simp at hj; subst hj
                          exact ⟨lj, Loc.jE _ _ _, yf, fun _ => ⟨Jr, .inr ⟨tk, li, _, ab4.2 rfl, hl, cO, GR, rfl⟩⟩⟩
                        | succ j => simp at hj),
                      distinct := fun i j ki kj li lj h1 h2 _ _ _ _ _ => by
                        cases i <;> cases j <;> simp at h1 h2 <;> rfl }
          | _ => cases h
      | _ => cases h
end
end Go.Vm
/- Operation by operation, seventh part: aggregates and rows that are built, slices that are cut. -/
namespace Go.Vm
section
variable {P : Program} {im : Im} {loc : Loc} {aA : cU} {fz : List Nat} {w : World}
theorem zD {α β:Type} (f:α->Sem β) (g:α->β):
 ∀(xs:List α),(∀a∈xs,(f a).run P w= .ok (g a) w)-> ∀(acc:Array β),(xs.foldlM (fun bs a=>bs.push<$>f a) acc).run P w= .ok (acc++(xs.map g).toArray) w
 | [],_,acc=>by simp
 |x::xs,h,acc=>by simp only [List.foldlM_cons,aa9,Sem.run_map,h x (by simp),NE,zD f g xs (fun a ha=>h a (by simp [ha]))];simp
theorem VD {α β:Type} (f:α->Sem β) (g:α->β) (xs:Array α) (h: ∀a∈xs,(f a).run P w= .ok (g a) w):(xs.mapM f).run P w= .ok (xs.map g) w:=by
 rw [Array.mapM_eq_foldlM,<- Array.foldlM_toList,zD f g xs.toList (fun a ha=>h a (by simpa using ha))]
 congr 1
 grind
theorem Mf (off:Nat): ∀(xs:List Value) (k:Nat) (cells:Array Value),off+k+aef xs<=cells.size->
 ((xs.zipIdx k).foldl (fun (cs:Array Value) (p:Value×Nat)=>cs.setIfInBounds (off+p.2) p.1) cells).toList=rQ (off+k) xs cells.toList
 | [],k,cells,_=>by simp [rQ]
 |x::xs,k,cells,h=>by
  simp [] at h;rw [List.zipIdx_cons,abC,Mf off xs _ _ (by simp;omega)];apply abD;intro j;rw [jL _ _ _ (by simp;omega),jL _ _ _ (by simp;omega)]
  grind
theorem Dc {place:Nat->Option _} {i off size:Nat} {v:Value} {rest:List _} {cells:Array Value} (hp:place i=aet (off,size)) (hs:v.cells.size=size)
 (hf:off+size<=cells.size):Instr.fill place cells ((i,v)::rest)=Instr.fill place ⟨rQ off v.cells.toList cells.toList⟩ rest:=by
 have he:(v.cells.zipIdx.foldl (fun cs (c,j)=>cs.setIfInBounds (off+j) c) cells)=⟨rQ off v.cells.toList cells.toList⟩:=by apply abj;rw [<- Array.foldl_toList,Array.toList_zipIdx];have:=Mf off v.cells.toList 0 cells (by simp;omega);simpa using this
 simp [Instr.fill,]
 grind
inductive zE (im:Im) (loc:Loc) (place:Nat->Option (Nat×Nat)):List (Nat×Nat×PV)->List (Nat×Value)->Prop
 |nil:zE im loc place [] []
 |cons (off sz i:Nat) (x:PV) (v:Value) (r:List (Nat×Nat×PV)) (s:List (Nat×Value)) (hp:place i=aet (off,sz)) (hv:VR im loc x v) (h:zE im loc place r s):
  zE im loc place ((off,sz,x)::r) ((i,v)::s)
theorem PO {place:Nat->Option _}: ∀{ps:List _} {qs:List _},zE im loc place ps qs-> ∀{cs Mb:List PV} {vs:Array Value},
 fW im loc cs vs.toList->qT ps cs=aet Mb-> ∃RU,Instr.fill place vs qs=aet RU/\fW im loc Mb RU.toList
 |_,_,.nil,cs,Mb,vs,h,hf=>by simp [qT,] at hf;subst hf;exact ⟨vs,rfl,h⟩
 |_,_,.cons off sz i x v r s hp hv hr,cs,Mb,vs,h,hf=>by
  simp only [qT] at hf;cases cO:x.stored with
  |none=>grind
  |some ws=>
   rw [cO] at hf;dsimp only at hf;split at hf
   · rename_i hc
     simp [] at hc;obtain ⟨rfl,GO⟩:=Et cO;have T6:=hv.cells GO;have hl:=T6.qA;have IA:=h.qA;simp [] at hl IA;rw [Dc hp (by omega) (by omega)];exact PO hr (fW.rQ T6 h) hf
   cases hf
theorem Js {t:TypeId} {fs:Array Field} (hu:P.underlying t=aet (.struct fs)) (hf: ∀f∈fs,(P.info? f.type).isSome=aez):
 (fs.mapM fun f=>do pure (f.offset,<- sizeOf f.type):Sem _).run P w= .ok (fs.map fun f=>(f.offset,P.cellsOf f.type)) w/\
 (fun i=>(fs.map fun f=>(f.offset,P.cellsOf f.type))[i]?)=placeOf P t:=by
 constructor
 · refine VD _ _ _ fun f hm=>?_
   obtain ⟨i,hi⟩:=abi.1 (hf f hm);simp [sizeOf,typeInfo,hi,Program.cellsOf]
 funext i
 unfold placeOf;rw [hu];cases hfi:fs[i]? with
 |none=>simp [hfi]
 |some f=>obtain ⟨j,hj⟩:=abi.1 (hf f (Array.mem_of_getElem? hfi));simp [hfi,hj,Program.cellsOf]
theorem VE {t:TypeId} {zero cs:List PV} {ps:List _} {qs:Array _} (hz:yW P t zero=aez)
 (tB:(match P.underlying t with|some (.struct fs)=>fs.all fun f=>(P.info? f.type).isSome|some (.array _ e)=>(P.info? e).isSome|_=>aeG)=aez)
 (hr:zE im loc (placeOf P t) ps qs.toList) (hf:qT ps zero=aet cs): ∃v,(Instr.build t qs).run P w= .ok v w/\VR im loc (.agg cs) v:=by
 unfold yW at hz;cases hi:P.info? t with
 |none=>grind
 |some i=>
  rw [hi] at hz;cases R8:i.zero with
  |none=>simp [R8] at hz
  |some z=>
   simp [R8] at hz;have T8:(zeroValue t).run P w= .ok z w:=by simp [zeroValue,typeInfo,hi,R8]
   obtain ⟨RU,h1,h2⟩:=PO hr (B4 hz) hf;refine ⟨.agg RU,?_,.agg cs RU.toList h2⟩;cases hu:P.underlying t with
   |none=>grind
   |some d=>
    rw [hu] at tB;cases d<;>first|cases tB|skip
    case array n e=>
     obtain ⟨j,hj⟩:=abi.1 tB;have hp:(fun i=>aet (i*j.size,j.size))=placeOf P t:=by funext i;unfold placeOf;grind
     have wb:(sizeOf e).run P w= .ok j.size w:=by simp [sizeOf,typeInfo,hj]
     simp [Instr.build,T8,run_underlying hu,wb,hp,h1,]
    case struct fs=>
     have tF: ∀f∈fs,(P.info? f.type).isSome=aez:=by intro f hf;have:=Array.all_eq_true.1 tB;obtain ⟨k,hk,rfl⟩:=Array.mem_iff_getElem.1 hf;exact this k hk
     obtain ⟨hm,hp⟩:=Js (w:=w) hu tF;simp only [Instr.build,aa9,T8,run_underlying hu,NE,hm,hp,h1,abb]
theorem GS {zero:Row} {zs:Array Value} (h: ∀(j:Nat) (c:PV),zero[j]? =aet c-> ∃v,mD c=aet v/\zs[j]? =aet v) (hl:(aef zero)=zs.size) (n:Nat):
 bY (fun k=>((abE (n*zs.size)).map (zs[· %zs.size]!))[k]?) 0 zs.size (abe n zero):=by
 intro i r hr;have hi:i<n:=by
  rcases abh i n with h|h
  · exact h
  rw [abg (by simpa using h)] at hr;cases hr
 rw [List.getElem?_replicate,AC hi] at hr;injection hr with hr;subst hr;refine ⟨hl,fun j c hc=>?_⟩;obtain ⟨v,hv,hz⟩:=h j c hc;have hj:=(abf.1 hz).1;have iz:i*zs.size+j<n*zs.size:=by have:=aaE zs.size (show i+1<=n from hi);rw [ab3] at this;omega
 have avb:(i*zs.size+j)%zs.size=j:=by rw [Nat.mul_comm,Nat.mul_add_mod];exact Nat.mod_eq_of_lt hj
 grind
inductive B' (im:Im) (loc:Loc):List (Nat×PV)->List (Nat×Value)->Prop
 |nil:B' im loc [] []
 |cons (i:Nat) (x:PV) (v:Value) (r:List (Nat×PV)) (s:List (Nat×Value)) (hv:VR im loc x v) (h:B' im loc r s):B' im loc ((i,x)::r) ((i,v)::s)
theorem Fp {aO n : Nat} : ∀ {ps : List _} {qs : List _}, B' im loc ps qs -> ∀ {rows wc : List Row} {vs : Array Value},
    bY (fun k => vs[k]?) 0 aO rows -> vs.size = n * aO -> (aef rows) = n -> vg ps rows aO = aet wc ->
    ∃ RU, Instr.fill (fun i => aet (i * aO, aO)) vs qs = aet RU /\ bY (fun k => RU[k]?) 0 aO wc /\ RU.size = n * aO /\ (aef wc) = n
  | _, _, .nil, rows, wc, vs, h, hs, hn, hf => by
    simp [vg, ] at hf
    subst hf
    exact ⟨vs, rfl, h, hs, hn⟩
  | _, _, .cons i x v r s hv hr, rows, wc, vs, h, hs, hn, hf => by
    simp [vg] at hf
    cases cO : x.cW with
    | none => grind
    | some ws =>
      rw [cO] at hf
      dsimp only at hf
      split at hf
      · have Pn : i < (aef rows) := by simp_all
        obtain ⟨rfl, R4⟩ := qu cO
        have T6 := hv.cells (fun c hc => B7 (R4 c hc))
        have hl := T6.qA
        simp [] at hl
        have LC := aaE aO (show i + 1 <= n by omega)
        rw [ab3] at LC
        rw [Dc rfl (by omega) (by omega)]
        have hgi := IR Pn
        have hil := (h i _ hgi).1
        have aiu := h.store (get' := fun k => (⟨rQ (i * aO) v.cells.toList vs.toList⟩ : Array Value)[k]?) (off := 0) hgi (by omega) (T6.Md R4) (by simp; omega) (fun k => by
          grind [jL])
        have anh : rQ 0 x.cells rows[i] = x.cells := by
          unfold rQ; grind
        rw [anh] at aiu
        exact Fp hr aiu (by grind [abl, dJ]) (by simpa using hn) hf
      cases hf
end
end Go.Vm
/- Operation by operation, last part: all of them. -/
namespace Go.Vm
def oC.ie:oC->List gR
 | .Xy x| .un _ x| .conv _ x| .len x| .box x| .load _ x| .Pw x| .Px _ x| .eM _ _ x| .ext _ x=>[x]
 | .pick a b c=>[a,b,c]
 | .bin _ x y| .Pv _ x y| .eqc _ _ x y| .store _ x y| .Py _ x y| .HI _ _ x y| .idx _ _ _ x y| .Pz x y| .mks _ _ x y| .append _ x y| .copy _ x y=>[x,y]
 | .build _ ps=>ps.map (·.2.2)
 | .Fj _ _ _ ps=>ps.map (·.2)
 | .HH x y=>[x,y]
 | .Vu _ x a b c=>x::(a.toList++b.toList++c.toList)
 | .mkf _ a b=>a++b
 | .lookup _ _ _ m k=>[m,k]
 | .Nt _ m k v=>[m,k,v]
 | .clear _ _ x=>[x]
 | .mm _ x xs=>x::xs
 | .call _ _ as=>as
 | .Bz x as=>x::as
 | .R0 _| .alloc _| .mkm _| .bad=>[]
section
variable {P : Program} {im : Im} {loc : Loc} {aA : cU} {fz : List Nat} {w : World} {e : Env} {ρ : Operand -> Value}
theorem qV: ∀{xs:List gR} {os:List Operand},(∀x∈xs,∀o,bF x o=aez->VR im loc (x.ev e) (ρ o))->fX xs os=aez->fW im loc (Lz e xs) (os.map ρ)
 | [],[],_,_=> .nil
 |x::xs,o::os,h,hc=>by simp [fX,PP] at hc;exact .cons _ _ _ _ (h x (by simp) o hc.1) (qV (fun y hy=>h y (by simp [hy])) hc.2)
 | [],_::_,_,hc=>by simp [fX] at hc
 |_::_,[],_,hc=>by simp [fX] at hc
theorem Fq {place:Nat->Option (Nat×Nat)}: ∀{ps:List (Nat×Nat×gR)} {qs:List (Nat×Operand)},(∀x∈ps.map (·.2.2),∀o,bF x o=aez->VR im loc (x.ev e) (ρ o))->zA place ps qs=aez->
 zE im loc place (ps.map fun p=>(p.1,p.2.1,p.2.2.ev e)) (qs.map fun (i,x)=>(i,ρ x))
 | [],[],_,_=> .nil
 |(off,sz,x)::r,(i,o)::s,h,hc=>by
  simp [zA,PP] at hc;obtain ⟨⟨h1,h2⟩,h3⟩:=hc;refine .cons off sz i _ _ _ _ ?_ (h x (by simp) o h2) (Fq (fun y hy=>h y (by simp only [List.map_cons,ae9];exact .inr hy)) h3)
  grind
 | [],_::_,_,hc=>by simp [zA] at hc
 |_::_,[],_,hc=>by simp [zA] at hc
theorem BF: ∀{ps:List (Nat×gR)} {qs:List (Nat×Operand)},(∀x∈ps.map (·.2),∀o,bF x o=aez->VR im loc (x.ev e) (ρ o))->qU ps qs=aez->
 B' im loc (ps.map fun p=>(p.1,p.2.ev e)) (qs.map fun (i,x)=>(i,ρ x))
 | [],[],_,_=> .nil
 |(i,x)::r,(j,o)::s,h,hc=>by simp [qU,PP,beq_iff_eq] at hc;obtain ⟨⟨rfl,h2⟩,h3⟩:=hc;exact .cons i _ _ _ _ (h x (by simp) o h2) (BF (fun y hy=>h y (by grind)) h3)
 | [],_::_,_,hc=>by simp [qU] at hc
 |_::_,[],_,hc=>by simp [qU] at hc
theorem Jt {t:TypeId} {zero:Row} (h:yW P t zero=aez) (hp:zero.all PV.plain=aez):
 ∃i z,P.info? t=aet i/\i.zero=aet z/\aef zero=z.cells.size/\ ∀(j:Nat) (c:PV),zero[j]? =aet c-> ∃v,mD c=aet v/\z.cells[j]? =aet v:=by
 unfold yW at h;cases hi:P.info? t with
 |none=>grind
 |some i=>
  rw [hi] at h;cases hz:i.zero with
  |none=>simp [hz] at h
  |some z=>
   simp [hz] at h;have hr:fW (fun _=>aew) (fun _=>aew) zero z.cells.toList:=B4 h;refine ⟨i,z,rfl,hz,by simpa using hr.qA,fun j c hc=>?_⟩;obtain ⟨v,hv,XS⟩:=hr.get j c hc;refine ⟨v,XS.plain ?_,by simpa using hv⟩
   grind
theorem HO {aO n len cap:Nat} {rows:List Row} {vs:Array Value} {el:TypeId} {r:tz} (hr:r={v:= .own (aef aA) aO 0 len cap aez,news:=[.arr aO rows]}) (hk:mb im loc aA w r)
 (dH:bY (fun k=>vs[k]?) 0 aO rows) (hs:vs.size=n*aO) (hn:(aef rows)=n) (hc:cap=n) (hl:len<=cap):
 ∃bz,VR im bz r.v (.slice (aet ⟨w.heap.size,0,aew⟩) len cap)/\yc im loc aA w r im bz {w with heap:=w.heap.push (.cells vs el)}:=by
 subst hr hc
 let li:LI:=⟨w.heap.size,0,aO,cap,vs.size⟩
 refine ⟨loc.set (aef aA) li,?_,?_⟩
 · refine .own (aef aA) aO 0 len cap aez li _ cap (Loc.jE _ _ _) rfl (by simp [li]) hl (WF _) (fun _=>rfl) ?_
   grind
 exact yc.new hk li rfl rfl rfl rfl rfl rfl rfl ⟨rfl,hn.symm,fun _=>⟨vs,el,by simp [li],rfl,by grind,dH⟩⟩
theorem T9 {rV:Bool} {k:IntKind}: ∀{ys:List PV} {us:List Value},fW im loc ys us-> ∀{a:Int} {z:PV},mmE rV k a ys=aet z->
 ∃b,z= .int k b/\(us.foldlM (if rV then Builtin.max2 else Builtin.min2) (.int k a)).run P w= .ok (.int k b) w
 |_,_,.nil,a,z,h=>by simp [mmE,] at h;simp_all
 |_,_,.cons y u ys us hy hs,a,z,h=>by
  unfold mmE at h;cases y with
  |int l c=>
   obtain rfl:=hy.jd;dsimp only at h;cases XX:gM k l with
   |false=>grind
   |true=>
    have:=gx.1 XX;rw [XX,AC rfl] at h;obtain ⟨b,hz,ih⟩:=T9 hs h;refine ⟨b,hz,?_⟩;cases rV with
    |true=>assumption
    |false=>assumption
  |_=>cases h
end
end Go.Vm
/- Operation by operation: all that call nothing. -/
namespace Go.Vm
def XY (P:Program) (ρ:Operand->Value) (o:Oper) (im:Im) (loc:Loc) (aA:cU) (w:World) (r:tz):Prop:=
 ∃nx w' bz,(execOp ρ o).run P w= .ok nx w'/\((nx= .skip/\r.v= .undef)\/ ∃v,nx= .value v/\VR im bz r.v v)/\yc im loc aA w r im bz w'
section
variable {P : Program} {im : Im} {loc : Loc} {aA : cU} {fz : List Nat} {w : World} {e : Env} {ρ : Operand -> Value}
theorem XY.pure {o:Oper} {r:tz} {v:Value} (hk:mb im loc aA w r) (hn:r.news=[]) (hw:r.wr=[]) (h:(execOp ρ o).run P w= .ok (.value v) w) (hv:VR im loc r.v v):
 XY P ρ o im loc aA w r:=⟨_,w,loc,h,.inr ⟨v,rfl,hv⟩,yc.none hk hn hw⟩
theorem NH {t:TypeId} (h:(P.underlying t matches aet .bool)=aez):P.underlying t=aet .bool:=by
 grind
theorem Ay {x:Option gR} {o:Option Operand} {n:Option Nat} (tC: ∀y∈x.toList,∀o,bF y o=aez->VR im loc (y.ev e) (ρ o)) (hc:NA x o=aez)
 (h:(match (generalizing:=false) x with|none=>some none|some a=>(ma (a.ev e)).map some)=some n):Es (o.map ρ) n:=by
 cases x with
 |none=>
  cases o with
  |none=>injection h with h;subst h;trivial
  |some o=>cases hc
 |some a=>
  cases o with
  |none=>cases hc
  |some o=>simp [EQ] at h;obtain ⟨m,hm,rfl⟩:=h;exact tQ (tC a (by simp) o hc) hm
theorem yg {t el:TypeId} {aO:Nat} {a:Option Addr} {len cap l h m:Nat} {vl vh vm:Option Value} (hu:P.underlying t=aet (.slice el)) (hs:tD P el aO=aez)
 (hb:(Instr.sliceBounds aez len cap vl vh vm).run P w= .ok (l,h,m) w):
 (Instr.sliceAt t (.slice a len cap) vl vh vm).run P w= .ok (.slice (if m=l then a else a.map (·.add (l*aO))) (h-l) (m-l)) w:=by
 simp [Instr.sliceAt,aa9,run_underlying hu,NE,Instr.slice,hb,nP hs,abb]
theorem VF {t el:TypeId} {aO:Nat} {x z:PV} {u:Value} {lo hi mx:Option Nat} {vl vh vm:Option Value} (hx:VR im loc x u) (hu:P.underlying t=aet (.slice el)) (hs:tD P el aO=aez)
 (h1:Es vl lo) (h2:Es vh hi) (h3:Es vm mx) (hm:mx.isSome=aez->hi.isSome=aez) (Jq: ∀e c r,x= .sl e c r->r=[]\/e=aO) (aiv: ∀tk e o l c ex,x= .own tk e o l c ex->e=aO)
 (h:vR x lo hi mx=aet z): ∃v,(Instr.sliceAt t u vl vh vm).run P w= .ok v w/\VR im loc z v:=by
 unfold vR at h;cases x with
 |sl e vP rows=>
  obtain ⟨a,cap,rfl,LB,hck,oG⟩:=hx.r8;have sub: ∀(l h m:Nat) (T':Bool),l<=h->h<=aef rows->h<=m->m<=cap->(T'=aez->m=h)->
   VR im loc (.sl e T' ((rows.drop l).take (h-l))) (.slice (if m=l then a else a.map (·.add (l*aO))) (h-l) (m-l)):=by
   intro l h m T' hlh hhr hhm hmc IA;have eT:((rows.drop l).take (h-l)).length=h-l:=by simp;omega
   have:=VR.sl (loc:=loc) e T' ((rows.drop l).take (h-l)) (if m=l then a else a.map (·.add (l*aO))) (m-l) (by omega) (fun hc=>by have:=IA hc;omega) (fun fy=>by
    have iz:l<h:=by
     rcases abh l h with h'|h'
     · exact h'
     exfalso;apply fy;rw [show h-l=0 by omega];simp
    have vo:rows≠[]:=by intro e;subst e;simp at hhr;omega
    obtain ⟨b,o,rfl,dH⟩:=oG vo;have he:=(Jq e vP rows rfl).resolve_left vo;subst he;refine ⟨b,o+l*e,?_,(dH.drop l).take _⟩;rw [Do (by omega)];simp [vT])
   grind
  cases mx with
  |none=>
   dsimp only at h;split at h
   · rename_i hc
     simp [PP,ad1] at hc;injection h with h;subst h;have hb:=qt (P:=P) (w:=w) (cap:=cap) h1 h2 h3 hm hc.1 (fun _=>by simp;omega) (by simp);simp [adV] at hb;refine ⟨_,yg hu hs hb,sub _ _ cap _ hc.1 hc.2 (by omega) (WF _) (fun IA=>?_)⟩;simp_all
   cases h
  |some m=>
   dsimp only at h;split at h
   · rename_i hc
     simp [PP,ad1] at hc;injection h with h;subst h;have hb:=qt (P:=P) (w:=w) (cap:=cap) h1 h2 h3 hm hc.1.1 (fun _=>hc.1.2) (by simp;omega)
     grind [yg,acr]
   cases h
 |own tk e off len cap ex=>
  obtain ⟨li,a,eh,rfl,hl,he,GN,eT,LB,hex,IC⟩:=hx.jK;have R3:=aiv tk e off len cap ex rfl;subst R3;have sub: ∀(l h c m m':Nat) (ex':Bool),l<=h->h<=m->m<=cap->m<=m'->m'<=eh->(ex'=aez->m'=m)->
   VR im loc (.own tk e (off+l) (h-l) (m-l) ex') (.slice (if m'=l then a else a.map (·.add (l*e))) (h-l) (m'-l)):=by
   intro l h c m m' ex' hlh hhm hmc hmm ave avf;refine .own tk e (off+l) (h-l) (m-l) ex' li _ (m'-l) hl he (by omega) (by omega) (by omega) (fun hx=>by grind) ?_
   by_cases RW:m'=l
   · omega
   rcases IC with h0|⟨hn0,rfl,wC⟩
   · omega
   refine .inr ⟨hn0,?_,?_⟩
   · simp [Option.map_some,vT];grind
   have:=aaE e (show off+l+(m'-l)<=off+eh by omega)
   omega
  cases mx with
  |none=>
   dsimp only at h;split at h
   · rename_i hc
     simp [PP,ad1] at hc;injection h with h;subst h;have hb:=qt (P:=P) (w:=w) (cap:=eh) h1 h2 h3 hm hc.1 (fun _=>by simp;omega) (by simp);simp [adV] at hb;exact ⟨_,yg hu hs hb,sub _ _ 0 cap eh ex hc.1 hc.2 (WF _) LB (WF _) hex⟩
   cases h
  |some m=>
   dsimp only at h;split at h
   · rename_i hc
     simp [PP,ad1] at hc;injection h with h;subst h;have hb:=qt (P:=P) (w:=w) (cap:=eh) h1 h2 h3 hm hc.1.1 (fun _=>hc.1.2) (by simp;omega);simp [adW] at hb;exact ⟨_,yg hu hs hb,sub _ _ 0 m m aez hc.1.1 hc.1.2 hc.2 (WF _) (by omega) (fun _=>rfl)⟩
   cases h
 |_=>cases h
end
end Go.Vm
/- Two aggregates of plain cells are compared cell by cell. -/
namespace Go.Vm
theorem Ca: ∀(a b c d:List PV),aef a=aef b->dP (a++c) (b++d)=match dP a b with|some aez=>dP c d|x=>x
 | [],[],c,d,_=>by simp [dP]
 |x::xs,y::ys,c,d,h=>by
  simp [dP];cases xb x y with
  |none=>rfl
  |some r=>
   cases r with
   |false=>rfl
   |true=>exact Ca xs ys c d (by simpa using h)
 | [],_::_,_,_,h=>by simp at h
 |_::_,[],_,_,h=>by simp at h
section
variable {P : Program} {im : Im} {loc : Loc} {w : World}
def whole (P:Program) (t:TypeId) (us:List Value):Value:=if js P t then .agg ⟨us⟩ else us.getD 0 Go.undef
def mF (P:Program) (d:Nat) (r:Option Nat) (f:Field):Option Nat:=
 match r with
 |some n=>if f.offset==n&&f.name != "_" then (match flat P d f.type with
  |some m=>if tD P f.type m then aet (n+m) else aew
  |none=>aew) else aew
 |none=>aew
theorem uG {d:Nat}: ∀(fs:List Field),fs.foldl (mF P d) aew=aew
 | []=>rfl
 |f::fs=>by exact uG fs
theorem NI {d:Nat} {t:TypeId} {n:Nat} (h:flat P d t=aet n) (hr:js P t=aeG):n=1:=by
 cases d with
 |zero=>cases h
 |succ d=>
  simp [flat] at h;split at h
  · grind
  · rename_i fs hu
    unfold js at hr;grind
  cases h
theorem Ew {d:Nat} {t:TypeId} {m k:Nat} {us:List Value} (h:flat P d t=aet m) (hs:tD P t m=aez) (hk:k+m<=aef us) (Ub:(P.underlying t).isSome=aez):
 (Go.part t ⟨us⟩ k).run P w= .ok (whole P t ((us.drop k).take m)) w:=by
 unfold whole;cases hr:js P t with
 |true=>simp only [Go.part,aa9,GK hr,NE,if_true,nP hs,];simp
 |false=>
  have h1:=NI h hr;simp [Go.part,GL Ub hr,];have iz:k<(aef us):=by omega
  simp_all
theorem Mg {d:Nat} {t:TypeId} {n:Nat} (h:flat P d t=aet n):(P.underlying t).isSome=aez:=by
 cases d with
 |zero=>cases h
 |succ d=>
  simp [flat] at h
  grind
theorem Ju {d:Nat}: ∀{fs:List Field} {k n:Nat},fs.foldl (mF P d) (aet k)=aet n->k<=n
 | [],k,n,h=>by simp at h;omega
 |f::fs,k,n,h=>by
  rw [abC] at h;cases hs:mF P d (aet k) f with
  |none=>grind [uG]
  |some k'=>
   rw [hs] at h;have:=Ju h;unfold mF at hs
   grind
theorem NJ: ∀(d:Nat) (t:TypeId) (n:Nat),flat P d t=aet n-> ∀(D:Nat),d<=D-> ∀(xs ys:List PV) (us vs:List Value) (b:Bool),fW im loc xs us->fW im loc ys vs->aef xs=n->aef ys=n->
 dP xs ys=aet b->(Op.equalIn D t (whole P t us) (whole P t vs)).run P w= .ok b w
 |0,t,n,h,_,_,_,_,_,_,_,_,_,_,_,_=>by cases h
 |d+1,t,n,h,0,hD,_,_,_,_,_,_,_,_,_,_=>by omega
 |d+1,t,n,h,D+1,hD,xs,ys,us,vs,b,hx,hy,hxn,hyn,he=>by
  have abx:js P t=aeG->n=1-> ∃x y u v,xs=[x]/\ys=[y]/\us=[u]/\vs=[v]/\VR im loc x u/\VR im loc y v/\xb x y=aet b:=by
   intro hr h1;subst h1
   match xs,us,ys,vs,hx,hy,hxn,hyn,he with
   | [x],[u],[y],[v],.cons _ _ _ _ h1 _,.cons _ _ _ _ h2 _,_,_,he=>
    refine ⟨x,y,u,v,rfl,rfl,rfl,rfl,h1,h2,?_⟩;simp [dP] at he
    grind
  simp only [flat] at h;split at h
  · rename_i k hu
    have hr:js P t=aeG:=by unfold js;rw [hu]
    split at h
    · injection h with h
      obtain ⟨x,y,u,v,rfl,rfl,rfl,rfl,h1,h2,h3⟩:=abx hr h.symm;simp [whole,];unfold xb at h3;split at h3
      · split at h3
        · rename_i hk
          have:=gx.1 hk;subst this;injection h3 with h3;subst h3;rw [h1.jd,h2.jd]
          grind [run_equalIn_int]
        cases h3
      cases h3
    cases h
  · rename_i fs hu
    have hr:js P t=aez:=by unfold js;rw [hu]
    split at h
    · cases h
    rename_i cO
    have hf:P.fieldsOf t=fs:=by simp [Program.fieldsOf,hu]
    have cO:P.stoodInHeld t=aeG:=by simpa using cO
    have hxl:=hx.qA;have hyl:=hy.qA;simp [whole,hr,];rw [run_equalIn_agg w D t _ _ (by grind) cO,hf];change (match fs.toList.foldl (mF P d) (aet 0) with|some n=>if tD P t n then aet n else aew|none=>aew)=aet n at h;cases hfo:fs.toList.foldl (mF P d) (aet 0) with
    |none=>grind
    |some n'=>
     rw [hfo] at h;dsimp only at h;split at h
     · injection h with h
       subst h;have key: ∀(l:List Field) (k:Nat),l.foldl (mF P d) (aet k)=aet n'-> ∀(b':Bool),dP (xs.drop k) (ys.drop k)=aet b'->
        (Op.eqFields D ⟨us⟩ ⟨vs⟩ l).run P w= .ok b' w:=by
        intro l
        induction l with
        |nil=>intro k hk b' HL;simp [] at hk;subst hk;rw [ad2 (by omega),ad2 (by omega)] at HL;simp [dP,] at HL;subst HL;simp [Op.eqFields]
        |cons f l ih=>
         intro k hk b' HL;rw [abC] at hk;cases hs:mF P d (aet k) f with
         |none=>rw [hs,uG] at hk;cases hk
         |some k'=>
          rw [hs] at hk;have hge:=Ju hk;unfold mF at hs;dsimp only at hs;split at hs
          · rename_i hc
            simp [] at hc;split at hs
            · rename_i m hm
              split at hs
              · rename_i wb
                injection hs with hs;subst hs;have Ub:=Mg hm;have e1:xs.drop k=(xs.drop k).take m++xs.drop (k+m):=by rw [<- ae8,ad4]
                have e2:ys.drop k=(ys.drop k).take m++ys.drop (k+m):=by rw [<- ae8,ad4]
                rw [e1,e2,Ca _ _ _ _ (by simp;omega)] at HL;have fy:=hc.2;simp [Op.eqFields,aa9,fy,ne_eq,not_false_eq_true,if_true,hc.1];rw [Ew hm wb (by omega) Ub];simp;rw [Ew hm wb (by omega) Ub];simp;cases hq:dP ((xs.drop k).take m) ((ys.drop k).take m) with
                |none=>rw [hq] at HL;cases HL
                |some r=>
                 have Jv:=NJ d f.type m hm D (by omega) _ _ _ _ r ((hx.drop k).take m) ((hy.drop k).take m) (by simp;omega) (by simp;omega) hq;rw [Jv];simp;rw [hq] at HL;cases r with
                 |false=>simp [If] at HL;subst HL;simp
                 |true=>dsimp only at HL;have:=ih (k+m) hk b' HL;simpa using this
              cases hs
            cases hs
          cases hs
       grind
     cases h
  cases h
theorem VG {t:TypeId} {n:Nat} (h:R2 P t n=aez) (hr:js P t=aez) (xs ys:List PV) (us vs:List Value) (b:Bool) (hx:fW im loc xs us) (hy:fW im loc ys vs) (h1:(aef xs)=n) (h2:(aef ys)=n)
 (he:dP xs ys=aet b):(Op.equalIn 10000 t (.agg ⟨us⟩) (.agg ⟨vs⟩)).run P w= .ok b w:=by
 unfold R2 at h;rw [beq_iff_eq] at h;have:=NJ (w:=w) 100 t n h 10000 (by omega) xs ys us vs b hx hy h1 h2 he;simpa only [whole,hr,if_true] using this
end
end Go.Vm
/- Maps; copy and clear. -/
namespace Go.Vm
theorem VR.Cb {im:Im} {loc:Loc} {x:PV} {v:Value} (h:valOf x=aet v):VR im loc x v:=by
 cases x with
 |agg cs=>
  simp only [valOf,EQ] at h;obtain ⟨vs,NK,rfl⟩:=h;refine .agg cs vs ?_
  induction cs generalizing vs with
  |nil=>simp at NK;subst NK;exact .nil
  |cons c cs ih=>rw [List.mapM_cons] at NK;simp only [Option.bind_eq_bind,Option.bind_eq_some_iff,Option.pure_def,If] at NK;obtain ⟨v,hv,us,Dd,rfl⟩:=NK;exact .cons _ _ _ _ (.Jm hv) (ih us Dd)
 |_=>exact .Jm h
theorem PQ {im:Im} {loc:Loc} {x:PV} {v:Value} (h:VR im loc x v) (hp: ∀c∈x.cells,c.plain=aez):valOf x=aet v:=by
 cases x with
 |agg cs=>
  obtain ⟨vs,rfl,hr⟩:=h.uF;simp only [valOf,EQ];refine ⟨vs,?_,rfl⟩;simp [PV.cells] at hp;clear h
  induction cs generalizing vs with
  |nil=>cases hr;rfl
  |cons c cs ih=>
   cases hr with
   |cons _ v _ us h1 h2=>simp [h1.plain (hp c (by simp)),ih (fun d hd=>hp d (by simp [hd])) us h2]
 |_=>exact h.plain (hp _ (by simp [PV.cells]))
section
variable {P : Program} {im : Im} {loc : Loc} {aA : cU} {fz : List Nat} {w : World}
theorem Az: ∀{xs ys:List PV} {us vs:List Value},dP xs ys=aet aez->fW im loc xs us->fW im loc ys vs->us=vs/\ ∀u∈us,∃k n,u= .int k n
 | [],[],_,_,_,.nil,.nil=>⟨rfl,by simp⟩
 |x::xs,y::ys,_,_,h,.cons _ u _ us h1 h2,.cons _ v _ vs h3 h4=>by
  simp [dP] at h;split at h
  · rename_i hxy
    obtain ⟨rfl,tF⟩:=Az h h2 h4;unfold xb at hxy;split at hxy
    · rename_i k a l b
      split at hxy
      · rename_i XX
        have:=gx.1 XX;subst this;have Po:a=b:=by simpa using hxy
        subst Po;rw [h1.jd,h3.jd]
        grind
      cases hxy
    cases hxy
  · cases h
  cases h
 | [],_::_,_,_,h,_,_=>by simp [dP] at h
 |_::_,[],_,_,h,_,_=>by simp [dP] at h
theorem DY: ∀(us:List Value) (n:Nat),(∀u∈us,∃k m,u= .int k m)->(us.zip us).all (fun (x,y)=>Instr.sameBits n x y)=aez
 | [],_,_=>rfl
 |u::us,n,h=>by obtain ⟨k,m,rfl⟩:=h u (by simp);simp only [List.zip_cons_cons,List.all_cons,PP];exact ⟨by cases n<;>simp [Instr.sameBits],DY us n fun u hu=>h u (by simp [hu])⟩
theorem ni {n:Option Nat} {x:PV} {u:Value} (h:mC n x=aez) (hv:VR im loc x u):(n=aew/\ ∃k m,x= .int k m/\u= .int k m)\/(∃m cs us,n=aet m/\x= .agg cs/\aef cs=m/\u= .agg ⟨us⟩/\fW im loc cs us):=by
 unfold mC at h;split at h
 · exact .inl ⟨rfl,_,_,rfl,hv.jd⟩
 · rename_i m cs
   obtain ⟨us,rfl,hr⟩:=hv.uF;simp_all
 cases h
theorem XZ {n:Option Nat} {x y:PV} {u v:Value} (hx:mC n x=aez) (hy:mC n y=aez) (h:dP x.cells y.cells=aet aez) (hu:VR im loc x u) (hv:VR im loc y v):
 u=v/\Instr.sameBits 10000 u u=aez:=by
 rcases ni hx hu with ⟨rfl,k,m,rfl,rfl⟩|⟨m,cs,us,rfl,rfl,_,rfl,hr⟩
 · rcases ni hy hv with ⟨_,l,m',rfl,rfl⟩|⟨_,_,_,h',_⟩
   · obtain ⟨h1,_⟩:=Az (im:=im) (loc:=loc) h (.cons _ _ _ _ (.int k m) .nil) (.cons _ _ _ _ (.int l m') .nil)
     injection h1 with h1;exact ⟨h1,by simp [Instr.sameBits]⟩
   cases h'
 rcases ni hy hv with ⟨h',_⟩|⟨_,ds,vs,_,rfl,_,rfl,hs⟩
 · cases h'
 obtain ⟨rfl,h2⟩:=Az h hr hs
 refine ⟨rfl,?_⟩;simp only [Instr.sameBits,beq_self_eq_true,];exact DY us 9999 h2
theorem ij.get: ∀{es:List _} {nO:List MapEntry},ij es nO-> ∀{i:Nat} {p:PV×PV},es[i]? =aet p-> ∃e,nO[i]? =aet e/\valOf p.1=aet e.key/\valOf p.2=aet e.val
 |(k,v)::r,e::r',h,0,p,hp=>by simp at hp;subst hp;exact ⟨e,rfl,h.1,h.2.1⟩
 |(k,v)::r,e::r',h,i+1,p,hp=>by
  obtain ⟨e',h1,h2⟩:=ij.get h.2.2 (by simpa using hp)
  grind
 | [],[],h,i,p,hp=>by simp at hp
 | [],_::_,h,_,_,_=>by grind
 |_::_,[],h,_,_,_=>by simp [ij] at h
theorem PR {q:IntKind} {k:PV} {u:Value} (hu:VR im loc k u) (hk:mC aew k=aez): ∀{es:List _} {nO:List MapEntry} {i:Nat} {r:Option Nat},ij es nO->gT aew k es i=aet r->
 ∃r',Instr.findNow (.int q) u nO i=aet r'/\match r with|none=>r'=aew|some j=>i<=j/\ ∃p e,es[j-i]? =aet p/\nO[j-i]? =aet e/\r'=aet (j,e.val)/\mC aew p.1=aez/\dP k.cells p.1.cells=aet aez
 | [],[],i,r,_,h=>by simp [gT,] at h;subst h;exact ⟨aew,rfl,rfl⟩
 |(a,v)::es,e::nO,i,r,hm,h=>by
  simp only [gT] at h;split at h
  case isFalse=>cases h
  rename_i hka;obtain ⟨h1,h2,h3⟩:=hm;obtain ⟨_,kk,kn,rfl,rfl⟩:_/\ ∃kk kn,k= .int kk kn/\u= .int kk kn:=by
   rcases ni hk hu with ⟨_,kk,kn,e1,e2⟩|⟨_,_,_,e1,_⟩
   · exact ⟨trivial,kk,kn,e1,e2⟩
   cases e1
  obtain ⟨ak,an,rfl,hae⟩: ∃ak an,a= .int ak an/\e.key= .int ak an:=by
   rcases ni (im:=im) (loc:=loc) hka (VR.Cb h1) with ⟨_,kk,kn,e1,e2⟩|⟨_,_,_,e1,_⟩
   · grind
   cases e1
  simp [PV.cells,dP,xb] at h;cases Ao:gM kk ak with
  |false=>grind
  |true=>
   have:=gx.1 Ao;subst this;rw [Ao] at h;simp only [Instr.findNow,hae,Instr.sameNow,];cases hb:(kn==an) with
   |true=>rw [hb] at h;simp [] at h;subst h;refine ⟨_,rfl,WF _,(.int kk an,v),e,by simp,by simp,rfl,hka,?_⟩;simp [PV.cells,dP,xb,Ao,hb]
   |false=>
    rw [hb] at h;obtain ⟨r',g1,g2⟩:=PR (q:=q) (.int kk kn) hk h3 h
    grind
 | [],_::_,i,r,hm,h=>by simp [ij] at hm
 |_::_,[],i,r,hm,h=>by simp [ij] at hm
theorem PS {n:Nat} {kt:TypeId} (zB:js P kt=aez) (hfl:flat P 100 kt=aet n) {k:PV} {u:Value} (hu:VR im loc k u) (hk:mC (aet n) k=aez): ∀{es:List _} {nO:List MapEntry} {i:Nat} {r:Option Nat},ij es nO->gT (aet n) k es i=aet r->
 ∃r',(Instr.findAsking kt u nO i).run P w= .ok r' w/\match r with|none=>r'=aew|some j=>i<=j/\ ∃p e,es[j-i]? =aet p/\nO[j-i]? =aet e/\r'=aet (j,e.val)/\mC (aet n) p.1=aez/\dP k.cells p.1.cells=aet aez
 | [],[],i,r,_,h=>by simp [gT,] at h;subst h;exact ⟨aew,rfl,rfl⟩
 |(a,v)::es,e::nO,i,r,hm,h=>by
  simp only [gT] at h;split at h
  case isFalse=>cases h
  rename_i hka;obtain ⟨h1,h2,h3⟩:=hm;have hva:VR im loc a e.key:=VR.Cb h1;have heq: ∀b,dP k.cells a.cells=aet b->(Op.equal kt u e.key).run P w= .ok b w:=by
   intro b hb;rcases ni hk hu with ⟨h',_⟩|⟨m,cs,us,h',rfl,hl,rfl,hr⟩
   · cases h'
   injection h' with h';subst h'
   rcases ni hka hva with ⟨h',_⟩|⟨m,ds,vs,h',rfl,qC,he,hs⟩
   · cases h'
   injection h' with h';subst h'
   rw [he];have:=NJ (w:=w) 100 kt n hfl Op.maxDepth (by decide) cs ds us vs b hr hs hl qC hb;simp [whole,zB,] at this;exact this
  cases hb:dP k.cells a.cells with
  |none=>grind
  |some b=>
   rw [hb] at h;have dq:=heq b hb;cases b with
   |true=>simp [] at h;subst h;refine ⟨aet _,by simp [Instr.findAsking,dq],WF _,(a,v),e,by simp,by simp,rfl,hka,hb⟩
   |false=>
    obtain ⟨r',g1,g2⟩:=PS zB hfl hu hk h3 h;refine ⟨r',by simp [Instr.findAsking,dq,g1],?_⟩
    grind
 | [],_::_,i,r,hm,h=>by simp [ij] at hm
 |_::_,[],i,r,hm,h=>by simp [ij] at hm
theorem Jw: ∀(d:Nat) (t:TypeId) (n:Nat),flat P d t=aet n-> ∀(D:Nat),d<=D-> ∀(em:Bool) (xs:List PV) (us:List Value),fW im loc xs us->aef us=n->
 (Instr.checkKey em D t (whole P t us)).run P w= .ok () w
 |0,t,n,h,_,_,_,_,_,_,_=>by cases h
 |d+1,t,n,h,0,hD,_,_,_,_,_=>by omega
 |d+1,t,n,h,D+1,hD,em,xs,us,hx,hun=>by
  simp only [flat] at h;split at h
  · rename_i k hu
    have hr:js P t=aeG:=by unfold js;rw [hu]
    split at h
    · injection h with h;subst h
      match us,xs,hx,hun with
      | [u],[x],.cons _ _ _ _ h1 _,_=>simp only [Instr.checkKey,aa9,run_underlying hu,NE];cases u<;>simp
    cases h
  · rename_i fs hu
    have hr:js P t=aez:=by unfold js;rw [hu]
    split at h
    · cases h
    change (match fs.toList.foldl (mF P d) _ with|some n=>if tD P t n then aet n else aew|none=>aew)=aet n at h
    cases hfo:fs.toList.foldl (mF P d) (aet 0) with
    |none=>grind
    |some n'=>
     rw [hfo] at h;dsimp only at h;split at h
     · injection h with h;simp [whole,hr,Instr.checkKey,run_underlying hu,]
       rw [<- Array.forIn_toList];have hk: ∃k,fs.toList.foldl _ _=aet n':=⟨0,hfo⟩;obtain ⟨k,hk⟩:=hk;generalize fs.toList=L at hk
       induction L generalizing k with
       |nil=>simp
       |cons f l ih=>
        rw [abC] at hk;cases hs:mF P d (aet k) f with
        |none=>grind [uG]
        |some k'=>
         rw [hs] at hk;have hge:=Ju hk;unfold mF at hs;dsimp only at hs;split at hs
         · rename_i hc
           simp [] at hc;split at hs
           · rename_i m hm
             split at hs
             · rename_i wb
               injection hs with hs;have p1:=Ew (w:=w) (us:=us) hm wb (k:=k) (by omega) (Mg hm);have p2:=Jw d f.type m hm D (by omega) em _ _ ((hx.drop k).take m) (by simp;omega);simp [hc.1,p1,p2,];exact ih _ hk
             cases hs
           cases hs
         cases hs
     cases h
  cases h
theorem VH {kt:TypeId} {q:IntKind} (hq:P.underlying kt=aet (.int q)) (em:Bool) (n:Nat) (k:IntKind) (m:Int):(Instr.checkKey em (n+1) kt (.int k m)).run P w= .ok () w:=by simp [Instr.checkKey,run_underlying hq]
theorem AA {r:Nat} {es:Array MapEntry} {clock:Nat} (hb:w.heap[r]? =aet (.map es clock)):(getObj r).run P w= .ok (.map es clock) w:=by simp [getObj,Sem.run,hb]
theorem Jx {r:Nat} {es:Array MapEntry} {clock:Nat} (o:Obj) (hb:w.heap[r]? =aet (.map es clock)):(setObj r o).run P w= .ok () {w with heap:=w.heap.setIfInBounds r o}:=by simp [setObj,Sem.run,hb]
theorem PU {kt:TypeId} {d:TypeDesc} {k:Value} {l:List MapEntry} {a:Option _} (hd:P.underlying kt=aet d) (h:Instr.findNow d k l 0=aet a):(Instr.findKey kt k l).run P w= .ok a w:=by simp [Instr.findKey,run_underlying hd,h]
theorem HP {kt:TypeId} {n:Option Nat} (h:B3 P kt n=aez) {k:PV} {u:Value} (hu:VR im loc k u) (hk:mC n k=aez) (em:Bool):(Instr.checkKey em 10000 kt u).run P w= .ok () w:=by
 rcases ni hk hu with ⟨rfl,kk,m,rfl,rfl⟩|⟨m,cs,us,rfl,rfl,hl,rfl,hr⟩
 · simp [B3] at h
   grind [VH]
 simp [B3,] at h
 have:=Jw (w:=w) 100 kt m h.2 10000 (by decide) em cs us hr (by rw [<- hr.qA];exact hl);simp [whole,h.1,] at this;exact this
theorem Jy {kt:TypeId} {n:Option Nat} (h:B3 P kt n=aez) {k:PV} {u:Value} (hu:VR im loc k u) (hk:mC n k=aez) {es:List _} {nO:List MapEntry} {r:Option Nat} (hm:ij es nO) (hf:gT n k es 0=aet r):
 ∃r',(Instr.findKey kt u nO).run P w= .ok r' w/\match r with|none=>r'=aew|some j=> ∃p e,es[j]? =aet p/\nO[j]? =aet e/\r'=aet (j,e.val)/\mC n p.1=aez/\dP k.cells p.1.cells=aet aez:=by
 cases n with
 |none=>
  simp [B3] at h;split at h
  · rename_i q hq
    obtain ⟨r',h1,h2⟩:=PR hu hk hm hf;refine ⟨r',PU hq h1,?_⟩
    grind
  cases h
 |some m=>
  simp [B3,] at h;obtain ⟨r',h1,h2⟩:=PS h.1 h.2 hu hk hm hf;refine ⟨r',?_,?_⟩
  · rw [run_findKey_eq w ?_ u nO]
    · exact h1
    have:=h.1
    unfold js at this
    revert this
    cases P.underlying kt with
    |none=>exact id
    |some d=>cases d<;>exact id
  grind
theorem VR.X0 {t:Nat} {v:Value} (h:VR im loc (.mp t) v): ∃li,loc t=aet li/\v= .map (aet li.eg):=by cases h with|mp _ li h=>grind
theorem R9 {t kt et:TypeId} {n:Option Nat} {zero m k:PV} {ok:Bool} {um uk:Value} {r:tz} (ht:P.underlying t=aet (.map kt et)) (hkt:B3 P kt n=aez)
 (hz: ∃i z,P.info? et=aet i/\i.zero=aet z/\VR im loc zero z) (hm:VR im loc m um) (hk:VR im loc k uk)
 (h:xY aA n zero ok m k=aet r) (hkn:mb im loc aA w r):
 ∃v,(Instr.lookup t um uk ok).run P w= .ok v w/\VR im loc r.v v/\r.news=[]/\r.wr=[]:=by
 unfold xY at h;cases m with
 |mp tk=>
  dsimp only at h;obtain ⟨li,hl,rfl⟩:=hm.X0;cases hs:aA[tk]? with
  |none=>grind
  |some b=>
   rw [hs] at h;cases b with
   |map es=>
    dsimp only at h;split at h
    case isFalse=>cases h
    rename_i VI;cases hf:gT n k es 0 with
    |none=>grind
    |some q=>
     rw [hf] at h;have XC:tk∈r.rd:=by
      grind
     obtain ⟨b',Pp,yf⟩:=hkn.tok tk (.inl XC) li hl;rw [hs] at Pp;injection Pp with Pp;subst Pp;obtain ⟨nO,clock,hw,hrel⟩:=yf;obtain ⟨r',yX,Pq⟩:=Jy (w:=w) hkt hk VI hrel hf;have hck:=HP (w:=w) hkt hk VI (nO.isEmpty);obtain ⟨i,z,hi,hiz,hvz⟩:=hz;have T8:(zeroValue et).run P w= .ok z w:=by simp [zeroValue,typeInfo,hi,hiz]
     cases q with
     |none=>
      subst Pq;injection h with h;subst h;refine ⟨if ok then .tuple #[z,.bool aeG] else z,?_,?_,rfl,rfl⟩
      · simp [Instr.lookup,run_underlying ht,AA hw,hck,yX,T8]
      cases ok with
      |true=>exact .cV _ _ (.cons _ _ _ _ hvz (.cons _ _ _ _ (.bool aeG) .nil))
      |false=>exact hvz
     |some j=>
      dsimp only at h Pq;obtain ⟨p,e,h1,h2,rfl,h4,h5⟩:=Pq;rw [h1] at h;simp [] at h;subst h;obtain ⟨e',Pm,Uc,hv2⟩:=ij.get hrel h1;rw [h2] at Pm;injection Pm with Pm;subst Pm;refine ⟨if ok then .tuple #[e.val,.bool aez] else e.val,?_,?_,rfl,rfl⟩
      · simp [Instr.lookup,run_underlying ht,AA hw,hck,yX]
      cases ok with
      |true=>exact .cV _ _ (.cons _ _ _ _ (.Cb hv2) (.cons _ _ _ _ (.bool aez) .nil))
      |false=>exact .Cb hv2
   |_=>cases h
 |_=>cases h
theorem ij.snoc: ∀{es:List _} {nO:List MapEntry} {p:PV×PV} {e:MapEntry},ij es nO->valOf p.1=aet e.key->valOf p.2=aet e.val->ij (es++[p]) (nO++[e])
 | [],[],p,e,_,h1,h2=>⟨h1,h2,trivial⟩
 |(k,v)::r,e::r',p,e',h,h1,h2=>⟨h.1,h.2.1,ij.snoc h.2.2 h1 h2⟩
 | [],_::_,_,_,h,_,_=>by simp [ij] at h
 |_::_,[],_,_,h,_,_=>by simp [ij] at h
theorem ij.set: ∀{es:List _} {nO:List MapEntry} {i:Nat} {p:PV×PV} {f:MapEntry->MapEntry},ij es nO->(∀e,valOf p.1=aet (f e).key/\valOf p.2=aet (f e).val)->ij (es.set i p) (nO.modify i f)
 | [],[],i,p,f,h,_=>by simp [ij]
 |(k,v)::r,e::r',0,p,f,h,h1=>⟨(h1 e).1,(h1 e).2,h.2.2⟩
 |(k,v)::r,e::r',i+1,p,f,h,h1=>by simp;exact ⟨h.1,h.2.1,ij.set h.2.2 h1⟩
 | [],_::_,_,_,_,h,_=>by simp [ij] at h
 |_::_,[],_,_,_,h,_=>by simp [ij] at h
theorem PW {t kt et:TypeId} {n:Option Nat} {m k x:PV} {um uk ux:Value} {r:tz} (ht:P.underlying t=aet (.map kt et)) (hkt:B3 P kt n=aez)
 (hm:VR im loc m um) (hk:VR im loc k uk) (hx:VR im loc x ux)
 (h:HJ aA fz n m k x=aet r) (hkn:mb im loc aA w r):
 ∃w',(Instr.mapUpdate t um uk ux).run P w= .ok () w'/\yc im loc aA w r im loc w'/\r.v= .undef:=by
 unfold HJ at h;cases m with
 |mp tk=>
  dsimp only at h;obtain ⟨li,hl,rfl⟩:=hm.X0;cases hs:aA[tk]? with
  |none=>grind
  |some b=>
   rw [hs] at h;cases b with
   |map es=>
    dsimp only at h;split at h
    case isFalse=>cases h
    rename_i VI;simp [] at VI;obtain ⟨VI,hnf⟩:=VI;cases hkp:k.cW with
    |none=>grind
    |some kc=>
     cases hxp:x.cW with
     |none=>grind
     |some xc=>
      rw [hkp,hxp] at h;obtain ⟨_,ani⟩:=qu hkp;obtain ⟨_,anj⟩:=qu hxp;have vk:=PQ hk ani;have vx:=PQ hx anj;cases hf:gT n k es 0 with
      |none=>grind
      |some q=>
       rw [hf] at h;have hwr: ∃bb,r={v:= .undef,wr:=[(tk,bb)]}:=by
        grind
       obtain ⟨bb,hr⟩:=hwr;obtain ⟨b',Pp,yf⟩:=hkn.tok tk (.inr ⟨bb,by rw [hr];simp⟩) li hl;rw [hs] at Pp;injection Pp with Pp;subst Pp;obtain ⟨nO,clock,hw,hrel⟩:=yf;obtain ⟨r',yX,Pq⟩:=Jy (w:=w) hkt hk VI hrel hf;have hck:=HP (w:=w) hkt hk VI aeG;have iz:=(abf.1 hw).1;cases q with
       |none=>
        subst Pq;injection h with h;refine ⟨{w with heap:=w.heap.setIfInBounds li.eg (.map (nO.push {key:=uk,val:=ux,born:=clock}) (clock+1))},?_,yc.write hkn (by rw [<- h]) (by rw [<- h]) hl hs rfl rfl rfl rfl rfl ?_,by rw [<- h]⟩
        · simp [Instr.mapUpdate,run_underlying ht,AA hw,hck,yX]
          exact Jx _ hw
        refine ⟨nO.push {key:=uk,val:=ux,born:=clock},clock+1,by simp [iz],?_⟩
        rw [Array.toList_push];exact hrel.snoc vk vx
       |some j=>
        obtain ⟨p,e,h1,h2,rfl,h4,h5⟩:=Pq;injection h with h;obtain ⟨e',Pm,Uc,hv2⟩:=ij.get hrel h1;obtain ⟨ad5,aiy⟩:=XZ VI h4 h5 hk (.Cb Uc);have aiz:((nO[j]?).map (·.key)).getD uk=uk:=by
         grind
        refine ⟨{w with heap:=w.heap.setIfInBounds li.eg (.map (nO.modify j fun e=>{e with key:=uk,val:=ux}) clock)},?_,yc.write hkn (by rw [<- h]) (by rw [<- h]) hl hs rfl rfl rfl rfl rfl ?_,by rw [<- h]⟩
        · simp [Instr.mapUpdate,run_underlying ht,AA hw,hck,yX,aiz,Instr.keyThatStays,aiy,]
          exact Jx _ hw
        refine ⟨nO.modify j fun e=>{e with key:=uk,val:=ux},clock,by simp [iz],?_⟩
        rw [Array.toList_modify];exact hrel.set fun e=>⟨vk,vx⟩
   |_=>cases h
 |_=>cases h
theorem Sa {aO:Nat} {y:PV} {u:Value} {new:List Row} (hy:VR im loc y u) (hr:rowsOf aA aO y=aet new) (n:Nat) (hn:n<=aef new)
 (bP: ∀b o,im b=aet o->w.heap[b]? =aet o) (tok: ∀t,t∈lZ y-> ∀li,loc t=aet li-> ∃k,aA[t]? =aet k/\BR im loc w li k):
 (Builtin.lenOf u).run P w= .ok (aef new) w/\(Builtin.firstCells aO n u).run P w= .ok ((new.take n).flatMap bn).toArray w/\(∀r∈new,aef r=aO)/\(∀r∈new,∀c∈r,c.plain=aez):=by
 have atI: ∀(a:Option Addr) (l c:Nat),(Builtin.firstCells aO 0 (.slice a l c)).run P w= .ok #[] w:=by
  intro a l c;cases a with
  |none=>rfl
  |some a=>have:=run_loadCells_list (P:=P) w a [] (by simp);simpa [Builtin.firstCells] using this
 have get: ∀(rows:List Row) (b o l c:Nat) (g:Nat->Option Value),bY g o aO rows->(∀k v,g k=aet v->w.cell? ⟨b,k,aew⟩=aet v)->n<=aef rows->
  (Builtin.firstCells aO n (.slice (aet ⟨b,o,aew⟩) l c)).run P w= .ok ((rows.take n).flatMap bn).toArray w:=by
  intro rows b o l c g dH hg NF;have h1:=dH.take n;have hfl:=eC h1.sd;have:=run_loadCells_list (P:=P) w ⟨b,o,aew⟩ _ (fun j v hj=>by rw [vT];exact hg _ _ (h1.flat j v hj));simp [Builtin.firstCells]
  grind
 unfold rowsOf at hr;cases y with
 |sl e vP rows=>
  obtain ⟨a,cap,rfl,_,_,oG⟩:=hy.r8;cases rows with
  |nil=>simp at hr;subst hr;exact ⟨rfl,by grind,by simp,by simp⟩
  |cons r rs=>
   dsimp only at hr;split at hr
   · rename_i he
     have he:e=aO:=by simpa using he
     subst he;injection hr with hr;subst hr;obtain ⟨b,o,rfl,dH⟩:=oG (by simp);exact ⟨rfl,get _ b o _ cap _ dH (fun k v hk=>vn bP hk) hn,dH.sd,dH.plain⟩
   cases hr
 |own t e off len cap ex=>
  dsimp only at hr;split at hr
  · rename_i he
    have he:e=aO:=by simpa using he
    subst he;obtain ⟨li,a,eh,rfl,hl,h2,h3,h4,h5,h6,h7⟩:=hy.jK;obtain ⟨k,j8,hb⟩:=tok t (by simp [lZ]) li hl;rw [j8] at hr;cases k with
    |arr e' rows=>
     simp [] at hr;subst hr;obtain ⟨b1,b2,b3⟩:=hb;have eT:((rows.drop off).take len).length=len:=by simp;omega
     have R3:e'=e:=by rw [<- b1,h2]
     subst R3;rw [eT] at hn ⊢;cases rows with
     |nil=>
      have:len=0:=by grind
      exact ⟨rfl,by grind,by simp,by simp⟩
     |cons r rs=>
      obtain ⟨arr,el,DQ,RR,PJ,dH⟩:=b3 (by simp);have BO:=(dH.drop off).take len;refine ⟨rfl,?_,BO.sd,BO.plain⟩
      grind [ad9,oe]
    |_=>cases hr
  cases hr
 |_=>cases hr
theorem PX {aO:Nat} {t off len cap:Nat} {ex:Bool} {u:Value} {rows new:List Row} {r:tz} {d:List Nat} {v:PV} (hx:VR im loc (.own t aO off len cap ex) u) (hs:aA[t]? =aet (.arr aO rows)) (hn:new≠[]) (hl:(aef new)<=len)
 (XA: ∀r∈new,aef r=aO) (hrp: ∀r∈new,∀c∈r,c.plain=aez) (hr:r={v:=v,wr:=[(t,.arr aO (ot off new rows))],rd:=d}) (hk:mb im loc aA w r):
 ∃b o c w',u= .slice (aet ⟨b,o,aew⟩) len c/\(storeCells ⟨b,o,aew⟩ (new.flatMap bn)).run P w= .ok () w'/\yc im loc aA w r im loc w':=by
 obtain ⟨li,a,eh,rfl,qC,he,GN,LB,hex,hxk,IC⟩:=hx.jK;obtain ⟨k,j8,hb⟩:=hk.tok t (.inr ⟨_,by rw [hr];simp;rfl⟩) li qC;rw [hs] at j8;injection j8 with j8;subst j8;obtain ⟨b1,b2,b3⟩:=hb;have NF:=List.length_pos_iff.2 hn;have vo:rows≠[]:=by grind
 obtain ⟨arr,el,DQ,RR,PJ,dH⟩:=b3 vo;rcases IC with h0|⟨_,rfl,wC⟩
 · omega
 have PN:=eC XA
 have LC:=aaE aO (show off+aef new<=(aef rows) by omega);rw [ab3] at LC;have NG:li.sh+off*aO+(new.flatMap bn).length<=arr.size:=by rw [PN];omega
 have dq:=run_storeCells_at P li.eg _ el _ 0 arr w DQ (by simpa using NG) (sf hrp);refine ⟨li.eg,li.sh+off*aO,eh,_,rfl,dq,?_⟩;refine yc.write hk (by rw [hr]) (by rw [hr]) qC hs (by cases rows with|nil=>grind|cons _ _=>rfl) (cm DQ) rfl rfl rfl ?_;rw [B8 _ _ _ (by omega)];refine ⟨b1,by grind [dJ],fun _=>⟨(arr.toList.take (li.sh+off*aO+0)++new.flatMap bn++arr.toList.drop (li.sh+off*aO+0+(new.flatMap bn).length)).toArray,el,?_,?_,?_,?_⟩⟩
 · grind [cm]
 · grind
 · grind [dJ]
 refine dH.rQ (by omega) XA hrp (fun k=>?_)
 have:=jL _ (new.flatMap bn) arr.toList (by simpa using NG) k;simp only [rQ] at this
 grind
end
end Go.Vm
/- Operation by operation: the theorem. -/
namespace Go.Vm
section
variable {P : Program} {im : Im} {loc : Loc} {aA : cU} {fz : List Nat} {w : World} {e : Env} {ρ : Operand -> Value}
theorem X1 {aO:Nat} {x:PV} (h:zt aO x=aez):(∀e c r,x= .sl e c r->r=[]\/e=aO)/\(∀tk e o l c ex,x= .own tk e o l c ex->e=aO):=by
 constructor
 · rintro e c r rfl
   simp [zt,] at h;exact h.symm
 rintro tk e o l c ex rfl
 simpa [zt] using h
theorem la {x:Sem Value} {v:Value} (h:x.run P w= .ok v w):(do pure (Next.value (<- x)):Sem Next).run P w= .ok (.value v) w:=by simp_all
theorem PY {x y:gR} {l:List Operand} (h:fX [x,y] l=aez): ∃a b,l=[a,b]/\bF x a=aez/\bF y b=aez:=by
 match l,h with
 | [],h=>simp [fX] at h
 | [_],h=>simp [fX] at h
 | [a,b],h=>simp [fX,] at h;grind
 |_::_::_::_,h=>simp [fX] at h
theorem PZ {x:gR} {l:List Operand} (h:fX [x] l=aez): ∃a,l=[a]/\bF x a=aez:=by
 match l,h with
 | [],h=>simp [fX] at h
 | [a],h=>simp [fX,] at h;grind
 |_::_::_,h=>simp [fX] at h
theorem X2 {prims:FuncId->Bool} {x:oC} {o:Oper} {r:tz} (hc:BD P prims o.type x o.op=aez) (tC: ∀y∈x.ie,∀o',bF y o'=aez->VR im loc (y.ev e) (ρ o'))
 (h:bO e aA fz x=aet r) (hk:mb im loc aA w r):XY P ρ o im loc aA w r:=by
 unfold BD at hc;split at hc
 case h_1 x o' iA=>injection h with h;subst h;exact .pure hk rfl rfl (by simp [execOp,iA]) (tC x (by simp [oC.ie]) o' hc)
 case h_2 x o' iA=>injection h with h;subst h;exact .pure hk rfl rfl (by simp [execOp,iA]) (tC x (by simp [oC.ie]) o' hc)
 case h_3 c a b d e' f iA=>
  simp [] at hc;have h1:=tC c (by simp [oC.ie]) d hc.1.1;simp [bO] at h;split at h
  · rename_i hb;rw [hb] at h1;have h1:=h1.mE
    injection h with h;subst h;exact .pure hk rfl rfl (by simp [execOp,iA,h1,asBool]) (tC a (by simp [oC.ie]) _ hc.1.2)
  · rename_i hb;rw [hb] at h1;have h1:=h1.mE
    injection h with h;subst h;exact .pure hk rfl rfl (by simp [execOp,iA,h1,asBool]) (tC b (by simp [oC.ie]) _ hc.2)
  cases h
 case h_4 op x y op' t a b u iA=>simp [] at hc;obtain ⟨⟨rfl,h1⟩,h2⟩:=hc;simp [bO,] at h;obtain ⟨z,hz,rfl⟩:=h;obtain ⟨v,dq,hv⟩:=abt (tC x (by simp [oC.ie]) a h1) (tC y (by simp [oC.ie]) b h2) hz;exact .pure hk rfl rfl (by simp only [execOp,iA];exact la dq) hv
 case h_5 neg x y op t a b u iA=>
  simp [] at hc;obtain ⟨⟨⟨h0,ht⟩,h1⟩,h2⟩:=hc;have hx:=tC x (by simp [oC.ie]) a h1;have hy:=tC y (by simp [oC.ie]) b h2;simp [bO] at h;split at h
  · rename_i p q hp hq
    rw [hp] at hx;rw [hq] at hy;injection h with h;subst h;have ho:op=if neg then .neq else .eql:=by grind
    refine .pure hk rfl rfl ?_ (.bool _);simp only [execOp,iA,hx.mE,hy.mE];exact la (XM ho (NH ht))
  cases h
 case h_6 n neg x y op t a b u iA=>
  simp [] at hc;obtain ⟨⟨⟨⟨⟨h0,hr⟩,hn⟩,hg⟩,h1⟩,h2⟩:=hc;have hx:=tC x (by simp [oC.ie]) a h1;have hy:=tC y (by simp [oC.ie]) b h2;simp only [bO] at h;split at h
  · rename_i p q hp hq
    rw [hp] at hx;rw [hq] at hy;obtain ⟨us,hu1,hu2⟩:=hx.uF;obtain ⟨vs,Uc,hv2⟩:=hy.uF;split at h
    case isFalse=>cases h
    rename_i eT;simp [] at eT;rw [EQ] at h;obtain ⟨c,T5,rfl⟩:=h;have hq2:=VG (w:=w) hn hr p q us vs c hu2 hv2 eT.1 eT.2 T5;refine .pure hk rfl rfl ?_ (.bool _);simp only [execOp,iA,hu1,Uc];simp [run_eqGuard_agg w op t a b ⟨us⟩ ⟨vs⟩ hg,];cases neg with
    |true=>simp_all [run_neq_struct]
    |false=>simp_all [run_eql_struct]
  cases h
 case h_7 op x op' t a iA=>simp [] at hc;obtain ⟨rfl,h1⟩:=hc;simp [bO,] at h;obtain ⟨z,hz,rfl⟩:=h;obtain ⟨v,dq,hv⟩:=ae2 (tC x (by simp [oC.ie]) a h1) hz;exact .pure hk rfl rfl (by simp only [execOp,iA];exact la dq) hv
 case h_8 k x s d a iA=>
  simp [] at hc;obtain ⟨⟨hs,hd⟩,h1⟩:=hc;have hx:=tC x (by simp [oC.ie]) a h1;obtain ⟨ds,hds⟩:=abi.1 hs;simp [bO] at h;split at h
  · rename_i k' n hp
    rw [hp] at hx;injection h with h;subst h;split at hd
    · rename_i l hl
      have:=gx.1 hd;subst this;refine .pure hk rfl rfl ?_ (.int _ _);simp only [execOp,iA,hx.jd];exact la (XN hds hl)
    cases hd
  cases h
 case h_9 x args argTypes iA=>
  simp [] at hc;obtain ⟨ht,h1⟩:=hc;obtain ⟨a,ha,h1a⟩:=PZ h1;have qW:args= #[a]:=abj (by simpa using ha);subst qW;have hx:=tC x (by simp [oC.ie]) a h1a;split at ht
  · rename_i t ht0
    unfold xh at ht;split at ht
    · rename_i el hu
      have dq: ∀{v:Value},(Builtin.len_ argTypes o.type #[ρ a]).run P w= .ok v w->(execOp ρ o).run P w= .ok (.value v) w:=by intro v hv;simp [execOp,resolve,invoke,builtin];simp_all
      simp [bO] at h;split at h
      · rename_i e' c rows hp
        rw [hp] at hx;obtain ⟨ad,cap,hv,_⟩:=hx.r8;injection h with h;subst h;exact .pure hk rfl rfl (dq (by simp [Builtin.len_,ht0,run_underlying hu,hv,goInt])) (.int _ _)
      · rename_i tk e' off len cap ex hp
        rw [hp] at hx;obtain ⟨li,ad,eh,hv,_⟩:=hx.jK;injection h with h;subst h;exact .pure hk rfl rfl (dq (by simp [Builtin.len_,ht0,run_underlying hu,hv,goInt])) (.int _ _)
      cases h
    cases ht
  cases ht
 case h_10 n args argTypes iA=>
  simp [] at hc;obtain ⟨h0,ht⟩:=hc;have fy:args.size≠0:=by grind
  have ha0:(ad6 ρ args)[0]? =aet (ρ args[0]):=by grind
  simp [bO,] at h;subst h;have dq: ∀{v:Value},(Builtin.len_ argTypes o.type (ad6 ρ args)).run P w= .ok v w->(execOp ρ o).run P w= .ok (.value v) w:=by intro v hv;simp [execOp,iA,resolve,invoke,builtin,hv]
  refine .pure hk rfl rfl (dq ?_) (.int _ _);split at ht
  · rename_i t ht0
    split at ht
    · rename_i m el hu
      have hm:m=n:=by simpa using ht
      subst hm;simp only [Builtin.len_,ht0,ha0,aa9,run_underlying hu,];rfl
    · rename_i el hu
      split at ht
      · rename_i m el2 hu2
        have hm:m=n:=by simpa using ht
        subst hm;simp [Builtin.len_,ha0,aa9,run_underlying hu,NE,goInt];simp_all [run_underlying]
      cases ht
    cases ht
  cases ht
 case h_11 x el a iA=>
  have hx:=tC x (by simp [oC.ie]) a hc;simp [bO] at h;cases cO:(x.ev e).stored with
  |none=>grind
  |some cs=>rw [cO] at h;injection h with h;obtain ⟨rfl,GO⟩:=Et cO;obtain ⟨bz,hv,he⟩:=Jn (el:=el) (hx.cells GO) h.symm hk;refine ⟨_,_,bz,?_,.inr ⟨_,rfl,hv⟩,he⟩;simp [execOp,iA,Instr.box,newVar,newRow]
 case h_12 cells t iA=>
  simp [bO,] at h;unfold yW at hc;cases hi:P.info? t with
  |none=>grind
  |some i=>
   rw [hi] at hc;cases hz:i.zero with
   |none=>simp [hz] at hc
   |some z=>simp [hz] at hc;obtain ⟨bz,hv,he⟩:=Jn (el:=t) (B4 hc) h.symm hk;refine ⟨_,_,bz,?_,.inr ⟨_,rfl,hv⟩,he⟩;simp [execOp,iA,Instr.alloc,newVar,newRow,zeroValue,typeInfo,hi,hz]
 case h_13 zero parts t ps iA=>simp [] at hc;obtain ⟨⟨⟨hz,_⟩,hp⟩,tB⟩:=hc;simp [bO,] at h;obtain ⟨cs,wB,rfl⟩:=h;have hrel:=Fq (fun y hy=>tC y (by assumption)) hp;obtain ⟨v,dq,hv⟩:=VE (qs:=ps.map fun (i,x)=>(i,ρ x)) hz tB (by simpa using hrel) wB;exact .pure hk rfl rfl (by simp only [execOp,iA];exact la dq) hv
 case h_14 aO n zero parts t m ps iA=>
  simp only [PP,beq_iff_eq] at hc;obtain ⟨⟨⟨⟨rfl,tB⟩,p9⟩,R4⟩,hp⟩:=hc;split at tB
  · rename_i el hu
    simp [] at tB;obtain ⟨⟨⟨hs,hz⟩,hzl⟩,hnz⟩:=tB;simp [bO,] at h;obtain ⟨rows,oG,h⟩:=h;obtain ⟨i,z,hi,R8,eT,P0⟩:=Jt hz R4;have Jq:z.cells.size=aO:=by omega
    have dH:=GS P0 eT n;rw [Jq] at dH
    obtain ⟨RU,h1,h2,h3,h4⟩:=Fp (n:=n) (BF (fun y hy=>tC y (by assumption)) hp) dH (by simp) (by simp) oG;obtain ⟨bz,hv,he⟩:=HO (el:=el) h.symm hk h2 h3 h4 rfl (WF _);refine ⟨_,_,bz,?_,.inr ⟨_,rfl,hv⟩,he⟩;have T8:(zeroValue el).run P w= .ok z w:=by simp [zeroValue,typeInfo,hi,R8]
    have p9:n*aO<=1048576:=by simpa using p9
    have ank: ¬(n*aO>2^24):=by omega
    simp only [execOp,iA,Instr.buildSlice,aa9,run_underlying hu,NE,nP hs,ank,if_false]
    by_cases h0:n*aO=0
    · have hn0:n=0:=by
       rcases ae3.1 h0 with h|h
       · exact h
       grind
      subst hn0;simp [] at h1;simp only [Nat.zero_mul,if_true,aa9,abb,NE,adX];have e0:(ad6 (fun x=>(#[]:Array Value)[x%(#[]:Array Value).size]!) (abE 0))=(ad6 (fun x=>z.cells[x%aO]!) (abE 0)):=by simp
      rw [e0,h1];simp [newRow]
    simp [h0,if_false,aa9,T8,NE,abb]
    simp [Jq,adX,h1];simp [newRow]
  cases tB
 case h_15 agg p t a iA=>simp [] at hc;have hx:=tC p (by simp [oC.ie]) a hc.2;obtain ⟨v,dq,hv,hn,hw⟩:=PG hx hc.1 h hk;exact .pure hk hn hw (by simp [execOp,];simp_all) hv
 case h_16 sz p v t a b iA=>simp [] at hc;obtain ⟨w',dq,BQ,hu⟩:=VA (tC p (by simp [oC.ie]) a hc.1.2) (tC v (by simp [oC.ie]) b hc.2) hc.1.1 h hk;exact ⟨.skip,w',loc,by simp [execOp,iA,dq,],.inl ⟨rfl,hu⟩,BQ⟩
 case h_17 x a iA=>
  have hx:=tC x (by simp [oC.ie]) a hc;simp [bO] at h;split at h
  · rename_i t s r' o' hp
    rw [hp] at hx;injection h with h;subst h;obtain ⟨li,h1,h2,h3,hv⟩:=hx.Db;exact .pure hk rfl rfl (by simp [execOp,iA,hv];rfl) (by grind)
  · rename_i c o' hp
    rw [hp] at hx;injection h with h;subst h;obtain ⟨b,o2,vs,h1,h2,hv⟩:=hx.B6;exact .pure hk rfl rfl (by simp [execOp,iA,hv];rfl) (by grind)
  · rename_i f a' b' hp
    rw [hp] at hx;injection h with h;subst h;generalize hg:ρ a=g at hx;cases hx with
    |fx fn a b as bs ha hb=>exact .pure hk rfl rfl (by simp only [execOp,iA,hg];rfl) (.fx _ _ _ _ _ ha hb)
  cases h
 case h_18 off p t a f iA=>
  simp [] at hc;obtain ⟨hc,h1⟩:=hc;have hx:=tC p (by simp [oC.ie]) a h1;split at hc
  · rename_i fs hu
    split at hc
    · rename_i g hg
      simp [] at hc;obtain ⟨GN,hi⟩:=hc;cases aiA:P.info? g.type with
      |none=>grind
      |some i=>
       rw [aiA] at hi;have hz:i.size≠0:=by simpa using hi
       simp [bO] at h;have: ∃z,(match p.ev e with| .ptr t s r o=>aet (PV.ptr t s r (o+off))| .bR c o=>aet (PV.bR c (o+off))|_=>aew)=aet z/\r={v:=z}:=by
        grind
       obtain ⟨z,hz',rfl⟩:=this;obtain ⟨v,dq,hv⟩:=XP (w:=w) hx hu hg GN aiA hz hz';exact .pure hk rfl rfl (by simp [execOp,];simp_all) hv
    cases hc
  cases hc
 case h_19 agg off x t a f iA=>
  simp [] at hc;obtain ⟨hc,h1⟩:=hc;have hx:=tC x (by simp [oC.ie]) a h1;split at hc
  · rename_i fs hu
    split at hc
    · rename_i g hg
      simp [] at hc;obtain ⟨GN,hag⟩:=hc;simp [bO] at h;split at h
      · rename_i cs hp
        rw [hp] at hx;obtain ⟨vs,hv,tM⟩:=hx.uF;rw [EQ] at h;obtain ⟨z,hz,rfl⟩:=h;rw [<- GN] at hz;obtain ⟨v,dq,XS⟩:=PF (w:=w) hag tM hz;refine .pure hk rfl rfl ?_ XS;simp only [execOp,iA];exact la (by simp [Instr.field,run_underlying hu,hg,hv,asAgg,dq])
      cases h
    cases hc
  cases hc
 case h_20 aO x i t a j iA=>
  simp [] at hc;obtain ⟨⟨hs,h1⟩,h2⟩:=hc;have hx:=tC x (by simp [oC.ie]) a h1;have hi:=tC i (by simp [oC.ie]) j h2;simp only [bO] at h;cases hn:ma (i.ev e) with
  |none=>grind
  |some n=>
   rw [hn] at h;obtain ⟨k,HQ⟩:=tQ hi hn;unfold C' at hs;split at hs
   · rename_i el hu
     have: ∃z,(match x.ev e with
      | .sl s _ rows=>match rows[n]? with
       |some cs=>if UV s aO then aet (PV.bR cs 0) else aew
       |none=>aew
      | .own t s off len _ _=>if abv n len&&UV s aO then aet (PV.ptr t s (off+n) 0) else aew
      |_=>aew)=aet z/\r={v:=z}:=by
      grind
     obtain ⟨z,hz,rfl⟩:=this;obtain ⟨v,dq,hv⟩:=XQ (w:=w) (k:=k) hx hu hs hz;exact .pure hk rfl rfl (by simp [execOp,];simp_all) hv
   cases hs
 case h_21 n aO p i t a j iA=>
  simp [] at hc;obtain ⟨⟨hs,h1⟩,h2⟩:=hc;have hx:=tC p (by simp [oC.ie]) a h1;have hi:=tC i (by simp [oC.ie]) j h2;simp [bO] at h;cases hn:ma (i.ev e) with
  |none=>grind
  |some m=>
   rw [hn] at h;dsimp only at h;split at h
   · rename_i iz
     obtain ⟨k,HQ⟩:=tQ hi hn;unfold T4 at hs;split at hs
     · rename_i m' el hu
       simp [] at hs;obtain ⟨rfl,hs⟩:=hs;have: ∃z,(match p.ev e with| .ptr t s r o=>aet (PV.ptr t s r (o+m*aO))| .bR c o=>aet (PV.bR c (o+m*aO))|_=>aew)=aet z/\r={v:=z}:=by
        grind
       obtain ⟨z,hz,rfl⟩:=this;obtain ⟨v,dq,hv⟩:=Vy (w:=w) (k:=k) hx hu hs iz hz;exact .pure hk rfl rfl (by simp [execOp,];simp_all) hv
     cases hs
   cases h
 case h_22 n aO agg x i t a j iA=>
  simp [] at hc;obtain ⟨⟨hs,h1⟩,h2⟩:=hc;have hx:=tC x (by simp [oC.ie]) a h1;have hi:=tC i (by simp [oC.ie]) j h2;simp [bO] at h;cases hn:ma (i.ev e) with
  |none=>grind
  |some m=>
   rw [hn] at h;dsimp only at h;split at h
   · obtain ⟨k,HQ⟩:=tQ hi hn
     split at hs
     · rename_i m' el hu
       simp [] at hs;obtain ⟨⟨rfl,hs⟩,hag⟩:=hs;split at h
       · rename_i cs hp
         rw [hp] at hx;obtain ⟨vs,hv,tM⟩:=hx.uF;rw [EQ] at h;obtain ⟨z,hz,rfl⟩:=h;obtain ⟨v,dq,XS⟩:=PF (w:=w) hag tM hz;refine .pure hk rfl rfl ?_ XS;have anm:(0:Int)<=(m:Int)/\(m:Int)<(m':Int):=by omega
         simp only [execOp,iA];exact la (by simp only [Instr.index,HQ,asIntOf,aa9,abb,run_underlying hu,NE,hv,anm,and_self,if_true,nP hs,adh,dq])
       cases h
     cases hs
   cases h
 case h_23 x i t a j iA=>
  simp [] at hc;obtain ⟨⟨hs,h1⟩,h2⟩:=hc;have hx:=tC x (by simp [oC.ie]) a h1;have hi:=tC i (by simp [oC.ie]) j h2;have hu:P.underlying t=aet .string:=by
   grind
  simp [bO] at h;split at h
  · rename_i n s hn hp
    rw [hp] at hx;obtain ⟨k,HQ⟩:=tQ hi hn;split at h
    · rename_i b hb
      injection h with h;subst h;refine .pure hk rfl rfl ?_ (.int _ _);have h0:(0:Int)<=(n:Int):=by omega
      simp only [execOp,iA];exact la (by simp [Instr.index,HQ,asIntOf,run_underlying hu,hx.IW,hb])
    cases h
  cases h
 case h_24 aO x l hh m t a b c d iA=>
  simp [] at hc;obtain ⟨⟨⟨⟨⟨h0,hs⟩,h1⟩,h2⟩,h3⟩,h4⟩:=hc;have hx:=tC x (by simp [oC.ie]) a h1;simp only [bO] at h;split at h
  · cases h
  rename_i he
  have he:zt aO (x.ev e)=aez:=by simpa using he
  obtain ⟨he1,BE⟩:=X1 he;split at h
  · rename_i lo hi mx VJ hhi hmx
    rw [EQ] at h;obtain ⟨z,hz,rfl⟩:=h;unfold C' at hs;split at hs
    · rename_i el hu
      have b1:=Ay (fun y hy=>tC y (by simp [oC.ie,];grind)) h2 VJ;have b2:=Ay (fun y hy=>tC y (by simp [oC.ie,];grind)) h3 hhi;have b3:=Ay (fun y hy=>tC y (by simp [oC.ie,];grind)) h4 hmx;have hm2:mx.isSome=aez->hi.isSome=aez:=by
       grind [EQ]
      obtain ⟨v,dq,hv⟩:=VF hx hu hs b1 b2 b3 hm2 he1 BE hz;exact .pure hk rfl rfl (by simp only [execOp,iA];exact la dq) hv
    cases hs
  cases h
 case h_25 aO zero l c t a b iA=>
  simp only [PP] at hc;obtain ⟨⟨⟨tB,R4⟩,h1⟩,h2⟩:=hc;have hx:=tC l (by simp [oC.ie]) a h1;have hy:=tC c (by simp [oC.ie]) b h2;split at tB
  · rename_i el hu
    simp [] at tB;obtain ⟨⟨⟨⟨hs,hz⟩,hzl⟩,VB⟩,hnz⟩:=tB;simp only [bO] at h;split at h
    · rename_i n m hn hm
      obtain ⟨k1,j8⟩:=tQ hx hn;obtain ⟨k2,HQ⟩:=tQ hy hm;split at h
      · rename_i p9
        simp [] at p9;injection h with h;obtain ⟨i,z,hi,R8,eT,P0⟩:=Jt hz R4;have Jq:z.cells.size=aO:=by omega
        have dH:=GS P0 eT m;rw [Jq] at dH
        have lz:m<=1048576:=by simpa [gU] using p9.2
        obtain ⟨bz,hv,he⟩:=HO (el:=el) h.symm hk dH (by simp) (by simp) rfl p9.1;refine ⟨_,_,bz,?_,.inr ⟨_,rfl,hv⟩,he⟩;have T8:(zeroValue el).run P w= .ok z w:=by simp [zeroValue,typeInfo,hi,R8]
        have hti:(typeInfo el).run P w= .ok i w:=by simp [typeInfo,hi]
        have XD:i.bytes<=1048576:=by unfold IU at VB;simp_all
        have hw1:IntKind.i64.wrap (n:Int)=n:=IV (by omega) (by omega);have hw2:IntKind.i64.wrap (m:Int)=m:=IV (by omega) (by omega);have atK:i.bytes*m<=1099511627776:=by have:=ae7 XD lz;omega
        have LD: ¬((i.bytes:Int)*(m:Int)>2^48):=by omega
        have VK:(sizeOf el).run P w= .ok aO w:=nP hs;simp only [execOp,iA,j8,HQ,Instr.makeSlice,asInt,asIntOf,aa9,run_underlying hu,NE,abb,hti,hw1,hw2];have Ud:((aeH ((m:Int)<0)||aeH ((i.bytes:Int)*(m:Int)>2^48))||aeH ((n:Int)<0)||aeH ((n:Int)>(m:Int)))=aeG:=by
         grind
        rw [Ud];simp [Bool.false_eq_true,if_false,aa9,run_askRoom,NE,VK,adh]
        by_cases h0:m*aO=0
        · have hm0:m=0:=by
           rcases ae3.1 h0 with h|h
           · exact h
           rw [h] at hnz;simp at hnz
          subst hm0;simp [newRow]
          grind
        simp [h0,if_false,aa9,T8,NE,abb,Jq]
        simp [newRow]
      cases h
    cases h
  cases tB
 case h_26 fn a b g c d iA=>
  simp [] at hc;obtain ⟨⟨rfl,h1⟩,h2⟩:=hc;simp [bO,] at h;subst h;have r1:=qV (fun y hy=>tC y (by simp [oC.ie,hy])) h1;have r2:=qV (fun y hy=>tC y (by simp [oC.ie,hy])) h2;refine .pure hk rfl rfl (by simp only [execOp,iA];exact la rfl) ?_;have:=VR.fx fn _ _ _ _ r1 r2;have e1:(⟨c.toList.map ρ⟩:Array Value)=c.map ρ:=abj (by simp);have e2:(⟨d.toList.map ρ⟩:Array Value)=d.map ρ:=abj (by simp)
  grind
 case h_27 t iA=>
  simp [bO,] at h
  let li:LI:=⟨w.heap.size,0,0,0,0⟩
  refine ⟨.value (.map (aet w.heap.size)),{w with heap:=w.heap.push (.map #[] 0)},loc.set (aef aA) li,?_,.inr ⟨_,rfl,?_⟩,?_⟩
  · simp [execOp,iA,Instr.makeMap]
  · subst h;exact .mp (aef aA) li (Loc.jE _ _ _)
  refine yc.new hk (k:= .map []) li (by rw [<- h]) (by rw [<- h]) rfl rfl rfl rfl rfl ⟨#[],0,by simp [li],trivial⟩
 case h_28 i x a j iA=>
  simp [] at hc;obtain ⟨rfl,h1⟩:=hc;have hx:=tC x (by simp [oC.ie]) a h1;simp [bO] at h;split at h
  · rename_i vs hp
    rw [hp] at hx;obtain ⟨us,hv,tM⟩:=hx.Fo;rw [EQ] at h;obtain ⟨z,hz,rfl⟩:=h;obtain ⟨u,hu,hur⟩:=tM.get i z hz;have HR:(⟨us⟩:Array Value)[i]? =aet u:=by simpa using hu
    exact .pure hk rfl rfl (by simp only [execOp,iA];exact la (by simp [Instr.extract,hv,HR])) hur
  cases h
 case h_29 aO x y args argTypes iA=>
  simp [] at hc;obtain ⟨tB,h1⟩:=hc;obtain ⟨a,b,Po,h1a,h1b⟩:=PY h1;have qW:args= #[a,b]:=abj (by simpa using Po);have hx:=tC x (by simp [oC.ie]) a h1a;have hy:=tC y (by simp [oC.ie]) b h1b;split at tB
  · rename_i t tx dH
    have LF:argTypes= #[t,tx]:=abj (by simpa using dH);simp [] at tB;obtain ⟨tB,hsl⟩:=tB;unfold xh at hsl;split at hsl
    · rename_i e' htx
      split at tB
      · rename_i el hu
        simp [] at tB;obtain ⟨⟨⟨hs,VB⟩,hnz⟩,hz⟩:=tB;cases hi:P.info? el with
        |none=>grind
        |some i=>
         rw [hi] at hz;cases R8:i.zero with
         |none=>simp [R8] at hz
         |some z=>
          have PL:z.cells.size=aO:=by rw [ae5,R8,ae5] at hz;simpa using hz
          have wb:i.size=aO:=by unfold tD at hs;rw [hi] at hs;simpa using hs
          have XD:i.bytes<=1048576:=by unfold IU at VB;rw [hi] at VB;simpa using VB
          obtain ⟨v',w',bz,dq,hv,BQ⟩:=Jp (ty:=o.type) hu htx hi wb R8 PL XD hx hy h hk;refine ⟨.value v',w',bz,?_,.inr ⟨v',rfl,hv⟩,BQ⟩;simp [execOp,iA,resolve,invoke,builtin];simp_all
      cases tB
    cases hsl
  cases tB
 case h_30 n zero ok m k t a b ok' iA=>
  simp [] at hc;obtain ⟨⟨⟨rfl,tB⟩,h1⟩,h2⟩:=hc;have hm:=tC m (by simp [oC.ie]) a h1;have Ao:=tC k (by simp [oC.ie]) b h2;split at tB
  · rename_i kt et ht
    simp [] at tB;obtain ⟨hkt,hz⟩:=tB;have hz': ∃i z,P.info? et=aet i/\i.zero=aet z/\VR im loc zero z:=by
     cases hi:P.info? et with
     |none=>grind
     |some i=>
      grind [NC]
    obtain ⟨v,dq,hv,hn,hw⟩:=R9 ht hkt hz' hm Ao h hk;exact .pure hk hn hw (by simp [execOp,];simp_all) hv
  cases tB
 case h_31 n m k v t a b c iA=>
  simp [] at hc;obtain ⟨⟨⟨tB,h1⟩,h2⟩,h3⟩:=hc;split at tB
  · rename_i kt et ht
    simp [bO] at h;obtain ⟨w',dq,BQ,hu⟩:=PW ht tB (tC m (by simp [oC.ie]) a h1) (tC k (by simp [oC.ie]) b h2) (tC v (by simp [oC.ie]) c h3) h hk;exact ⟨.skip,w',loc,by simp [execOp,iA,dq,],.inl ⟨rfl,hu⟩,BQ⟩
  cases tB
 case h_32 aO x y args argTypes iA=>
  simp only [PP] at hc;obtain ⟨tB,h1⟩:=hc;obtain ⟨a,b,Po,h1a,h1b⟩:=PY h1;have qW:args= #[a,b]:=abj (by simpa using Po);subst qW;have hx:=tC x (by simp [oC.ie]) a h1a;have hy:=tC y (by simp [oC.ie]) b h1b;split at tB
  · rename_i t tx dH
    have LF:argTypes= #[t,tx]:=abj (by simpa using dH);subst LF;simp only [PP] at tB;obtain ⟨hsl,_⟩:=tB;unfold C' at hsl;split at hsl
    · rename_i el hu
      have VL: ∀{v:Value} {w':World},(Builtin.copy_ #[t,tx] o.type #[ρ a,ρ b]).run P w= .ok v w'->(execOp ρ o).run P w= .ok (.value v) w':=by intro v w' hv;simp only [execOp,iA,resolve,aa9,abb,NE,invoke,builtin];simp_all
      simp only [bO] at h;split at h
      · rename_i src tk s off len cap ex HN hxo
        rw [hxo] at hx;have ae':Nat.min (aef src) len=min (aef src) len:=rfl;have XC:r.rd=lZ (y.ev e):=by
         grind
        obtain ⟨g1,g2,g3,g4⟩:=Sa (P:=P) hy HN (min (aef src) len) (Nat.min_le_left _ _) hk.bP (fun t ht=>hk.tok t (.inl (by grind)));have LG:(src.take (min (aef src) len))=src.take len:=by
         grind
        rw [LG] at g2;have VK:(sizeOf el).run P w= .ok aO w:=nP hsl;split at h
        · rename_i NL
          injection h with h;subst h;rw [NL] at g2;have h0:min (aef src) len=0:=by
           have:=congrArg aec NL
           grind
          obtain ⟨li,ad,eh,hv,_⟩:=hx.jK;refine .pure hk rfl rfl (VL ?_) (.int _ _);have g2':(Builtin.firstCells aO 0 (ρ b)).run P w= .ok #[] w:=by grind
          simp only [Builtin.copy_,hv];cases ad with
          |none=>simp [run_underlying hu,g1,ae',h0,VK,g2',goInt]
          |some ad=>simp [run_underlying hu,g1,ae',h0,VK,g2',goInt,storeCells]
        rename_i r1 rs X3
        split at h
        · rename_i s' rows cO
          split at h
          · rename_i T5
            simp only [PP,acr,abG] at T5;obtain ⟨rfl,hnf⟩:=T5;injection h with h;have hse:s'=s:=by obtain ⟨li,ad,eh,hv,hl,he,_⟩:=hx.jK;obtain ⟨k,j8,hb⟩:=hk.tok tk (.inr ⟨_,by rw [<- h];simp;rfl⟩) li hl;rw [cO] at j8;injection j8 with j8;subst j8;rw [<- hb.1,he]
            subst hse;have BO: ∀q,q∈r1::rs->q∈src:=fun q hq=>by rw [<- X3] at hq;exact List.mem_of_mem_take hq
            have ad7:min (aef src) len=aef rs+1:=by have:=congrArg aec X3;simp only [List.length_take,acl] at this;omega
            rw [X3] at g2;obtain ⟨b',o',c',w',hv,dq,BQ⟩:=PX hx cO (by simp) (by simp;omega) (fun q hq=>g3 q (BO q hq)) (fun q hq=>g4 q (BO q hq)) h.symm hk;refine ⟨.value (.int .i64 (Int.ofNat (aef rs+1))),w',loc,VL ?_,.inr ⟨_,rfl,by rw [<- h];exact .int _ _⟩,BQ⟩;rw [ad7] at g2;simp only [Builtin.copy_,hv];simp [run_underlying hu,g1,ae',ad7,VK,g2,goInt,-abm];rw [dq];rfl
          cases h
        cases h
      cases h
    cases hsl
  cases tB
 case h_33 aO zero x args argTypes iA=>
  simp [] at hc;obtain ⟨tB,h1⟩:=hc;obtain ⟨a,ha,h1a⟩:=PZ h1;have qW:args= #[a]:=abj (by simpa using ha);subst qW;have hx:=tC x (by simp [oC.ie]) a h1a;split at tB
  · rename_i t dH
    have LF:argTypes= #[t]:=abj (by simpa using dH);subst LF;split at tB
    · rename_i el hu
      simp only [PP,beq_iff_eq] at tB;obtain ⟨⟨⟨hs,hz⟩,hzl⟩,R4⟩:=tB;have VL: ∀{v:Value} {w':World},(Builtin.clear_ #[t] o.type #[ρ a]).run P w= .ok v w'->(execOp ρ o).run P w= .ok (.value v) w':=by intro v w' hv;simp [execOp,resolve,aa9,abb,NE,invoke,builtin];simp_all
      simp only [bO] at h;split at h
      · rename_i tk s off len cap ex hxo
        rw [hxo] at hx;split at h
        · injection h with h;subst h
          obtain ⟨li,ad,eh,hv,_⟩:=hx.jK;refine .pure (v:= .tuple #[]) hk rfl rfl (VL ?_) (.undef _);simp [Builtin.clear_,hv];cases ad<;>simp [run_underlying hu]
        rename_i len
        split at h
        · rename_i s' rows cO
          split at h
          · rename_i T5
            simp [PP,acr,abG] at T5;obtain ⟨rfl,hnf⟩:=T5;injection h with h;have hse:s'=s:=by obtain ⟨li,ad,eh,hv,hl,he,_⟩:=hx.jK;obtain ⟨k,j8,hb⟩:=hk.tok tk (.inr ⟨_,by rw [<- h];simp;rfl⟩) li hl;rw [cO] at j8;injection j8 with j8;subst j8;rw [<- hb.1,he]
            subst hse;obtain ⟨i,z,hi,R8,eT,P0⟩:=Jt hz R4;have XA: ∀q∈abe (len+1) zero,aef q=s':=fun q hq=>by rw [(adc.1 hq).2];exact hzl
            have hrp: ∀q∈abe (len+1) zero,∀c∈q,c.plain=aez:=fun q hq c hc=>by rw [(adc.1 hq).2] at hc;exact aco.1 R4 c hc
            obtain ⟨b',o',c',w',hv,dq,BQ⟩:=PX (P:=P) hx cO (by simp) (by simp) XA hrp h.symm hk;refine ⟨.value (.tuple #[]),w',loc,VL ?_,.inr ⟨_,rfl,by rw [<- h];exact .undef _⟩,BQ⟩;have T8:(zeroValue el).run P w= .ok z w:=by simp [zeroValue,typeInfo,hi,R8]
            have hzc:(Builtin.zeroCells z.cells (len+1)).toList=(abe (len+1) zero).flatMap bn:=by
             have dH:=GS P0 eT (len+1);have hfl:=eC XA;have wb:=B9 z.cells (len+1);apply abD;intro j;rcases abh j ((abe (len+1) zero).flatMap bn).length with hj|hj
             · have hfj:=dH.flat j _ (IR hj)
               rw [IR hj,<- hfj];simp only [Builtin.zeroCells,aea,Array.getElem?_toList]
             rw [abg hj,abg]
             simp [Array.length_toList,wb];rw [hfl] at hj;simp [List.length_replicate] at hj;rw [<- eT,hzl];exact hj
            simp [Builtin.clear_,hv];simp_all [run_underlying,abm]
          cases h
        cases h
      · rename_i e1 c1 hxo
        rw [hxo] at hx;injection h with h;subst h;obtain ⟨ad,eh,hv,_⟩:=hx.r8;refine .pure (v:= .tuple #[]) hk rfl rfl (VL ?_) (.undef _);simp [Builtin.clear_,hv];cases ad<;>simp [run_underlying hu]
      cases h
    cases tB
  cases tB
 case h_34 rV x xs b args ats iA=>
  simp [] at hc;obtain ⟨hb,h1⟩:=hc;simp [bO] at h;have hrel:=qV (fun y hy=>tC y (by assumption)) h1;split at h
  · rename_i k a hp
    rw [EQ] at h;obtain ⟨z,hz,rfl⟩:=h;have mg:Lz e (x::xs)= .int k a::Lz e xs:=by simp [Lz,hp]
    rw [mg] at hrel;generalize hl:args.toList.map ρ=l at hrel;cases hrel with
    |cons _ u _ us h1 h2=>
     obtain rfl:=h1.jd;obtain ⟨c,rfl,dq⟩:=T9 (P:=P) (w:=w) h2 hz;refine .pure hk rfl rfl ?_ (.int k c);have qC:(args.map ρ).toList= .int k a::us:=by simpa using hl
     have XD:b=if rV then .max else .min:=by grind
     subst XD;cases rV with
     |true=>simp [] at iA dq;simp only [execOp,iA,resolve,aa9,abb,NE,invoke,builtin,Builtin.max_,qC,dq]
     |false=>simp [] at iA dq;simp only [execOp,iA,resolve,aa9,abb,NE,invoke,builtin,Builtin.min_,qC,dq]
  cases h
 case h_37 x y t m ps iA=>
  simp [] at hc;obtain ⟨⟨rfl,tB⟩,hp⟩:=hc;split at tB
  · rename_i el hu
    simp [] at tB;obtain ⟨hs,hz⟩:=tB;split at hp
    · rename_i i a j b hps
      simp [] at hp;obtain ⟨⟨⟨rfl,rfl⟩,h1⟩,h2⟩:=hp;simp only [bO] at h;split at h
      · rename_i GO
        simp [] at GO;injection h with h;have hx:=tC x (by simp [oC.ie]) a h1;have hy:=tC y (by simp [oC.ie]) b h2;obtain ⟨bz,hv,he⟩:=PH (el:=el) hx hy h.symm hk;refine ⟨_,_,bz,?_,.inr ⟨_,rfl,hv⟩,he⟩;have R8: ∃i z,P.info? el=aet i/\i.zero=aet z/\z.cells.size=1:=by
         cases hi:P.info? el with
         |none=>grind
         |some i=>
          cases hq:i.zero with
          |none=>grind
          |some z=>grind
        obtain ⟨i,z,hi,hq,wb⟩:=R8;have T8:(zeroValue el).run P w= .ok z w:=by simp [zeroValue,typeInfo,hi,hq]
        have c1:(ρ a).cells= #[ρ a]:=by obtain ⟨q1,q2⟩:=hx.NB GO.1;cases Uc:ρ a<;>first|rfl|grind|exact absurd Uc (q2 _)
        have c2:(ρ b).cells= #[ρ b]:=by obtain ⟨q1,q2⟩:=hy.NB GO.2;cases Uc:ρ b<;>first|rfl|grind|exact absurd Uc (q2 _)
        have fl: ∀q:Value,Instr.fill (fun i=>aet (i*1,1)) #[q,q] [(0,ρ a),(1,ρ b)]=aet #[ρ a,ρ b]:=fun q=>by
         have s1:(⟨rQ (0*1) (ρ a).cells.toList (#[q,q]:Array Value).toList⟩:Array Value)= #[ρ a,q]:=by rw [c1];rfl
         have s2:(⟨rQ (1*1) (ρ b).cells.toList (#[ρ a,q]:Array Value).toList⟩:Array Value)= #[ρ a,ρ b]:=by rw [c2];rfl
         rw [Dc rfl (by rw [c1];rfl) (by simp),s1,Dc rfl (by rw [c2];rfl) (by simp),s2];rfl
        simp only [execOp,iA,Instr.buildSlice,aa9,run_underlying hu,NE,nP hs];have e0:(ad6 (fun x=>z.cells[x%z.cells.size]!) (abE (2*1)))= #[z.cells[0]!,z.cells[0]!]:=by rw [wb,show abE (2*1)= #[0,1] from by decide];simp
        have big: ¬(2*1>2^24):=by decide
        have nz: ¬(2*1=0):=by decide
        have ml:(ps.map fun (i,x)=>(i,ρ x)).toList=[(0,ρ a),(1,ρ b)]:=by simp_all
        simp only [big,nz,if_false,aa9,T8,NE,abb];rw [e0,ml,fl];simp [newRow]
      cases h
    cases hp
  cases tB
 case h_38 n m k v t a b c iA=>
  simp [] at hc;obtain ⟨⟨⟨tB,h1⟩,h2⟩,h3⟩:=hc;split at tB
  · rename_i kt et ht
    simp [bO] at h;obtain ⟨w',dq,BQ,hu⟩:=PW ht tB (tC m (by simp [oC.ie]) a h1) (tC k (by simp [oC.ie]) b h2) (tC v (by simp [oC.ie]) c h3) h hk;exact ⟨.skip,w',loc,by simp [execOp,iA,dq,],.inl ⟨rfl,hu⟩,BQ⟩
  cases tB
 all_goals first|(simp only [bO] at h;cases h;done)|(simp at hc;done)
end
end Go.Vm
/- What goes over the border of a pure call, and what comes back. -/
namespace Go.Vm
def iI:Loc:=fun _=>aew
def grow (im:Im) (w:World) (bs:List Nat):Im:=fun b=>match im b with
 |some o=>aet o
 |none=>if bs.contains b then w.heap[b]? else aew
theorem NM (im:Im) (w:World) (bs:List Nat):rZ im (grow im w bs):=fun b o h=>by unfold grow;rw [h]
theorem Ue {im:Im} {w:World} {bs:List Nat} (h: ∀b o,im b=aet o->w.heap[b]? =aet o): ∀b o,grow im w bs b=aet o->w.heap[b]? =aet o:=by
 intro b o hb;unfold grow at hb
 grind
theorem abB {im:Im} {w:World} {bs:List Nat} (h: ∀b o,im b=aet o->w.heap[b]? =aet o) {b:Nat} (hb:b∈bs):grow im w bs b=w.heap[b]?:=by
 unfold grow
 grind
theorem X4 {im:Im} {w:World} {bs:List Nat} {b:Nat} {o:Obj} (h:grow im w bs b=aet o):im b=aet o\/b∈bs:=by
 unfold grow at h
 grind
def Ex (loc:Loc) (aA:cU) (tk:List Nat):List Nat:=tk.filterMap fun t=>if (aA[t]?).any om.bW then (loc t).map (·.eg) else aew
theorem Ey {loc:Loc} {aA:cU} {tk:List Nat} {b:Nat}:b∈Ex loc aA tk↔ ∃t li k,t∈tk/\loc t=aet li/\aA[t]? =aet k/\k.bW=aez/\li.eg=b:=by
 unfold Ex
 grind [EQ]
theorem qX {e:Nat} {rows:List Row} (h:rows≠[]):(om.arr e rows).bW=aez:=by
 cases rows with
 |nil=>grind
 |cons _ _=>rfl
section
variable {im fA : Im} {loc : Loc} {aA : cU} {w : World}
def Over (im fA:Im) (loc:Loc) (aA:cU) (w:World) (t:Nat):Prop:=
 ∀li,loc t=aet li-> ∃k,aA[t]? =aet k/\BR im loc w li k/\(k.bW=aez->fA li.eg=w.heap[li.eg]?)
def afa (fA:Im) (loc:Loc) (bx:Nat->Option (List PV)) (t:Nat):Prop:=
 ∀li cs,loc t=aet li->bx t=aet cs-> ∃vs,fW fA iI cs vs/\ ∀(j:Nat) (v:Value),vs[j]? =aet v->tO fA li.eg (li.sh+j)=aet v
theorem De {b o:Nat} {cs:Array Value} {el:TypeId} {fr:Nat×Nat} (h:im b=aet (.cells cs el fr)):tO im b o=cs[o]?:=by unfold tO;rw [h]
theorem bY.P1 {get:Nat->Option Value} {sh aO off len:Nat} {rows:List Row} (h:bY get sh aO rows):bY get (sh+off*aO) aO ((rows.drop off).take len):=(h.drop off).take len
mutual
theorem afb (hi:rZ im fA) {bx:Nat->Option (List PV)} {tb:Nat->List Nat} (hb: ∀t,(∀u,u∈tb t->Over im fA loc aA w u)->Over im fA loc aA w t->afa fA loc bx t):
 ∀{x y:PV} {v:Value},(∀t,t∈lM tb x->Over im fA loc aA w t)->VR im loc x v->GG aA bx x=aet y->VR fA iI y v
 | .undef,y,v,_,_,h=>by simp [GG] at h
 | .na,y,v,_,_,h=>by simp [GG] at h
 | .int k n,y,v,_,hv,h=>by simp [GG,If] at h;subst h;rw [hv.jd];exact .int _ _
 | .bool b,y,v,_,hv,h=>by simp [GG,If] at h;subst h;rw [hv.mE];exact .bool _
 | .str b,y,v,_,hv,h=>by simp [GG,If] at h;subst h;rw [hv.IW];exact .str _
 | .agg cs,y,v,ht,hv,h=>by simp [GG,EQ] at h;obtain ⟨ys,X5,rfl⟩:=h;obtain ⟨vs,rfl,tM⟩:=hv.uF;exact .agg _ _ (Cc hi hb (fun t h=>ht t (by simpa [lM] using h)) tM X5)
 | .cV cs,y,v,ht,hv,h=>by simp [GG,EQ] at h;obtain ⟨ys,X5,rfl⟩:=h;obtain ⟨vs,rfl,tM⟩:=hv.Fo;exact .cV _ _ (Cc hi hb (fun t h=>ht t (by simpa [lM] using h)) tM X5)
 | .sl e c rows,y,v,_,hv,h=>by simp [GG,If] at h;subst h;obtain ⟨a,cap,rfl,h1,h2,h3⟩:=hv.r8;exact .sl e aeG rows a cap h1 (by simp) fun fy=>let ⟨b,o,ha,hr⟩:=h3 fy;⟨b,o,ha,hr.mono fun _ _ e=>hi.cell e⟩
 | .own t e off len cap ex,y,v,ht,hv,h=>by
  obtain ⟨li,a,eh,rfl,hl,h2,h3,h4,h5,h6,h7⟩:=hv.jK;obtain ⟨k,hk,yf,him⟩:=ht t (by simp [lM]) li hl;simp [GG,hk] at h;cases k with
  |arr e' rows=>
   simp [If] at h;obtain ⟨b1,b2,b3⟩:=yf;have eT:((rows.drop off).take len).length=len:=by simp;omega
   have he:e'=e:=by rw [<- b1,h2]
   subst he;have:=VR.sl (im:=fA) (loc:=iI) e' aeG ((rows.drop off).take len) a eh (by omega) (by simp) (fun fy=>by
    have vo:rows≠[]:=by intro e;subst e;simp at fy
    obtain ⟨arr,el,DQ,RR,PJ,dH⟩:=b3 vo;rcases h7 with h7|⟨_,rfl,_⟩
    · exfalso;apply fy;apply acp.1;omega
    refine ⟨_,_,rfl,dH.P1.mono fun k v hkv=>?_⟩
    rw [De (by rw [him (qX vo)];exact DQ)];exact hkv)
   grind
  |_=>cases h
 | .ptr t e row off,y,v,ht,hv,h=>by
  obtain ⟨li,hl,he,hn,rfl⟩:=hv.Db;obtain ⟨k,hk,yf,him⟩:=ht t (by simp [lM]) li hl;simp [GG,hk] at h;cases k with
  |arr e' rows=>
   simp [EQ] at h;obtain ⟨r,hr,rfl⟩:=h;obtain ⟨b1,b2,b3⟩:=yf;have vo:rows≠[]:=by grind
   obtain ⟨arr,el,DQ,RR,PJ,dH⟩:=b3 vo;have R3:e'=e:=by rw [<- b1,he]
   subst R3;obtain ⟨h1,h2⟩:=yd dH hr;exact .bR r off li.eg (li.sh+row*e') _ h1 fun j v hj=>by grind [De,qX]
  |box cs=>
   dsimp only at h;split at h
   · rename_i zB
     have zB:row=0:=by simpa using zB
     subst zB;rw [EQ] at h;obtain ⟨ys,X5,rfl⟩:=h;obtain ⟨vs,h1,h2⟩:=hb t (fun u hu=>ht u (by simp [lM,hu])) (ht t (by simp [lM])) li ys hl X5;exact .bR ys off li.eg (li.sh+0*e) vs h1 fun j v hj=>by grind
   cases h
  |_=>cases h
 | .bR cs off,y,v,ht,hv,h=>by simp [GG,EQ] at h;obtain ⟨ys,X5,rfl⟩:=h;obtain ⟨b,o,vs,h1,h2,rfl⟩:=hv.B6;exact .bR ys off b o vs (Cc hi hb (fun t h=>ht t (by simpa [lM] using h)) h1 X5) fun j v hj=>hi.cell (h2 j v hj)
 | .mp t,y,v,_,_,h=>by simp [GG] at h
 | .fx fn a b,y,v,ht,hv,h=>by
  simp [GG] at h;cases ha:GH aA bx a with
  |none=>grind
  |some a'=>
   cases HL:GH aA bx b with
   |none=>grind
   |some b'=>
    rw [ha,HL] at h;simp [If] at h;subst h;cases hv with
    |fx _ _ _ as bs h1 h2=>exact .fx fn a' b' as bs (Cc hi hb (fun t h=>ht t (by simp [lM,h])) h1 ha) (Cc hi hb (fun t h=>ht t (by simp [lM,h])) h2 HL)
 | .eW,y,v,_,hv,h=>by simp [GG,If] at h;subst h;cases hv;exact .eW
theorem Cc (hi:rZ im fA) {bx:Nat->Option (List PV)} {tb:Nat->List Nat} (hb: ∀t,(∀u,u∈tb t->Over im fA loc aA w u)->Over im fA loc aA w t->afa fA loc bx t):
 ∀{x y:List PV} {v:List Value},(∀t,t∈eJ tb x->Over im fA loc aA w t)->fW im loc x v->GH aA bx x=aet y->fW fA iI y v
 | [],y,v,_,hv,h=>by simp [GH,If] at h;subst h;cases hv;exact .nil
 |x::xs,y,v,ht,hv,h=>by
  simp [GH] at h;cases hx:GG aA bx x with
  |none=>grind
  |some x'=>
   cases XB:GH aA bx xs with
   |none=>grind
   |some xs'=>
    rw [hx,XB] at h;simp [If] at h;subst h;cases hv with
    |cons _ u _ us h1 h2=>exact .cons _ _ _ _ (afb hi hb (fun t h=>ht t (by simp [eJ,h])) h1 hx) (Cc hi hb (fun t h=>ht t (by simp [eJ,h])) h2 XB)
end
theorem Uf (hi:rZ im fA): ∀(n:Nat) (t:Nat),(∀u,u∈fS aA n t->Over im fA loc aA w u)->Over im fA loc aA w t->afa fA loc (B0 aA n) t
 |0,t,_,_=>by intro li cs _ h;cases h
 |n+1,t,ht,hto=>by
  intro li cs hl h;obtain ⟨k,hk,yf,him⟩:=hto li hl;simp [B0,hk] at h;cases k with
  |box cells=>obtain ⟨b1,b2,b3,vs,el,h4,h5,h6⟩:=yf;refine ⟨vs,Cc hi (fun t'=>Uf hi n t') (fun u hu=>ht u (by simp [fS,hk,hu])) h6 h,fun j v hj=>?_⟩;rw [De (by rw [him rfl];exact h4),b3];simpa using hj
  |_=>cases h
end
end Go.Vm
/- A pure call: what comes back. -/
namespace Go.Vm
section
variable {im fA : Im} {loc bz : Loc} {aA : cU} {w : World}
mutual
theorem P2: ∀{x:PV} {v:Value},x.ou=aez->VR im loc x v->VR fA bz x v
 | .int k n,v,_,h=>by rw [h.jd];exact .int _ _
 | .bool b,v,_,h=>by rw [h.mE];exact .bool _
 | .str s,v,_,h=>by rw [h.IW];exact .str _
 | .agg cs,v,hn,h=>by obtain ⟨vs,rfl,hr⟩:=h.uF;exact .agg _ _ (GU (by simpa [PV.ou] using hn) hr)
 | .cV cs,v,hn,h=>by obtain ⟨vs,rfl,hr⟩:=h.Fo;exact .cV _ _ (GU (by simpa [PV.ou] using hn) hr)
 | .undef,_,hn,_=>by simp [PV.ou] at hn
 | .na,_,hn,_=>by simp [PV.ou] at hn
 | .sl ..,_,hn,_=>by simp [PV.ou] at hn
 | .own ..,_,hn,_=>by simp [PV.ou] at hn
 | .ptr ..,_,hn,_=>by simp [PV.ou] at hn
 | .bR ..,_,hn,_=>by simp [PV.ou] at hn
 | .mp ..,_,hn,_=>by simp [PV.ou] at hn
 | .fx ..,_,hn,_=>by simp [PV.ou] at hn
 | .eW,_,hn,_=>by simp [PV.ou] at hn
theorem GU: ∀{x:List PV} {v:List Value},Aq x=aez->fW im loc x v->fW fA bz x v
 | [],_,_,h=>by cases h;exact .nil
 |x::xs,_,hn,h=>by
  simp only [Aq,PP] at hn;cases h with
  |cons _ u _ us h1 h2=>exact .cons _ _ _ _ (P2 hn.1 h1) (GU hn.2 h2)
end
mutual
theorem X6 (hi:rZ im fA): ∀{x y:PV} {v:Value},(∀t,t∈lM zu x->Over im fA loc aA w t)->VR im loc x v->DW aA x=aet y->VR fA bz y v
 | .int k n,y,v,_,hv,h=>by simp only [DW,If] at h;subst h;rw [hv.jd];exact .int _ _
 | .bool b,y,v,_,hv,h=>by simp only [DW,If] at h;subst h;rw [hv.mE];exact .bool _
 | .str b,y,v,_,hv,h=>by simp only [DW,If] at h;subst h;rw [hv.IW];exact .str _
 | .agg cs,y,v,ht,hv,h=>by simp only [DW,EQ] at h;obtain ⟨ys,X5,rfl⟩:=h;obtain ⟨vs,rfl,tM⟩:=hv.uF;exact .agg _ _ (NN hi (fun t h=>ht t (by simpa [lM] using h)) tM X5)
 | .cV cs,y,v,ht,hv,h=>by simp only [DW,EQ] at h;obtain ⟨ys,X5,rfl⟩:=h;obtain ⟨vs,rfl,tM⟩:=hv.Fo;exact .cV _ _ (NN hi (fun t h=>ht t (by simpa [lM] using h)) tM X5)
 | .sl e c rows,y,v,_,hv,h=>by simp only [DW,If] at h;subst h;obtain ⟨a,cap,rfl,h1,h2,h3⟩:=hv.r8;exact .sl e aeG rows a cap h1 (by simp) fun fy=>let ⟨b,o,ha,hr⟩:=h3 fy;⟨b,o,ha,hr.mono fun _ _ e=>hi.cell e⟩
 | .own t e off len cap ex,y,v,ht,hv,h=>by
  obtain ⟨li,a,eh,rfl,hl,h2,h3,h4,h5,h6,h7⟩:=hv.jK;obtain ⟨k,hk,yf,him⟩:=ht t (by simp [lM]) li hl;simp only [DW,hk] at h;cases k with
  |arr e' rows=>
   simp only [If] at h;subst h;obtain ⟨b1,b2,b3⟩:=yf;have eT:((rows.drop off).take len).length=len:=by simp;omega
   have he:e'=e:=by rw [<- b1,h2]
   subst he;have:=VR.sl (im:=fA) (loc:=bz) e' aeG ((rows.drop off).take len) a eh (by omega) (by simp) (fun fy=>by
    have vo:rows≠[]:=by intro e;subst e;simp at fy
    obtain ⟨arr,el,DQ,RR,PJ,dH⟩:=b3 vo;rcases h7 with h7|⟨_,rfl,_⟩
    · exfalso;apply fy;apply acp.1;omega
    refine ⟨_,_,rfl,dH.P1.mono fun k v hkv=>?_⟩
    rw [De (by rw [him (qX vo)];exact DQ)];exact hkv)
   rwa [eT] at this
  |_=>cases h
 | .undef,_,_,_,_,h=>by simp [DW] at h
 | .na,_,_,_,_,h=>by simp [DW] at h
 | .ptr ..,_,_,_,_,h=>by simp [DW] at h
 | .bR ..,_,_,_,_,h=>by simp [DW] at h
 | .mp ..,_,_,_,_,h=>by simp [DW] at h
 | .fx ..,_,_,_,_,h=>by simp [DW] at h
 | .eW,_,_,_,_,h=>by simp [DW] at h
theorem NN (hi:rZ im fA): ∀{x y:List PV} {v:List Value},(∀t,t∈eJ zu x->Over im fA loc aA w t)->fW im loc x v->Nu aA x=aet y->fW fA bz y v
 | [],y,v,_,hv,h=>by simp only [Nu,If] at h;subst h;cases hv;exact .nil
 |x::xs,y,v,ht,hv,h=>by
  simp only [Nu] at h;cases hx:DW aA x with
  |none=>rw [hx] at h;cases h
  |some x'=>
   cases XB:Nu aA xs with
   |none=>rw [hx,XB] at h;cases h
   |some xs'=>
    rw [hx,XB] at h;simp only [If] at h;subst h;cases hv with
    |cons _ u _ us h1 h2=>exact .cons _ _ _ _ (X6 hi (fun t h=>ht t (by simp [eJ,h])) h1 hx) (NN hi (fun t h=>ht t (by simp [eJ,h])) h2 XB)
end
theorem uH {l:List Nat} {t:Nat}:has l t=aez↔t∈l:=by unfold has;simp
theorem mG {l:List Nat} {t:Nat}:has l t=aeG↔t∉l:=by rw [<- uH];simp
def ann:Im:=fun _=>aew
structure ImO (eB:Loc) (sg:cU) (Lw:List Nat) (w:World) (seen gQ:List Nat) (news:cU) (P3:List LI) (ts:List (Option Nat)):Prop where
 NO:(aef P3)=aef news
 PC:(aef ts)=aef news
 br: ∀(j:Nat) (k:om) (li:LI),news[j]? =aet k->P3[j]? =aet li->(∃e rows,k= .arr e rows)/\BR ann iI w li k
 own: ∀(j:Nat) (k:om) (li:LI) (t:Nat),news[j]? =aet k->P3[j]? =aet li->ts[j]? =aet (aet t)->eB t=aet li/\sg[t]? =aet k/\t∉Lw/\t∈gQ/\t∉seen
 dum: ∀(j:Nat) (k:om),news[j]? =aet k->ts[j]? =aet aew->k.bW=aeG
 inj: ∀(i j t:Nat),ts[i]? =aet (aet t)->ts[j]? =aet (aet t)->i=j
 sub: ∀t,t∈seen->t∈gQ
theorem ImO.none {eB:Loc} {sg:cU} {Lw:List Nat} {seen:List Nat}:ImO eB sg Lw w seen seen [] [] [] where
 NO:=rfl
 PC:=rfl
 br:=fun j k li h=>by simp at h
 own:=fun j k li t h=>by simp at h
 dum:=fun j k h=>by simp at h
 inj:=fun i j t h=>by simp at h
 sub:=fun _ h=>h
theorem je {α:Type} {a b:List α} {j:Nat} {x:α} (h:(a++b)[j]? =aet x):(j<aef a/\a[j]? =aet x)\/(aef a<=j/\b[j-(aef a)]? =aet x):=by
 grind
theorem ImO.append {eB:Loc} {sg:cU} {Lw s0 s1 s2:List Nat} {n1 n2:cU} {l1 l2:List LI} {t1 t2:List _} (h:ImO eB sg Lw w s0 s1 n1 l1 t1) (k:ImO eB sg Lw w s1 s2 n2 l2 t2):
 ImO eB sg Lw w s0 s2 (n1++n2) (l1++l2) (t1++t2):=by
 have e1:=h.NO;have e2:=h.PC;have ano: ∀(j t:Nat),t1[j]? =aet (aet t)->t∈s1:=by intro j t ht;have hj:=(aaF.1 ht).1;exact (h.own j n1[j] l1[j] t (IR (by omega)) (IR (by omega)) ht).2.2.2.1
 have amt: ∀(j t:Nat),t2[j]? =aet (aet t)->t∉s1:=by intro j t ht;have hj:=(aaF.1 ht).1;have:=k.NO;have:=k.PC;exact (k.own j n2[j] l2[j] t (IR (by omega)) (IR (by omega)) ht).2.2.2.2
 refine ⟨by simp [e1,k.NO],by simp [e2,k.PC],fun j b li hb hl=>?_,fun j b li t hb hl ht=>?_,fun j b hb ht=>?_,fun i j t hi hj=>?_,fun t ht=>k.sub t (h.sub t ht)⟩
 · rcases je hb with ⟨h1,hb⟩|⟨h1,hb⟩
   · rcases je hl with ⟨h2,hl⟩|⟨h2,hl⟩
     · exact h.br j b li hb hl
     omega
   rcases je hl with ⟨h2,hl⟩|⟨h2,hl⟩
   · omega
   rw [e1] at hl;exact k.br _ b li hb hl
 · rcases je hb with ⟨h1,hb⟩|⟨h1,hb⟩
   · rcases je hl with ⟨h2,hl⟩|⟨h2,hl⟩
     · rcases je ht with ⟨h3,ht⟩|⟨h3,ht⟩
       · obtain ⟨a1,a2,a3,a4,a5⟩:=h.own j b li t hb hl ht
         exact ⟨a1,a2,a3,k.sub t a4,a5⟩
       omega
     omega
   rcases je hl with ⟨h2,hl⟩|⟨h2,hl⟩
   · omega
   rcases je ht with ⟨h3,ht⟩|⟨h3,ht⟩
   · omega
   rw [e1] at hl;rw [e2] at ht
   obtain ⟨a1,a2,a3,a4,a5⟩:=k.own _ b li t hb hl ht;exact ⟨a1,a2,a3,a4,fun hs=>a5 (h.sub t hs)⟩
 · rcases je hb with ⟨h1,hb⟩|⟨h1,hb⟩
   · rcases je ht with ⟨h3,ht⟩|⟨h3,ht⟩
     · exact h.dum j b hb ht
     omega
   rcases je ht with ⟨h3,ht⟩|⟨h3,ht⟩
   · omega
   rw [e2] at ht;exact k.dum _ b hb ht
 rcases je hi with ⟨h1,hi⟩|⟨h1,hi⟩
 · rcases je hj with ⟨h2,hj⟩|⟨h2,hj⟩
   · exact h.inj i j t hi hj
   grind
 rcases je hj with ⟨h2,hj⟩|⟨h2,hj⟩
 · grind
 have:=k.inj _ _ t hi hj;omega
def aeb (eB:Loc) (sg:cU) (Lx:Im) (w:World):Prop:= ∀t li,eB t=aet li-> ∃k,sg[t]? =aet k/\BR Lx eB w li k
mutual
theorem X7 {Lx:Im} {eB:Loc} {sg:cU} {Lw:List Nat} (hk:aeb eB sg Lx w): ∀{x y:PV} {v:Value} {nx:Nat} {seen gQ:List Nat} {news:cU},
 VR Lx eB x v->Fh sg Lw nx seen x=aet (y,news,gQ)->
 ∃P3 ts,ImO eB sg Lw w seen gQ news P3 ts/\ ∀(Jz:Im) (xj:Loc),(∀(j:Nat) (li:LI),P3[j]? =aet li->xj (nx+j)=aet li)->VR Jz xj y v
 | .int k n,y,v,nx,seen,gQ,news,hv,h=>by simp only [Fh,If,abd] at h;obtain ⟨rfl,rfl,rfl⟩:=h;exact ⟨[],[],.none,fun _ _ _=>by rw [hv.jd];exact .int _ _⟩
 | .bool k,y,v,nx,seen,gQ,news,hv,h=>by simp only [Fh,If,abd] at h;obtain ⟨rfl,rfl,rfl⟩:=h;exact ⟨[],[],.none,fun _ _ _=>by rw [hv.mE];exact .bool _⟩
 | .agg cs,y,v,nx,seen,gQ,news,hv,h=>by simp only [Fh,EQ,abd] at h;obtain ⟨⟨ys,n2,s2⟩,hr,rfl,rfl,rfl⟩:=h;obtain ⟨vs,rfl,tM⟩:=hv.uF;obtain ⟨P3,ts,h1,h2⟩:=NP hk tM hr;exact ⟨P3,ts,h1,fun Jz xj hl=> .agg _ _ (h2 Jz xj hl)⟩
 | .cV cs,y,v,nx,seen,gQ,news,hv,h=>by simp only [Fh,EQ,abd] at h;obtain ⟨⟨ys,n2,s2⟩,hr,rfl,rfl,rfl⟩:=h;obtain ⟨vs,rfl,tM⟩:=hv.Fo;obtain ⟨P3,ts,h1,h2⟩:=NP hk tM hr;exact ⟨P3,ts,h1,fun Jz xj hl=> .cV _ _ (h2 Jz xj hl)⟩
 | .sl e c rows,y,v,nx,seen,gQ,news,hv,h=>by
  obtain ⟨a,cap,rfl,h1,h2,h3⟩:=hv.r8;cases c with
  |false=>simp [Fh] at h
  |true=>
   cases rows with
   |cons r rs=>simp [Fh] at h
   |nil=>
    simp only [Fh,If,abd] at h;obtain ⟨rfl,rfl,rfl⟩:=h;have LB:cap=0:=h2 rfl;subst LB;refine ⟨[⟨0,0,e,0,0⟩],[aew],⟨rfl,rfl,fun j k li hj hl=>?_,fun j k li t hj hl ht=>?_,fun j k hj ht=>?_,fun i j t hi hj=>?_,fun _ h=>h⟩,fun Jz xj hl=>?_⟩
    · cases j with
      |zero=>simp at hj hl;subst hj hl;exact ⟨⟨_,_,rfl⟩,rfl,rfl,fun fy=>absurd rfl fy⟩
      |succ j=>simp at hj
    · cases j<;>simp at ht
    · cases j with
      |zero=>simp at hj;subst hj;rfl
      |succ j=>simp at hj
    · cases i<;>simp at hi
    exact .own nx e 0 0 0 aeG ⟨0,0,e,0,0⟩ a 0 (hl 0 _ rfl) rfl (WF _) (WF _) (WF _) (by simp) (.inl rfl)
 | .own t e off len cap ex,y,v,nx,seen,gQ,news,hv,h=>by
  obtain ⟨li,a,eh,rfl,hl,h2,h3,h4,h5,h6,h7⟩:=hv.jK;obtain ⟨k,Ao,yf⟩:=hk t li hl;simp only [Fh,Ao] at h;cases k with
  |arr e' rows=>
   dsimp only at h;split at h
   · cases h
   rename_i hs
   simp only [ae0,not_or,Bool.not_eq_true] at hs;simp only [If,abd] at h;obtain ⟨rfl,rfl,rfl⟩:=h;refine ⟨[li],[aet t],⟨rfl,rfl,fun j k li' hj qC=>?_,fun j k li' t' hj qC ht=>?_,fun j k hj ht=>?_,fun i j t hi hj=>?_,fun _ h=>abz _ h⟩,fun Jz xj PK=>?_⟩
   · cases j with
     |zero=>simp at hj qC;subst hj qC;exact ⟨⟨_,_,rfl⟩,yf⟩
     |succ j=>simp at hj
   · cases j with
     |zero=>simp at hj qC ht;subst hj qC ht;exact ⟨hl,Ao,mG.1 hs.2,by simp,mG.1 hs.1⟩
     |succ j=>simp at hj
   · cases j<;>simp at ht
   · cases i with
     |zero=>
      cases j with
      |zero=>rfl
      |succ j=>simp at hj
     |succ i=>simp at hi
   exact .own nx e off len cap aeG li a eh (PK 0 _ rfl) h2 h3 h4 h5 (fun h=>by cases h) h7
  |_=>cases h
 | .str s,y,v,nx,seen,gQ,news,hv,h=>by simp [Fh] at h
 | .undef,y,v,nx,seen,gQ,news,hv,h=>by simp [Fh] at h
 | .na,y,v,nx,seen,gQ,news,hv,h=>by simp [Fh] at h
 | .ptr ..,y,v,nx,seen,gQ,news,hv,h=>by simp [Fh] at h
 | .bR ..,y,v,nx,seen,gQ,news,hv,h=>by simp [Fh] at h
 | .mp ..,y,v,nx,seen,gQ,news,hv,h=>by simp [Fh] at h
 | .fx ..,y,v,nx,seen,gQ,news,hv,h=>by simp [Fh] at h
 | .eW,y,v,nx,seen,gQ,news,hv,h=>by simp [Fh] at h
theorem NP {Lx:Im} {eB:Loc} {sg:cU} {Lw:List Nat} (hk:aeb eB sg Lx w): ∀{x y:List PV} {v:List Value} {nx:Nat} {seen gQ:List Nat} {news:cU},
 fW Lx eB x v->Nv sg Lw nx seen x=aet (y,news,gQ)->
 ∃P3 ts,ImO eB sg Lw w seen gQ news P3 ts/\ ∀(Jz:Im) (xj:Loc),(∀(j:Nat) (li:LI),P3[j]? =aet li->xj (nx+j)=aet li)->fW Jz xj y v
 | [],y,v,nx,seen,gQ,news,hv,h=>by simp only [Nv,If,abd] at h;obtain ⟨rfl,rfl,rfl⟩:=h;cases hv;exact ⟨[],[],.none,fun _ _ _=> .nil⟩
 |x::xs,y,v,nx,seen,gQ,news,hv,h=>by
  simp only [Nv] at h;cases h1:Fh sg Lw nx seen x with
  |none=>rw [h1] at h;cases h
  |some r1=>
   obtain ⟨y1,n1,s1⟩:=r1;rw [h1] at h;dsimp only at h;cases h2:Nv sg Lw (nx+aef n1) s1 xs with
   |none=>rw [h2] at h;cases h
   |some r2=>
    obtain ⟨y2,n2,s2⟩:=r2;rw [h2] at h;simp only [If,abd] at h;obtain ⟨rfl,rfl,rfl⟩:=h;cases hv with
    |cons _ u _ us hx XB=>
     obtain ⟨l1,t1,a1,b1⟩:=X7 hk hx h1;obtain ⟨l2,t2,a2,b2⟩:=NP hk XB h2;refine ⟨l1++l2,t1++t2,a1.append a2,fun Jz xj hl=> .cons _ _ _ _ (b1 Jz xj fun j li hj=>?_) (b2 Jz xj fun j li hj=>?_)⟩
     · have:=(aaF.1 hj).1
       exact hl j li (by rw [abc this];exact hj)
     have:=hl (aef n1+j) li (by rw [aba (by rw [a1.NO];omega),a1.NO,show (aef n1)+j-(aef n1)=j by omega];exact hj)
     rwa [<- abn] at this
end
end
end Go.Vm
/- A pure call, whole. -/
namespace Go.Vm
structure zF (im:Im) (loc:Loc) (aA:cU) (w:World) (v:PV) (zG:cU) (NQ:List Nat) (fA:Im) (bz:Loc) (w':World) (u:Value):Prop where
 jt:rZ im fA
 eS:pR loc bz
 vr:VR fA bz v u
 sr:SR fA bz zG NQ w'
 os:w'.os=w.os
 tape:Tape w w'
 output:w'.output=w.output
 size:w.heap.size<=w'.heap.size
 frame: ∀b,b<w.heap.size->(∀t li k,loc t=aet li->aA[t]? =aet k->k.bW=aez->li.eg≠b)->w'.heap[b]? =w.heap[b]?
 fa: ∀b o,fA b=aet o->im b=aet o\/w.heap.size<=b\/ ∃t li k,loc t=aet li/\aA[t]? =aet k/\k.bW=aez/\li.eg=b
 rR: ∀t li,bz t=aet li->loc t=aet li\/aef aA<=t
 own: ∀t li k,bz t=aet li->zG[t]? =aet k->k.bW=aez->(w.heap.size<=li.eg\/ ∃u lu ku,loc u=aet lu/\aA[u]? =aet ku/\ku.bW=aez/\lu.eg=li.eg)
def yZ (P:Program) (f:FuncId) (us:Array Value) (w:World) (R:Value->World->Prop):Prop:=
 (∃v w',(callFunc f us).run P w= .ok (.value v) w'/\R v w')\/
 ((callFunc f us).run P w= .ok (.enter f us) w/\Calls P f us w fun e w'=> ∃v,e= .returned v/\R v w')
theorem yZ.mono {P:Program} {f:FuncId} {us:Array Value} {w:World} {R R':Value->World->Prop} (h:yZ P f us w R) (hr: ∀v w',R v w'->R' v w'):yZ P f us w R':=by
 rcases h with ⟨v,w',h1,h2⟩|⟨h1,h2⟩
 · exact .inl ⟨v,w',h1,hr _ _ h2⟩
 exact .inr ⟨h1,h2.mono fun e w' ⟨v,he,hv⟩=>⟨v,he,hr _ _ hv⟩⟩
def GV (P : Program) (rec : Task -> Option Out) : Prop :=
  ∀ (f : FuncId) (args : List PV) (aA : cU) (fz : List Nat) (v : PV) (zG : cU) (NQ : List Nat), rec (.func f args aA fz) = aet (.func v zG NQ) ->
    ∀ (im : Im) (loc : Loc) (w : World) (us : List Value), SR im loc aA fz w -> fW im loc args us ->
      yZ P f ⟨us⟩ w fun u w' => ∃ fA bz, zF im loc aA w v zG NQ fA bz w' u
def NR (P : Program) (f : FuncId) (p : List PV -> Option (PV × cU)) : Prop :=
  ∀ (args : List PV) (v : PV) (news : cU), p args = aet (v, news) -> ∀ (im : Im) (w : World) (us : List Value), SR im iI [] [] w -> fW im iI args us ->
    yZ P f ⟨us⟩ w fun u w' => ∃ fA bz, zF im iI [] w v news [] fA bz w' u
def Fs (P : Program) (f : FuncId) (p : List PV -> cU -> List Nat -> Option (PV × cU × List Nat)) : Prop :=
  ∃ fn c, P.funcs[f]? = aet fn /\ (fn.name == "runtime.NumGoroutine") = aeG /\ fn.body = aet c /\
    ∀ (args : List PV) (aA : cU) (fz : List Nat) (v : PV) (zG : cU) (NQ : List Nat), p args aA fz = aet (v, zG, NQ) ->
      ∀ (im : Im) (loc : Loc) (w : World) (us : List Value), SR im loc aA fz w -> fW im loc args us ->
        yZ P f ⟨us⟩ w fun u w' => ∃ fA bz, zF im loc aA w v zG NQ fA bz w' u
def Df (P:Program) (F:p8):Prop:=(∀f k p,F f=aet (.nN k p)->k=aeG/\NR P f p)/\ ∀f p,F f=aet (.Ly p)->Fs P f p
section
variable {P : Program} {F : p8} {rec : Task -> Option Out} {im : Im} {loc : Loc} {aA : cU} {w : World}
theorem SR.empty (h: ∀b o,im b=aet o->w.heap[b]? =aet o):SR im iI [] [] w where
 bP:=h
 eg:=fun t li h=>by cases h
 k7:=fun t u li lj k k' h=>by cases h
 free:=fun t li k h=>by cases h
theorem VM {r:tz} {v:PV} {u:Value} {sg:cU} {Lw:List Nat} {nQ Lx:Im} {eB:Loc} {w1:World} (hk:mb im loc aA w r) (hr:r.v=v) (hn:r.news=[]) (hw:r.wr=[]) (hno:v.ou=aez)
 (hp:zF nQ iI [] w v sg Lw Lx eB w1 u): ∃fA bz,VR fA bz r.v u/\yc im loc aA w r fA bz w1:=by
 refine ⟨im,loc,by rw [hr];exact P2 hno hp.vr,?_⟩;have yX:=fun b hb=>hp.frame b hb fun t li k h=>by cases h
 exact {
  jt:= .refl _,eS:= .refl _
  bP:=fun b o h=>by
   have h1:=hk.bP b o h
   grind
  fa:=fun _ _ h=> .inl h
  os:=hp.os,tape:=hp.tape,output:=hp.output,size:=hp.size
  frame:=fun b hb _=>yX b hb
  Vx:=fun t k h=>by grind
  wr:=fun t k li h=>by grind
  oo:=fun _ _ h=> .inl h
  news:=fun j k li h=>by grind
  distinct:=fun i j ki kj li lj h=>by grind}
theorem X8 {r:tz} {v v':PV} {u:Value} {sg:cU} {Lw tk:List Nat} {Lx:Im} {eB:Loc} {w1:World} (hr:r.v=v') (hn:r.news=[]) (hw:r.wr=[]) (hf:r.fr=tk)
 (hp:zF (grow im w (Ex loc aA tk)) iI [] w v sg Lw Lx eB w1 u) (hi:DW sg v=aet v'): ∃fA bz,VR fA bz r.v u/\yc im loc aA w r fA bz w1:=by
 have yX:=fun b hb=>hp.frame b hb fun t li k h=>by cases h
 let Jz:=fun b=>match Lx b with
  |some o=>aet o
  |none=>if (Ex eB sg (lM zu v)).contains b&&ab1 w.heap.size b then w1.heap[b]? else aew
 have p9:rZ Lx Jz:=fun b o h=>by grind
 have Av: ∀b o,Jz b=aet o->w1.heap[b]? =aet o:=by
  intro b o h;simp [Jz] at h;split at h
  · rename_i o' ho;injection h with h;subst h;exact hp.sr.bP b _ ho
  grind
 have aiC: ∀t,t∈lM zu v->Over Lx Jz eB sg w1 t:=by
  intro t ht li hl;obtain ⟨k,j8,yf⟩:=hp.sr.eg t li hl;refine ⟨k,j8,yf,fun hs=>?_⟩;have hge:w.heap.size<=li.eg:=by
   rcases hp.own t li k hl j8 hs with h|⟨u,lu,ku,h,_⟩
   · exact h
   cases h
  simp only [Jz];split
  · grind
  rw [AC]
  simp [];exact ⟨by simpa using Ey.2 ⟨t,li,k,ht,hl,j8,hs,rfl⟩,hge⟩
 refine ⟨Jz,loc,by rw [hr];exact X6 p9 aiC hp.vr hi,?_⟩;exact {
  jt:=(NM im w _).trans (hp.jt.trans p9),eS:= .refl _
  bP:=Av
  fa:=fun b o h=>by
   simp [Jz] at h;split at h
   · rename_i o' ho
     injection h with h;subst h;rcases hp.fa b _ ho with h1|h1|⟨t,li,k,h1,_⟩
     · rcases X4 h1 with h2|h2
       · exact .inl h2
       obtain ⟨t,li,k,ht,hl,Ao,hs,hb⟩:=Ey.1 h2
       exact .inr (.inr ⟨t,li,k,by rw [hf];exact uH.2 ht,hl,Ao,hs,hb⟩)
     · exact .inr (.inl h1)
     cases h1
   simp_all
  os:=hp.os,tape:=hp.tape,output:=hp.output,size:=hp.size
  frame:=fun b hb _=>yX b hb
  Vx:=fun t k h=>by grind
  wr:=fun t k li h=>by grind
  oo:=fun _ _ h=> .inl h
  news:=fun j k li h=>by grind
  distinct:=fun i j ki kj li lj h=>by grind}
theorem Ug {r:tz} {v v':PV} {u:Value} {sg:cU} {Lw gQ:List Nat} {nQ Lx:Im} {eB:Loc} {w1:World} {news:cU} (hk:mb im loc aA w r) (hr:r.v=v') (hn:r.news=news) (hw:r.wr=[])
 (hp:zF nQ iI [] w v sg Lw Lx eB w1 u) (hi:Fh sg Lw (aef aA) [] v=aet (v',news,gQ)): ∃fA bz,VR fA bz r.v u/\yc im loc aA w r fA bz w1:=by
 have yX:=fun b hb=>hp.frame b hb fun t li k h=>by cases h
 obtain ⟨P3,ts,h1,h2⟩:=X7 (fun t li hl=>hp.sr.eg t li hl) hp.vr hi
 let xj:=fun t=>if t<(aef aA) then loc t else match P3[t-(aef aA)]? with
  |some li=>aet li
  |none=>loc t
 have ND: ∀(j:Nat) (li:LI),P3[j]? =aet li->xj (aef aA+j)=aet li:=by
  grind
 have p9:pR loc xj:=by
  intro t li hl;simp [xj];split
  · exact hl
  rename_i iz
  split
  · rename_i l2 PK
    have hj:=(aaF.1 PK).1;have:=hk.fresh (t-(aef aA)) (by rw [hn,<- h1.NO];exact hj);simp_all
  exact hl
 have hli: ∀(j:Nat) (k:om),news[j]? =aet k-> ∃li,P3[j]? =aet li:=by intro j k hj;have:=(aaF.1 hj).1;exact ⟨_,IR (by rw [h1.NO];exact this)⟩
 have hts: ∀(j:Nat) (k:om),news[j]? =aet k->k.bW=aez-> ∃t,ts[j]? =aet (aet t):=by
  intro j k hj hs;have iz:=(aaF.1 hj).1;cases hg:ts[j]? with
  |none=>have:=List.getElem?_eq_none_iff.1 hg;have:=h1.PC;omega
  |some x=>
   cases x with
   |some t=>simp
   |none=>rw [h1.dum j k hj hg] at hs;cases hs
 refine ⟨im,xj,by grind,?_⟩;exact {
  jt:= .refl _,eS:=p9
  bP:=fun b o h=>by
   have h1:=hk.bP b o h
   grind
  fa:=fun _ _ h=> .inl h
  os:=hp.os,tape:=hp.tape,output:=hp.output,size:=hp.size
  frame:=fun b hb _=>yX b hb
  Vx:=fun t k h=>by grind
  wr:=fun t k li h=>by grind
  oo:=fun t li h=>by
   simp [xj] at h;split at h
   · exact .inl h
   rename_i iz
   split at h
   · rename_i l2 PK
     have hj:=(aaF.1 PK).1;exact .inr ⟨by omega,by rw [hn,<- h1.NO];omega⟩
   exact .inl h
  news:=GM fun j k hj=>by
   rw [hn] at hj;obtain ⟨li,hl⟩:=hli j k hj;obtain ⟨⟨e,rows,rfl⟩,yf⟩:=h1.br j k li hj hl;refine ⟨li,ND j li hl,yf,fun hs=>?_⟩;obtain ⟨t,ht⟩:=hts j _ hj hs;obtain ⟨a1,a2,a3,_,_⟩:=h1.own j _ li t hj hl ht;have hge:w.heap.size<=li.eg:=by
    rcases hp.own t li _ a1 a2 hs with h|⟨u,lu,ku,h,_⟩
    · exact h
    cases h
   refine ⟨?_,.inl hge⟩;cases hb:im li.eg with
   |none=>rfl
   |some o=>have:=(abf.1 (hk.bP _ _ hb)).1;omega
  distinct:=fun i j ki kj li lj xk hj' hsi VN anr ans XD=>by rw [hn] at xk hj';obtain ⟨l1,Me⟩:=hli i ki xk;obtain ⟨l2,PK⟩:=hli j kj hj';have e1:=ND i l1 Me;have e2:=ND j l2 PK;rw [anr] at e1;rw [ans] at e2;injection e1 with e1;injection e2 with e2;subst e1 e2;obtain ⟨t1,ht1⟩:=hts i ki xk hsi;obtain ⟨t2,ht2⟩:=hts j kj hj' VN;obtain ⟨a1,a2,_⟩:=h1.own i ki li t1 xk Me ht1;obtain ⟨b1,b2,_⟩:=h1.own j kj lj t2 hj' PK ht2;have:=hp.sr.k7 t1 t2 li lj ki kj a1 b1 a2 b2 hsi VN XD;subst this;exact h1.inj i j t1 ht1 ht2}
theorem Cf (Jv:GV P rec) {own:Bool} {f:FuncId} {tK:List PV} {tk:List Nat} {r:tz} {us:List Value}
 (h:(match rec (.func f tK [] []) with
  |some (.func v s1 z1)=>
   if own then match Fh s1 z1 (aef aA) [] v with
    |some (v',n2,_)=>aet {v:=v',news:=n2,rd:=tk}
    |none=>aew
   else if v.ou then aet {v,rd:=tk}
   else match DW s1 v with
    |some v'=>aet {v:=v',rd:=tk,fr:=tk}
    |none=>aew
  |_=>aew)=aet r) (ha:fW (grow im w (Ex loc aA tk)) iI tK us) (hk:mb im loc aA w r):
 yZ P f ⟨us⟩ w fun u w'=> ∃fA bz,VR fA bz r.v u/\yc im loc aA w r fA bz w':=by
 cases hr:rec (.func f tK [] []) with
 |none=>grind
 |some o=>
  rw [hr] at h;cases o with
  |code e st=>cases h
  |func v s1 z1=>
   refine (Jv f tK [] [] v s1 z1 hr _ iI w us (SR.empty (Ue hk.bP)) ha).mono fun u w' hq=>?_
   grind [If,Ug,VM,X8]
theorem NS (Jv:GV P rec) (Ft:Df P F) {own:Bool} {f:FuncId} {args:List PV} {fz:List Nat} {r:tz} {us:List Value}
 (h:ez F rec own f args aA fz=aet r) (ha:fW im loc args us) (hk:mb im loc aA w r):
 yZ P f ⟨us⟩ w fun u w'=> ∃fA bz,VR fA bz r.v u/\yc im loc aA w r fA bz w':=by
 have ant: ∀(rd:List Nat),(∀b o,im b=aet o->w.heap[b]? =aet o)-> ∀b o,grow im w (Ex loc aA rd) b=aet o->w.heap[b]? =aet o:=fun rd h=>Ue h
 have R7: ∀(tK:List PV),GH aA (B0 aA deep) args=aet tK->(∀t,t∈eJ (fS aA deep) args-> ∀li,loc t=aet li-> ∃k,aA[t]? =aet k/\BR im loc w li k)->(∀b o,im b=aet o->w.heap[b]? =aet o)->
  fW (grow im w (Ex loc aA (eJ (fS aA deep) args))) iI tK us:=by
  intro tK hx anu Av;refine Cc (w:=w) (NM _ _ _) (fun t=>Uf (NM _ _ _) deep t) (fun t ht li hl=>?_) ha hx;obtain ⟨k,j8,yf⟩:=anu t ht li hl;exact ⟨k,j8,yf,fun hs=>abB Av (Ey.2 ⟨t,li,k,ht,hl,j8,hs,rfl⟩)⟩
 unfold ez at h;cases hx:GH aA (B0 aA deep) args with
 |none=>grind
 |some tK=>
  rw [hx] at h;cases hF:F f with
  |none=>rw [hF] at h;exact Cf Jv h (R7 tK hx (fun t ht=>hk.tok t (.inl (by grind))) hk.bP) hk
  |some en=>
   rw [hF] at h;cases en with
   |nN T2 p=>
    dsimp only at h;obtain ⟨rfl,hpo⟩:=Ft.1 f T2 p hF;cases hpa:p tK with
    |none=>grind
    |some q=>
     obtain ⟨v,news⟩:=q;rw [hpa] at h;dsimp only at h;cases hio:Fh news [] (aef aA) [] v with
     |none=>grind
     |some q2=>
      rw [hio] at h;simp [] at h;subst h;refine (hpo tK v news hpa _ w us (SR.empty (ant _ hk.bP)) (R7 tK hx (fun t ht=>hk.tok t (.inl ht)) hk.bP)).mono fun u w' hq=>?_
      grind [Ug]
   |code x=>exact Cf Jv h (R7 tK hx (fun t ht=>hk.tok t (.inl (by grind))) hk.bP) hk
   |Ly x=>exact Cf Jv h (R7 tK hx (fun t ht=>hk.tok t (.inl (by grind))) hk.bP) hk
end
end Go.Vm
/- A call that works on the blocks that its arguments lead to, numbered anew: what it does to the memory. -/
namespace Go.Vm
theorem ke {α:Type} {l:List α} {i:Nat} {x:α} (h:l[i]? =aet x):i<(aef l):=(aaF.1 h).1
theorem GW: ∀{l:List Nat} {t:Nat},t∈tL l↔t∈l
 | [],t=>by simp [tL]
 |a::r,t=>by
  rw [tL];split
  · rename_i h
    rw [GW];have:=uH.1 h
    grind
  simp [GW]
theorem yh: ∀{l:List Nat},(tL l).Nodup
 | []=>by simp [tL]
 |a::r=>by
  rw [tL];split
  · exact yh
  rename_i h
  rw [List.nodup_cons];exact ⟨fun hm=>h (uH.2 (GW.1 hm)),yh⟩
theorem JA: ∀{a b:cU},Ar a b=aez-> ∀(i:Nat) (x:om),a[i]? =aet x-> ∃y,b[i]? =aet y/\x.bW=y.bW
 | [],_,_,i,x,h=>by simp at h
 |c::r,d::q,hf,i,x,h=>by
  simp [Ar,] at hf;cases i with
  |zero=>
   grind
  |succ i=>simpa using JA hf.2 i x (by simpa using h)
 |_::_,[],hf,_,_,_=>by cases hf
theorem JB {g:Nat->Nat}: ∀{tk:List Nat} {s:cU} {t:Nat} {k:om},(t,k)∈tN g tk s↔ ∃(i:Nat) (b:om),tk[i]? =aet t/\s[i]? =aet b/\k=DX g b
 | [],s,t,k=>by simp [tN]
 |a::r,[],t,k=>by simp [tN]
 |a::r,b::s,t,k=>by
  simp only [tN,ae9,JB];constructor
  · rintro (⟨rfl,rfl⟩|⟨i,c,h1,h2,h3⟩)
    · exact ⟨0,b,rfl,rfl,rfl⟩
    exact ⟨i+1,c,by simpa using h1,by simpa using h2,h3⟩
  grind
theorem Mh {g:Nat->Nat}: ∀(s:cU) (i:Nat),(Fk g s)[i]? =(s[i]?).map (DX g)
 | [],i=>by simp [Fk]
 |b::r,0=>by simp [Fk]
 |b::r,i+1=>by simpa [Fk] using Mh r i
theorem Fu {g:Nat->Nat}: ∀(s:cU),(Fk g s).length=aef s
 | []=>rfl
 |b::r=>by simp [Fk,Fu r]
section
variable {P : Program} {F : p8} {rec : Task -> Option Out} {im : Im} {loc : Loc} {aA : cU} {w : World} {tk : List Nat} {g : Nat -> Nat} {l1 l2 : Loc}
mutual
theorem VR.DZ: ∀{x:PV} {v:Value},VR im l1 x v->(∀u,u∈lM zu x-> ∀li,l1 u=aet li->l2 (g u)=aet li)->VR im l2 (GI g x) v
 |_,_,.undef v,_=> .undef v
 |_,_,.na,_=> .na
 |_,_,.int k n,_=> .int k n
 |_,_,.bool b,_=> .bool b
 |_,_,.str s,_=> .str s
 |_,_,.agg cs vs h,hg=> .agg _ vs (fW.DZ h (fun u hu=>hg u (by simpa [lM] using hu)))
 |_,_,.cV cs vs h,hg=> .cV _ vs (fW.DZ h (fun u hu=>hg u (by simpa [lM] using hu)))
 |_,_,.sl aO vP rows a cap hc hk h,_=> .sl aO vP rows a cap hc hk h
 |_,_,.own t aO off len cap ex li a eh h1 h2 h3 h4 h5 h6 h7,hg=> .own _ aO off len cap ex li a eh (hg _ (by simp [lM]) _ h1) h2 h3 h4 h5 h6 h7
 |_,_,.ptr t aO row off li h1 h2 h3,hg=> .ptr _ aO row off li (hg _ (by simp [lM]) _ h1) h2 h3
 |_,_,.bR cs off b o vs h hv,hg=> .bR _ off b o vs (fW.DZ h (fun u hu=>hg u (by simpa [lM] using hu))) hv
 |_,_,.mp t li h,hg=> .mp _ li (hg _ (by simp [lM]) _ h)
 |_,_,.fx fn a b as bs ha hb,hg=> .fx fn _ _ as bs (fW.DZ ha (fun u hu=>hg u (by simp [lM,hu]))) (fW.DZ hb (fun u hu=>hg u (by simp [lM,hu])))
 |_,_,.eW,_=> .eW
theorem fW.DZ: ∀{x:List PV} {v:List Value},fW im l1 x v->(∀u,u∈eJ zu x-> ∀li,l1 u=aet li->l2 (g u)=aet li)->fW im l2 (BA g x) v
 |_,_,.nil,_=> .nil
 |_,_,.cons x v xs vs h hs,hg=> .cons _ v _ vs (VR.DZ h (fun u hu=>hg u (by simp [eJ,hu]))) (fW.DZ hs (fun u hu=>hg u (by simp [eJ,hu])))
end
theorem VR.GI {x:PV} {v:Value} (hg: ∀u,u∈lM zu x-> ∀li,l1 u=aet li->l2 (g u)=aet li) (h:VR im l1 x v):VR im l2 (Vm.GI g x) v:=h.DZ hg
theorem fW.GI {x:List PV} {v:List Value} (hg: ∀u,u∈eJ zu x-> ∀li,l1 u=aet li->l2 (g u)=aet li) (h:fW im l1 x v):fW im l2 (BA g x) v:=h.DZ hg
theorem Fv: ∀(x:List PV),(BA g x).length=aef x
 | []=>rfl
 |x::xs=>by simp [BA,Fv xs]
theorem BR.GI {li:LI} {k:om} (hg: ∀u,u∈wm k-> ∀li,l1 u=aet li->l2 (g u)=aet li) (h:BR im l1 w li k):BR im l2 w li (DX g k):=by
 cases k with
 |arr e rows=>exact h
 |box cs=>obtain ⟨a1,a2,a3,vs,el,a4,a5,a6⟩:=h;exact ⟨by rw [Fv];exact a1,a2,a3,vs,el,a4,a5,a6.GI hg⟩
 |map es=>exact h
 |dead=>trivial
theorem Cg (k:om):(DX g k).bW=k.bW:=by cases k<;>rfl
theorem Sb (Jv:GV P rec) {f:FuncId} {args:List PV} {fz:List Nat} {r:tz} {us:List Value}
 (h:yT rec f args aA fz=aet r) (ha:fW im loc args us) (hk:mb im loc aA w r):
 yZ P f ⟨us⟩ w fun u w'=> ∃fA bz,VR fA bz r.v u/\yc im loc aA w r fA bz w':=by
 unfold yT at h;have LH:(tL (eJ (fS aA deep) args)).Nodup:=yh;generalize LG:tL (eJ (fS aA deep) args)=tk at h LH;split at h
 · cases h
 rename_i a s0 JC;unfold abp at JC;split at JC
 case isFalse=>cases JC
 rename_i anv;simp only [aco,abG] at anv;split at JC
 case h_2=>cases JC
 rename_i a' s0' hra hrs;simp only [If,abd] at JC;obtain ⟨rfl,rfl⟩:=JC;split at h
 case h_2=>cases h
 rename_i v s hr;unfold Ji at h;split at h
 case isFalse=>cases h
 rename_i X9;injection h with h;obtain ⟨RS,LJ⟩:=GJ hrs;have hf0:=JA X9;have p9:(aef tk)<=(aef s):=by
  rcases ad9 (aef tk) with h0|h0
  · omega
  obtain ⟨y,hy,_⟩:=hf0 (aef tk-1) (s0'[aef tk-1]'(by omega)) (IR _)
  grind
 let X':Loc:=fun u=>match tk[u]? with|some t=>loc t|none=>aew
 have LK:Ren tk loc X':=fun u t hu=>by grind
 have hC: ∀u li,X' u=aet li-> ∃t,tk[u]? =aet t/\loc t=aet li:=by
  grind
 have Ya: ∀t k,(t,k)∈r.wr↔ ∃(i:Nat) (b:om),tk[i]? =aet t/\s[i]? =aet b/\k=DX (nA tk (aef aA)) b:=fun t k=>by rw [<- h];exact JB
 have afc: ∀u t,tk[u]? =aet t->(t∈r.rd\/ ∃b,(t,b)∈r.wr):=fun u t ht=>by have:=ke ht;exact .inr ⟨_,(Ya t _).2 ⟨u,_,ht,IR (by omega),rfl⟩⟩
 have yY: ∀(u t:Nat) (k:om),tk[u]? =aet t->s0'[u]? =aet k-> ∃k0:om,aA[t]? =aet k0/\k.bW=k0.bW:=fun u t k ht hs=>by
  grind [Fm]
 have hSR:SR im X' s0' [] w:={
  bP:=hk.bP
  eg:=fun u li hl=>by
   obtain ⟨t,h1,h2⟩:=hC u li hl;obtain ⟨k,j8,yf⟩:=hk.tok t (afc u t h1) li h2
   grind [Mc]
  k7:=fun t u li lj k k' hl qC hs BP IX anx hb=>by
   obtain ⟨a1,h1,h2⟩:=hC t li hl;obtain ⟨a2,h3,h4⟩:=hC u lj qC;obtain ⟨k0,g1,g2⟩:=yY t a1 k h1 hs;obtain ⟨k0',g1',g2'⟩:=yY u a2 k' h3 BP;have:=hk.k7 a1 a2 li lj k0 k0' (afc t a1 h1) (afc u a2 h3) h2 h4 g1 g1' (by rw [<- g2];exact IX) (by rw [<- g2'];exact anx) hb;subst this;have pw:=List.pairwise_iff_getElem.1 LH
   grind
  free:=fun t li k hl hs IX _=>by obtain ⟨a1,h1,h2⟩:=hC t li hl;obtain ⟨k0,g1,g2⟩:=yY t a1 k h1 hs;have iz:=ke h1;exact hk.free a1 _ ((Ya a1 _).2 ⟨t,_,h1,IR (by omega),rfl⟩) li k0 h2 g1 (by grind)}
 refine (Jv f a' s0' [] v s [] hr im X' w us hSR (yb LK ha hra)).mono fun u w' ⟨fA,P4,hf⟩=>?_
 let bz:=fun t=>match loc t with
  |some li=>aet li
  |none=>if (aef aA)<=t/\t-(aef aA)<(aef r.news) then P4 (t-(aef aA)+aef tk) else aew
 have aiG:pR loc bz:=fun t li hl=>by grind
 have NF:(j9 (aef tk) v s=aez/\r.news=[])\/(j9 (aef tk) v s=aeG/\r.news=Fk (nA tk (aef aA)) (s.drop (aef tk))):=by
  rw [<- h];cases VI:j9 (aef tk) v s with
  |true=>exact .inl ⟨rfl,by simp⟩
  |false=>exact .inr ⟨rfl,by simp⟩
 have aiH:j9 (aef tk) v s=aeG->aef r.news=aef s-(aef tk):=fun h1=>by
  rcases NF with ⟨h2,_⟩|⟨_,h2⟩
  · rw [h1] at h2;cases h2
  rw [h2];simp [Fu]
 have anz: ∀u li,P4 u=aet li->u<(aef s):=fun u li hl=>let ⟨k,j8,_⟩:=hf.sr.eg u li hl;ke j8
 have Yb: ∀j li,bz (aef aA+j)=aet li->j<aef r.news->P4 (aef tk+j)=aet li:=fun j li hl hj=>by simp only [bz,hk.fresh j hj] at hl;rw [AC ⟨by omega,by omega⟩] at hl;rw [show (aef aA)+j-(aef aA)+aef tk=aef tk+j by omega] at hl;exact hl
 have hg: ∀u,(u<aef tk\/j9 (aef tk) v s=aeG)-> ∀li,P4 u=aet li->bz (nA tk (aef aA) u)=aet li:=by
  intro u hu0 li hl;unfold nA;split
  · rename_i t ht
    rcases hf.rR u li hl with h1|h1
    · obtain ⟨t',h2,h3⟩:=hC u li h1
      rw [ht] at h2;injection h2 with h2;subst h2;exact aiG _ _ h3
    have:=ke ht;omega
  rename_i hn
  have hu:(aef tk)<=u:=by simpa using hn
  rcases hu0 with hu0|hu0
  · omega
  have iz:=anz u li hl;have NF:=aiH hu0;simp (disch:=omega) only [bz,hk.fresh];rw [AC ⟨by omega,by omega⟩,show (aef aA)+(u-(aef tk)) -(aef aA)+aef tk=u by omega];exact hl
 have VI: ∀u,j9 (aef tk) v s=aez->(u∈lM zu v\/ ∃i b,i<aef tk/\s[i]? =aet b/\u∈wm b)->u<(aef tk):=fun u h1 h2=>by
  unfold j9 at h1;have h3:=aco.1 h1 u (by
   rcases h2 with h2|⟨i,b,g1,g2,g3⟩
   · simp [h2]
   refine abo.2 (.inr (adU.2 ⟨b,?_,g3⟩))
   exact abw (i:=i) (by rw [List.getElem?_take];simp [g1,g2]))
  simpa using h3
 have hgv: ∀u,u∈lM zu v-> ∀li,P4 u=aet li->bz (nA tk (aef aA) u)=aet li:=fun u hu=>hg u (by
  cases hq:j9 (aef tk) v s with
  |true=>exact .inl (VI u hq (.inl hu))
  |false=>exact .inr rfl)
 have hgb: ∀i b,i<aef tk->s[i]? =aet b-> ∀u,u∈wm b-> ∀li,P4 u=aet li->bz (nA tk (aef aA) u)=aet li:=fun i b hi hb u hu=>hg u (by
  cases hq:j9 (aef tk) v s with
  |true=>exact .inl (VI u hq (.inr ⟨i,b,hi,hb,hu⟩))
  |false=>exact .inr rfl)
 have hMC: ∀u t li,tk[u]? =aet t->loc t=aet li->P4 u=aet li:=fun u t li ht hl=>hf.eS u li (by simp only [X',ht];exact hl)
 refine ⟨fA,bz,by rw [<- h];exact hf.vr.GI hgv,?_⟩;have Yc: ∀(j:Nat) (k:om),r.news[j]? =aet k-> ∃b,s[aef tk+j]? =aet b/\k=DX (nA tk (aef aA)) b:=fun j k hj=>by
  rcases NF with ⟨_,h0⟩|⟨_,h0⟩
  · rw [h0] at hj;simp at hj
  rw [h0] at hj;simp only [Mh,ad8,EQ] at hj;obtain ⟨b,h1,h2⟩:=hj;exact ⟨b,h1,h2.symm⟩
 have abF: ∀t li,P4 t=aet li->aef tk<=t-> ∀k,s[t]? =aet k->k.bW=aez->w.heap.size<=li.eg:=by
  intro t li hl ht k hs IX;rcases hf.own t li k hl hs IX with h1|⟨u,lu,ku,h1,h2,h3,h4⟩
  · exact h1
  exfalso
  obtain ⟨a1,g1,g2⟩:=hC u lu h1;obtain ⟨y,y1,y2⟩:=hf0 u ku h2;have:=hf.sr.k7 u t lu li y k (hMC u a1 lu g1 g2) hl y1 hs (by rw [<- y2];exact h3) IX h4;subst this;have:=ke g1;omega
 exact {
  jt:=hf.jt,eS:=aiG
  bP:=hf.sr.bP
  fa:=fun b o hb=>by
   rcases hf.fa b o hb with h1|h1|⟨t,li,k,h1,h2,h3,h4⟩
   · exact .inl h1
   · exact .inr (.inl h1)
   exfalso
   obtain ⟨a1,g1,g2⟩:=hC t li h1;obtain ⟨y,y1,y2⟩:=hf0 t k h2;have:=hf.sr.free t li y (hMC t a1 li g1 g2) y1 (by rw [<- y2];exact h3) rfl;rw [h4,hb] at this;cases this
  os:=hf.os,tape:=hf.tape,output:=hf.output,size:=hf.size
  frame:=fun b hb hh=>hf.frame b hb fun t li k hl hs IX=>by obtain ⟨a1,g1,g2⟩:=hC t li hl;obtain ⟨k0,e1,e2⟩:=yY t a1 k g1 hs;have iz:=ke g1;exact hh a1 _ li k0 ((Ya a1 _).2 ⟨t,_,g1,IR (by omega),rfl⟩) g2 e1 (by rw [<- e2];exact IX)
  Vx:=fun t k hm IX=>by obtain ⟨i,b,g1,g2,rfl⟩:=(Ya t k).1 hm;rw [Cg] at IX;have iz:=ke g1;have e:=IR (l:=s0') (i:=i) (by omega);obtain ⟨y,y1,y2⟩:=hf0 i _ e;rw [g2] at y1;injection y1 with y1;subst y1;obtain ⟨k0,e1,e2⟩:=yY i t _ g1 e;exact ⟨k0,e1,by rw [<- e2,y2];exact IX⟩
  wr:=fun t k li hm hl=>by obtain ⟨i,b,g1,g2,rfl⟩:=(Ya t k).1 hm;obtain ⟨k',j8,yf⟩:=hf.sr.eg i li (hMC i t li g1 hl);rw [g2] at j8;injection j8 with j8;subst j8;exact yf.GI (hgb i b (ke g1) g2)
  oo:=fun t li hl=>by
   simp only [bz] at hl;cases RS:loc t with
   |some lj=>rw [RS] at hl;exact .inl hl
   |none=>
    rw [RS] at hl;dsimp only at hl;split at hl
    · rename_i hn
      exact .inr ⟨hn.1,by omega⟩
    cases hl
  news:=fun j k li hj hl=>by
   have R5:j<(aef r.news):=ke hj;obtain ⟨b,hb,rfl⟩:=Yc j k hj;have RS:=Yb j li hl R5;obtain ⟨k',j8,yf⟩:=hf.sr.eg _ li RS;rw [hb] at j8;injection j8 with j8;subst j8;have hq:j9 (aef tk) v s=aeG:=by
    rcases NF with ⟨_,h0⟩|⟨h0,_⟩
    · rw [h0] at R5;simp at R5
    exact h0
   refine ⟨yf.GI (fun u _=>hg u (.inr hq)),fun IX=>?_⟩;rw [Cg] at IX;exact ⟨hf.sr.free _ li b RS hb IX rfl,.inl (abF _ li RS (by omega) b hb IX)⟩
  distinct:=fun i j ki kj li lj hi hj hsi VN hli hlj hb=>by obtain ⟨b1,e1,rfl⟩:=Yc i ki hi;obtain ⟨b2,e2,rfl⟩:=Yc j kj hj;rw [Cg] at hsi VN;have h1:=Yb i li hli (ke hi);have h2:=Yb j lj hlj (ke hj);have:=hf.sr.k7 _ _ li lj b1 b2 h1 h2 e1 e2 hsi VN hb;omega}
end
end Go.Vm
