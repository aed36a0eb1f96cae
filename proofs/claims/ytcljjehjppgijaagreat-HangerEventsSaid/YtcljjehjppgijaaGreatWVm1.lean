/- The logical machine, part 1: VmDef, VmWp, VmChk, VmRel, VmRen, VmOps1, VmEff, VmOps2, VmOps3, VmOps4, VmOps5, VmOps6, VmOps7, VmOps8, VmOps9, VmEq, VmMap, VmOpsA, VmCall, VmCall2. -/
import GoSem.Dispatch
import Derived.Laws.StructEq
import Derived.Calls
import Derived.Below
import Derived.Laws.CopyRow
import Derived.Deep.AppendSrc
import Derived.Deep.Upon
import Derived.WideKeyRuns
open Bool renaming and_eq_true->lw,false_eq_true->aa4,not_eq_true'->aaH,or_eq_true->ah2,true_and->ahI,and_true->ahK,true->ahV,false->ahW
open Option.some renaming injEq->pp
open Go.Result renaming andThen_ok->ut
open Option renaming map_eq_some_iff->v6,getD_some->aak,isSome_iff_exists->abc,getD_none->ac0,isSome_some->ahu,map_some->ahB,any_some->ahE,some->ahQ,none->ahR
open Go.Sem renaming run_bind->ww,run_pure->AC
open Nat renaming le_refl->Do,beq->EQ,add_mul->PP,mul_le_mul_right->UV,lt_or_ge->aa2,ble->aa5,beq_eq->ab8,ble_eq->abn,add_assoc->abD,blt->abR,le_max_right->acF,zero_add->agd,le_max_left->agN,eq_zero_or_pos->ahv,min_eq_left->ahC,mul_eq_zero->ahD,mul_le_mul->ahF,add_zero->ahM,zero_mul->ahN
open Array renaming getElem?_eq_some_iff->If,getElem?_setIfInBounds->aa8,ext'->ab2,length_toList->abe,map->abO,range->acr,toList_map->ag0,getElem?_eq_none->ag7,getElem?_push->ah7
open List renaming getElem?_eq_none->IR,getElem?_eq_getElem->NE,getElem?_append_right->aa1,getElem?_append_left->aa3,mem_singleton->aa9,getElem?_eq_some_iff->aaI,replicate->ab7,getElem?_toArray->ab9,mem_append->aba,flatMap_cons->abb,length_cons->abg,length_append->abi,size_toArray->abm,getElem?_take_of_lt->abB,mem_cons->abF,foldl_cons->abK,drop_eq_nil_of_le->abU,mem_of_getElem?->ac2,mem_iff_getElem->ac7,mem_cons_of_mem->ace,getElem?_drop->ack,extract_eq_take_drop->acl,ext_getElem?->acp,flatMap_nil->acI,getElem?_cons_zero->acJ,length_take->adc,length_eq_zero_iff->ag2,getElem?_set_self->ag8,take_of_length_le->agJ,length_nil->agY,take_append_drop->ah5,getElem?_set_ne->ah6,flatMap_append->aha,mem_replicate->ahw,append_assoc->ahx,isEmpty_iff->ahy,foldlM_cons->ahz,all_eq_true->ahA,drop_drop->ahG,mapM_cons->ahH,map_cons->ahJ,getD->ahL,length->ahO,length->ahP
open Prod.mk renaming injEq->abd
open Int renaming toNat_natCast->acy
open Decidable renaming decide->ahX
/- Definitions of a logical machine over pure values: what it computes is tied to the model's runs in VmSound. -/
namespace Go.Vm
universe u
theorem kw{α:Sort u}{a b:α}:cond ahV a b=a:=rfl
theorem lc{α:Sort u}{a b:α}:cond ahW a b=b:=rfl
theorem lm{c:Prop}{h:Decidable c}(p:c){α:Sort u}{t e:α}:ite c t e=t:=if_pos p
theorem ls{c:Prop}{h:Decidable c}(p:¬c){α:Sort u}{t e:α}:ite c t e=e:=if_neg p
inductive PV where
 |undef
 |js
 |int (k:IntKind) (n:Int)
 |bool (b:Bool)
 |str (s:ByteArray)
 |agg (cs:List PV)
 |bN (cs:List PV)
 |sl (esz:Nat) (qF:Bool) (rows:List (List PV))
 |own (t esz off len cap:Nat) (ex:Bool)
 |ptr (t esz row off:Nat)
 |bw (cells:List PV) (off:Nat)
 |mp (t:Nat)
 |eA (fn:FuncId) (fst cap:List PV)
 |dC
instance:Inhabited PV:=⟨.undef⟩
abbrev Row:=List PV
inductive jQ where
 |arr (esz:Nat) (rows:List Row)
 |box (cells:List PV)
 |map (es:List (PV×PV))
 |dead
abbrev bS:=List jQ
abbrev Env:=List (Nat×PV)
inductive fc where
 |t (n:Nat)
 |c (v:PV)
inductive CM where
 |Ur|own|shr|fp
inductive kO where
 |QS (x:fc)
 |pick (c a b:fc)
 |bin (op:BinOp) (x y:fc)
 |Jt (neg:Bool) (x y:fc)
 |eqc (n:Nat) (neg:Bool) (x y:fc)
 |un (op:UnOp) (x:fc)
 |conv (k:IntKind) (x:fc)
 |len (x:fc)
 |LQ (n:Nat)
 |box (x:fc)
 |alloc (cells:List PV)
 |build (zero:List PV) (parts:List (Nat×Nat×fc))
 |AW (esz n:Nat) (zero:Row) (parts:List (Nat×fc))
 |C' (x y:fc)
 |load (agg:Option Nat) (p:fc)
 |store (sz:Nat) (p v:fc)
 |Ju (x:fc)
 |Jv (off:Nat) (p:fc)
 |lq (agg:Option Nat) (off:Nat) (x:fc)
 |Jw (esz:Nat) (x i:fc)
 |Da (n esz:Nat) (p i:fc)
 |idx (n esz:Nat) (agg:Option Nat) (x i:fc)
 |Jx (x i:fc)
 |O5 (esz:Nat) (x:fc) (lo hi mx:Option fc)
 |mks (esz:Nat) (zero:Row) (len cap:fc)
 |mkf (fn:FuncId) (fst cap:List fc)
 |mkm (z:Option PV)
 |lookup (n:Option Nat) (zero:PV) (ok:Bool) (m k:fc)
 |HZ (n:Option Nat) (m k v:fc)
 |ext (i:Nat) (x:fc)
 |append (esz:Nat) (x y:fc)
 |copy (esz:Nat) (x y:fc)
 |clear (esz:Nat) (zero:Row) (x:fc)
 |mm (isMax:Bool) (x:fc) (xs:List fc)
 |call (m:CM) (f:FuncId) (args:List fc)
 |w9 (x:fc) (args:List fc)
 |bad
structure bG where
 dst:Option Nat
 op:kO
 guard:Option (Nat×Bool)
inductive jl where
 |skip
 |region (draw:Option (List Nat)) (ops:List bG) (fH:List Nat)
 |seq (a b:jl)
 |cond (c:fc) (a b:jl)
 |block (id:Nat) (b:jl)
 |loop (live:List (Nat×Option Nat)) (b:jl)
 |exit (id:Nat)
 |ret
inductive RV where
 |tmp (t:Nat)
 |cell (t:Nat) (agg:Option Nat)
structure aK where
 Db:Nat
 code:jl
 res:List RV
inductive Us where
 |code (x:aK)
 |ja (NA:Bool) (f:List PV->Option (PV×bS))
 |O6 (f:List PV->bS->List Nat->Option (PV×bS×List Nat))
abbrev kQ:=FuncId->Option Us
structure St where
 env:Env
 aA:bS
 fz:List Nat
 kn:Nat
inductive gS where
 |normal
 |exit (id:Nat)
 |ret
def lk (t:Nat):Env->PV
 | []=> .undef
 |(s,v)::r=>if EQ s t then v else lk t r
def fc.ev (e:Env):fc->PV
 | .t n=>lk n e
 | .c v=>v
def PV.p7:PV->Bool
 | .undef| .js| .agg _| .bN _=>ahW
 |_=>ahV
def PV.plain:PV->Bool
 | .int _ _| .bool _| .str _=>ahV
 |_=>ahW
def PV.cells:PV->List PV
 | .agg cs=>cs
 |v=>[v]
def PV.stored (v:PV):Option (List PV):=if v.cells.all PV.p7 then ahQ v.cells else ahR
def PV.bW (v:PV):Option (List PV):=if v.cells.all PV.plain then ahQ v.cells else ahR
def part (agg:Option Nat) (off:Nat) (cs:List PV):Option PV:=
 match agg with
 |some s=>if off+s<=(ahP cs) then ahQ (.agg ((cs.drop off).take s)) else ahR
 |none=>cs[off]?
def nK (off:Nat) (new old:List PV):List PV:=old.take off++new++old.drop (off+ahP new)
def ai (k:IntKind) (n:Int):Int:=
 match k,n with
 | .i64,.ofNat m=>if abR m 9223372036854775808 then .ofNat m else IntKind.wrap .i64 n
 | .i64,.negSucc m=>if abR m 9223372036854775808 then .negSucc m else IntKind.wrap .i64 n
 | .u64,.ofNat m=> .ofNat (Nat.mod m 18446744073709551616)
 |k,n=>IntKind.wrap k n
def arith (op:BinOp) (k:IntKind) (a b:Int):Option PV:=
 match op with
 | .add=>ahQ (.int k (ai k (a+b)))
 | .sub=>ahQ (.int k (ai k (a-b)))
 | .mul=>ahQ (.int k (ai k (a*b)))
 | .quo=>if b=0 then ahR else ahQ (.int k (ai k (a.tdiv b)))
 | .rem=>if b=0 then ahR else ahQ (.int k (a.tmod b))
 | .and=>ahQ (.int k (k.wrap (BitVec.ofInt k.bits a&&&BitVec.ofInt k.bits b).toNat))
 | .or=>ahQ (.int k (k.wrap (BitVec.ofInt k.bits a|||BitVec.ofInt k.bits b).toNat))
 | .xor=>ahQ (.int k (k.wrap (BitVec.ofInt k.bits a^^^BitVec.ofInt k.bits b).toNat))
 | .andNot=>ahQ (.int k (k.wrap (BitVec.ofInt k.bits a&&& ~~~ BitVec.ofInt k.bits b).toNat))
 | .eql=>ahQ (.bool (a==b))
 | .neq=>ahQ (.bool (a !=b))
 | .lss=>ahQ (.bool (ahX (a<b)))
 | .leq=>ahQ (.bool (ahX (a<=b)))
 | .gtr=>ahQ (.bool (ahX (a>b)))
 | .geq=>ahQ (.bool (ahX (a>=b)))
 | .shl| .shr=>ahR
def Ca (op:BinOp) (k:IntKind) (a b:Int):Option PV:=
 if b<0 then ahR else
 let n:=min b.toNat k.bits
 match op with
 | .shl=>ahQ (.int k (k.wrap (a*2^n)))
 | .shr=>ahQ (.int k (a.fdiv (2^n)))
 |_=>ahR
def eX:IntKind->IntKind->Bool
 | .i8,.i8| .i16,.i16| .i32,.i32| .i64,.i64| .u8,.u8| .u16,.u16| .u32,.u32| .u64,.u64=>ahV
 |_,_=>ahW
def O7 (op:BinOp) (x y:PV):Option PV:=
 match x,y with
 | .int k a,.int l b=>
  match op with
  | .shl=>Ca .shl k a b
  | .shr=>Ca .shr k a b
  |op=>if eX k l then arith op k a b else ahR
 |_,_=>ahR
def qG:PV->PV->Option Bool
 | .int k a,.int l b=>if eX k l then ahQ (a==b) else ahR
 |_,_=>ahR
def cX:List PV->List PV->Option Bool
 | [],[]=>ahQ ahV
 |x::xs,y::ys=>
  match qG x y with
  |some ahV=>cX xs ys
  |some ahW=>ahQ ahW
  |none=>ahR
 |_,_=>ahR
def unE (op:UnOp) (x:PV):Option PV:=
 match op,x with
 | .neg,.int k n=>ahQ (.int k (ai k (0-n)))
 | .not,.bool b=>ahQ (.bool !b)
 |_,_=>ahR
def rowsOf (aA:bS) (esz:Nat):PV->Option (List Row)
 | .sl e _ rows=>match rows with
  | []=>ahQ []
  |_=>if EQ e esz then ahQ rows else ahR
 | .own t e off len _ _=>if EQ e esz then (match aA[t]? with
  |some (.arr _ rows)=>ahQ ((rows.drop off).take len)
  |_=>ahR) else ahR
 |_=>ahR
def iP:PV->List Nat
 | .own t _ _ _ _ _=>[t]
 |_=>[]
structure nL where
 v:PV
 news:bS:=[]
 wr:List (Nat×jQ):=[]
 rd:List Nat:=[]
 fr:List Nat:=[]
def nh:List (Nat×Nat×PV)->List PV->Option (List PV)
 | [],cs=>ahQ cs
 |(off,sz,v)::r,cs=>
  match v.stored with
  |some w=>if EQ (ahP w) sz&&aa5 (off+sz) (ahP cs) then nh r (nK off w cs) else ahR
  |none=>ahR
def p8:List (Nat×PV)->List Row->Nat->Option (List Row)
 | [],rows,_=>ahQ rows
 |(i,v)::r,rows,esz=>
  match v.bW with
  |some w=>if EQ (ahP w) esz&&abR i (ahP rows) then p8 r (rows.set i w) esz else ahR
  |none=>ahR
def jm:PV->Option Nat
 | .int _ n=>match n with
  | .ofNat m=>ahQ m
  | .negSucc _=>ahR
 |_=>ahR
def jA (n:Option Nat) (k:PV):Bool:=
 match n,k with
 |none,.int _ _=>ahV
 |some n,.agg cs=>EQ (ahP cs) n
 |_,_=>ahW
def eV (n:Option Nat) (k:PV):List (PV×PV)->Nat->Option (Option Nat)
 | [],_=>ahQ ahR
 |(a,_)::r,i=>
  if jA n a then
   match cX k.cells a.cells with
   |some ahV=>ahQ (ahQ i)
   |some ahW=>eV n k r (i+1)
   |none=>ahR
  else ahR
def lT:Nat:=1048576
def oH (aA:bS) (agg:Option Nat):PV->Option nL
 | .ptr t _ row off=>match aA[t]? with
  |some (.arr _ rows)=>match rows[row]? with
   |some cs=>(part agg off cs).map fun v=>{v,rd:=[t]}
   |none=>ahR
  |some (.box cs)=>if EQ row 0 then (part agg off cs).map fun v=>{v,rd:=[t]} else ahR
  |_=>ahR
 | .bw cs off=>(part agg off cs).map fun v=>{v}
 |_=>ahR
def has (l:List Nat) (t:Nat):Bool:=l.any (EQ t)
def rU (aA:bS) (fz:List Nat) (sz:Nat) (v:PV):PV->Option nL
 | .ptr t _ row off=>match aA[t]? with
  |some (.arr e rows)=>match rows[row]?,v.bW with
   |some cs,ahQ w=>if EQ (ahP w) sz&&aa5 (off+sz) (ahP cs)&&!has fz t then
    ahQ {v:= .undef,wr:=[(t,.arr e (rows.set row (nK off w cs)))]} else ahR
   |_,_=>ahR
  |some (.box cs)=>match v.stored with
   |some w=>if EQ row 0&&EQ (ahP w) sz&&aa5 (off+sz) (ahP cs)&&!has fz t then
    ahQ {v:= .undef,wr:=[(t,.box (nK off w cs))]} else ahR
   |none=>ahR
  |_=>ahR
 |_=>ahR
def uH (esz:Nat):PV->Bool
 | .sl e _ rows=>EQ e esz||rows.isEmpty
 | .own _ e _ _ _ _=>EQ e esz
 |_=>ahW
def qH (x:PV) (lo hi mx:Option Nat):Option PV:=
 match x with
 | .sl e qF rows=>
  let l:=lo.getD 0
  let h:=hi.getD (ahP rows)
  match mx with
  |none=>if aa5 l h&&aa5 h (ahP rows) then ahQ (.sl e (qF&&EQ h (ahP rows)) ((rows.drop l).take (h-l))) else ahR
  |some m=>if aa5 l h&&aa5 h m&&aa5 m (ahP rows) then ahQ (.sl e (EQ h m) ((rows.drop l).take (h-l))) else ahR
 | .own t e off len cap ex=>
  let l:=lo.getD 0
  let h:=hi.getD len
  match mx with
  |none=>if aa5 l h&&aa5 h cap then ahQ (.own t e (off+l) (h-l) (cap-l) ex) else ahR
  |some m=>if aa5 l h&&aa5 h m&&aa5 m cap then ahQ (.own t e (off+l) (h-l) (m-l) ahV) else ahR
 |_=>ahR
def kV:Nat->List Row->List Row->List Row
 |_,[],rows=>rows
 |i,w::r,rows=>kV (i+1) r (rows.set i w)
def iQ (aA:bS) (fz:List Nat) (esz:Nat) (x y:PV):Option nL:=
 match rowsOf aA esz y with
 |none=>ahR
 |some new=>
  match new with
  | []=>match x with
   | .sl _ qF rows=>if qF&&rows.isEmpty then ahQ {v:= .own (ahP aA) esz 0 0 0 ahW,news:=[.arr esz []],rd:=iP y} else ahQ {v:=x,rd:=iP y}
   | .own t _ _ len cap ex=>if EQ len 0&&EQ cap 0&&ex then ahQ {v:= .own (ahP aA) esz 0 0 0 ahW,news:=[.arr esz []],rd:=t::iP y} else ahQ {v:=x,rd:=iP y}
   |_=>ahR
  |_=>
   let m:=ahP new
   match x with
   | .sl e qF rows=>
    if qF&&(EQ e esz||EQ (ahP rows) 0)&&aa5 (ahP rows+m) lT then
     ahQ {v:= .own (ahP aA) esz 0 (ahP rows+m) (ahP rows+m) ahW,news:=[.arr esz (rows++new)],rd:=iP y}
    else ahR
   | .own t e off len cap ex=>
    match aA[t]? with
    |some (.arr _ rows)=>
     if !Nat.beq e esz then ahR
     else if aa5 (len+m) cap then
      if has fz t then ahR else ahQ {v:= .own t e off (len+m) cap ex,wr:=[(t,.arr e (kV (off+len) new rows))],rd:=iP y}
     else if !Nat.ble (len+m) lT then ahR
     else if ex then
      ahQ {v:= .own (ahP aA) e 0 (len+m) (len+m) ahW,news:=[.arr e ((rows.drop off).take len++new)],rd:=t::iP y}
     else if has fz t then ahR
     else ahQ {v:= .own (ahP aA) e 0 (len+m) (len+m) ahW,news:=[.arr e ((rows.drop off).take len++new)],wr:=[(t,.dead)],rd:=iP y}
    |_=>ahR
   |_=>ahR
def mmE (isMax:Bool) (k:IntKind):Int->List PV->Option PV
 |a,[]=>ahQ (.int k a)
 |a,x::r=>match x with
  | .int l b=>if eX k l then mmE isMax k (if isMax then (if b>a then b else a) else (if b<a then b else a)) r else ahR
  |_=>ahR
def Ek (e:Env) (l:List fc):List PV:=l.map (fc.ev e)
def s4 (aA:bS) (n:Option Nat) (zero:PV) (ok:Bool) (m k:PV):Option nL:=
 match m with
 | .mp t=>match aA[t]? with
  |some (.map es)=>if jA n k then (match eV n k es 0 with
   |some (ahQ i)=>match es[i]? with
    |some p=>ahQ {v:=if ok then .bN [p.2,.bool ahV] else p.2,rd:=[t]}
    |none=>ahR
   |some ahR=>ahQ {v:=if ok then .bN [zero,.bool ahW] else zero,rd:=[t]}
   |none=>ahR) else ahR
  |_=>ahR
 |_=>ahR
def Dc (aA:bS) (fz:List Nat) (n:Option Nat) (m k v:PV):Option nL:=
 match m with
 | .mp t=>match aA[t]? with
  |some (.map es)=>if jA n k&&!has fz t then (match k.bW,v.bW with
   |some _,ahQ _=>match eV n k es 0 with
    |some (ahQ i)=>ahQ {v:= .undef,wr:=[(t,.map (es.set i (k,v)))]}
    |some ahR=>ahQ {v:= .undef,wr:=[(t,.map (es++[(k,v)]))]}
    |none=>ahR
   |_,_=>ahR) else ahR
  |_=>ahR
 |_=>ahR
def bq (e:Env) (aA:bS) (fz:List Nat):kO->Option nL
 | .QS x=>ahQ {v:=x.ev e}
 | .pick c a b=>match c.ev e with
  | .bool ahV=>ahQ {v:=a.ev e}
  | .bool ahW=>ahQ {v:=b.ev e}
  |_=>ahR
 | .bin op x y=>(O7 op (x.ev e) (y.ev e)).map fun v=>{v}
 | .Jt neg x y=>match x.ev e,y.ev e with
  | .bool a,.bool b=>ahQ {v:= .bool (if neg then !(a==b) else a==b)}
  |_,_=>ahR
 | .eqc n neg x y=>match x.ev e,y.ev e with
  | .agg xs,.agg ys=>if EQ (ahP xs) n&&EQ (ahP ys) n then (cX xs ys).map fun b=>{v:= .bool (if neg then !b else b)} else ahR
  |_,_=>ahR
 | .un op x=>(unE op (x.ev e)).map fun v=>{v}
 | .conv k x=>match x.ev e with
  | .int _ n=>ahQ {v:= .int k (ai k n)}
  |_=>ahR
 | .len x=>match x.ev e with
  | .sl _ _ rows=>ahQ {v:= .int .i64 (.ofNat (ahP rows))}
  | .own _ _ _ len _ _=>ahQ {v:= .int .i64 (.ofNat len)}
  |_=>ahR
 | .LQ n=>ahQ {v:= .int .i64 (.ofNat n)}
 | .box x=>match (x.ev e).stored with
  |some cs=>ahQ {v:= .ptr (ahP aA) (ahP cs) 0 0,news:=[.box cs]}
  |none=>ahR
 | .alloc cells=>ahQ {v:= .ptr (ahP aA) (ahP cells) 0 0,news:=[.box cells]}
 | .build zero parts=>(nh (parts.map fun p=>(p.1,p.2.1,p.2.2.ev e)) zero).map fun cs=>{v:= .agg cs}
 | .AW esz n zero parts=>(p8 (parts.map fun p=>(p.1,p.2.ev e)) (ab7 n zero) esz).map fun rows=>
  {v:= .own (ahP aA) esz 0 n n ahV,news:=[.arr esz rows]}
 | .C' x y=>if (x.ev e).p7&&(y.ev e).p7 then ahQ {v:= .own (ahP aA) 1 0 2 2 ahV,news:=[.box [x.ev e,y.ev e]]} else ahR
 | .load agg p=>oH aA agg (p.ev e)
 | .store sz p v=>rU aA fz sz (v.ev e) (p.ev e)
 | .Ju x=>match x.ev e with
  | .ptr t s r o=>ahQ {v:= .ptr t s r o}
  | .bw c o=>ahQ {v:= .bw c o}
  | .eA f a b=>ahQ {v:= .eA f a b}
  |_=>ahR
 | .Jv off p=>match p.ev e with
  | .ptr t s r o=>ahQ {v:= .ptr t s r (o+off)}
  | .bw c o=>ahQ {v:= .bw c (o+off)}
  |_=>ahR
 | .lq agg off x=>match x.ev e with
  | .agg cs=>(part agg off cs).map fun v=>{v}
  |_=>ahR
 | .Jw esz x i=>match jm (i.ev e) with
  |none=>ahR
  |some n=>match x.ev e with
   | .sl s _ rows=>match rows[n]? with
    |some cs=>if EQ s esz then ahQ {v:= .bw cs 0} else ahR
    |none=>ahR
   | .own t s off len _ _=>if abR n len&&EQ s esz then ahQ {v:= .ptr t s (off+n) 0} else ahR
   |_=>ahR
 | .Da n esz p i=>match jm (i.ev e) with
  |none=>ahR
  |some j=>if abR j n then (match p.ev e with
   | .ptr t s r o=>ahQ {v:= .ptr t s r (o+j*esz)}
   | .bw c o=>ahQ {v:= .bw c (o+j*esz)}
   |_=>ahR) else ahR
 | .idx n esz agg x i=>match jm (i.ev e) with
  |none=>ahR
  |some j=>if abR j n then (match x.ev e with
   | .agg cs=>(part agg (j*esz) cs).map fun v=>{v}
   |_=>ahR) else ahR
 | .Jx x i=>match jm (i.ev e),x.ev e with
  |some j,.str s=>match s[j]? with
   |some b=>ahQ {v:= .int .u8 b.toNat}
   |none=>ahR
  |_,_=>ahR
 | .O5 esz x lo hi mx=>
  if !uH esz (x.ev e) then ahR else
  match (match lo with|none=>ahQ ahR|some a=>(jm (a.ev e)).map ahQ),
   (match hi with|none=>ahQ ahR|some a=>(jm (a.ev e)).map ahQ),
   (match mx with|none=>ahQ ahR|some a=>(jm (a.ev e)).map ahQ) with
  |some l,ahQ h,ahQ m=>(qH (x.ev e) l h m).map fun v=>{v}
  |_,_,_=>ahR
 | .mks esz zero l c=>match jm (l.ev e),jm (c.ev e) with
  |some n,ahQ m=>if aa5 n m&&aa5 m lT then
   ahQ {v:= .own (ahP aA) esz 0 n m ahV,news:=[.arr esz (ab7 m zero)]} else ahR
  |_,_=>ahR
 | .mkf fn a b=>ahQ {v:= .eA fn (Ek e a) (Ek e b)}
 | .mkm _=>ahQ {v:= .mp (ahP aA),news:=[.map []]}
 | .lookup n zero ok m k=>s4 aA n zero ok (m.ev e) (k.ev e)
 | .HZ n m k v=>Dc aA fz n (m.ev e) (k.ev e) (v.ev e)
 | .ext i x=>match x.ev e with
  | .bN vs=>vs[i]?.map fun v=>{v}
  |_=>ahR
 | .append esz x y=>iQ aA fz esz (x.ev e) (y.ev e)
 | .copy esz x y=>match rowsOf aA esz (y.ev e),x.ev e with
  |some src,.own t s off len _ _=>match src.take len with
   | []=>ahQ {v:= .int .i64 0,rd:=iP (y.ev e)}
   |r::rs=>match aA[t]? with
    |some (.arr s' rows)=>
     if EQ s esz&&!has fz t then
      ahQ {v:= .int .i64 (.ofNat (ahP rs+1)),wr:=[(t,.arr s' (kV off (r::rs) rows))],rd:=iP (y.ev e)}
     else ahR
    |_=>ahR
  |_,_=>ahR
 | .clear esz zero x=>match x.ev e with
  | .own t s off len _ _=>match len with
   |0=>ahQ {v:= .undef}
   |len+1=>match aA[t]? with
    |some (.arr s' rows)=>
     if EQ s esz&&!has fz t then
      ahQ {v:= .undef,wr:=[(t,.arr s' (kV off (ab7 (len+1) zero) rows))]}
     else ahR
    |_=>ahR
  | .sl _ _ []=>ahQ {v:= .undef}
  |_=>ahR
 | .mm isMax x xs=>match x.ev e with
  | .int k a=>(mmE isMax k a (Ek e xs)).map fun v=>{v}
  |_=>ahR
 | .call .. =>ahR
 | .w9 .. =>ahR
 | .bad=>ahR
mutual
def Cb (aA:bS) (bx:Nat->Option (List PV)):PV->Option PV
 | .undef=>ahR
 | .js=>ahR
 | .int k n=>ahQ (.int k n)
 | .bool b=>ahQ (.bool b)
 | .str s=>ahQ (.str s)
 | .agg cs=>(B6 aA bx cs).map .agg
 | .bN cs=>(B6 aA bx cs).map .bN
 | .sl e _ rows=>ahQ (.sl e ahW rows)
 | .own t e off len _ _=>match aA[t]? with
  |some (.arr _ rows)=>ahQ (.sl e ahW ((rows.drop off).take len))
  |_=>ahR
 | .ptr t _ row off=>match aA[t]? with
  |some (.box _)=>if EQ row 0 then (bx t).map (.bw · off) else ahR
  |some (.arr _ rows)=>rows[row]?.map (.bw · off)
  |_=>ahR
 | .bw cs off=>(B6 aA bx cs).map (.bw · off)
 | .mp _=>ahR
 | .eA f a b=>match B6 aA bx a,B6 aA bx b with
  |some a',ahQ b'=>ahQ (.eA f a' b')
  |_,_=>ahR
 | .dC=>ahQ .dC
def B6 (aA:bS) (bx:Nat->Option (List PV)):List PV->Option (List PV)
 | []=>ahQ []
 |x::xs=>match Cb aA bx x,B6 aA bx xs with
  |some y,ahQ ys=>ahQ (y::ys)
  |_,_=>ahR
end
def xq (aA:bS):Nat->Nat->Option (List PV)
 |0,_=>ahR
 |n+1,t=>match aA[t]? with
  |some (.box cs)=>B6 aA (xq aA n) cs
  |_=>ahR
mutual
def jb (bx:Nat->List Nat):PV->List Nat
 | .agg cs=>cT bx cs
 | .bN cs=>cT bx cs
 | .own t _ _ _ _ _=>[t]
 | .ptr t _ _ _=>t::bx t
 | .bw cs _=>cT bx cs
 | .mp t=>[t]
 | .eA _ a b=>cT bx a++cT bx b
 | .undef| .js| .int _ _| .bool _| .str _| .sl .. | .dC=>[]
def cT (bx:Nat->List Nat):List PV->List Nat
 | []=>[]
 |x::xs=>jb bx x++cT bx xs
end
def sT (_:Nat):List Nat:=[]
def cK (aA:bS):Nat->Nat->List Nat
 |0,_=>[]
 |n+1,t=>match aA[t]? with
  |some (.box cs)=>cT (cK aA n) cs
  |_=>[]
mutual
def PV.jB:PV->Bool
 | .int _ _| .bool _| .str _=>ahV
 | .agg cs=>rV cs
 | .bN cs=>rV cs
 |_=>ahW
def rV:List PV->Bool
 | []=>ahV
 |x::xs=>x.jB&&rV xs
end
mutual
def xz (aA:bS):PV->Option PV
 | .int k n=>ahQ (.int k n)
 | .bool b=>ahQ (.bool b)
 | .str s=>ahQ (.str s)
 | .agg cs=>(El aA cs).map .agg
 | .bN cs=>(El aA cs).map .bN
 | .sl e _ rows=>ahQ (.sl e ahW rows)
 | .own t e off len _ _=>match aA[t]? with
  |some (.arr _ rows)=>ahQ (.sl e ahW ((rows.drop off).take len))
  |_=>ahR
 |_=>ahR
def El (aA:bS):List PV->Option (List PV)
 | []=>ahQ []
 |x::xs=>match xz aA x,El aA xs with
  |some y,ahQ ys=>ahQ (y::ys)
  |_,_=>ahR
end
mutual
def zl (aA:bS) (fz:List Nat):Nat->List Nat->PV->Option (PV×bS×List Nat)
 |_,seen,.int k n=>ahQ (.int k n,[],seen)
 |_,seen,.bool b=>ahQ (.bool b,[],seen)
 |nx,seen,.agg cs=>(H0 aA fz nx seen cs).map fun r=>(.agg r.1,r.2)
 |nx,seen,.bN cs=>(H0 aA fz nx seen cs).map fun r=>(.bN r.1,r.2)
 |nx,seen,.sl e ahV []=>ahQ (.own nx e 0 0 0 ahW,[.arr e []],seen)
 |nx,seen,.own t e off len cap _=>match aA[t]? with
  |some (.arr e' rows)=>if has seen t||has fz t then ahR else ahQ (.own nx e off len cap ahW,[.arr e' rows],t::seen)
  |_=>ahR
 |_,_,_=>ahR
def H0 (aA:bS) (fz:List Nat):Nat->List Nat->List PV->Option (List PV×bS×List Nat)
 |_,seen,[]=>ahQ ([],[],seen)
 |nx,seen,x::xs=>match zl aA fz nx seen x with
  |some (y,n1,ahS)=>match H0 aA fz (nx+ahP n1) ahS xs with
   |some (ys,n2,ahT)=>ahQ (y::ys,n1++n2,ahT)
   |none=>ahR
  |none=>ahR
end
def qU:jQ->List Nat
 | .box cs=>cT sT cs
 |_=>[]
def reach (aA:bS):Nat->List Nat->List Nat->Option (List Nat)
 |_,[],seen=>ahQ seen
 |0,_::_,_=>ahR
 |n+1,t::ts,seen=>
  if has seen t then reach aA n ts seen
  else match aA[t]? with
   |some b=>reach aA n (qU b++ts) (seen++[t])
   |none=>ahR
def idxOf (t:Nat):List Nat->Option Nat
 | []=>ahR
 |s::r=>if EQ s t then ahQ 0 else (idxOf t r).map (· +1)
mutual
def vB (m:List Nat):PV->Option PV
 | .agg cs=>(zm m cs).map .agg
 | .bN cs=>(zm m cs).map .bN
 | .own t e off len cap ex=>(idxOf t m).map fun u=> .own u e off len cap ex
 | .ptr t e row off=>(idxOf t m).map fun u=> .ptr u e row off
 | .bw cs off=>(zm m cs).map (.bw · off)
 | .mp t=>(idxOf t m).map .mp
 | .eA f a b=>match zm m a,zm m b with
  |some a',ahQ b'=>ahQ (.eA f a' b')
  |_,_=>ahR
 | .undef=>ahQ .undef
 | .js=>ahQ .js
 | .int k n=>ahQ (.int k n)
 | .bool b=>ahQ (.bool b)
 | .str s=>ahQ (.str s)
 | .sl e c rows=>ahQ (.sl e c rows)
 | .dC=>ahQ .dC
def zm (m:List Nat):List PV->Option (List PV)
 | []=>ahQ []
 |x::xs=>match vB m x,zm m xs with
  |some y,ahQ ys=>ahQ (y::ys)
  |_,_=>ahR
end
def nM (m:List Nat):jQ->Option jQ
 | .box cs=>(zm m cs).map .box
 | .arr e rows=>ahQ (.arr e rows)
 | .map es=>ahQ (.map es)
 | .dead=>ahQ .dead
def xG (aA:bS) (m:List Nat):List Nat->Option bS
 | []=>ahQ []
 |t::ts=>match aA[t]? with
  |some b=>match nM m b,xG aA m ts with
   |some b',ahQ r=>ahQ (b'::r)
   |_,_=>ahR
  |none=>ahR
def xH (fz:List Nat):Nat->List Nat->List Nat
 |_,[]=>[]
 |i,t::ts=>if has fz t then i::xH fz (i+1) ts else xH fz (i+1) ts
def GZ:Option Nat->PV->PV
 |some _,.own t e off len cap _=> .own t e off len cap ahW
 |_,v=>v
def qV (e:Env) (m:List Nat):Nat->List (Nat×Option Nat)->Option (Env×bS)
 |_,[]=>ahQ ([],[])
 |nx,(s,k)::r=>
  match k,lk s e with
  |some esz,.sl _ ahV []=>(qV e m (nx+1) r).map fun p=>((s,.own nx esz 0 0 0 ahW)::p.1,.arr esz []::p.2)
  |_,v=>match vB m v,qV e m nx r with
   |some v',ahQ p=>ahQ ((s,GZ k v')::p.1,p.2)
   |_,_=>ahR
def uI:Nat->List Nat
 |0=>[]
 |n+1=>uI n++[n]
def qW (st:St) (t c esz:Nat):St:=
 match st.aA[t]? with
 |some (.box cs)=>match cs[c]? with
  |some (.sl _ ahV [])=>{st with aA:=st.aA.set t (.box (cs.set c (.own (ahP st.aA) esz 0 0 0 ahW)))++[.arr esz []]}
  |_=>st
 |_=>st
def Em:PV->Option Nat
 | .ptr t _ 0 0=>ahQ t
 |_=>ahR
def Jy:PV->Option Nat
 | .eA _ _ (x::_)=>Em x
 |x=>Em x
def kq:List (Nat×Option Nat)->St->St
 | [],st=>st
 |(s,k)::r,st=>match k with
  |some n=>if aa5 1000 n then (match Jy (lk s st.env) with
   |some t=>kq r (qW st t (n / 1000-1) (n%1000))
   |none=>kq r st) else kq r st
  |none=>kq r st
def En (live:List (Nat×Option Nat)) (st:St):Option St:=
 match reach st.aA 4096 ((st.aA.take st.kn).flatMap qU++live.flatMap fun p=>jb sT (lk p.1 st.env)) (uI st.kn) with
 |none=>ahR
 |some m=>match xG st.aA m m,qV st.env m (ahP m) live with
  |some s1,ahQ (e1,s2)=>ahQ (kq live {env:=e1,aA:=s1++s2,fz:=xH st.fz 0 m,kn:=st.kn})
  |_,_=>ahR
def norm (live:List (Nat×Option Nat)) (st:St):Option St:=
 match En live st with
 |some s=>if live.any fun p=>p.2.isSome then En live s else ahQ s
 |none=>ahR
inductive Task where
 |func (f:FuncId) (args:List PV) (aA:bS) (fz:List Nat)
 |loop (live:List (Nat×Option Nat)) (b:jl) (st:St)
inductive Out where
 |func (v:PV) (aA:bS) (fz:List Nat)
 |code (e:gS) (st:St)
structure Tr where
 rd:List Nat
 wr:List Nat
 al:Bool
 Jz:Bool
 cl:Bool
 lo:Nat
 hi:Nat
inductive XR where
 |loc (r:nL)
 |shr (v:PV) (aA:bS) (fz:List Nat)
def fP:List (Nat×jQ)->bS->bS
 | [],s=>s
 |(t,b)::r,s=>fP r (s.set t b)
def Eo:PV->Bool
 | .ptr .. =>ahV
 | .own .. =>ahV
 | .mp _=>ahV
 |_=>ahW
def deep:Nat:=8
def cz (F:kQ) (rec:Task->Option Out) (own:Bool) (f:FuncId) (args:List PV) (aA:bS) (fz:List Nat):Option nL:=
 match B6 aA (xq aA deep) args with
 |none=>ahR
 |some ni=>
  let tk:=cT (cK aA deep) args
  match F f with
  |some (.ja NA p)=>match p ni with
   |some (v,news)=>match zl news [] (ahP aA) [] v with
    |some (v',n2,_)=>
     if NA then match args with
      | .own t _ _ _ _ _::r=>
       let tr:=cT (cK aA deep) r
       if has fz t||has tr t then ahR
       else ahQ {v:=v',news:=n2,wr:=[(t,.dead)],rd:=tr}
      |_=>ahR
     else ahQ {v:=v',news:=n2,rd:=tk}
    |none=>ahR
   |none=>ahR
  |_=>match rec (.func f ni [] []) with
   |some (.func v s1 z1)=>
    if own then match zl s1 z1 (ahP aA) [] v with
     |some (v',n2,_)=>ahQ {v:=v',news:=n2,rd:=tk}
     |none=>ahR
    else if v.jB then ahQ {v,rd:=tk}
    else match xz s1 v with
     |some v'=>ahQ {v:=v',rd:=tk,fr:=tk}
     |none=>ahR
   |_=>ahR
def jQ.bB:jQ->Bool
 | .dead=>ahW
 | .arr _ []=>ahW
 |_=>ahV
def oI:List Nat->List Nat
 | []=>[]
 |t::r=>if has r t then oI r else t::oI r
mutual
def Cc (g:Nat->Nat):PV->PV
 | .agg cs=> .agg (xa g cs)
 | .bN cs=> .bN (xa g cs)
 | .own t e off len cap ex=> .own (g t) e off len cap ex
 | .ptr t e row off=> .ptr (g t) e row off
 | .bw cs off=> .bw (xa g cs) off
 | .mp t=> .mp (g t)
 | .eA f a b=> .eA f (xa g a) (xa g b)
 | .undef=> .undef
 | .js=> .js
 | .int k n=> .int k n
 | .bool b=> .bool b
 | .str s=> .str s
 | .sl e c rows=> .sl e c rows
 | .dC=> .dC
def xa (g:Nat->Nat):List PV->List PV
 | []=>[]
 |x::xs=>Cc g x::xa g xs
end
def zy (g:Nat->Nat):jQ->jQ
 | .box cs=> .box (xa g cs)
 |b=>b
def AX (g:Nat->Nat):bS->bS
 | []=>[]
 |b::r=>zy g b::AX g r
def jW (tk:List Nat) (n u:Nat):Nat:=
 match tk[u]? with
 |some t=>t
 |none=>n+(u-(ahP tk))
def oL (g:Nat->Nat):List Nat->bS->List (Nat×jQ)
 |t::r,b::s=>(t,zy g b)::oL g r s
 |_,_=>[]
def vC:bS->bS->Bool
 | [],_=>ahV
 |b::r,c::q=>(match b.bB,c.bB with|true,ahV=>ahV|false,ahW=>ahV|_,_=>ahW)&&vC r q
 |_::_,[]=>ahW
def UC (args:List PV) (aA:bS) (fz:List Nat) (tk:List Nat):Option (List PV×bS):=
 if tk.all fun t=>!has fz t then
  match zm tk args,xG aA tk tk with
  |some a,ahQ s=>ahQ (a,s)
  |_,_=>ahR
 else ahR
def hG (k:Nat) (v:PV) (s:bS):Bool:=(jb sT v++(s.take k).flatMap qU).all fun t=>abR t k
def Ep (tk:List Nat) (n:Nat) (s0:bS) (v:PV) (s:bS):Option nL:=
 if vC s0 s then ahQ {v:=Cc (jW tk n) v,news:=if hG (ahP tk) v s then [] else AX (jW tk n) (s.drop (ahP tk)),wr:=oL (jW tk n) tk s} else ahR
def tU (rec:Task->Option Out) (f:FuncId) (args:List PV) (aA:bS) (fz:List Nat):Option nL:=
 match UC args aA fz (oI (cT (cK aA deep) args)) with
 |none=>ahR
 |some (a,s0)=>match rec (.func f a s0 []) with
  |some (.func v s [])=>Ep (oI (cT (cK aA deep) args)) (ahP aA) s0 v s
  |_=>ahR
def fI (rec:Task->Option Out) (f:FuncId) (args:List PV) (aA:bS) (fz:List Nat):Option XR:=
 match rec (.func f args aA fz) with
 |some (.func v s z)=>if aa5 (ahP aA) (ahP s)&&fz.all (has z) then ahQ (.shr v s z) else ahR
 |_=>ahR
def xb (F:kQ) (rec:Task->Option Out) (e:Env) (aA:bS) (fz:List Nat):kO->Option XR
 | .call m f args=>match m with
  | .Ur=>(cz F rec ahW f (Ek e args) aA fz).map .loc
  | .own=>(cz F rec ahV f (Ek e args) aA fz).map .loc
  | .shr=>fI rec f (Ek e args) aA fz
  | .fp=>(tU rec f (Ek e args) aA fz).map .loc
 | .w9 x args=>match x.ev e with
  | .eA f a b=>
   if (Ek e args++b).any Eo then fI rec f (a++Ek e args++b) aA fz
   else (cz F rec ahW f (a++Ek e args++b) aA fz).map .loc
  |_=>ahR
 |op=>(bq e aA fz op).map .loc
def iK (d:Option Nat) (v:PV) (e:Env):Env:=
 match d with
 |some t=>(t,v)::e
 |none=>e
def JA (s:bS):List jQ->bS
 | []=>s
 |b::r=>s++b::r
theorem qX (s:bS) (l:List jQ):JA s l=s++l:=by
 cases l
 · exact (List.append_nil s).symm
 rfl
def XR.next (d:Option Nat) (st:St):XR->St
 | .loc r=>{env:=iK d r.v st.env,aA:=JA (fP r.wr st.aA) r.news,fz:=r.fr++st.fz,kn:=st.kn}
 | .shr v s z=>{env:=iK d v st.env,aA:=s,fz:=z,kn:=st.kn}
def XR.tr (nx:Nat):XR->Tr
 | .loc r=>⟨r.rd++r.fr,r.wr.map (·.1),!r.news.isEmpty,ahW,(r.rd++r.fr).all (abR · nx)&&r.wr.all (fun p=>abR p.1 nx),nx,nx+ahP r.news⟩
 | .shr .. =>⟨[],[],ahV,ahV,ahV,0,0⟩
def vD:List (Nat×jQ)->Bool
 | []=>ahV
 |p::r=>(r.all fun q=>!Nat.beq q.1 p.1)&&vD r
def XR.ok (fz:List Nat):XR->Bool
 | .loc r=>(r.wr.all fun p=>!has fz p.1)&&vD r.wr
 | .shr .. =>ahV
def Tr.idle:Tr:=⟨[],[],ahW,ahW,ahV,0,0⟩
def wanted (g:Option (Nat×Bool)) (e:Env):Option Bool:=
 match g with
 |none=>ahQ ahV
 |some (s,want)=>match lk s e with
  | .bool b=>ahQ (b==want)
  | .js=>ahQ ahW
  |_=>ahR
def mB (F:kQ) (rec:Task->Option Out):List bG->St->List Tr->Option (St×List Tr)
 | [],st,tr=>ahQ (st,tr)
 |o::r,st,tr=>
  match wanted o.guard st.env with
  |some ahV=>match xb F rec st.env st.aA st.fz o.op with
   |some x=>if x.ok st.fz then mB F rec r (x.next o.dst st) (x.tr (ahP st.aA)::tr) else ahR
   |none=>ahR
  |some ahW=>mB F rec r {st with env:=iK o.dst .js st.env} (Tr.idle::tr)
  |none=>ahR
def meets (a b:List Nat):Bool:=a.any (has b)
def Tr.gN (a:Tr):Bool:=!a.rd.isEmpty||!a.wr.isEmpty||a.al||a.Jz
def Tr.uJ (a b:Tr):Bool:=
 (a.Jz&&b.gN)||(b.Jz&&a.gN)||meets a.wr b.rd||meets a.wr b.wr||meets a.rd b.wr||
  b.wr.any fun t=>aa5 a.lo t&&abR t a.hi
def Cf (rows:List Row):Bool:=rows.all fun r=>EQ (ahP r) 1&&r.all PV.plain
def ab3 (args:List PV) (aA:bS) (fz:List Nat):Option (PV×bS×List Nat):=
 match args with
 | [.own t e off len _ _]=>match aA[t]? with
  |some (.box [.sl e1 _ x,.sl e2 _ y])=>if EQ e 1&&EQ off 0&&EQ len 2&&!has fz t&&Cf x&&Cf y&&aa5 1 (ahP x+ahP y)&&aa5 (ahP x+ahP y) lT&&(EQ e1 1||x.isEmpty)&&(EQ e2 1||y.isEmpty) then
   ahQ (.own (ahP aA) 1 0 (x++y).length (x++y).length ahW,aA.set t .dead++[.arr 1 (x++y)],fz)
   else ahR
  |_=>ahR
 |_=>ahR
def H3 (i:Nat) (a:Tr):List (Tr×Nat)->Bool
 | []=>ahV
 |(b,bf)::r=>(!a.uJ b||bf.testBit i)&&H3 i a r
def qY:Nat->List (Tr×Nat)->Bool
 |_,[]=>ahV
 |i,(a,_)::r=>a.cl&&H3 i a r&&qY (i+1) r
def ly (F:kQ) (rec:Task->Option Out) (draw:Option (List Nat)) (ops:List bG) (fH:List Nat) (st:St):Option St:=
 match mB F rec ops st [] with
 |none=>ahR
 |some (kH,tr)=>
  let st2:St:={kH with env:=fH.map fun s=>(s,lk s kH.env)}
  match draw with
  |none=>ahQ st2
  |some bf=>if qY 0 (tr.reverse.zip bf) then ahQ st2 else ahR
def sU (F:kQ) (rec:Task->Option Out):jl->St->Option (gS×St)
 | .skip,st=>ahQ (.normal,st)
 | .region d ops fH,st=>(ly F rec d ops fH st).map fun s=>(.normal,s)
 | .seq a b,st=>match sU F rec a st with
  |some (.normal,kH)=>sU F rec b kH
  |r=>r
 | .cond c a b,st=>match c.ev st.env with
  | .bool ahV=>sU F rec a st
  | .bool ahW=>sU F rec b st
  |_=>ahR
 | .block id b,st=>match sU F rec b st with
  |some (.exit j,kH)=>if EQ j id then ahQ (.normal,kH) else ahQ (.exit j,kH)
  |r=>r
 | .loop live b,st=>match rec (.loop live b st) with
  |some (.code e kH)=>ahQ (e,kH)
  |_=>ahR
 | .exit id,st=>ahQ (.exit id,st)
 | .ret,st=>ahQ (.ret,st)
def Er (st:St):RV->Option PV
 | .tmp t=>ahQ (lk t st.env)
 | .cell t agg=>(oH st.aA agg (lk t st.env)).map (·.v)
def nN (st:St):List RV->Option (List PV)
 | []=>ahQ []
 |r::rs=>match Er st r,nN st rs with
  |some v,ahQ vs=>ahQ (v::vs)
  |_,_=>ahR
def results1:List PV->PV
 | [v]=>v
 |vs=> .bN vs
def uK:Nat->List PV->Env
 |_,[]=>[]
 |i,v::r=>(i,v)::uK (i+1) r
def step (F:kQ) (rec:Task->Option Out):Task->Option Out
 | .func f args aA fz=>match F f with
  |some (.code x)=>
   if EQ (ahP args) x.Db then
    match sU F rec x.code {env:=uK 0 args,aA,fz,kn:=ahP aA} with
    |some (.normal,st)=>(nN st x.res).map fun vs=> .func (results1 vs) st.aA st.fz
    |some (.ret,st)=>(nN st x.res).map fun vs=> .func (results1 vs) st.aA st.fz
    |_=>ahR
   else ahR
  |some (.O6 p)=>(p args aA fz).map fun r=> .func r.1 r.2.1 r.2.2
  |_=>ahR
 | .loop live b st=>match norm live st with
  |none=>ahR
  |some st1=>match sU F rec b st1 with
   |some (.normal,st2)=>rec (.loop live b st2)
   |some (e,st2)=>ahQ (.code e st2)
   |none=>ahR
def ff (esz:Nat):List PV->Option (PV×bS)
 | [.sl e _ rows]=>match rows with
  | []=>ahQ (.own 1 esz 0 0 0 ahW,[.arr esz [],.arr esz []])
  |r::rs=>if EQ e esz&&aa5 (ahP rs+1) lT then ahQ (.own 1 esz 0 (0+(ahP rs+1)) (0+(ahP rs+1)) ahW,[.arr esz [],.arr esz (r::rs)]) else ahR
 |_=>ahR
def Q5 (esz:Nat) (args:List PV) (aA:bS) (fz:List Nat):Option (PV×bS×List Nat):=
 match args with
 | [.own t e off len _ _,.int .i64 i,.own u e2 ahU JB _ _]=>
  match aA[t]?,aA[u]? with
  |some (.arr _ rows),ahQ (.arr _ new)=>
   if EQ e esz&&EQ e2 esz&&EQ off 0&&EQ ahU 0&&EQ len (ahP rows)&&EQ JB 1&&EQ (ahP new) 1&&!Nat.beq t u&&!has fz t&&ahX (0<=i)&&aa5 i.toNat len&&aa5 (len+1) lT then
    ahQ (.own (ahP aA) esz 0 (len+1) (len+1) ahW,aA.set t .dead++[.arr esz (rows.take i.toNat++new++rows.drop i.toNat)],fz)
   else ahR
  |_,_=>ahR
 |_=>ahR
def z6:List PV->Option (PV×bS)
 | [.int .u64 (.ofNat a),.int .u64 (.ofNat b),.int .u64 (.ofNat c)]=>
  if aa5 c 1 then
   let s:=a+b+c
   ahQ (.bN [.int .u64 (.ofNat (s%18446744073709551616)),.int .u64 (.ofNat (s / 18446744073709551616))],[])
  else ahR
 |_=>ahR
noncomputable def run (F:kQ) (n:Nat):Task->Option Out:=Nat.rec (fun _=>ahR) (fun _ ih=>step F ih) n
end Go.Vm
/- Rules for the logical machine: what more fuel keeps, and a calculus of its runs. -/
namespace Go.Vm
def Le (r s:Task->Option Out):Prop:= ∀t o,r t=ahQ o->s t=ahQ o
structure UD (F G:kQ) (r:Task->Option Out):Prop where
 yes: ∀f e,F f=ahQ e->G f=ahQ e
 no: ∀f,F f=ahR->G f=ahR\/ ∀a,r (.func f a [] [])=ahR
theorem UD.refl (F:kQ) (r:Task->Option Out):UD F F r:=⟨fun _ _ h=>h,fun _ h=> .inl h⟩
theorem pB {F G:kQ} {r s:Task->Option Out} (g:UD F G r) (h:Le r s) {own:Bool} {f:FuncId} {args:List PV} {aA:bS} {fz:List Nat} {x:nL}
 (hx:cz F r own f args aA fz=ahQ x):cz G s own f args aA fz=ahQ x:=by
 cases ha:B6 aA (xq aA deep) args with
 |none=>simp [cz,ha] at hx
 |some a=>
  simp only [cz,ha] at hx ⊢;cases hp:F f with
  |none=>
   rw [hp] at hx;dsimp only at hx;cases hr:r (.func f a [] []) with
   |none=>rw [hr] at hx;cases hx
   |some o=>
    rw [hr] at hx;rcases g.no f hp with hq|hq
    · rw [hq];dsimp only;rw [h _ _ hr];exact hx
    rw [hq a] at hr;cases hr
  |some en=>
   rw [hp] at hx;rw [g.yes f _ hp];cases en with
   |ja k p=>exact hx
   |code x=>
    dsimp only at hx ⊢;cases hr:r (.func f a [] []) with
    |none=>rw [hr] at hx;cases hx
    |some o=>rw [hr] at hx;rw [h _ _ hr];exact hx
   |O6 x=>
    dsimp only at hx ⊢;cases hr:r (.func f a [] []) with
    |none=>rw [hr] at hx;cases hx
    |some o=>rw [hr] at hx;rw [h _ _ hr];exact hx
theorem xd {r s:Task->Option Out} (h:Le r s) {f:FuncId} {args:List PV} {aA:bS} {fz:List Nat} {x:XR}
 (hx:fI r f args aA fz=ahQ x):fI s f args aA fz=ahQ x:=by
 unfold fI at hx ⊢;cases hr:r (.func f args aA fz) with
 |none=>rw [hr] at hx;cases hx
 |some o=>rw [hr] at hx;rw [h _ _ hr];exact hx
theorem JC {r s:Task->Option Out} (h:Le r s) {f:FuncId} {args:List PV} {aA:bS} {fz:List Nat} {x:nL}
 (hx:tU r f args aA fz=ahQ x):tU s f args aA fz=ahQ x:=by
 unfold tU at hx ⊢;cases hl:UC args aA fz (oI (cT (cK aA deep) args)) with
 |none=>rw [hl] at hx;cases hx
 |some p=>
  rw [hl] at hx;dsimp only at hx ⊢;cases hr:r (.func f p.1 p.2 []) with
  |none=>rw [hr] at hx;cases hx
  |some o=>rw [hr] at hx;rw [h _ _ hr];exact hx
theorem JD {F G:kQ} {r s:Task->Option Out} (g:UD F G r) (h:Le r s) {e:Env} {aA:bS} {fz:List Nat} {op:kO} {x:XR}
 (hx:xb F r e aA fz op=ahQ x):xb G s e aA fz op=ahQ x:=by
 cases op with
 |call m f args=>
  cases m with
  |Ur=>simp only [xb,v6] at hx ⊢;obtain ⟨a,ha,rfl⟩:=hx;exact ⟨a,pB g h ha,rfl⟩
  |own=>simp only [xb,v6] at hx ⊢;obtain ⟨a,ha,rfl⟩:=hx;exact ⟨a,pB g h ha,rfl⟩
  |shr=>exact xd h hx
  |fp=>simp only [xb,v6] at hx ⊢;obtain ⟨a,ha,rfl⟩:=hx;exact ⟨a,JC h ha,rfl⟩
 |w9 c args=>
  simp only [xb] at hx ⊢;split at hx
  · split at hx
    · rename_i hc;simp only [hc,if_true];exact xd h hx
    rename_i hc
    rw [ls hc];rw [v6] at hx ⊢;obtain ⟨a,ha,rfl⟩:=hx;exact ⟨a,pB g h ha,rfl⟩
  cases hx
 |_=>exact hx
theorem Es {F G:kQ} {r s:Task->Option Out} (g:UD F G r) (h:Le r s) (ops:List bG):
 ∀(st:St) (tr:List Tr) (x:St×List Tr),mB F r ops st tr=ahQ x->mB G s ops st tr=ahQ x:=by
 induction ops with
 |nil=>intro st tr x hx;exact hx
 |cons o l ih=>
  intro st tr x hx;simp only [mB] at hx ⊢;cases hw:wanted o.guard st.env with
  |none=>rw [hw] at hx;cases hx
  |some b=>
   rw [hw] at hx;cases b with
   |false=>exact ih _ _ _ hx
   |true=>
    dsimp only at hx ⊢;cases hy:xb F r st.env st.aA st.fz o.op with
    |none=>rw [hy] at hx;cases hx
    |some y=>
     rw [hy] at hx;rw [JD g h hy];dsimp only at hx ⊢;split at hx
     · rename_i z7;rw [lm z7];exact ih _ _ _ hx
     cases hx
theorem GH {F G:kQ} {r s:Task->Option Out} (g:UD F G r) (h:Le r s) {d:Option (List Nat)} {ops:List bG} {fH:List Nat} {st kH:St}
 (hx:ly F r d ops fH st=ahQ kH):ly G s d ops fH st=ahQ kH:=by
 unfold ly at hx ⊢;cases hy:mB F r ops st [] with
 |none=>rw [hy] at hx;cases hx
 |some y=>rw [hy] at hx;rw [Es g h _ _ _ _ hy];exact hx
theorem p9 {F G:kQ} {r s:Task->Option Out} (g:UD F G r) (h:Le r s) (c:jl):
 ∀(st:St) (x:gS×St),sU F r c st=ahQ x->sU G s c st=ahQ x:=by
 induction c with
 |skip=>intro st x hx;exact hx
 |region d ops fH=>intro st x hx;simp only [sU,v6] at hx ⊢;obtain ⟨a,ha,rfl⟩:=hx;exact ⟨a,GH g h ha,rfl⟩
 |seq a b iha UE=>
  intro st x hx;simp only [sU] at hx ⊢;cases hy:sU F r a st with
  |none=>rw [hy] at hx;cases hx
  |some y=>
   rw [hy] at hx;rw [iha _ _ hy];obtain ⟨e,st1⟩:=y;cases e with
   |normal=>exact UE _ _ hx
   |exit i=>exact hx
   |ret=>exact hx
 |cond c a b iha UE=>
  intro st x hx;simp only [sU] at hx ⊢;split at hx
  · exact iha _ _ hx
  · exact UE _ _ hx
  cases hx
 |block id b ih=>
  intro st x hx;simp only [sU] at hx ⊢;cases hy:sU F r b st with
  |none=>rw [hy] at hx;cases hx
  |some y=>rw [hy] at hx;rw [ih _ _ hy];exact hx
 |loop live b _=>
  intro st x hx;simp only [sU] at hx ⊢;split at hx
  · rename_i e st1 hr;rw [h _ _ hr];exact hx
  cases hx
 |exit id=>intro st x hx;exact hx
 |ret=>intro st x hx;exact hx
theorem G0 {F G:kQ} {r s:Task->Option Out} (g:UD F G r) (h:Le r s):Le (step F r) (step G s):=by
 intro t o ho;cases t with
 |func f args aA fz=>
  simp only [step] at ho ⊢;split at ho
  · rename_i x hx
    rw [g.yes f _ hx];dsimp only;split at ho
    · rename_i hl
      simp only [hl,if_true];split at ho
      · rename_i st1 hc;rw [p9 g h _ _ _ hc];exact ho
      · rename_i st1 hc;rw [p9 g h _ _ _ hc];exact ho
      cases ho
    cases ho
  · rename_i p hx
    rw [g.yes f _ hx];exact ho
  cases ho
 |loop live b st=>
  simp only [step] at ho ⊢;split at ho
  · cases ho
  rename_i st1 hn
  split at ho
  · rename_i st2 hc;rw [p9 g h _ _ _ hc];exact h _ _ ho
  · rename_i e st2 dM hc
    rw [p9 g h _ _ _ hc];cases e with
    |normal=>exact absurd rfl (dM ·)
    |exit i=>exact ho
    |ret=>exact ho
  cases ho
theorem kr (F:kQ) (n:Nat):run F (n+1)=step F (run F n):=rfl
theorem ab4 (F:kQ) (n:Nat):Le (run F n) (run F (n+1)):=by
 induction n with
 |zero=>intro t o h;cases h
 |succ n ih=>exact G0 (.refl _ _) ih
theorem qc (F:kQ) {n m:Nat} (h:n<=m):Le (run F n) (run F m):=by
 induction h with
 |refl=>intro t o h;exact h
 |step _ ih=>intro t o h;exact ab4 F _ _ _ (ih _ _ h)
theorem NB {F G:kQ} (h: ∀f e,F f=ahQ e->G f=ahQ e) (n:Nat):UD F G (run F n):=⟨h,fun f hf=> .inr fun a=>by
 cases n with
 |zero=>rfl
 |succ n=>rw [kr];simp only [step,hf]⟩
theorem UF {F G:kQ} (h: ∀f e,F f=ahQ e->G f=ahQ e) (n:Nat):Le (run F n) (run G n):=by
 induction n with
 |zero=>intro t o h;cases h
 |succ n ih=>exact G0 (NB h n) ih
def Fin (F:kQ) (t:Task) (Q:Out->Prop):Prop:= ∃n o,run F n t=ahQ o/\Q o
def WP (F:kQ) (c:jl) (st:St) (Q:gS->St->Prop):Prop:= ∃n e s,sU F (run F n) c st=ahQ (e,s)/\Q e s
def WO (F:kQ) (ops:List bG) (st:St) (tr:List Tr) (Q:St->List Tr->Prop):Prop:=
 ∃n s t,mB F (run F n) ops st tr=ahQ (s,t)/\Q s t
variable {F : kQ}
theorem Fin.mono {t:Task} {Q R:Out->Prop} (h:Fin F t Q) (hr: ∀o,Q o->R o):Fin F t R:=
 let ⟨n,o,e,q⟩:=h;⟨n,o,e,hr _ q⟩
theorem WP.mono {c:jl} {st:St} {Q R:gS->St->Prop} (h:WP F c st Q) (hr: ∀e s,Q e s->R e s):WP F c st R:=
 let ⟨n,e,s,x,q⟩:=h;⟨n,e,s,x,hr _ _ q⟩
theorem WP.skip {st:St} {Q:gS->St->Prop} (h:Q .normal st):WP F .skip st Q:=⟨0,_,_,rfl,h⟩
theorem WP.ret {st:St} {Q:gS->St->Prop} (h:Q .ret st):WP F .ret st Q:=⟨0,_,_,rfl,h⟩
theorem WP.exit {id:Nat} {st:St} {Q:gS->St->Prop} (h:Q (.exit id) st):WP F (.exit id) st Q:=⟨0,_,_,rfl,h⟩
def andThen (k:St->Prop) (Q:gS->St->Prop):gS->St->Prop
 | .normal,s=>k s
 |e,s=>Q e s
theorem WP.seq {a b:jl} {st:St} {Q:gS->St->Prop} (h:WP F a st (andThen (fun s=>WP F b s Q) Q)):WP F (.seq a b) st Q:=by
 obtain ⟨n,e,s,he,hq⟩:=h;cases e with
 |normal=>obtain ⟨m,e',s',B7,QT⟩:=hq;refine ⟨max n m,e',s',?_,QT⟩;simp only [sU];rw [p9 (.refl _ _) (qc F (agN n m)) _ _ _ he];exact p9 (.refl _ _) (qc F (acF n m)) _ _ _ B7
 |exit i=>exact ⟨n,_,s,by simp only [sU,he],hq⟩
 |ret=>exact ⟨n,_,s,by simp only [sU,he],hq⟩
theorem WP.aa6 {c:fc} {a b:jl} {st:St} {Q:gS->St->Prop} (hc:c.ev st.env= .bool ahV) (h:WP F a st Q):WP F (.cond c a b) st Q:=by obtain ⟨n,e,s,he,hq⟩:=h;exact ⟨n,e,s,by simp only [sU,hc,he],hq⟩
theorem WP.aa7 {c:fc} {a b:jl} {st:St} {Q:gS->St->Prop} (hc:c.ev st.env= .bool ahW) (h:WP F b st Q):WP F (.cond c a b) st Q:=by obtain ⟨n,e,s,he,hq⟩:=h;exact ⟨n,e,s,by simp only [sU,hc,he],hq⟩
theorem WP.cond {c:fc} {a b:jl} {st:St} {Q:gS->St->Prop} (t:Bool) (hc:c.ev st.env= .bool t)
 (ha:t=ahV->WP F a st Q) (hb:t=ahW->WP F b st Q):WP F (.cond c a b) st Q:=by
 cases t
 · exact WP.aa7 hc (hb rfl)
 exact WP.aa6 hc (ha rfl)
def inBlock (id:Nat) (Q:gS->St->Prop):gS->St->Prop
 | .exit j,s=>if j=id then Q .normal s else Q (.exit j) s
 |e,s=>Q e s
theorem WP.block {id:Nat} {b:jl} {st:St} {Q:gS->St->Prop} (h:WP F b st (inBlock id Q)):WP F (.block id b) st Q:=by
 obtain ⟨n,e,s,he,hq⟩:=h;cases e with
 |normal=>exact ⟨n,_,s,by simp only [sU,he],hq⟩
 |ret=>exact ⟨n,_,s,by simp only [sU,he],hq⟩
 |exit j=>
  by_cases hj:j=id
  · subst hj
    have QT:Q .normal s:=by simpa [inBlock] using hq
    exact ⟨n,.normal,s,by simp [sU,he],QT⟩
  have QT:Q (.exit j) s:=by simpa [inBlock,hj] using hq
  exact ⟨n,.exit j,s,by simp [sU,he,hj],QT⟩
def qd (fH:List Nat) (s:St):St:={s with env:=fH.map fun t=>(t,lk t s.env)}
theorem WP.region {ops:List bG} {fH:List Nat} {st:St} {Q:gS->St->Prop}
 (h:WO F ops st [] (fun s _=>Q .normal (qd fH s))):WP F (.region ahR ops fH) st Q:=by
 obtain ⟨n,s,t,he,hq⟩:=h;exact ⟨n,.normal,_,by simp only [sU,ly,he];rfl,hq⟩
theorem WP.UG {bf:List Nat} {ops:List bG} {fH:List Nat} {st:St} {Q:gS->St->Prop}
 (h:WO F ops st [] (fun s t=>qY 0 (t.reverse.zip bf)=ahV/\Q .normal (qd fH s))):WP F (.region (ahQ bf) ops fH) st Q:=by
 obtain ⟨n,s,t,he,ho,hq⟩:=h;exact ⟨n,.normal,qd fH s,by simp [sU,ly,he,ho,qd],hq⟩
theorem WO.nil {st:St} {tr:List Tr} {Q:St->List Tr->Prop} (h:Q st tr):WO F [] st tr Q:=⟨0,_,_,rfl,h⟩
theorem WO.op {o:bG} {r:List bG} {st:St} {tr:List Tr} {Q:St->List Tr->Prop} (x:nL)
 (hw:wanted o.guard st.env=ahQ ahV) (hx: ∀rec,xb F rec st.env st.aA st.fz o.op=ahQ (.loc x)) (z7:(XR.loc x).ok st.fz=ahV)
 (h:WO F r ((XR.loc x).next o.dst st) ((XR.loc x).tr (ahP st.aA)::tr) Q):WO F (o::r) st tr Q:=by
 obtain ⟨n,s,t,he,hq⟩:=h;exact ⟨n,s,t,by simp only [mB,hw,hx,z7,if_true,he],hq⟩
theorem WO.skip {o:bG} {r:List bG} {st:St} {tr:List Tr} {Q:St->List Tr->Prop}
 (hw:wanted o.guard st.env=ahQ ahW)
 (h:WO F r {st with env:=iK o.dst .js st.env} (Tr.idle::tr) Q):WO F (o::r) st tr Q:=by
 obtain ⟨n,s,t,he,hq⟩:=h;exact ⟨n,s,t,by simp only [mB,hw,he],hq⟩
theorem WO.call {o:bG} {r:List bG} {st:St} {tr:List Tr} {Q:St->List Tr->Prop} (x:XR)
 (hw:wanted o.guard st.env=ahQ ahV) (hx: ∃n,xb F (run F n) st.env st.aA st.fz o.op=ahQ x) (z7:x.ok st.fz=ahV)
 (h:WO F r (x.next o.dst st) (x.tr (ahP st.aA)::tr) Q):WO F (o::r) st tr Q:=by
 obtain ⟨n,s,t,he,hq⟩:=h;obtain ⟨m,hx⟩:=hx;refine ⟨max n m,s,t,?_,hq⟩;simp only [mB,hw];rw [JD (.refl _ _) (qc F (acF n m)) hx];dsimp only;rw [lm z7];exact Es (.refl _ _) (qc F (agN n m)) _ _ _ _ he
theorem WP.loop {α:Type} {live:List (Nat×Option Nat)} {b:jl} {st:St} {Q:gS->St->Prop} (S:α->St) (I:α->Prop) (μ:α->Nat)
 (x:α) (h0:norm live st=ahQ (S x)) (hI:I x)
 (round: ∀x,I x->WP F b (S x) (andThen (fun s=> ∃y,norm live s=ahQ (S y)/\I y/\μ y<μ x) Q)):WP F (.loop live b) st Q:=by
 have key: ∀k x st,μ x=k->I x->norm live st=ahQ (S x)-> ∃n e s,run F n (.loop live b st)=ahQ (.code e s)/\Q e s:=by
  intro k
  induction k using Nat.strongRecOn with
  |_ k ih=>
   intro x st hk hI h0;obtain ⟨n,e,s,he,hq⟩:=round x hI;cases e with
   |normal=>obtain ⟨y,hy,hIy,c7⟩:=hq;obtain ⟨m,e',s',hr,QT⟩:=ih (μ y) (hk▸c7) y s rfl hIy hy;refine ⟨max n m+1,e',s',?_,QT⟩;rw [kr];simp only [step,h0];rw [p9 (.refl _ _) (qc F (agN n m)) _ _ _ he];exact qc F (acF n m) _ _ hr
   |exit i=>exact ⟨n+1,_,s,by rw [kr];simp only [step,h0,he],hq⟩
   |ret=>exact ⟨n+1,_,s,by rw [kr];simp only [step,h0,he],hq⟩
 obtain ⟨n,e,s,hr,hq⟩:=key _ x st rfl hI h0;exact ⟨n,e,s,by simp only [sU,hr],hq⟩
def H4 (x:aK) (R:PV->bS->List Nat->Prop):gS->St->Prop
 | .normal,s=> ∃vs,nN s x.res=ahQ vs/\R (results1 vs) s.aA s.fz
 | .ret,s=> ∃vs,nN s x.res=ahQ vs/\R (results1 vs) s.aA s.fz
 | .exit _,_=>False
def z8 (F:kQ) (f:FuncId) (args:List PV) (aA:bS) (fz:List Nat) (R:PV->bS->List Nat->Prop):Prop:=
 ∃n v s z,run F n (.func f args aA fz)=ahQ (.func v s z)/\R v s z
theorem z8.of {f:FuncId} {x:aK} {args:List PV} {aA:bS} {fz:List Nat} {R:PV->bS->List Nat->Prop}
 (hf:F f=ahQ (.code x)) (hn:EQ (ahP args) x.Db=ahV)
 (h:WP F x.code {env:=uK 0 args,aA,fz,kn:=ahP aA} (H4 x R)):z8 F f args aA fz R:=by
 obtain ⟨n,e,s,he,hq⟩:=h;cases e with
 |normal=>obtain ⟨vs,hv,hr⟩:=hq;exact ⟨n+1,_,_,_,by rw [kr];simp only [step,hf,hn,he,hv,if_true];rfl,hr⟩
 |ret=>obtain ⟨vs,hv,hr⟩:=hq;exact ⟨n+1,_,_,_,by rw [kr];simp only [step,hf,hn,he,hv,if_true];rfl,hr⟩
 |exit i=>exact hq.elim
def Pure (F:kQ) (f:FuncId) (args:List PV) (v:PV):Prop:=
 (∀k p,F f≠ahQ (.ja k p))/\z8 F f args [] [] fun u _ _=>u.jB=ahV/\u=v
def NC (F:kQ) (f:FuncId) (args:List PV) (v:PV):Prop:=
 (∀k p,F f≠ahQ (.ja k p))/\z8 F f args [] [] fun u s _=>u.jB=ahW/\xz s u=ahQ v
theorem Pure.of {f:FuncId} {x:aK} {args:List PV} {v:PV}
 (hf:F f=ahQ (.code x)) (hn:EQ (ahP args) x.Db=ahV)
 (h:WP F x.code {env:=uK 0 args,aA:=[],fz:=[],kn:=0} (H4 x fun u _ _=>u.jB=ahV/\u=v)):
 Pure F f args v:=⟨fun k p e=>by (rw [hf] at e;cases e),z8.of hf hn h⟩
theorem NC.of {f:FuncId} {x:aK} {args:List PV} {v:PV}
 (hf:F f=ahQ (.code x)) (hn:EQ (ahP args) x.Db=ahV)
 (h:WP F x.code {env:=uK 0 args,aA:=[],fz:=[],kn:=0} (H4 x fun u s _=>u.jB=ahW/\xz s u=ahQ v)):
 NC F f args v:=⟨fun k p e=>by (rw [hf] at e;cases e),z8.of hf hn h⟩
theorem Pure.cz {f:FuncId} {as args:List PV} {aA:bS} {fz:List Nat} {v:PV} (h:Pure F f args v)
 (ha:B6 aA (xq aA deep) as=ahQ args):
 ∃n,Vm.cz F (run F n) ahW f as aA fz=ahQ {v,rd:=cT (cK aA deep) as}:=by
 obtain ⟨hp,n,u,s,z,hr,h1,h2⟩:=h;subst h2;refine ⟨n,?_⟩;simp only [Vm.cz,ha];cases hf:F f with
 |none=>simp [hr,h1]
 |some en=>
  cases en with
  |ja k p=>exact absurd hf (hp k p)
  |code x=>simp [hr,h1]
  |O6 x=>simp [hr,h1]
theorem NC.cz {f:FuncId} {as args:List PV} {aA:bS} {fz:List Nat} {v:PV} (h:NC F f args v)
 (ha:B6 aA (xq aA deep) as=ahQ args):
 ∃n,Vm.cz F (run F n) ahW f as aA fz=ahQ {v,rd:=cT (cK aA deep) as,fr:=cT (cK aA deep) as}:=by
 obtain ⟨hp,n,u,s,z,hr,h1,h2⟩:=h;refine ⟨n,?_⟩;simp only [Vm.cz,ha];cases hf:F f with
 |none=>simp [hr,h1,h2]
 |some en=>
  cases en with
  |ja k p=>exact absurd hf (hp k p)
  |code x=>simp [hr,h1,h2]
  |O6 x=>simp [hr,h1,h2]
theorem WO.pure {d:Option Nat} {g:Option (Nat×Bool)} {f:FuncId} {as:List fc} {r:List bG} {st:St} {tr:List Tr} {Q:St->List Tr->Prop}
 {args:List PV} {v:PV} (h:Pure F f args v)
 (hw:wanted g st.env=ahQ ahV) (ha:B6 st.aA (xq st.aA deep) (Ek st.env as)=ahQ args)
 (k:WO F r ((XR.loc {v,rd:=cT (cK st.aA deep) (Ek st.env as)}).next d st) ((XR.loc {v,rd:=cT (cK st.aA deep) (Ek st.env as)}).tr (ahP st.aA)::tr) Q):
 WO F (⟨d,.call .Ur f as,g⟩::r) st tr Q:=by
 obtain ⟨n,hn⟩:=h.cz (fz:=st.fz) ha;exact WO.call _ hw ⟨n,by simp only [xb,hn];rfl⟩ rfl k
end Go.Vm
/- The look at an operation of the model: is the logical machine's operation its own? -/
namespace Go.Vm
mutual
def tV:PV->Value->Bool
 | .int k n,.int l m=>eX k l&&n==m
 | .bool a,.bool b=>a==b
 | .sl _ _ [],.slice ahR 0 0=>ahV
 | .agg cs,.agg vs=>Et cs vs.toList
 | .dC,.nilFunc=>ahV
 | .str s,.string t=>s.data.toList==t.data.toList
 | .undef,_=>ahV
 |_,_=>ahW
def Et:List PV->List Value->Bool
 | [],[]=>ahV
 |x::xs,v::vs=>tV x v&&Et xs vs
 |_,_=>ahW
end
def bn:fc->Operand->Bool
 | .t n,.tmp m=>n==m
 | .c v,.const u=>tV v u
 | .c (.eA f [] []),.func g=>f==g
 | .c .undef,_=>ahV
 |_,_=>ahW
def eB:List fc->List Operand->Bool
 | [],[]=>ahV
 |x::xs,o::os=>bn x o&&eB xs os
 |_,_=>ahW
def H5:Option fc->Option Operand->Bool
 |none,ahR=>ahV
 |some x,ahQ o=>bn x o
 |_,_=>ahW
section
variable (P : Program)
def gO (t:TypeId):Bool:=
 match P.underlying t with
 |some (.struct _)|some (.array _ _)=>ahV
 |_=>ahW
def oC (t:TypeId) (n:Nat):Bool:=(P.info? t).any fun i=>i.size==n
def DY (t:TypeId):Bool:=(P.info? t).any fun i=>aa5 i.bytes 1048576
def AY (t:TypeId) (agg:Option Nat):Bool:=
 (P.underlying t).isSome&&match agg with
 |some n=>gO P t&&oC P t n
 |none=>!gO P t&&oC P t 1
def yL (t:TypeId) (esz:Nat):Bool:=
 match P.underlying t with
 |some (.slice e)=>oC P e esz
 |_=>ahW
def rW (t:TypeId):Bool:=
 match P.underlying t with
 |some (.slice _)=>ahV
 |_=>ahW
def ND (t:TypeId) (n esz:Nat):Bool:=
 match P.underlying t with
 |some (.array m e)=>m==n&&oC P e esz
 |_=>ahW
def tX (t:TypeId) (cells:List PV):Bool:=
 match (P.info? t).bind (·.zero) with
 |some v=>Et cells v.cells.toList
 |none=>ahW
def flat:Nat->TypeId->Option Nat
 |0,_=>ahR
 |d+1,t=>
  match P.underlying t with
  |some (.int _)=>if oC P t 1 then ahQ 1 else ahR
  |some (.struct fs)=>
   if P.stoodInHeld t then ahR else
   match fs.toList.foldl (fun r f=>match r with
    |some n=>if f.offset==n&&f.name != "_" then (match flat d f.type with
     |some m=>if oC P f.type m then ahQ (n+m) else ahR
     |none=>ahR) else ahR
    |none=>ahR) (ahQ 0) with
   |some n=>if oC P t n then ahQ n else ahR
   |none=>ahR
  |_=>ahR
def uL (place:Nat->Option (Nat×Nat)):List (Nat×Nat×fc)->List (Nat×Operand)->Bool
 | [],[]=>ahV
 |(off,sz,x)::r,(i,o)::s=>(match place i with|some (a,b)=>a==off&&b==sz|none=>ahW)&&bn x o&&uL place r s
 |_,_=>ahW
def nj:List (Nat×fc)->List (Nat×Operand)->Bool
 | [],[]=>ahV
 |(i,x)::r,(j,o)::s=>i==j&&bn x o&&nj r s
 |_,_=>ahW
def placeOf (t:TypeId):Nat->Option (Nat×Nat):=
 match P.underlying t with
 |some (.struct fs)=>fun i=>(fs[i]?).bind fun f=>(P.info? f.type).map fun j=>(f.offset,j.size)
 |some (.array _ e)=>fun i=>(P.info? e).map fun j=>(i*j.size,j.size)
 |_=>fun _=>ahR
def xI (t:TypeId) (n:Option Nat):Bool:=
 match n with
 |none=>(match P.underlying t with|some (.int _)=>ahV|_=>ahW)
 |some n=>gO P t&&flat P 100 t==ahQ n
def UH (f:FuncId):Bool:=(P.funcs[f]?).any fun fn=>fn.body.isSome&&!(fn.name== "runtime.NumGoroutine")
def xf (prims:FuncId->Bool) (ty:TypeId):kO->Op->Bool
 | .QS x,.move o=>bn x o
 | .QS x,.assign o=>bn x o
 | .pick c a b,.pick d e f=>bn c d&&bn a e&&bn b f
 | .bin op x y,.binOp op' _ a b _=>op==op'&&bn x a&&bn y b
 | .Jt neg x y,.binOp op t a b _=>(if neg then op== .neq else op== .eql)&&P.underlying t matches ahQ .bool&&bn x a&&bn y b
 | .eqc n neg x y,.binOp op t a b _=>(if neg then op== .neq else op== .eql)&&gO P t&&flat P 100 t==ahQ n&&!P.eqGuardType P.depth t&&bn x a&&bn y b
 | .un op x,.unOp op' _ a=>op==op'&&bn x a
 | .conv k x,.convert s d a=>(P.underlying s).isSome&&(match P.underlying d with|some (.int l)=>eX k l|_=>ahW)&&bn x a
 | .len x,.call {callee:= .builtin .len,args,argTypes}=>(match argTypes[0]? with|some t=>rW P t|none=>ahW)&&eB [x] args.toList
 | .LQ n,.call {callee:= .builtin .len,args,argTypes}=>!args.isEmpty&&(match argTypes[0]? with
  |some t=>(match P.underlying t with
   |some (.array m _)=>m==n
   |some (.pointer e)=>(match P.underlying e with|some (.array m _)=>m==n|_=>ahW)
   |_=>ahW)
  |none=>ahW)
 | .box x,.box _ a=>bn x a
 | .alloc cells,.alloc t=>tX P t cells
 | .build zero parts,.build t ps=>tX P t zero&&gO P t&&uL (placeOf P t) parts ps.toList
  &&(match P.underlying t with|some (.struct fs)=>fs.all fun f=>(P.info? f.type).isSome|some (.array _ e)=>(P.info? e).isSome|_=>ahW)
 | .AW esz n zero parts,.buildSlice t m ps=>n==m&&(match P.underlying t with|some (.slice e)=>oC P e esz&&tX P e zero&&(ahP zero)==esz&&!(esz==0)|_=>ahW)&&aa5 (n*esz) 1048576&&zero.all PV.plain&&nj parts ps.toList
 | .load agg p,.load t a=>AY P t agg&&bn p a
 | .store sz p v,.store t a b=>oC P t sz&&bn p a&&bn v b
 | .Ju x,.nilCheck a=>bn x a
 | .Jv off p,.fieldAddr t a f=>(match P.underlying t with
  |some (.struct fs)=>(match fs[f]? with|some g=>g.offset==off&&(P.info? g.type).any fun i=>!(i.size==0)|none=>ahW)
  |_=>ahW)&&bn p a
 | .lq agg off x,.field t a f=>(match P.underlying t with
  |some (.struct fs)=>(match fs[f]? with|some g=>g.offset==off&&AY P g.type agg|none=>ahW)
  |_=>ahW)&&bn x a
 | .Jw esz x i,.indexAddr t a j=>yL P t esz&&bn x a&&bn i j
 | .Da n esz p i,.indexAddr t a j=>ND P t n esz&&bn p a&&bn i j
 | .idx n esz agg x i,.index t a j=>(match P.underlying t with|some (.array m e)=>m==n&&oC P e esz&&AY P e agg|_=>ahW)&&bn x a&&bn i j
 | .Jx x i,.index t a j=>P.underlying t matches ahQ .string&&bn x a&&bn i j
 | .O5 esz x l h m,.slice t a b c d=>(m.isNone||h.isSome)&&yL P t esz&&bn x a&&H5 l b&&H5 h c&&H5 m d
 | .mks esz zero l c,.makeSlice t a b=>(match P.underlying t with|some (.slice e)=>oC P e esz&&tX P e zero&&(ahP zero)==esz&&DY P e&&!(esz==0)|_=>ahW)&&zero.all PV.plain&&bn l a&&bn c b
 | .mkf fn a b,.makeFunc (.func g) c d=>fn==g&&eB a c.toList&&eB b d.toList
 | .mkm _,.makeMap _ ahR=>ahV
 | .ext i x,.extract a j=>i==j&&bn x a
 | .append esz x y,.call {callee:= .builtin .append,args,argTypes}=>(match argTypes.toList with
  | [t,u]=>(match P.underlying t with|some (.slice e)=>oC P e esz&&DY P e&&!(esz==0)&&(P.info? e).any (fun i=>i.zero.any fun z=>z.cells.size==esz)|_=>ahW)&&rW P u
  |_=>ahW)&&eB [x,y] args.toList
 | .lookup n zero ok m k,.lookup t a b ok'=>ok==ok'&&(match P.underlying t with|some (.map kt et)=>xI P kt n&&(match (P.info? et).bind (·.zero) with|some v=>tV zero v|none=>ahW)|_=>ahW)&&bn m a&&bn k b
 | .HZ n m k v,.mapUpdate t a b c=>(match P.underlying t with|some (.map kt _)=>xI P kt n|_=>ahW)&&bn m a&&bn k b&&bn v c
 | .copy esz x y,.call {callee:= .builtin .copy,args,argTypes}=>(match argTypes.toList with| [t,u]=>yL P t esz&&rW P u|_=>ahW)&&eB [x,y] args.toList
 | .clear esz zero x,.call {callee:= .builtin .clear,args,argTypes}=>(match argTypes.toList with
  | [t]=>(match P.underlying t with|some (.slice e)=>oC P e esz&&tX P e zero&&(ahP zero)==esz&&zero.all PV.plain|_=>ahW)
  |_=>ahW)&&eB [x] args.toList
 | .mm isMax x xs,.call {callee:= .builtin b,args,argTypes:=_}=>(if isMax then b== .max else b== .min)&&eB (x::xs) args.toList
 | .call _ f args,.call {callee:= .value (.func g),args:=as,argTypes:=_}=>f==g&&(prims f||UH P f)&&eB args as.toList
 | .w9 x args,.call {callee:= .value (.tmp t),args:=as,argTypes:=_}=>bn x (.tmp t)&&eB args as.toList
 | .C' x y,.buildSlice t m ps=>m==2&&(match P.underlying t with|some (.slice e)=>oC P e 1&&(P.info? e).any (fun i=>i.zero.any fun z=>z.cells.size==1)|_=>ahW)&&(match ps.toList with| [(i,a),(j,b)]=>i==0&&j==1&&bn x a&&bn y b|_=>ahW)
 | .HZ n m k v,.insert t a b c=>(match P.underlying t with|some (.map kt _)=>xI P kt n|_=>ahW)&&bn m a&&bn k b&&bn v c
 | .bad,_=>ahV
 |_,_=>ty==0&&ahW
end
end Go.Vm
/- What a pure value says of a value of the model, a block of the call's own of the memory. -/
namespace Go.Vm
structure Tape (w w':World):Prop where
 eq:w'.tape=w.tape
 dr:w.drawn<=w'.drawn
theorem Tape.refl (w:World):Tape w w:=⟨rfl,Do _⟩
theorem Tape.trans {a b c:World} (h2:Tape b c) (h1:Tape a b):Tape a c:=⟨h2.eq.trans h1.eq,Nat.le_trans h1.dr h2.dr⟩
theorem Tape.same {w w':World} (h:w'.tape=w.tape) (k:w'.drawn=w.drawn):Tape w w':=⟨h,by rw [k];exact Do _⟩
structure LI where
 cZ:Nat
 sh:Nat
 esz:Nat
 n:Nat
 sz:Nat
abbrev Im:=Nat->Option Obj
abbrev Loc:=Nat->Option LI
def mv (im:Im) (b o:Nat):Option Value:=
 match im b with
 |some (.cells c _ _)=>c[o]?
 |_=>ahR
def hJ:PV->Option Value
 | .int k n=>ahQ (.int k n)
 | .bool b=>ahQ (.bool b)
 | .str s=>ahQ (.string s)
 |_=>ahR
def bz (get:Nat->Option Value) (sh esz:Nat) (rows:List Row):Prop:=
 ∀(i:Nat) (r:Row),rows[i]? =ahQ r->ahP r=esz/\ ∀(j:Nat) (c:PV),r[j]? =ahQ c-> ∃v,hJ c=ahQ v/\get (sh+i*esz+j)=ahQ v
mutual
inductive VR (im:Im) (loc:Loc):PV->Value->Prop
 |undef (v:Value):VR im loc .undef v
 |js:VR im loc .js Go.undef
 |int (k:IntKind) (n:Int):VR im loc (.int k n) (.int k n)
 |bool (b:Bool):VR im loc (.bool b) (.bool b)
 |str (s:ByteArray):VR im loc (.str s) (.string s)
 |agg (cs:List PV) (vs:List Value) (h:eD im loc cs vs):VR im loc (.agg cs) (.agg ⟨vs⟩)
 |bN (cs:List PV) (vs:List Value) (h:eD im loc cs vs):VR im loc (.bN cs) (.tuple ⟨vs⟩)
 |sl (esz:Nat) (qF:Bool) (rows:List Row) (a:Option Addr) (cap:Nat) (hc:(ahP rows)<=cap) (hk:qF=ahV->cap=ahP rows)
  (h:rows≠[]-> ∃b o,a=ahQ ⟨b,o,ahR⟩/\bz (mv im b) o esz rows):VR im loc (.sl esz qF rows) (.slice a (ahP rows) cap)
 |own (t esz off len cap:Nat) (ex:Bool) (li:LI) (a:Option Addr) (cB:Nat) (hl:loc t=ahQ li) (he:li.esz=esz) (hn:off+cap<=li.n) (hc:len<=cap)
  (hx:cap<=cB) (hk:ex=ahV->cB=cap)
  (h:cB=0\/(li.n≠0/\a=ahQ ⟨li.cZ,li.sh+off*esz,ahR⟩/\li.sh+(off+cB)*esz<=li.sz)):VR im loc (.own t esz off len cap ex) (.slice a len cB)
 |ptr (t esz row off:Nat) (li:LI) (hl:loc t=ahQ li) (he:li.esz=esz) (hn:row<li.n):
  VR im loc (.ptr t esz row off) (.pointer (ahQ ⟨li.cZ,li.sh+row*esz+off,ahR⟩))
 |bw (cs:List PV) (off b o:Nat) (vs:List Value) (h:eD im loc cs vs) (hv: ∀(j:Nat) (v:Value),vs[j]? =ahQ v->mv im b (o+j)=ahQ v):
  VR im loc (.bw cs off) (.pointer (ahQ ⟨b,o+off,ahR⟩))
 |mp (t:Nat) (li:LI) (hl:loc t=ahQ li):VR im loc (.mp t) (.map (ahQ li.cZ))
 |eA (fn:FuncId) (a b:List PV) (as bs:List Value) (ha:eD im loc a as) (hb:eD im loc b bs):VR im loc (.eA fn a b) (.func (.func fn) ⟨as⟩ ⟨bs⟩)
 |dC:VR im loc .dC .nilFunc
inductive eD (im:Im) (loc:Loc):List PV->List Value->Prop
 |nil:eD im loc [] []
 |cons (x:PV) (v:Value) (xs:List PV) (vs:List Value) (h:VR im loc x v) (hs:eD im loc xs vs):eD im loc (x::xs) (v::vs)
end
def nO (im dT:Im):Prop:= ∀b o,im b=ahQ o->dT b=ahQ o
def mn (loc ba:Loc):Prop:= ∀t li,loc t=ahQ li->ba t=ahQ li
theorem nO.refl (im:Im):nO im im:=fun _ _ h=>h
theorem nO.trans {a b c:Im} (h:nO a b) (k:nO b c):nO a c:=fun x o e=>k x o (h x o e)
theorem mn.refl (loc:Loc):mn loc loc:=fun _ _ h=>h
theorem mn.trans {a b c:Loc} (h:mn a b) (k:mn b c):mn a c:=fun x o e=>k x o (h x o e)
theorem nO.cell {im dT:Im} (h:nO im dT) {b o:Nat} {v:Value} (hc:mv im b o=ahQ v):mv dT b o=ahQ v:=by
 unfold mv at hc ⊢;cases hb:im b with
 |none=>rw [hb] at hc;cases hc
 |some x=>rw [hb] at hc;rw [h b x hb];exact hc
theorem bz.mono {g g':Nat->Option Value} {sh esz:Nat} {rows:List Row} (h:bz g sh esz rows) (hg: ∀k v,g k=ahQ v->g' k=ahQ v):
 bz g' sh esz rows:=by
 intro i r hr;obtain ⟨h1,h2⟩:=h i r hr;exact ⟨h1,fun j c hc=>let ⟨v,hv,hw⟩:=h2 j c hc;⟨v,hv,hg _ _ hw⟩⟩
mutual
theorem VR.mono {im dT:Im} {loc ba:Loc} (hi:nO im dT) (hl:mn loc ba): ∀{x:PV} {v:Value},VR im loc x v->VR dT ba x v
 |_,_,.undef v=> .undef v
 |_,_,.js=> .js
 |_,_,.int k n=> .int k n
 |_,_,.bool b=> .bool b
 |_,_,.str s=> .str s
 |_,_,.agg cs vs h=> .agg cs vs (eD.mono hi hl h)
 |_,_,.bN cs vs h=> .bN cs vs (eD.mono hi hl h)
 |_,_,.sl esz qF rows a cap hc hk h=> .sl esz qF rows a cap hc hk fun dM=>let ⟨b,o,ha,hr⟩:=h dM;⟨b,o,ha,hr.mono fun _ _ e=>hi.cell e⟩
 |_,_,.own t esz off len cap ex li a cB h1 h2 h3 h4 h5 h6 h7=> .own t esz off len cap ex li a cB (hl _ _ h1) h2 h3 h4 h5 h6 h7
 |_,_,.ptr t esz row off li h1 h2 h3=> .ptr t esz row off li (hl _ _ h1) h2 h3
 |_,_,.bw cs off b o vs h hv=> .bw cs off b o vs (eD.mono hi hl h) fun j v e=>hi.cell (hv j v e)
 |_,_,.mp t li h=> .mp t li (hl _ _ h)
 |_,_,.eA fn a b as bs ha hb=> .eA fn a b as bs (eD.mono hi hl ha) (eD.mono hi hl hb)
 |_,_,.dC=> .dC
theorem eD.mono {im dT:Im} {loc ba:Loc} (hi:nO im dT) (hl:mn loc ba): ∀{x:List PV} {v:List Value},eD im loc x v->eD dT ba x v
 |_,_,.nil=> .nil
 |_,_,.cons x v xs vs h hs=> .cons x v xs vs (VR.mono hi hl h) (eD.mono hi hl hs)
end
theorem eD.mU {im:Im} {loc:Loc}: ∀{x:List PV} {v:List Value},eD im loc x v->ahP x=ahP v
 |_,_,.nil=>rfl
 |_,_,.cons _ _ _ _ _ hs=>by simp [hs.mU]
theorem eD.get {im:Im} {loc:Loc}: ∀{xs:List PV} {vs:List Value},eD im loc xs vs-> ∀(i:Nat) (x:PV),xs[i]? =ahQ x-> ∃v,vs[i]? =ahQ v/\VR im loc x v
 |_,_,.nil,i,x,h=>by simp at h
 |_,_,.cons y v xs vs h hs,0,x,e=>by simp at e;subst e;exact ⟨v,rfl,h⟩
 |_,_,.cons y v xs vs h hs,i+1,x,e=>by obtain ⟨u,hu,hr⟩:=hs.get i x (by simpa using e);exact ⟨u,by simpa using hu,hr⟩
theorem eD.append {im:Im} {loc:Loc}: ∀{xs:List PV} {vs:List Value},eD im loc xs vs-> ∀{ys:List PV} {us:List Value},eD im loc ys us->eD im loc (xs++ys) (vs++us)
 |_,_,.nil,_,_,k=>k
 |_,_,.cons y v xs vs h hs,_,_,k=> .cons _ _ _ _ h (hs.append k)
theorem eD.take {im:Im} {loc:Loc}: ∀{xs:List PV} {vs:List Value},eD im loc xs vs-> ∀n,eD im loc (xs.take n) (vs.take n)
 |_,_,.nil,n=>by simp;exact .nil
 |_,_,.cons y v xs vs h hs,0=> .nil
 |_,_,.cons y v xs vs h hs,n+1=> .cons _ _ _ _ h (hs.take n)
theorem eD.drop {im:Im} {loc:Loc}: ∀{xs:List PV} {vs:List Value},eD im loc xs vs-> ∀n,eD im loc (xs.drop n) (vs.drop n)
 |_,_,.nil,n=>by simp;exact .nil
 |_,_,.cons y v xs vs h hs,0=> .cons _ _ _ _ h hs
 |_,_,.cons y v xs vs h hs,n+1=>hs.drop n
theorem eD.of {im:Im} {loc:Loc}: ∀(xs:List PV) (vs:List Value),ahP xs=ahP vs->(∀(i:Nat) (x:PV) (v:Value),xs[i]? =ahQ x->vs[i]? =ahQ v->VR im loc x v)->eD im loc xs vs
 | [],[],_,_=> .nil
 |x::xs,v::vs,hl,h=> .cons x v xs vs (h 0 x v rfl rfl) (eD.of xs vs (by simpa using hl) fun i a b ha hb=>h (i+1) a b (by simpa using ha) (by simpa using hb))
theorem VR.plain {im:Im} {loc:Loc} {x:PV} {v:Value} (h:VR im loc x v) (hp:x.plain=ahV):hJ x=ahQ v:=by cases h<;>first|rfl|cases hp
theorem VR.AZ {im:Im} {loc:Loc} {x:PV} {v:Value} (h:hJ x=ahQ v):VR im loc x v:=by cases x<;>simp only [hJ,pp] at h<;>first|(subst h;constructor)|cases h
theorem VR.cells {im:Im} {loc:Loc} {x:PV} {v:Value} (h:VR im loc x v) (hs: ∀c∈x.cells,c.p7=ahV):eD im loc x.cells v.cells.toList:=by
 have one: ∀{y:PV} {u:Value},VR im loc y u->y.p7=ahV->(∀us,u≠ .agg us):=by intro y u hy ho us e;subst e;cases hy<;>cases ho
 cases h with
 |agg cs vs h=>exact h
 |undef v=>have:=hs .undef (by simp [PV.cells]);cases this
 |js=>have:=hs .js (by simp [PV.cells]);cases this
 |bN cs vs h=>have:=hs (.bN cs) (by simp [PV.cells]);cases this
 |int k n=>exact .cons _ _ _ _ (.int k n) .nil
 |bool b=>exact .cons _ _ _ _ (.bool b) .nil
 |str s=>exact .cons _ _ _ _ (.str s) .nil
 |sl esz qF rows a cap hc hk h=>exact .cons _ _ _ _ (.sl esz qF rows a cap hc hk h) .nil
 |own t esz off len cap ex li a cB h1 h2 h3 h4 h5 h6 h7=>exact .cons _ _ _ _ (.own t esz off len cap ex li a cB h1 h2 h3 h4 h5 h6 h7) .nil
 |ptr t esz row off li h1 h2 h3=>exact .cons _ _ _ _ (.ptr t esz row off li h1 h2 h3) .nil
 |bw cs off b o vs h hv=>exact .cons _ _ _ _ (.bw cs off b o vs h hv) .nil
 |mp t li h=>exact .cons _ _ _ _ (.mp t li h) .nil
 |eA fn a b as bs ha hb=>exact .cons _ _ _ _ (.eA fn a b as bs ha hb) .nil
 |dC=>exact .cons _ _ _ _ .dC .nil
theorem VR.H6 {im:Im} {loc:Loc} {x:PV} {v:Value} (h:VR im loc x v) (hs:x.p7=ahV):(∀us,v≠ .agg us)/\ ∀us,v≠ .tuple us:=by cases h<;>first|(simp [PV.p7] at hs;done)|simp
def valOf:PV->Option Value
 | .agg cs=>(cs.mapM hJ).map fun vs=> .agg ⟨vs⟩
 |x=>hJ x
def fh:List (PV×PV)->List MapEntry->Prop
 | [],[]=>True
 |(k,v)::r,e::r'=>valOf k=ahQ e.key/\valOf v=ahQ e.val/\fh r r'
 |_,_=>False
def BR (im:Im) (loc:Loc) (w:World) (li:LI):jQ->Prop
 | .arr e rows=>li.esz=e/\li.n=ahP rows/\(rows≠[]-> ∃cs el,w.heap[li.cZ]? =ahQ (.cells cs el (0,0))/\cs.size=li.sz/\li.sh+ahP rows*e<=li.sz/\bz (fun k=>cs[k]?) li.sh e rows)
 | .box cells=>(li.esz=ahP cells/\li.n=1\/li.esz=1/\li.n=ahP cells)/\True/\li.sh=0/\ ∃vs el,w.heap[li.cZ]? =ahQ (.cells ⟨vs⟩ el (0,0))/\ahP vs=li.sz/\eD im loc cells vs
 | .map es=> ∃kS clock,w.heap[li.cZ]? =ahQ (.map kS clock)/\fh es kS.toList
 | .dead=>True
theorem BR.mono {im dT:Im} {loc ba:Loc} {w w':World} {li:LI} {k:jQ} (h:BR im loc w li k) (hi:nO im dT) (hl:mn loc ba)
 (hw:w'.heap[li.cZ]? =w.heap[li.cZ]?):BR dT ba w' li k:=by
 cases k with
 |arr e rows=>exact ⟨h.1,h.2.1,fun dM=>let ⟨cs,el,h1,h2,h3⟩:=h.2.2 dM;⟨cs,el,by rw [hw];exact h1,h2,h3⟩⟩
 |box cells=>obtain ⟨h1,h2,h3,vs,el,h4,h5,h6⟩:=h;exact ⟨h1,h2,h3,vs,el,by rw [hw];exact h4,h5,h6.mono hi hl⟩
 |map es=>obtain ⟨en,cl,h1,h2⟩:=h;exact ⟨en,cl,by rw [hw];exact h1,h2⟩
 |dead=>trivial
theorem BR.lt {im:Im} {loc:Loc} {w:World} {li:LI} {k:jQ} (h:BR im loc w li k) (hs:k.bB=ahV):li.cZ<w.heap.size:=by
 have get: ∀{o:Obj},w.heap[li.cZ]? =ahQ o->li.cZ<w.heap.size:=fun e=>by
  rcases aa2 li.cZ w.heap.size with h|h
  · exact h
  simp [ag7 h] at e
 cases k with
 |arr e rows=>
  cases rows with
  |nil=>cases hs
  |cons r rs=>obtain ⟨cs,el,h1,_⟩:=h.2.2 (by simp);exact get h1
 |box cells=>obtain ⟨_,_,_,vs,el,h4,_⟩:=h;exact get h4
 |map es=>obtain ⟨en,cl,h1,h2⟩:=h;exact get h1
 |dead=>cases hs
structure SR (im:Im) (loc:Loc) (aA:bS) (fz:List Nat) (w:World):Prop where
 bu: ∀b o,im b=ahQ o->w.heap[b]? =ahQ o
 cZ: ∀t li,loc t=ahQ li-> ∃k,aA[t]? =ahQ k/\BR im loc w li k
 iE: ∀t u li lj k k',loc t=ahQ li->loc u=ahQ lj->aA[t]? =ahQ k->aA[u]? =ahQ k'->k.bB=ahV->k'.bB=ahV->li.cZ=lj.cZ->t=u
 free: ∀t li k,loc t=ahQ li->aA[t]? =ahQ k->k.bB=ahV->has fz t=ahW->im li.cZ=ahR
def ER (im:Im) (loc:Loc) (e:Env) (tmps:Array Value):Prop:= ∀t,VR im loc (lk t e) (tmps.getD t Go.undef)
theorem ER.mono {im dT:Im} {loc ba:Loc} (hi:nO im dT) (hl:mn loc ba) {e:Env} {tmps:Array Value} (h:ER im loc e tmps):ER dT ba e tmps:=
 fun t=>(h t).mono hi hl
theorem qZ (t s:Nat) (v:PV) (e:Env):lk t ((s,v)::e)=if s=t then v else lk t e:=by
 simp only [lk]
 by_cases h:s=t<;>simp [h]
theorem ER.put {im:Im} {loc:Loc} {e:Env} {tmps:Array Value} (h:ER im loc e tmps) {d:Nat} {x:PV} {v:Value} (hd:d<tmps.size) (hv:VR im loc x v):
 ER im loc ((d,x)::e) (tmps.setIfInBounds d v):=by
 intro t;rw [qZ]
 by_cases hdt:d=t
 · subst hdt
   simpa [hd] using hv
 rw [ls hdt]
 have:=h t;simpa [aa8,hdt] using this
end Go.Vm
/- Renaming the blocks. -/
namespace Go.Vm
theorem yM {t:Nat}: ∀{m:List Nat} {u:Nat},idxOf t m=ahQ u->m[u]? =ahQ t
 | [],u,h=>by simp [idxOf] at h
 |s::r,u,h=>by
  simp only [idxOf] at h;split at h
  · rename_i e
    injection h with h;subst h;have:s=t:=by simpa using e
    simp [this]
  rw [v6] at h
  obtain ⟨v,hv,rfl⟩:=h;simpa using yM hv
section
variable {im : Im} {loc cO : Loc} {m : List Nat}
def Ren (m:List Nat) (loc cO:Loc):Prop:= ∀(u t:Nat),m[u]? =ahQ t->cO u=loc t
mutual
theorem Q6 (hm:Ren m loc cO): ∀{x y:PV} {v:Value},VR im loc x v->vB m x=ahQ y->VR im cO y v
 | .undef,y,v,h,hr=>by simp only [vB,pp] at hr;subst hr;exact .undef _
 | .js,y,v,h,hr=>by simp only [vB,pp] at hr;subst hr;cases h;exact .js
 | .int k n,y,v,h,hr=>by simp only [vB,pp] at hr;subst hr;cases h;exact .int _ _
 | .bool b,y,v,h,hr=>by simp only [vB,pp] at hr;subst hr;cases h;exact .bool _
 | .str b,y,v,h,hr=>by simp only [vB,pp] at hr;subst hr;cases h;exact .str _
 | .dC,y,v,h,hr=>by simp only [vB,pp] at hr;subst hr;cases h;exact .dC
 | .agg cs,y,v,h,hr=>by simp only [vB,v6] at hr;obtain ⟨G1,h1,rfl⟩:=hr;cases h with|agg _ vs h=>exact .agg _ _ (s5 hm h h1)
 | .bN cs,y,v,h,hr=>by simp only [vB,v6] at hr;obtain ⟨G1,h1,rfl⟩:=hr;cases h with|bN _ vs h=>exact .bN _ _ (s5 hm h h1)
 | .sl e c rows,y,v,h,hr=>by simp only [vB,pp] at hr;subst hr;cases h with|sl _ _ _ a cap h1 h2 h3=>exact .sl _ _ _ a cap h1 h2 h3
 | .own t e off len cap ex,y,v,h,hr=>by simp only [vB,v6] at hr;obtain ⟨u,h1,rfl⟩:=hr;cases h with|own _ _ _ _ _ _ li a cB g1 g2 g3 g4 g5 g6 g7=>exact .own _ _ _ _ _ _ li a cB (by rw [hm u t (yM h1)];exact g1) g2 g3 g4 g5 g6 g7
 | .ptr t e row off,y,v,h,hr=>by simp only [vB,v6] at hr;obtain ⟨u,h1,rfl⟩:=hr;cases h with|ptr _ _ _ _ li g1 g2 g3=>exact .ptr _ _ _ _ li (by rw [hm u t (yM h1)];exact g1) g2 g3
 | .bw cs off,y,v,h,hr=>by simp only [vB,v6] at hr;obtain ⟨G1,h1,rfl⟩:=hr;cases h with|bw _ _ b o vs h hv=>exact .bw _ _ b o vs (s5 hm h h1) hv
 | .mp t,y,v,h,hr=>by simp only [vB,v6] at hr;obtain ⟨u,h1,rfl⟩:=hr;cases h with|mp _ li g1=>exact .mp _ li (by rw [hm u t (yM h1)];exact g1)
 | .eA f a b,y,v,h,hr=>by
  simp only [vB] at hr;split at hr
  · rename_i a' b' ha hb
    injection hr with hr;subst hr;cases h with|eA _ _ _ as bs h1 h2=>exact .eA _ _ _ _ _ (s5 hm h1 ha) (s5 hm h2 hb)
  cases hr
theorem s5 (hm:Ren m loc cO): ∀{x y:List PV} {v:List Value},eD im loc x v->zm m x=ahQ y->eD im cO y v
 | [],y,v,h,hr=>by simp only [zm,pp] at hr;subst hr;cases h;exact .nil
 |x::xs,y,v,h,hr=>by
  simp only [zm] at hr;split at hr
  · rename_i x' xs' h1 h2
    injection hr with hr;subst hr;cases h with|cons _ u _ us g1 g2=>exact .cons _ _ _ _ (Q6 hm g1 h1) (s5 hm g2 h2)
  cases hr
end
theorem Dd: ∀{x y:List PV},zm m x=ahQ y->ahP y=ahP x
 | [],y,h=>by simp only [zm,pp] at h;subst h;rfl
 |x::xs,y,h=>by
  simp only [zm] at h;split at h
  · rename_i x' xs' h1 h2
    injection h with h;subst h;simp [Dd h2]
  cases h
theorem G2 {w:World} {li:LI} {k k':jQ} (hm:Ren m loc cO) (hr:nM m k=ahQ k') (h:BR im loc w li k):BR im cO w li k':=by
 cases k with
 |arr e rows=>simp only [nM,pp] at hr;subst hr;exact h
 |map es=>simp only [nM,pp] at hr;subst hr;exact h
 |dead=>simp only [nM,pp] at hr;subst hr;trivial
 |box cs=>simp only [nM,v6] at hr;obtain ⟨G1,h1,rfl⟩:=hr;obtain ⟨g1,g2,g3,vs,el,g4,g5,g6⟩:=h;exact ⟨by rw [Dd h1];exact g1,g2,g3,vs,el,g4,g5,s5 hm g6 h1⟩
theorem A0 {k k':jQ} (hr:nM m k=ahQ k'):k'.bB=k.bB:=by
 cases k with
 |arr e rows=>simp only [nM,pp] at hr;subst hr;rfl
 |map es=>simp only [nM,pp] at hr;subst hr;rfl
 |dead=>simp only [nM,pp] at hr;subst hr;rfl
 |box cs=>simp only [nM,v6] at hr;obtain ⟨G1,h1,rfl⟩:=hr;rfl
theorem Cg {aA:bS}: ∀{l:List Nat} {s1:bS},xG aA m l=ahQ s1->ahP s1=ahP l/\ ∀(u t:Nat),l[u]? =ahQ t-> ∃k k',aA[t]? =ahQ k/\nM m k=ahQ k'/\s1[u]? =ahQ k'
 | [],s1,h=>by simp only [xG,pp] at h;subst h;exact ⟨rfl,fun u t h=>by simp at h⟩
 |t::ts,s1,h=>by
  simp only [xG] at h;split at h
  · rename_i b hb
    split at h
    · rename_i b' r h1 h2
      injection h with h;subst h;obtain ⟨g1,g2⟩:=Cg h2;refine ⟨by simp [g1],fun u t' ht=>?_⟩;cases u with
      |zero=>simp at ht;subst ht;exact ⟨b,b',hb,h1,rfl⟩
      |succ u=>simpa using g2 u t' (by simpa using ht)
    cases h
  cases h
end
end Go.Vm
/- Operation by operation: the model's run gives what the logical machine says. First part: what reads no memory. -/
namespace Go.Vm
theorem eE {k l:IntKind}:eX k l=ahV↔k=l:=by cases k<;>cases l<;>simp [eX]
theorem DZ {n:Int} (h1: -9223372036854775808<=n) (h2:n<9223372036854775808):IntKind.wrap .i64 n=n:=by
 simp only [IntKind.wrap,IntKind.bits,IntKind.signed,ahI];have e1:(2:Int)^64=18446744073709551616:=by decide
 have e2:(2:Int)^(64-1)=9223372036854775808:=by decide
 simp only [e1,e2,decide_eq_true_eq];split<;>omega
theorem rX (k:IntKind) (n:Int):ai k n=k.wrap n:=by
 unfold ai;split
 · rename_i m
   split
   · rename_i h
     have h:m<9223372036854775808:=by simpa using h
     have e:Int.ofNat m=(m:Int):=rfl;exact (DZ (by rw [e];omega) (by rw [e];omega)).symm
   rfl
 · rename_i m
   split
   · rename_i h
     have h:m<9223372036854775808:=by simpa using h
     exact (DZ (by omega) (by omega)).symm
   rfl
 · rename_i m
   simp only [IntKind.wrap,IntKind.bits,IntKind.signed,Bool.false_and];have e1:(2:Int)^64=18446744073709551616:=by decide
   simp only [e1];rfl
 rfl
section
variable {P : Program} {im : Im} {loc : Loc} {w : World}
theorem VR.eW {k:IntKind} {n:Int} {v:Value} (h:VR im loc (.int k n) v):v= .int k n:=by cases h;rfl
theorem VR.jC {b:Bool} {v:Value} (h:VR im loc (.bool b) v):v= .bool b:=by cases h;rfl
theorem VR.D0 {b:ByteArray} {v:Value} (h:VR im loc (.str b) v):v= .string b:=by cases h;rfl
theorem VR.pC {cs:List PV} {v:Value} (h:VR im loc (.agg cs) v): ∃vs,v= .agg ⟨vs⟩/\eD im loc cs vs:=by cases h with|agg _ vs h=>exact ⟨vs,rfl,h⟩
theorem VR.A1 {cs:List PV} {v:Value} (h:VR im loc (.bN cs) v): ∃vs,v= .tuple ⟨vs⟩/\eD im loc cs vs:=by cases h with|bN _ vs h=>exact ⟨vs,rfl,h⟩
mutual
theorem H7: ∀{x:PV} {v:Value},tV x v=ahV->VR im loc x v
 | .int k n,v,h=>by
  cases v<;>simp only [tV] at h<;>first|cases h|skip
  simp only [lw,beq_iff_eq,eE] at h;obtain ⟨rfl,rfl⟩:=h;exact .int _ _
 | .bool a,v,h=>by
  cases v<;>simp only [tV] at h<;>first|cases h|skip
  rename_i b;have:a=b:=by simpa using h
  subst this;exact .bool _
 | .str a,v,h=>by
  cases v<;>simp only [tV] at h<;>first|cases h|skip
  rename_i b;have h1:a.data.toList=b.data.toList:=by simpa using h
  obtain ⟨⟨x⟩⟩:=a;obtain ⟨⟨y⟩⟩:=b;have h2:x=y:=h1;subst h2;exact .str _
 | .sl e c [],v,h=>by
  cases v with
  |slice a n cap=>
   cases a with
   |none=>
    cases n with
    |zero=>
     cases cap with
     |zero=>exact .sl e c [] ahR 0 (Nat.zero_le _) (fun _=>rfl) (fun dM=>absurd rfl dM)
     |succ c=>simp [tV] at h
    |succ n=>simp [tV] at h
   |some a=>simp [tV] at h
  |_=>simp [tV] at h
 | .sl e c (_::_),v,h=>by simp [tV] at h
 | .agg cs,v,h=>by
  cases v<;>simp only [tV] at h<;>first|cases h|skip
  rename_i vs;exact .agg cs vs.toList (xJ h)
 | .dC,v,h=>by
  cases v<;>simp only [tV] at h<;>first|cases h|skip
  exact .dC
 | .undef,v,_=> .undef v
 | .js,v,h=>by simp [tV] at h
 | .bN _,v,h=>by simp [tV] at h
 | .own ..,v,h=>by simp [tV] at h
 | .ptr ..,v,h=>by simp [tV] at h
 | .bw ..,v,h=>by simp [tV] at h
 | .mp _,v,h=>by simp [tV] at h
 | .eA ..,v,h=>by simp [tV] at h
theorem xJ: ∀{x:List PV} {v:List Value},Et x v=ahV->eD im loc x v
 | [],[],_=> .nil
 |x::xs,v::vs,h=>by simp only [Et,lw] at h;exact .cons _ _ _ _ (H7 h.1) (xJ h.2)
 | [],_::_,h=>by simp [Et] at h
 |_::_,[],h=>by simp [Et] at h
end
theorem UI {op : BinOp} {t : TypeId} {a b : Operand} {x y : PV} {u v : Value} {z : PV} (hx : VR im loc x u) (hy : VR im loc y v) (h : O7 op x y = ahQ z) :
    ∃ r, (do eqGuard op t a b u v; binOp op t u v : Sem Value).run P w = .ok r w /\ VR im loc z r := by
  unfold O7 at h
  split at h
  · rename_i k a l b
    obtain rfl := hx.eW
    obtain rfl := hy.eW
    have hg : ∀ (k l : IntKind) (a b : Int) (o p : Operand), (eqGuard op t o p (.int k a) (.int l b)).run P w = .ok () w := by
      intros; unfold eqGuard; cases op <;> simp
    split at h
    · simp only [Ca] at h
      split at h
      · cases h
      rename_i hb
      injection h with h; subst h
      refine ⟨_, ?_, .int _ _⟩
      simp only [ww, hg, ut, binOp, Op.shift, hb, if_false]
      rfl
    · simp only [Ca] at h
      split at h
      · cases h
      rename_i hb
      injection h with h; subst h
      refine ⟨_, ?_, .int _ _⟩
      simp only [ww, hg, ut, binOp, Op.shift, hb, if_false]
      rfl
    split at h
    · rename_i ark arl hk
      have := eE.1 hk; subst this
      unfold arith at h
      split at h
      all_goals first
        | (injection h with h; subst h
           first
             | (refine ⟨_, ?_, .int _ _⟩
                simp only [ww, hg, ut, binOp, Op.intArith, Op.intBits, rX, ne_eq, not_true_eq_false, if_false]
                rfl)
             | (refine ⟨_, ?_, .bool _⟩
                simp only [ww, hg, ut, binOp, Op.intCmp, ne_eq, not_true_eq_false, if_false]
                rfl))
        | (split at h
           · cases h
           rename_i hb
           injection h with h; subst h
           refine ⟨_, ?_, .int _ _⟩
           simp only [ww, hg, ut, binOp, Op.intDiv, rX, ne_eq, not_true_eq_false, if_false, hb]
           rfl)
        | cases h
    cases h
  cases h
theorem Q7 {neg:Bool} {op:BinOp} {t:TypeId} {p q:Operand} {a b:Bool} (ho:op=if neg then .neq else .eql) (ht:P.underlying t=ahQ .bool):
 (do eqGuard op t p q (.bool a) (.bool b);binOp op t (.bool a) (.bool b):Sem Value).run P w= .ok (.bool (if neg then !(a==b) else a==b)) w:=by
 have h1:(Op.equal t (.bool a) (.bool b)).run P w= .ok (a==b) w:=run_equalIn_bool' w 9999 t a b ht;cases neg<;>simp only [aa4,if_false,if_true] at ho<;>subst ho<;>simp [eqGuard,binOp,h1]
theorem ab5 {op:UnOp} {x z:PV} {u:Value} (hx:VR im loc x u) (h:unE op x=ahQ z): ∃r,(Op.unary op u).run P w= .ok r w/\VR im loc z r:=by
 unfold unE at h;split at h
 · injection h with h;subst h
   obtain rfl:=hx.eW;exact ⟨_,rfl,by rw [rX];exact .int _ _⟩
 · injection h with h;subst h
   obtain rfl:=hx.jC;exact ⟨_,rfl,.bool _⟩
 cases h
theorem Q8 {s d:TypeId} {k k':IntKind} {n:Int} {ds:TypeDesc} (hs:P.underlying s=ahQ ds) (hd:P.underlying d=ahQ (.int k)):
 (convert s d (.int k' n)).run P w= .ok (.int k (ai k n)) w:=by
 simp only [convert,ww,run_underlying hs,run_underlying hd,ut,rX];cases ds<;>rfl
theorem Ch {t:TypeId} (h:gO P t=ahV):(isAgg t).run P w= .ok ahV w:=by
 unfold gO at h;split at h
 · rename_i f hu;simp [isAgg,run_underlying hu]
 · rename_i n f hu;simp [isAgg,run_underlying hu]
 cases h
theorem Ci {t:TypeId} (hs:(P.underlying t).isSome=ahV) (h:gO P t=ahW):(isAgg t).run P w= .ok ahW w:=by
 cases hu:P.underlying t with
 |none=>rw [hu] at hs;cases hs
 |some d=>unfold gO at h;rw [hu] at h;cases d<;>first|(simp [isAgg,run_underlying hu];done)|cases h
theorem kv {t:TypeId} {n:Nat} (h:oC P t n=ahV):(sizeOf t).run P w= .ok n w:=by
 unfold oC at h;cases hi:P.info? t with
 |none=>rw [hi] at h;cases h
 |some i=>
  rw [hi] at h;have:i.size=n:=by simpa using h
  simp [sizeOf,typeInfo,hi,this]
theorem JE {agg:Option Nat} {t:TypeId} {off:Nat} {cs:List PV} {vs:List Value} {x:PV} (ha:AY P t agg=ahV) (h:eD im loc cs vs)
 (hp:part agg off cs=ahQ x): ∃v,(Go.part t ⟨vs⟩ off).run P w= .ok v w/\VR im loc x v:=by
 unfold AY at ha;simp only [lw] at ha;obtain ⟨hs,ha⟩:=ha;cases agg with
 |some n=>
  simp only [lw] at ha;simp only [part] at hp;split at hp
  · rename_i lx
    injection hp with hp;subst hp;refine ⟨.agg ⟨(vs.drop off).take n⟩,?_,.agg _ _ ((h.drop off).take n)⟩;simp only [Go.part,ww,Ch ha.1,ut,if_true,kv ha.2,AC]
    congr 2
    apply ab2;simp [acl]
  cases hp
 |none=>
  simp only [lw,aaH] at ha;simp only [part] at hp;obtain ⟨v,hv,hr⟩:=h.get off x hp;refine ⟨v,?_,hr⟩;simp only [Go.part,ww,Ci hs ha.1,ut,aa4,if_false];have:(⟨vs⟩:Array Value)[off]? =ahQ v:=by simpa using hv
  simp [this]
theorem vE {agg:Option Nat} {t:TypeId} {b o off:Nat} {cs:List PV} {vs:List Value} {x:PV} (ha:AY P t agg=ahV) (h:eD im loc cs vs)
 (hm: ∀(j:Nat) (v:Value),vs[j]? =ahQ v->w.cell? ⟨b,o+j,ahR⟩=ahQ v)
 (hp:part agg off cs=ahQ x): ∃v,(loadVar t ⟨b,o+off,ahR⟩).run P w= .ok v w/\VR im loc x v:=by
 unfold AY at ha;simp only [lw] at ha;obtain ⟨hs,ha⟩:=ha;have ab6: ∀k j:Nat,(⟨b,k,ahR⟩:Addr).add j=⟨b,k+j,ahR⟩:=by
  intro k j;unfold Addr.add;split
  · rename_i h;subst h;rfl
  rfl
 cases agg with
 |some n=>
  simp only [lw] at ha;simp only [part] at hp;split at hp
  · rename_i lx
    injection hp with hp;subst hp;refine ⟨.agg ⟨(vs.drop off).take n⟩,?_,.agg _ _ ((h.drop off).take n)⟩;have hl:((vs.drop off).take n).length=n:=by have:=h.mU;simp;omega
    have:=run_loadCells_list (P:=P) w ⟨b,o+off,ahR⟩ ((vs.drop off).take n) (by
     intro j v hj;rw [ab6];have hj':j<n:=by
      rcases aa2 j n with h|h
      · exact h
      rw [IR (by omega)] at hj;cases hj
     rw [abB hj',ack] at hj;have:=hm _ _ hj
     rwa [show o+(off+j)=o+off+j by omega] at this)
    rw [hl] at this;simp only [loadVar,ww,Ch ha.1,ut,if_true,kv ha.2,this,AC]
  cases hp
 |none=>simp only [lw,aaH] at ha;simp only [part] at hp;obtain ⟨v,hv,hr⟩:=h.get off x hp;refine ⟨v,?_,hr⟩;simp only [loadVar,ww,Ci hs ha.1,ut,aa4,if_false];rw [run_load,hm off v hv]
end
end Go.Vm
/- What an operation does to the memory, and the shapes in which it does it. -/
namespace Go.Vm
structure s6 (im:Im) (loc:Loc) (aA:bS) (w:World) (r:nL) (dT:Im) (ba:Loc) (w':World):Prop where
 fZ:nO im dT
 dz:mn loc ba
 bu: ∀b o,dT b=ahQ o->w'.heap[b]? =ahQ o
 dF: ∀b o,dT b=ahQ o->im b=ahQ o\/w.heap.size<=b\/ ∃t li k,has r.fr t=ahV/\loc t=ahQ li/\aA[t]? =ahQ k/\k.bB=ahV/\li.cZ=b
 os:w'.os=w.os
 tape:Tape w w'
 output:w'.output=w.output
 size:w.heap.size<=w'.heap.size
 frame: ∀b,b<w.heap.size->(∀t k li k0,(t,k)∈r.wr->loc t=ahQ li->aA[t]? =ahQ k0->k0.bB=ahV->li.cZ≠b)->w'.heap[b]? =w.heap[b]?
 O8: ∀t k,(t,k)∈r.wr->k.bB=ahV-> ∃k0,aA[t]? =ahQ k0/\k0.bB=ahV
 wr: ∀t k li,(t,k)∈r.wr->loc t=ahQ li->BR dT ba w' li k
 kT: ∀t li,ba t=ahQ li->loc t=ahQ li\/(ahP aA<=t/\t<ahP aA+ahP r.news)
 news: ∀(j:Nat) (k:jQ) (li:LI),r.news[j]? =ahQ k->ba (ahP aA+j)=ahQ li->BR dT ba w' li k/\
  (k.bB=ahV->dT li.cZ=ahR/\(w.heap.size<=li.cZ\/ ∃t lt k0,(t,jQ.dead)∈r.wr/\loc t=ahQ lt/\aA[t]? =ahQ k0/\k0.bB=ahV/\lt.cZ=li.cZ))
 distinct: ∀(i j:Nat) (ki kj:jQ) (li lj:LI),r.news[i]? =ahQ ki->r.news[j]? =ahQ kj->ki.bB=ahV->kj.bB=ahV->
  ba (ahP aA+i)=ahQ li->ba (ahP aA+j)=ahQ lj->li.cZ=lj.cZ->i=j
theorem Cj {α:Type} {n:Nat} {l:List α} {loc:Loc} {A:LI->α->Prop} (h: ∀(j:Nat) (k:α),l[j]? =ahQ k-> ∃li,loc (n+j)=ahQ li/\A li k):
 ∀(j:Nat) (k:α) (li:LI),l[j]? =ahQ k->loc (n+j)=ahQ li->A li k:=fun j k li hj hl=>by
 obtain ⟨li',h1,h2⟩:=h j k hj;rw [hl] at h1;injection h1 with h1;subst h1;exact h2
structure jo (im:Im) (loc:Loc) (aA:bS) (w:World) (r:nL):Prop where
 bu: ∀b o,im b=ahQ o->w.heap[b]? =ahQ o
 tok: ∀t,t∈r.rd\/(∃k,(t,k)∈r.wr)-> ∀li,loc t=ahQ li-> ∃k,aA[t]? =ahQ k/\BR im loc w li k
 free: ∀t k,(t,k)∈r.wr-> ∀li k',loc t=ahQ li->aA[t]? =ahQ k'->k'.bB=ahV->im li.cZ=ahR
 fresh: ∀j,j<ahP r.news->loc (ahP aA+j)=ahR
 iE: ∀t u li lj k k',(t∈r.rd\/ ∃b,(t,b)∈r.wr)->(u∈r.rd\/ ∃b,(u,b)∈r.wr)->loc t=ahQ li->loc u=ahQ lj->aA[t]? =ahQ k->aA[u]? =ahQ k'->k.bB=ahV->k'.bB=ahV->li.cZ=lj.cZ->t=u
section
variable {im : Im} {loc : Loc} {aA : bS} {w : World} {r : nL}
theorem s6.none (hk:jo im loc aA w r) (hn:r.news=[]) (hw:r.wr=[]):s6 im loc aA w r im loc w where
 fZ:= .refl _
 dz:= .refl _
 bu:=hk.bu
 dF:=fun _ _ h=> .inl h
 os:=rfl
 tape:= .refl _
 output:=rfl
 size:=Do _
 frame:=fun _ _ _=>rfl
 O8:=fun t k h=>by rw [hw] at h;cases h
 wr:=fun t k li h=>by rw [hw] at h;cases h
 kT:=fun _ _ h=> .inl h
 news:=fun j k li h=>by rw [hn] at h;simp at h
 distinct:=fun i j ki kj li lj h=>by rw [hn] at h;simp at h
def Loc.set (loc:Loc) (t:Nat) (li:LI):Loc:=fun u=>if u=t then ahQ li else loc u
theorem Loc.eH (loc:Loc) (t:Nat) (li:LI):loc.set t li t=ahQ li:=by simp [Loc.set]
theorem Loc.xK {loc:Loc} {t:Nat} (li:LI) (h:loc t=Option.none):mn loc (loc.set t li):=by
 intro u l hu;unfold Loc.set;split
 · rename_i e;subst e;rw [h] at hu;cases hu
 exact hu
theorem s6.new (hk:jo im loc aA w r) {k:jQ} {o:Obj} {w':World} (li:LI) (hn:r.news=[k]) (hw:r.wr=[])
 (hh:w'.heap=w.heap.push o) (ho:w'.os=w.os) (ht:w'.tape=w.tape) (hp:w'.output=w.output) (hl:li.cZ=w.heap.size)
 (hb:BR im (loc.set (ahP aA) li) w' li k) (hd:w.drawn<=w'.drawn:=by first|exact Do _|exact Nat.le_succ _):s6 im loc aA w r im (loc.set (ahP aA) li) w' where
 fZ:= .refl _
 dz:=Loc.xK li (by have:=hk.fresh 0 (by simp [hn]);simpa using this)
 bu:=fun b o h=>by
  have h1:=hk.bu b o h;have c7:b<w.heap.size:=by
   rcases aa2 b w.heap.size with h|h
   · exact h
   simp [ag7 h] at h1
  rw [hh,ah7,ls (by omega)];exact h1
 dF:=fun _ _ h=> .inl h
 os:=ho
 tape:=⟨ht,hd⟩
 output:=hp
 size:=by rw [hh];simp
 frame:=fun b zz _=>by rw [hh,ah7,ls (by omega)]
 O8:=fun t k h=>by rw [hw] at h;cases h
 wr:=fun t k li h=>by rw [hw] at h;cases h
 kT:=fun t l h=>by
  unfold Loc.set at h;split at h
  · rename_i e;subst e;exact .inr ⟨Do _,by simp [hn]⟩
  exact .inl h
 news:=Cj fun j k' h=>by
  rw [hn] at h;cases j with
  |zero=>
   simp at h;subst h;refine ⟨li,Loc.eH _ _ _,hb,fun _=>⟨?_,.inl (by omega)⟩⟩;cases hi:im li.cZ with
   |none=>rfl
   |some o=>have:=hk.bu _ _ hi;rw [hl] at this;simp at this
  |succ j=>simp at h
 distinct:=fun i j ki kj li lj h1 h2 _ _ _ _ _=>by rw [hn] at h1 h2;cases i<;>cases j<;>simp at h1 h2<;>rfl
theorem s6.Q9 (hk:jo im loc aA w r) {esz:Nat} (hn:r.news=[.arr esz []]) (hw:r.wr=[]):s6 im loc aA w r im (loc.set (ahP aA) ⟨0,0,esz,0,0⟩) w where
 fZ:= .refl _
 dz:=Loc.xK _ (by have:=hk.fresh 0 (by simp [hn]);simpa using this)
 bu:=hk.bu
 dF:=fun _ _ h=> .inl h
 os:=rfl
 tape:= .refl _
 output:=rfl
 size:=Do _
 frame:=fun _ _ _=>rfl
 O8:=fun t k h=>by rw [hw] at h;cases h
 wr:=fun t k li h=>by rw [hw] at h;cases h
 kT:=fun t l h=>by
  unfold Loc.set at h;split at h
  · rename_i e;subst e;exact .inr ⟨Do _,by simp [hn]⟩
  exact .inl h
 news:=Cj fun j k' h=>by
  rw [hn] at h;cases j with
  |zero=>simp at h;subst h;exact ⟨_,Loc.eH _ _ _,⟨rfl,rfl,fun dM=>absurd rfl dM⟩,fun hs=>by cases hs⟩
  |succ j=>simp at h
 distinct:=fun i j ki kj li lj h1 h2 _ _ _ _ _=>by rw [hn] at h1 h2;cases i<;>cases j<;>simp at h1 h2<;>rfl
theorem s6.write (hk:jo im loc aA w r) {t:Nat} {k k0:jQ} {o:Obj} {w':World} {li:LI} (hn:r.news=[]) (hw:r.wr=[(t,k)])
 (hl:loc t=ahQ li) (h0:aA[t]? =ahQ k0) (hs:k0.bB=ahV)
 (hh:w'.heap=w.heap.setIfInBounds li.cZ o) (ho:w'.os=w.os) (ht:w'.tape=w.tape) (hp:w'.output=w.output)
 (hb:BR im loc w' li k) (hd:w.drawn<=w'.drawn:=by first|exact Do _|exact Nat.le_succ _):s6 im loc aA w r im loc w' where
 fZ:= .refl _
 dz:= .refl _
 bu:=fun b o' h=>by
  have h1:=hk.bu b o' h;have qI:=hk.free t k (by simp [hw]) li k0 hl h0 hs;have dM:li.cZ≠b:=fun e=>by rw [e,h] at qI;cases qI
  rw [hh,aa8,ls dM];exact h1
 dF:=fun _ _ h=> .inl h
 os:=ho
 tape:=⟨ht,hd⟩
 output:=hp
 size:=by rw [hh];simp
 frame:=fun b _ h=>by have dM:=h t k li k0 (by simp [hw]) hl h0 hs;rw [hh,aa8,ls dM]
 O8:=fun t' k' hm _=>by rw [hw] at hm;simp at hm;exact ⟨k0,by rw [hm.1];exact h0,hs⟩
 wr:=fun t' k' li' h h'=>by rw [hw] at h;simp at h;obtain ⟨rfl,rfl⟩:=h;rw [hl] at h';injection h' with h';subst h';exact hb
 kT:=fun _ _ h=> .inl h
 news:=fun j k li h=>by rw [hn] at h;simp at h
 distinct:=fun i j ki kj li lj h=>by rw [hn] at h;simp at h
end
end Go.Vm
/- Operation by operation, second part: addresses, reads, new blocks. -/
namespace Go.Vm
section
variable {P : Program} {im : Im} {loc : Loc} {aA : bS} {w : World}
theorem qJ (b o n:Nat):(⟨b,o,ahR⟩:Addr).add n=⟨b,o+n,ahR⟩:=by
 unfold Addr.add;split
 · rename_i h;subst h;rfl
 rfl
theorem VR.yN {t e r o:Nat} {v:Value} (h:VR im loc (.ptr t e r o) v):
 ∃li,loc t=ahQ li/\li.esz=e/\r<li.n/\v= .pointer (ahQ ⟨li.cZ,li.sh+r*e+o,ahR⟩):=by
 cases h with|ptr _ _ _ _ li h1 h2 h3=>exact ⟨li,h1,h2,h3,rfl⟩
theorem VR.xL {cs:List PV} {off:Nat} {v:Value} (h:VR im loc (.bw cs off) v):
 ∃b o vs,eD im loc cs vs/\(∀(j:Nat) (v:Value),vs[j]? =ahQ v->mv im b (o+j)=ahQ v)/\v= .pointer (ahQ ⟨b,o+off,ahR⟩):=by
 cases h with|bw _ _ b o vs h1 h2=>exact ⟨b,o,vs,h1,h2,rfl⟩
theorem kI {b o:Nat} {cs:Array Value} {el:TypeId} {fr:Nat×Nat} {v:Value} (h:w.heap[b]? =ahQ (.cells cs el fr)) (hc:cs[o]? =ahQ v):
 w.cell? ⟨b,o,ahR⟩=ahQ v:=by simp [World.cell?,h,hc]
theorem s7 (hk: ∀b o,im b=ahQ o->w.heap[b]? =ahQ o) {b o:Nat} {v:Value} (h:mv im b o=ahQ v):w.cell? ⟨b,o,ahR⟩=ahQ v:=by
 unfold mv at h;cases hb:im b with
 |none=>rw [hb] at h;cases h
 |some x=>rw [hb] at h;cases x<;>first|exact kI (hk b _ hb) h|cases h
def aY (r:Row):List Value:=r.map fun c=>(hJ c).getD Go.undef
theorem s8 {get:Nat->Option Value} {sh esz:Nat} {rows:List Row} (h:bz get sh esz rows) {i:Nat} {r:Row} (hr:rows[i]? =ahQ r):
 eD im loc r (aY r)/\ ∀(j:Nat) (v:Value),(aY r)[j]? =ahQ v->get (sh+i*esz+j)=ahQ v:=by
 obtain ⟨_,hc⟩:=h i r hr;constructor
 · refine eD.of _ _ (by simp [aY]) fun j x v hx hv=>?_
   obtain ⟨u,hu,_⟩:=hc j x hx;simp [aY,hx,hu] at hv;subst hv;exact VR.AZ hu
 intro j v hv
 cases hx:r[j]? with
 |none=>simp [aY,hx] at hv
 |some x=>obtain ⟨u,hu,hg⟩:=hc j x hx;simp [aY,hx,hu] at hv;subst hv;exact hg
theorem JF {agg:Option Nat} {t:TypeId} {p:PV} {u:Value} {r:nL} (hp:VR im loc p u) (ha:AY P t agg=ahV) (h:oH aA agg p=ahQ r)
 (hk:jo im loc aA w r): ∃v,(Instr.loadAt t u).run P w= .ok v w/\VR im loc r.v v/\r.news=[]/\r.wr=[]:=by
 unfold oH at h;split at h
 · rename_i tk e row off
   obtain ⟨li,hl,he,hn,rfl⟩:=hp.yN;split at h
   · rename_i e' rows hs
     split at h
     · rename_i cs qP
       rw [v6] at h;obtain ⟨x,hx,rfl⟩:=h;obtain ⟨k,iF,hb⟩:=hk.tok tk (.inl (by simp)) li hl;rw [hs] at iF;injection iF with iF;subst iF;have dM:rows≠[]:=by intro e;subst e;simp at qP
       obtain ⟨h1,h2,h3⟩:=hb;obtain ⟨arr,el,s9,_,_,kX⟩:=h3 dM;obtain ⟨hv,hg⟩:=s8 (im:=im) (loc:=loc) kX qP;have LR:e'=e:=by rw [<- h1,he]
       subst LR;obtain ⟨v,bI,oD⟩:=vE (P:=P) (w:=w) (b:=li.cZ) (o:=li.sh+row*e') ha hv
        (fun j v hj=>kI s9 (hg j v hj)) hx
       exact ⟨v,by simp only [Instr.loadAt,Instr.sureAddr,ww,AC,ut,bI],oD,rfl,rfl⟩
     cases h
   · rename_i cs hs
     split at h
     · rename_i mC
       have mC:row=0:=by simpa using mC
       subst mC;rw [v6] at h;obtain ⟨x,hx,rfl⟩:=h;obtain ⟨k,iF,hb⟩:=hk.tok tk (.inl (by simp)) li hl;rw [hs] at iF;injection iF with iF;subst iF;obtain ⟨h1,h2,h3,vs,el,h4,h5,h6⟩:=hb;obtain ⟨v,bI,oD⟩:=vE (P:=P) (w:=w) (b:=li.cZ) (o:=li.sh+0*e) ha h6
        (fun j v hj=>kI h4 (by simpa [h3] using hj)) hx
       exact ⟨v,by simp only [Instr.loadAt,Instr.sureAddr,ww,AC,ut,bI],oD,rfl,rfl⟩
     cases h
   cases h
 · rename_i cs off
   obtain ⟨b,o,vs,h1,h2,rfl⟩:=hp.xL;rw [v6] at h;obtain ⟨x,hx,rfl⟩:=h;obtain ⟨v,bI,oD⟩:=vE (P:=P) (w:=w) (b:=b) (o:=o) ha h1 (fun j v hj=>s7 hk.bu (h2 j v hj)) hx;exact ⟨v,by simp only [Instr.loadAt,Instr.sureAddr,ww,AC,ut,bI],oD,rfl,rfl⟩
 cases h
theorem Eu {cs:List PV} {vs:List Value} {el:TypeId} {r:nL} (h:eD im loc cs vs) (hr:r={v:= .ptr (ahP aA) (ahP cs) 0 0,news:=[.box cs]}) (hk:jo im loc aA w r):
 ∃ba,VR im ba r.v (.pointer (ahQ ⟨w.heap.size,0,ahR⟩))/\s6 im loc aA w r im ba {w with heap:=w.heap.push (.cells ⟨vs⟩ el)}:=by
 subst hr
 let li:LI:=⟨w.heap.size,0,ahP cs,1,ahP vs⟩
 refine ⟨loc.set (ahP aA) li,?_,?_⟩
 · have:=VR.ptr (im:=im) (loc:=loc.set (ahP aA) li) (ahP aA) (ahP cs) 0 0 li (Loc.eH _ _ _) rfl (Nat.zero_lt_one)
   simpa [li] using this
 refine s6.new hk li rfl rfl rfl rfl rfl rfl rfl ⟨.inl ⟨rfl,rfl⟩,trivial,rfl,vs,el,?_,rfl,h.mono (.refl _) (Loc.xK li (by have:=hk.fresh 0 (by simp);simpa using this))⟩
 simp [li]
theorem JG {x y:PV} {u v:Value} {el:TypeId} {r:nL} (hx:VR im loc x u) (hy:VR im loc y v) (hr:r={v:= .own (ahP aA) 1 0 2 2 ahV,news:=[.box [x,y]]}) (hk:jo im loc aA w r):
 ∃ba,VR im ba r.v (.slice (ahQ ⟨w.heap.size,0,ahR⟩) 2 2)/\s6 im loc aA w r im ba {w with heap:=w.heap.push (.cells #[u,v] el)}:=by
 subst hr
 let li:LI:=⟨w.heap.size,0,1,2,2⟩
 refine ⟨loc.set (ahP aA) li,?_,?_⟩
 · exact .own (ahP aA) 1 0 2 2 ahV li _ 2 (Loc.eH _ _ _) rfl (Do _) (Do _) (Do _) (fun _=>rfl) (.inr ⟨by simp [li],by simp [li],by simp [li]⟩)
 refine s6.new hk li rfl rfl rfl rfl rfl rfl rfl ⟨.inr ⟨rfl,rfl⟩,trivial,rfl,[u,v],el,?_,rfl,(eD.cons _ _ _ _ hx (.cons _ _ _ _ hy .nil)).mono (.refl _) (Loc.xK li (by have:=hk.fresh 0 (by simp);simpa using this))⟩
 simp [li]
theorem Q' {off:Nat} {t:TypeId} {f:Nat} {fs:Array Field} {g:Field} {i:TypeInfo} {p z:PV} {u:Value} (hp:VR im loc p u)
 (hu:P.underlying t=ahQ (.struct fs)) (hf:fs[f]? =ahQ g) (ho:g.offset=off) (hi:P.info? g.type=ahQ i) (hz:i.size≠0)
 (h:(match (generalizing:=false) p with| .ptr t s r o=>some (PV.ptr t s r (o+off))| .bw c o=>some (PV.bw c (o+off))|_=>none)=some z):
 ∃v,(Instr.fieldAt t u f).run P w= .ok v w/\VR im loc z v:=by
 have oJ:(sizeOf g.type).run P w= .ok i.size w:=by simp [sizeOf,typeInfo,hi]
 cases p with
 |ptr tk s r o=>injection h with h;subst h;obtain ⟨li,hl,he,hn,rfl⟩:=hp.yN;refine ⟨_,?_,.ptr tk s r (o+off) li hl he hn⟩;simp [Instr.fieldAt,run_underlying hu,hf,Instr.sureAddr,fieldPlace,oJ,hz,qJ,ho,abD]
 |bw cs o=>injection h with h;subst h;obtain ⟨b,o',vs,h1,h2,rfl⟩:=hp.xL;refine ⟨_,?_,.bw cs (o+off) b o' vs h1 h2⟩;simp [Instr.fieldAt,run_underlying hu,hf,Instr.sureAddr,fieldPlace,oJ,hz,qJ,ho,abD]
 |_=>cases h
theorem oM {x:PV} {n:Nat} {u:Value} (hx:VR im loc x u) (h:jm x=ahQ n): ∃k,u= .int k (n:Int):=by
 unfold jm at h;split at h
 · rename_i k m
   obtain rfl:=hx.eW;split at h
   · rename_i m';injection h with h;subst h;exact ⟨k,rfl⟩
   cases h
 cases h
theorem O9 {n esz j:Nat} {t e:TypeId} {p z:PV} {u:Value} {k:IntKind} (hp:VR im loc p u)
 (hu:P.underlying t=ahQ (.array n e)) (hs:oC P e esz=ahV) (hj:j<n)
 (h:(match (generalizing:=false) p with| .ptr t s r o=>some (PV.ptr t s r (o+j*esz))| .bw c o=>some (PV.bw c (o+j*esz))|_=>none)=some z):
 ∃v,(Instr.indexAt t u (.int k j)).run P w= .ok v w/\VR im loc z v:=by
 have oJ:=kv (P:=P) (w:=w) hs;cases p with
 |ptr tk s r o=>injection h with h;subst h;obtain ⟨li,hl,he,hn,rfl⟩:=hp.yN;refine ⟨_,?_,.ptr tk s r (o+j*esz) li hl he hn⟩;simp [Instr.indexAt,asIntOf,run_underlying hu,Instr.sureAddr,oJ,qJ,abD];intro h;omega
 |bw cs o=>injection h with h;subst h;obtain ⟨b,o',vs,h1,h2,rfl⟩:=hp.xL;refine ⟨_,?_,.bw cs (o+j*esz) b o' vs h1 h2⟩;simp [Instr.indexAt,asIntOf,run_underlying hu,Instr.sureAddr,oJ,qJ,abD];intro h;omega
 |_=>cases h
theorem VR.oN {esz:Nat} {qF:Bool} {rows:List Row} {v:Value} (h:VR im loc (.sl esz qF rows) v):
 ∃a cap,v= .slice a (ahP rows) cap/\ahP rows<=cap/\(qF=ahV->cap=ahP rows)/\(rows≠[]-> ∃b o,a=ahQ ⟨b,o,ahR⟩/\bz (mv im b) o esz rows):=by
 cases h with|sl _ _ _ a cap hc hk h=>exact ⟨a,cap,rfl,hc,hk,h⟩
theorem VR.iB {t esz off len cap:Nat} {ex:Bool} {v:Value} (h:VR im loc (.own t esz off len cap ex) v):
 ∃li a cB,v= .slice a len cB/\loc t=ahQ li/\li.esz=esz/\off+cap<=li.n/\len<=cap/\cap<=cB/\(ex=ahV->cB=cap)/\
  (cB=0\/(li.n≠0/\a=ahQ ⟨li.cZ,li.sh+off*esz,ahR⟩/\li.sh+(off+cB)*esz<=li.sz)):=by
 cases h with|own _ _ _ _ _ _ li a cB h1 h2 h3 h4 h5 h6 h7=>exact ⟨li,a,cB,rfl,h1,h2,h3,h4,h5,h6,h7⟩
theorem run_indexAt_slice {t e:TypeId} {esz j len cap b o:Nat} {k:IntKind} (hu:P.underlying t=ahQ (.slice e)) (hs:oC P e esz=ahV) (hj:j<len):
 (Instr.indexAt t (.slice (ahQ ⟨b,o,ahR⟩) len cap) (.int k j)).run P w= .ok (.pointer (ahQ ⟨b,o+j*esz,ahR⟩)) w:=by
 have oJ:=kv (P:=P) (w:=w) hs;have c7: ¬(len<=j):=by omega
 simp [Instr.indexAt,asIntOf,run_underlying hu,oJ,qJ];intro h;exact absurd h c7
theorem Ra {esz n:Nat} {t e:TypeId} {x z:PV} {u:Value} {k:IntKind} (hx:VR im loc x u)
 (hu:P.underlying t=ahQ (.slice e)) (hs:oC P e esz=ahV)
 (h:(match (generalizing:=false) x with
  | .sl s _ rows=>match rows[n]? with
   |some cs=>if EQ s esz then ahQ (PV.bw cs 0) else ahR
   |none=>ahR
  | .own t s off len _ _=>if abR n len&&EQ s esz then ahQ (PV.ptr t s (off+n) 0) else ahR
  |_=>ahR)=ahQ z):
 ∃v,(Instr.indexAt t u (.int k n)).run P w= .ok v w/\VR im loc z v:=by
 cases x with
 |sl s qF rows=>
  dsimp only at h;cases qP:rows[n]? with
  |none=>rw [qP] at h;cases h
  |some cs=>
   rw [qP] at h;dsimp only at h;split at h
   · rename_i UJ
     have UJ:s=esz:=by simpa using UJ
     subst UJ;injection h with h;subst h;obtain ⟨a,cap,rfl,_,_,hr⟩:=hx.oN;have dM:rows≠[]:=by intro e;subst e;simp at qP
     obtain ⟨b,o,rfl,kX⟩:=hr dM;have hn:n<(ahP rows):=by
      rcases aa2 n (ahP rows) with h|h
      · exact h
      rw [IR h] at qP;cases qP
     refine ⟨_,run_indexAt_slice hu hs hn,?_⟩;obtain ⟨hv,hg⟩:=s8 (im:=im) (loc:=loc) kX qP;have:=VR.bw (im:=im) (loc:=loc) cs 0 b (o+n*s) (aY cs) hv hg;simpa using this
   cases h
 |own tk s off len cap ex=>
  dsimp only at h;split at h
  · rename_i hc
    simp only [lw] at hc;have hn:n<len:=by simpa using hc.1
    have UJ:s=esz:=by simpa using hc.2
    subst UJ;injection h with h;subst h;obtain ⟨li,a,cB,rfl,hl,he,DH,bU,zn,_,hd⟩:=hx.iB;rcases hd with hd|⟨dM,rfl,_⟩
    · omega
    refine ⟨_,run_indexAt_slice hu hs hn,?_⟩
    have:=VR.ptr (im:=im) (loc:=loc) tk s (off+n) 0 li hl he (by omega);rw [show li.sh+(off+n)*s+0=li.sh+off*s+n*s by rw [PP];omega] at this;exact this
  cases h
 |_=>cases h
theorem run_sliceBound {x k:Nat} {kd:IntKind} {code:BoundsCode} (h:x<=k):(Instr.sliceBound (.int kd x) k code).run P w= .ok x w:=by
 have:(0:Int)<=(x:Int)/\(x:Int)<=(k:Int):=by omega
 simp [Instr.sliceBound,asIntOf,this]
def Aa (v:Option Value) (n:Option Nat):Prop:=
 match v,n with
 |none,ahR=>True
 |some v,ahQ n=> ∃k,v= .int k (n:Int)
 |_,_=>False
theorem mN {len cap:Nat} {lo hi mx:Option Nat} {vl vh vm:Option Value} (h1:Aa vl lo) (h2:Aa vh hi) (h3:Aa vm mx)
 (hm:mx.isSome=ahV->hi.isSome=ahV) (lx:lo.getD 0<=hi.getD len) (hhm:hi.isSome=ahV->hi.getD len<=mx.getD cap) (hmc:mx.getD cap<=cap):
 (Instr.sliceBounds ahV len cap vl vh vm).run P w= .ok (lo.getD 0,hi.getD len,mx.getD cap) w:=by
 cases mx with
 |none=>
  cases vm with
  |some v=>exact h3.elim
  |none=>
   cases hi with
   |none=>
    cases vh with
    |some v=>exact h2.elim
    |none=>
     cases lo with
     |none=>
      cases vl with
      |some v=>exact h1.elim
      |none=>simp [Instr.sliceBounds]
     |some l=>
      cases vl with
      |none=>exact h1.elim
      |some v=>obtain ⟨k,rfl⟩:=h1;simp only [aak,ac0] at lx;simp [Instr.sliceBounds,run_sliceBound lx]
   |some hh=>
    cases vh with
    |none=>exact h2.elim
    |some v=>
     obtain ⟨k,rfl⟩:=h2;simp only [aak,ac0,ahu,true_implies] at lx hhm;cases lo with
     |none=>
      cases vl with
      |some v=>exact h1.elim
      |none=>simp [Instr.sliceBounds,run_sliceBound hhm]
     |some l=>
      cases vl with
      |none=>exact h1.elim
      |some v=>obtain ⟨k,rfl⟩:=h1;simp only [aak] at lx;simp [Instr.sliceBounds,run_sliceBound hhm,run_sliceBound lx]
 |some m=>
  cases vm with
  |none=>exact h3.elim
  |some v=>
   obtain ⟨k,rfl⟩:=h3;cases hi with
   |none=>simp at hm
   |some hh=>
    cases vh with
    |none=>exact h2.elim
    |some v=>
     obtain ⟨k,rfl⟩:=h2;simp only [aak,ahu,true_implies] at lx hhm hmc;cases lo with
     |none=>
      cases vl with
      |some v=>exact h1.elim
      |none=>simp [Instr.sliceBounds,run_sliceBound hhm,run_sliceBound hmc]
     |some l=>
      cases vl with
      |none=>exact h1.elim
      |some v=>obtain ⟨k,rfl⟩:=h1;simp only [aak] at lx;simp [Instr.sliceBounds,run_sliceBound hhm,run_sliceBound lx,run_sliceBound hmc]
end
end Go.Vm
/- Operation by operation, third part: stores, aggregates. -/
namespace Go.Vm
def vF {α:Type} (off:Nat) (new old:List α):List α:=old.take off++new++old.drop (off+ahP new)
theorem nP {α:Type} (off:Nat) (new old:List α) (h:off+ahP new<=ahP old) (j:Nat):
 (vF off new old)[j]? =if off<=j/\j<off+(ahP new) then new[j-off]? else old[j]?:=by
 unfold vF;have hl:(old.take off).length=off:=by simp;omega
 by_cases h1:j<off
 · rw [ls (by omega),ahx,aa3 (by omega),abB h1]
 by_cases h2:j<off+ahP new
 · rw [lm ⟨by omega,h2⟩,ahx,aa1 (by omega),hl,aa3 (by omega)]
 rw [ls (by omega),aa1 (by simp;omega),ack]
 congr 1
 simp;omega
theorem gy {α:Type} (off:Nat) (new old:List α) (h:off+ahP new<=ahP old):(vF off new old).length=(ahP old):=by unfold vF;simp;omega
theorem eD.vF {im:Im} {loc:Loc} {off:Nat} {xs ys:List PV} {vs us:List Value} (h:eD im loc xs vs) (k:eD im loc ys us):
 eD im loc (Vm.vF off xs ys) (Vm.vF off vs us):=by
 unfold Vm.vF;rw [<- h.mU];exact ((k.take off).append h).append (k.drop _)
theorem eD.G3 {im:Im} {loc:Loc}: ∀{xs:List PV} {vs:List Value},eD im loc xs vs->(∀c∈xs,c.plain=ahV)->
 ∀(j:Nat) (c:PV),xs[j]? =ahQ c-> ∃v,hJ c=ahQ v/\vs[j]? =ahQ v:=by
 intro xs vs h hp j c hc;obtain ⟨v,hv,hr⟩:=h.get j c hc;exact ⟨v,hr.plain (hp c (ac2 hc)),hv⟩
theorem O' {i row esz j off n sh:Nat} (dM:i≠row) (hj:j<esz) (hn:off+n<=esz):
 ¬(sh+row*esz+off<=sh+i*esz+j/\sh+i*esz+j<sh+row*esz+off+n):=by
 rcases Nat.lt_or_gt_of_ne dM with h|h
 · have:=UV esz (show i+1<=row from h)
   rw [PP] at this;omega
 have:=UV esz (show row+1<=i from h)
 rw [PP] at this;omega
theorem bz.store {get get':Nat->Option Value} {sh esz row off:Nat} {rows:List Row} {cs ws:List PV} {vs:List Value}
 (h:bz get sh esz rows) (hr:rows[row]? =ahQ cs) (lx:off+ahP ws<=ahP cs)
 (hw: ∀(j:Nat) (c:PV),ws[j]? =ahQ c-> ∃v,hJ c=ahQ v/\vs[j]? =ahQ v) (hl:(ahP vs)=ahP ws)
 (hg: ∀k,get' k=if sh+row*esz+off<=k/\k<sh+row*esz+off+(ahP vs) then vs[k- (sh+row*esz+off)]? else get k):
 bz get' sh esz (rows.set row (vF off ws cs)):=by
 intro i r hi;rw [List.getElem?_set] at hi;have mC:row<(ahP rows):=by
  rcases aa2 row (ahP rows) with h|h
  · exact h
  rw [IR h] at hr;cases hr
 obtain ⟨G4,NF⟩:=h row cs hr;split at hi
 · rename_i e
   subst e;injection hi with hi;subst hi;refine ⟨by rw [gy _ _ _ lx];exact G4,fun j c hc=>?_⟩;rw [nP _ _ _ lx] at hc;rw [hg];split at hc
   · rename_i hj
     obtain ⟨v,hv,LS⟩:=hw _ _ hc;refine ⟨v,hv,?_⟩;rw [lm ⟨by omega,by omega⟩,<- LS]
     congr 1
     omega
   rename_i hj
   obtain ⟨v,hv,LS⟩:=NF j c hc;refine ⟨v,hv,?_⟩;rw [ls (by omega)];exact LS
 rename_i dM
 obtain ⟨JH,hrc⟩:=h i r hi;refine ⟨JH,fun j c hc=>?_⟩;obtain ⟨v,hv,LS⟩:=hrc j c hc;refine ⟨v,hv,?_⟩;have hj:j<esz:=by
  rcases aa2 j (ahP r) with h|h
  · omega
  rw [IR h] at hc;cases hc
 rw [hg,ls (O' (fun e=>dM e.symm) hj (by omega))];exact LS
section
variable {P : Program} {im : Im} {loc : Loc} {aA : bS} {fz : List Nat} {w : World}
theorem fj {g:Nat} {cur cs:Array Value} {t:TypeId} (hg:w.heap[g]? =ahQ (.cells cur t (0,0))):
 (w.setRow g cs).heap=w.heap.setIfInBounds g (.cells cs t (0,0)):=by
 have c7:g<w.heap.size:=(If.1 hg).1;have hv:w.heap[g]= .cells cur t (0,0):=(If.1 hg).2;unfold World.setRow;apply Array.ext
 · simp
 intro k h1 h2
 rw [Array.getElem_setIfInBounds];simp only [Array.getElem_modify];split
 · rename_i hk;subst hk;simp [hv]
 rfl
theorem JI {v:Value} (h:(∀us,v≠ .agg us)/\ ∀us,v≠ .tuple us):v.oneCell'=ahV:=by cases v<;>first|rfl|exact absurd rfl (h.1 _)|exact absurd rfl (h.2 _)
theorem eD.one: ∀{xs:List PV} {vs:List Value},eD im loc xs vs->(∀c∈xs,c.p7=ahV)-> ∀v∈vs,v.oneCell'=ahV
 |_,_,.nil,_,_,hv=>by cases hv
 |_,_,.cons x u xs vs h hs,ho,v,hv=>by
  cases hv with
  |head=>exact JI (h.H6 (ho x (by simp)))
  |tail _ hm=>exact eD.one hs (fun c hc=>ho c (by simp [hc])) v hm
theorem xM {c:PV} (h:c.plain=ahV):c.p7=ahV:=by cases c<;>first|rfl|cases h
theorem Ab {v:PV} {ws:List PV} (h:v.stored=ahQ ws):ws=v.cells/\ ∀c∈v.cells,c.p7=ahV:=by
 unfold PV.stored at h;split at h
 · rename_i ha;injection h with h;exact ⟨h.symm,by simpa using ha⟩
 cases h
theorem mO {v:PV} {ws:List PV} (h:v.bW=ahQ ws):ws=v.cells/\ ∀c∈v.cells,c.plain=ahV:=by
 unfold PV.bW at h;split at h
 · rename_i ha;injection h with h;exact ⟨h.symm,by simpa using ha⟩
 cases h
theorem De {t el:TypeId} {sz b o:Nat} {x:Value} {cur:Array Value} (hs:oC P t sz=ahV) (hb:w.heap[b]? =ahQ (.cells cur el (0,0)))
 (hx:x.cells.size=sz) (lx:o+sz<=cur.size) (h1: ∀v∈x.cells.toList,v.oneCell'=ahV):
 (Instr.storeAt t (.pointer (ahQ ⟨b,o,ahR⟩)) x).run P w= .ok () (w.setRow b (vF o x.cells.toList cur.toList).toArray):=by
 have:=run_storeCells_at P b o el x.cells.toList 0 cur w hb (by simp;omega) h1;simp only [Instr.storeAt,Instr.sureAddr,ww,AC,ut,storeVar,kv hs,hx,ne_eq,not_true_eq_false,if_false];simpa [vF] using this
theorem Pa {t:TypeId} {sz:Nat} {p v:PV} {u x:Value} {r:nL} (hp:VR im loc p u) (hv:VR im loc v x) (hs:oC P t sz=ahV)
 (h:rU aA fz sz v p=ahQ r) (hk:jo im loc aA w r):
 ∃w',(Instr.storeAt t u x).run P w= .ok () w'/\s6 im loc aA w r im loc w'/\r.v= .undef:=by
 unfold rU at h;cases p with
 |ptr tk e row off=>
  dsimp only at h;obtain ⟨li,hl,he,hn,rfl⟩:=hp.yN;cases qe:aA[tk]? with
  |none=>rw [qe] at h;cases h
  |some cZ=>
   rw [qe] at h;cases cZ with
   |arr e' rows=>
    dsimp only at h;cases qP:rows[row]? with
    |none=>rw [qP] at h;cases h
    |some cs=>
     cases hw:v.bW with
     |none=>rw [qP,hw] at h;cases h
     |some ws=>
      rw [qP,hw] at h;dsimp only at h;split at h
      · rename_i hc
        simp only [lw,ab8,abn] at hc;obtain ⟨⟨bU,lx⟩,Rb⟩:=hc;obtain ⟨rfl,LH⟩:=mO hw;injection h with h;subst h;obtain ⟨k,iF,hb⟩:=hk.tok tk (.inr ⟨_,aa9.2 rfl⟩) li hl;rw [qe] at iF;injection iF with iF;subst iF;have dM:rows≠[]:=by intro e;subst e;simp at qP
        obtain ⟨h1,h2,h3⟩:=hb;obtain ⟨arr,el,s9,H8,Jl,kX⟩:=h3 dM;have LR:e'=e:=by rw [<- h1,he]
        subst LR;have G4:(ahP cs)=e':=(kX row cs qP).1;have NG:=hv.cells (fun c hc=>xM (LH c hc));have Pb:x.cells.size=sz:=by have:=NG.mU;simp only [abe] at this;omega
        have JH:row<(ahP rows):=by
         rcases aa2 row (ahP rows) with h|h
         · exact h
         rw [IR h] at qP;cases qP
        have GI:=UV e' (show row+1<=(ahP rows) from JH);rw [PP] at GI;have vG:li.sh+row*e'+off+sz<=arr.size:=by omega
        have bI:=De (P:=P) (w:=w) (t:=t) (b:=li.cZ) (o:=li.sh+row*e'+off) hs s9 Pb vG (NG.one (fun c hc=>xM (LH c hc)));refine ⟨_,bI,?_,rfl⟩;refine s6.write hk (t:=tk) (k0:= .arr e' rows) (li:=li) rfl rfl hl qe (by cases rows with|nil=>exact absurd rfl dM|cons _ _=>rfl) (fj s9) rfl rfl rfl ?_;refine ⟨h1,by simpa using h2,fun _=>⟨(vF (li.sh+row*e'+off) x.cells.toList arr.toList).toArray,el,?_,?_,by simpa using Jl,?_⟩⟩
        · rw [fj s9]
          have c7:=(If.1 s9).1;simp [c7]
        · rw [<- H8]
          simp only [abm];rw [gy _ _ _ (by simp;omega)];simp
        refine kX.store qP (by omega) (NG.G3 LH) NG.mU.symm (fun k=>?_)
        simp only [ab9];rw [nP _ _ _ (by simp;omega)];simp
      cases h
   |box cs=>
    dsimp only at h;cases hw:v.stored with
    |none=>rw [hw] at h;cases h
    |some ws=>
     rw [hw] at h;dsimp only at h;split at h
     · rename_i hc
       simp only [lw,ab8,abn] at hc;obtain ⟨⟨⟨mC,bU⟩,lx⟩,Rb⟩:=hc;subst mC;obtain ⟨rfl,A2⟩:=Ab hw;injection h with h;subst h;obtain ⟨k,iF,hb⟩:=hk.tok tk (.inr ⟨_,aa9.2 rfl⟩) li hl;rw [qe] at iF;injection iF with iF;subst iF;obtain ⟨h1,h2,h3,vs,el,h4,h5,h6⟩:=hb;have NG:=hv.cells A2;have Pb:x.cells.size=sz:=by have:=NG.mU;simp only [abe] at this;omega
       have hcv:=h6.mU;have bI:=De (P:=P) (w:=w) (t:=t) (b:=li.cZ) (o:=li.sh+0*e+off) hs h4 Pb (by simp [h3];omega) (NG.one A2);refine ⟨_,bI,?_,rfl⟩;refine s6.write hk (t:=tk) (k0:= .box cs) (li:=li) rfl rfl hl qe rfl (fj h4) rfl rfl rfl ?_;refine ⟨by rw [show (nK off v.cells cs).length=(ahP cs) by have:=gy off v.cells cs (by omega);unfold vF at this;simpa [nK] using this];exact h1,h2,h3,vF off x.cells.toList vs,el,?_,?_,?_⟩
       · rw [fj h4]
         have c7:=(If.1 h4).1;simp [c7,h3]
       · rw [gy _ _ _ (by simp;omega)];exact h5
       exact eD.vF NG h6
     cases h
   |_=>cases h
 |_=>cases h
end
end Go.Vm
/- Operation by operation, fourth part: aggregates, rows, slices. -/
namespace Go.Vm
theorem bz.tail {get:Nat->Option Value} {sh esz:Nat} {r:Row} {rs:List Row} (h:bz get sh esz (r::rs)):bz get (sh+esz) esz rs:=by intro i x hx;obtain ⟨h1,h2⟩:=h (i+1) x (by simpa using hx);refine ⟨h1,fun j c hc=>?_⟩;obtain ⟨v,hv,hg⟩:=h2 j c hc;refine ⟨v,hv,?_⟩;rw [<- hg];congr 1;rw [PP];omega
theorem bz.drop {get:Nat->Option Value} {sh esz:Nat} {rows:List Row} (h:bz get sh esz rows) (n:Nat):bz get (sh+n*esz) esz (rows.drop n):=by intro i x hx;rw [ack] at hx;obtain ⟨h1,h2⟩:=h (n+i) x hx;refine ⟨h1,fun j c hc=>?_⟩;obtain ⟨v,hv,hg⟩:=h2 j c hc;refine ⟨v,hv,?_⟩;rw [<- hg];congr 1;rw [PP];omega
theorem bz.take {get:Nat->Option Value} {sh esz:Nat} {rows:List Row} (h:bz get sh esz rows) (n:Nat):bz get sh esz (rows.take n):=by
 intro i x hx;have hi:i<n:=by
  rcases aa2 i n with h|h
  · exact h
  rw [IR (by simp;omega)] at hx;cases hx
 rw [abB hi] at hx;exact h i x hx
theorem bz.append {get:Nat->Option Value} {sh esz:Nat} {xs ys:List Row} (h:bz get sh esz xs) (k:bz get (sh+ahP xs*esz) esz ys):bz get sh esz (xs++ys):=by
 intro i r hr;rcases aa2 i (ahP xs) with hi|hi
 · rw [aa3 hi] at hr;exact h i r hr
 rw [aa1 hi] at hr
 obtain ⟨h1,h2⟩:=k _ r hr;refine ⟨h1,fun j c hc=>?_⟩;obtain ⟨v,hv,hg⟩:=h2 j c hc;refine ⟨v,hv,?_⟩;rw [<- hg];congr 1;have:i*esz=ahP xs*esz+(i-(ahP xs))*esz:=by rw [<- PP];congr 1;omega
 omega
theorem bz.nQ {get:Nat->Option Value} {sh esz:Nat} {rows:List Row} (h:bz get sh esz rows): ∀r∈rows,ahP r=esz:=by intro r hr;obtain ⟨i,hi,rfl⟩:=ac7.1 hr;exact (h i _ (NE hi)).1
theorem lz (r:Row):(aY r).length=(ahP r):=by simp [aY]
theorem dA {esz:Nat}: ∀{rows:List Row},(∀r∈rows,ahP r=esz)->(rows.flatMap aY).length=ahP rows*esz
 | [],_=>by simp
 |r::rs,h=>by have ih:=dA (esz:=esz) (rows:=rs) (fun x hx=>h x (by simp [hx]));simp only [abb,abi,ih,lz,h r (by simp),abg,PP];omega
theorem bz.flat {get:Nat->Option Value} {esz:Nat}: ∀{rows:List Row} {sh:Nat},bz get sh esz rows-> ∀(j:Nat) (v:Value),(rows.flatMap aY)[j]? =ahQ v->get (sh+j)=ahQ v
 | [],_,_,j,v,h=>by simp at h
 |r::rs,sh,hr,j,v,h=>by
  rw [abb] at h;have hl:(aY r).length=esz:=by rw [lz];exact hr.nQ r (by simp)
  rcases aa2 j esz with hj|hj
  · rw [aa3 (by omega)] at h
    have:=(s8 (im:=fun _=>ahR) (loc:=fun _=>ahR) hr (i:=0) rfl).2 j v h;simpa using this
  rw [aa1 (by omega),hl] at h
  have:=bz.flat hr.tail (j-esz) v h;rw [show sh+esz+(j-esz)=sh+j by omega] at this;exact this
theorem bz.Ck {esz:Nat}: ∀{rows:List Row} {get:Nat->Option Value} {sh:Nat},(∀r∈rows,ahP r=esz)->(∀r∈rows,∀c∈r,c.plain=ahV)->
 (∀(j:Nat) (v:Value),(rows.flatMap aY)[j]? =ahQ v->get (sh+j)=ahQ v)->bz get sh esz rows
 | [],_,_,_,_,_=>by intro i r h;simp at h
 |r::rs,get,sh,hl,hp,hg=>by
  have JH:(aY r).length=esz:=by rw [lz];exact hl r (by simp)
  have h1:bz get sh esz [r]:=by
   intro i x hx;cases i with
   |succ i=>simp at hx
   |zero=>
    simp at hx;subst hx;refine ⟨hl r (by simp),fun j c hc=>?_⟩;have hcp:=hp r (by simp) c (ac2 hc);obtain ⟨v,hv⟩: ∃v,hJ c=ahQ v:=by cases c<;>first|exact ⟨_,rfl⟩|cases hcp
    refine ⟨v,hv,?_⟩;have hj:j<esz:=by
     rcases aa2 j (ahP r) with h|h
     · have:=hl r (by simp);omega
     rw [IR h] at hc;cases hc
    have:=hg j v (by rw [abb,aa3 (by omega)];simp [aY,hc,hv]);simpa using this
  have h2:bz get (sh+esz) esz rs:=bz.Ck (fun x hx=>hl x (by simp [hx])) (fun x hx=>hp x (by simp [hx])) (fun j v hj=>by
   have:=hg (esz+j) v (by rw [abb,aa1 (by omega),JH,show esz+j-esz=j by omega];exact hj)
   rwa [<- abD] at this)
  have:=h1.append (ys:=rs) (by simpa using h2);simpa using this
theorem bz.plain {get:Nat->Option Value} {sh esz:Nat} {rows:List Row} (h:bz get sh esz rows): ∀r∈rows,∀c∈r,c.plain=ahV:=by intro r hr c hc;obtain ⟨i,hi,rfl⟩:=ac7.1 hr;obtain ⟨j,hj,rfl⟩:=ac7.1 hc;obtain ⟨v,hv,_⟩:=(h i _ (NE hi)).2 j _ (NE hj);cases hh:rows[i][j]<;>rw [hh] at hv<;>first|rfl|cases hv
theorem rY {rows:List Row} (hp: ∀r∈rows,∀c∈r,c.plain=ahV): ∀u∈rows.flatMap aY,u.oneCell'=ahV:=by intro u hu;obtain ⟨r,hr,hu⟩:=List.mem_flatMap.1 hu;obtain ⟨c,hc,rfl⟩:=List.mem_map.1 hu;have:=hp r hr c hc;cases c<;>first|rfl|cases this
section
variable {P : Program} {im : Im} {loc : Loc} {aA : bS} {fz : List Nat} {w : World}
theorem Cl {esz:Nat} {y:PV} {u:Value} {new:List Row} {tx e':TypeId} (hy:VR im loc y u) (hr:rowsOf aA esz y=ahQ new) (hx:P.underlying tx=ahQ (.slice e'))
 (bu: ∀b o,im b=ahQ o->w.heap[b]? =ahQ o) (tok: ∀t,t∈iP y-> ∀li,loc t=ahQ li-> ∃k,aA[t]? =ahQ k/\BR im loc w li k):
 Src P esz tx u (ahP new) (new.flatMap aY) w/\(∀r∈new,ahP r=esz)/\(∀r∈new,∀c∈r,c.plain=ahV):=by
 unfold rowsOf at hr;cases y with
 |sl e qF rows=>
  obtain ⟨a,cap,rfl,_,_,kX⟩:=hy.oN;cases rows with
  |nil=>
   simp at hr;subst hr;refine ⟨?_,by simp,by simp⟩;cases a with
   |none=>exact Src.ofNil w hx cap
   |some a=>exact Src.ofSlice w hx a 0 cap [] (by simp) (by simp) (by simp)
  |cons r rs=>
   dsimp only at hr;split at hr
   · rename_i he
     have he:e=esz:=by simpa using he
     subst he;injection hr with hr;subst hr;obtain ⟨b,o,rfl,cJ⟩:=kX (by simp);refine ⟨Src.ofSlice w hx ⟨b,o,ahR⟩ _ cap _ (dA cJ.nQ) (fun j v hj=>?_) (rY cJ.plain),cJ.nQ,cJ.plain⟩;rw [qJ];exact s7 bu (cJ.flat j v hj)
   cases hr
 |own t e off len cap ex=>
  dsimp only at hr;split at hr
  · rename_i he
    have he:e=esz:=by simpa using he
    subst he;obtain ⟨li,a,cB,rfl,hl,h2,h3,h4,h5,h6,h7⟩:=hy.iB;obtain ⟨k,iF,hb⟩:=tok t (by simp [iP]) li hl;rw [iF] at hr;cases k with
    |arr e' rows=>
     simp only [pp] at hr;subst hr;obtain ⟨b1,b2,b3⟩:=hb;have bU:((rows.drop off).take len).length=len:=by simp;omega
     have LR:e'=e:=by rw [<- b1,h2]
     subst LR;cases rows with
     |nil=>
      have:len=0:=by simp at b2;omega
      subst this;refine ⟨?_,by simp,by simp⟩;simp;cases a with
      |none=>exact Src.ofNil w hx cB
      |some a=>exact Src.ofSlice w hx a 0 cB [] (by simp) (by simp) (by simp)
     |cons r rs=>
      obtain ⟨arr,el,s9,H8,Jl,cJ⟩:=b3 (by simp);have vH:=(cJ.drop off).take len;rcases h7 with h7|⟨h7,rfl,h9⟩
      · have:len=0:=by omega
        subst this;refine ⟨?_,by simp,by simp⟩;simp;cases a with
        |none=>exact Src.ofNil w hx cB
        |some a=>exact Src.ofSlice w hx a 0 cB [] (by simp) (by simp) (by simp)
      rw [bU]
      refine ⟨Src.ofSlice w hx ⟨li.cZ,li.sh+off*e',ahR⟩ len cB _ (by rw [dA vH.nQ,bU]) (fun j v hj=>?_) (rY vH.plain),vH.nQ,vH.plain⟩;rw [qJ];exact kI s9 (vH.flat j v hj)
    |_=>cases hr
  cases hr
 |_=>cases hr
end
end Go.Vm
/- Operation by operation, fifth part: append. -/
namespace Go.Vm
theorem xN: ∀(new:List Row) (i:Nat) (rows:List Row),i+ahP new<=ahP rows->kV i new rows=vF i new rows
 | [],i,rows,h=>by simp [kV,vF]
 |r::rs,i,rows,h=>by
  simp only [abg] at h;rw [kV,xN rs (i+1) (rows.set i r) (by simp;omega)];apply acp;intro j;rw [nP _ _ _ (by simp;omega),nP _ _ _ (by simp;omega)];simp only [abg]
  by_cases h1:i+1<=j/\j<i+1+ahP rs
  · rw [lm h1,lm ⟨by omega,by omega⟩]
    obtain ⟨k,hk⟩: ∃k,j-i=k+1:=⟨j-i-1,by omega⟩;rw [hk,show j- (i+1)=k by omega];simp
  rw [ls h1]
  by_cases h2:j=i
  · subst h2
    rw [lm ⟨Do _,by omega⟩,ag8 (by omega)];simp
  rw [ls (by omega),ah6 (by omega)]
theorem bz.vF {get get':Nat->Option Value} {sh esz i:Nat} {new rows:List Row} (h:bz get sh esz rows) (lx:i+ahP new<=ahP rows)
 (hl: ∀r∈new,ahP r=esz) (hp: ∀r∈new,∀c∈r,c.plain=ahV)
 (hg: ∀k,get' k=if sh+i*esz<=k/\k<sh+i*esz+ahP new*esz then (new.flatMap aY)[k- (sh+i*esz)]? else get k):
 bz get' sh esz (vF i new rows):=by
 have Pc:=dA hl;have old: ∀k r,rows[k]? =ahQ r->(k<i\/i+ahP new<=k)->ahP r=esz/\ ∀(j:Nat) (c:PV),r[j]? =ahQ c-> ∃v,hJ c=ahQ v/\get' (sh+k*esz+j)=ahQ v:=by
  intro k r hk hor;obtain ⟨h1,h2⟩:=h k r hk;refine ⟨h1,fun j c hc=>?_⟩;obtain ⟨v,hv,LS⟩:=h2 j c hc;refine ⟨v,hv,?_⟩;have hj:j<esz:=by
   rcases aa2 j (ahP r) with h|h
   · omega
   rw [IR h] at hc;cases hc
  rw [hg,ls]
  · exact LS
  rcases hor with hor|hor
  · have:=UV esz (show k+1<=i from hor)
    rw [PP] at this;omega
  have:=UV esz hor
  rw [PP] at this;omega
 have A3:bz get' (sh+i*esz) esz new:=bz.Ck hl hp fun j v hj=>by
  have LU:j<ahP new*esz:=by
   rcases aa2 j (ahP new*esz) with h|h
   · exact h
   rw [IR (by omega)] at hj;cases hj
  rw [hg,lm ⟨by omega,by omega⟩,<- hj];congr 1;omega
 intro k r hk;rw [nP _ _ _ lx] at hk;split at hk
 · rename_i hc
   obtain ⟨h1,h2⟩:=A3 _ r hk;refine ⟨h1,fun j c A4=>?_⟩;obtain ⟨v,hv,LS⟩:=h2 j c A4;refine ⟨v,hv,?_⟩;rw [<- LS];congr 1;have:k*esz=i*esz+(k-i)*esz:=by rw [<- PP];congr 1;omega
   omega
 rename_i hc
 exact old k r hk (by omega)
theorem grownCap_ge (w:World) (LV old:Nat) (e:TypeId):LV<=grownCap w LV old e:=by unfold grownCap;simp [Question.cut]
theorem Rc {LV old bytes:Nat} (h:old<LV) (hn:LV<=1048576) (hb:bytes<=1048576):Builtin.nextslicecap LV old*bytes<=281474976710656:=by
 have h1:=nextslicecap_le h;have h2:Builtin.nextslicecap LV old<=2097152:=by omega
 have:=ahF h2 hb;omega
theorem xO (z:Array Value) (n:Nat):(Builtin.zeroCells z n).size=n*z.size:=by simp [Builtin.zeroCells]
section
variable {P : Program} {im : Im} {loc : Loc} {aA : bS} {fz : List Nat} {w : World}
theorem qQ (t tx ty e:TypeId) (i:TypeInfo) (ht:P.underlying t=ahQ (.slice e)) (hi:P.info? e=ahQ i) (b off xP sCap:Nat) (x:Value) (n:Nat) (news:List Value) (hs:Src P i.size tx x n news w)
 (xQ:xP+n<=sCap) {cur:Array Value} {el:TypeId} (hb:w.heap[b]? =ahQ (.cells cur el (0,0))) (lx:off+xP*i.size+ahP news<=cur.size):
 (Builtin.append_ #[t,tx] ty #[.slice (ahQ ⟨b,off,ahR⟩) xP sCap,x]).run P w=
  .ok (.slice (ahQ ⟨b,off,ahR⟩) (xP+n) sCap) (w.setRow b (vF (off+xP*i.size) news cur.toList).toArray):=by
 have bM:=run_storeCells_at P b (off+xP*i.size) el news 0 cur w hb (by simpa using lx) hs.one;simp only [ahM] at bM;rcases hs.kind with ⟨e',hk⟩|hk<;>simp [Builtin.append_,run_underlying ht,run_underlying hk,sizeOf,typeInfo,hi,hs.len,xQ,hs.cells,Addr.add_lit,bM,vF]
theorem Cm {esz:Nat} {olds new:List Row} {rest:Array Value} {el:TypeId} {r:nL} {w':World} {nc:Nat} (hr:r.v= .own (ahP aA) esz 0 (ahP olds+ahP new) (ahP olds+ahP new) ahW)
 (hn:r.news=[.arr esz (olds++new)]) (hk:jo im loc aA w r) (dM:new≠[])
 (hh:w'.heap=w.heap.push (.cells (((olds.flatMap aY)++(new.flatMap aY)).toArray++rest) el))
 (NH: ∀r∈olds,ahP r=esz) (hp1: ∀r∈olds,∀c∈r,c.plain=ahV) (G5: ∀r∈new,ahP r=esz) (hp2: ∀r∈new,∀c∈r,c.plain=ahV)
 (hnc:(ahP olds)+ahP new<=nc) (UK:rest.size=(nc- (ahP olds+ahP new))*esz):
 ∃li:LI,li.cZ=w.heap.size/\VR im (loc.set (ahP aA) li) r.v (.slice (ahQ ⟨w.heap.size,0,ahR⟩) (ahP olds+ahP new) nc)/\
  BR im (loc.set (ahP aA) li) w' li (.arr esz (olds++new))/\mn loc (loc.set (ahP aA) li):=by
 have alq:=dA NH;have alr:=dA G5;have oJ:(((olds.flatMap aY)++(new.flatMap aY)).toArray++rest).size=nc*esz:=by simp only [Array.size_append,abm,abi,alq,alr,UK];rw [<- PP,<- PP];congr 1;omega
 let li:LI:=⟨w.heap.size,0,esz,(olds++new).length,nc*esz⟩
 refine ⟨li,rfl,?_,⟨rfl,rfl,fun _=>⟨_,el,by rw [hh];simp [li],oJ,?_,?_⟩⟩,Loc.xK li (by have:=hk.fresh 0 (by simp [hn]);simpa using this)⟩
 · rw [hr]
   have:=VR.own (im:=im) (loc:=loc.set (ahP aA) li) (ahP aA) esz 0 (ahP olds+ahP new) (ahP olds+ahP new) ahW li (ahQ ⟨w.heap.size,0,ahR⟩) nc
    (Loc.eH _ _ _) rfl (by simp [li]) (Do _) hnc (by simp)
    (.inr ⟨by simp [li];intro _;exact dM,by simp [li],by simp [li]⟩)
   exact this
 · simp only [li]
   have:=UV esz hnc;simp only [abi];omega
 refine bz.Ck (fun r hr=>?_) (fun r hr=>?_) (fun j v hj=>?_)
 · rcases aba.1 hr with h|h
   · exact NH r h
   exact G5 r h
 · rcases aba.1 hr with h|h
   · exact hp1 r h
   exact hp2 r h
 rw [aha] at hj
 simp only [li,agd];rw [Array.getElem?_append_left (by have:=(aaI.1 hj).1;simpa using this)];simpa using hj
end
end Go.Vm
/- Operation by operation, sixth part: append, whole. -/
namespace Go.Vm
section
variable {P : Program} {im : Im} {loc : Loc} {aA : bS} {fz : List Nat} {w : World}
theorem Ew {t tx ty e:TypeId} {i:TypeInfo} {z:Value} {esz:Nat} (ht:P.underlying t=ahQ (.slice e)) (hi:P.info? e=ahQ i) (hz:i.zero=ahQ z) (UL:z.cells.size=esz)
 (LW:i.bytes<=1048576) {oE:Option Addr} {xP sCap:Nat} {olds:List Row} {new:List Row} {x:Value}
 (Ac:(Builtin.firstCells i.size xP (.slice oE xP sCap)).run P w.drew= .ok (olds.flatMap aY).toArray w.drew)
 (hs:Src P i.size tx x (ahP new) (new.flatMap aY) w) (hg:sCap<xP+ahP new) (hm:xP+ahP new<=1048576):
 ∃(nc:Nat) (rest:Array Value),xP+ahP new<=nc/\rest.size=(nc- (xP+ahP new))*esz/\
  (Builtin.append_ #[t,tx] ty #[.slice oE xP sCap,x]).run P w= .ok (.slice (ahQ ⟨w.heap.size,0,ahR⟩) (xP+ahP new) nc)
   (w.drew.alloc (.cells (((olds.flatMap aY)++(new.flatMap aY)).toArray++rest) e)):=by
 refine ⟨_,_,grownCap_ge w (xP+ahP new) sCap e,by rw [xO,UL],
  run_append_grow_src w t tx ty e i z ht hi hz oE xP sCap _ Ac x _ _ hs hg (by omega) (Rc hg hm LW)⟩
theorem Ex {t tx ty e e' : TypeId} {i : TypeInfo} {z : Value} {esz : Nat} (ht : P.underlying t = ahQ (.slice e)) (htx : P.underlying tx = ahQ (.slice e')) (hi : P.info? e = ahQ i) (oJ : i.size = esz)
    (hz : i.zero = ahQ z) (UL : z.cells.size = esz) (LW : i.bytes <= 1048576)
    {x y : PV} {u v : Value} {r : nL} (hx : VR im loc x u) (hy : VR im loc y v) (h : iQ aA fz esz x y = ahQ r) (hk : jo im loc aA w r) :
    ∃ v' w' ba, (Builtin.append_ #[t, tx] ty #[u, v]).run P w = .ok v' w' /\ VR im ba r.v v' /\ s6 im loc aA w r im ba w' := by
  unfold iQ at h
  cases zA : rowsOf aA esz y with
  | none => rw [zA] at h; cases h
  | some new =>
    rw [zA] at h
    dsimp only at h
    cases new with
    | nil =>
      dsimp only at h
      have key : ∀ (a : Option Addr) (n cap : Nat), u = .slice a n cap -> n <= cap -> ahQ ({ v := x, rd := iP y } : nL) = ahQ r ->
          ∃ v' w' ba, (Builtin.append_ #[t, tx] ty #[u, v]).run P w = .ok v' w' /\ VR im ba r.v v' /\ s6 im loc aA w r im ba w' := by
        intro a n cap hu lx hr
        injection hr with hr; subst hr
        obtain ⟨hs, _, _⟩ := Cl (P := P) (w := w) hy zA htx hk.bu (fun t ht => hk.tok t (.inl ht))
        simp only [acI, agY] at hs
        subst hu
        rw [<- oJ] at hs
        exact ⟨_, _, loc, run_append_nothing w t tx ty e i ht hi a n cap lx _ hs, hx, s6.none hk rfl rfl⟩
      have fresh : ∀ (a : Option Addr) (rd : List Nat), u = .slice a 0 0 -> (∀ t ∈ iP y, t ∈ rd) -> ahQ ({ v := .own (ahP aA) esz 0 0 0 ahW, news := [.arr esz []], rd := rd } : nL) = ahQ r ->
          ∃ v' w' ba, (Builtin.append_ #[t, tx] ty #[u, v]).run P w = .ok v' w' /\ VR im ba r.v v' /\ s6 im loc aA w r im ba w' := by
        intro a rd hu GJ hr
        injection hr with hr; subst hr
        obtain ⟨hs, _, _⟩ := Cl (P := P) (w := w) hy zA htx hk.bu (fun t ht => hk.tok t (.inl (GJ t ht)))
        simp only [acI, agY] at hs
        subst hu
        rw [<- oJ] at hs
        exact ⟨_, _, _, run_append_nothing w t tx ty e i ht hi a 0 0 (Do _) _ hs, .own _ esz 0 0 0 ahW ⟨0, 0, esz, 0, 0⟩ a 0 (Loc.eH _ _ _) rfl (Do _) (Do _) (Do _) (by simp) (.inl rfl), s6.Q9 hk rfl rfl⟩
      cases x with
      | sl e qF rows =>
        obtain ⟨a, cap, hu, lx, G4, _⟩ := hx.oN
        dsimp only at h
        split at h
        · rename_i hc
          simp only [lw, ahy] at hc
          obtain ⟨hc, rfl⟩ := hc
          have := G4 hc
          simp at this
          subst this
          exact fresh a _ (by simpa using hu) (fun _ h => h) h
        exact key a _ cap hu lx h
      | own tk e off len cap ex =>
        obtain ⟨li, a, cB, hu, h1, h2, h3, h4, h5, h6, _⟩ := hx.iB
        dsimp only at h
        split at h
        · rename_i hc
          simp only [lw, ab8] at hc
          obtain ⟨⟨rfl, rfl⟩, hc⟩ := hc
          have := h6 hc
          subst this
          exact fresh a _ hu (fun _ h => ace _ h) h
        exact key a _ cB hu (by omega) h
      | _ => cases h
    | cons n0 ns =>
      dsimp only at h
      generalize A3 : n0 :: ns = new at h zA
      have dM : new ≠ [] := by rw [<- A3]; simp
      have Ad : 0 < (ahP new) := by rw [<- A3]; simp
      cases x with
      | sl e1 qF rows =>
        dsimp only at h
        split at h
        · rename_i hc
          simp only [lw, ah2, ab8, abn] at hc
          obtain ⟨⟨ahZ, DI⟩, lA⟩ := hc
          injection h with h
          obtain ⟨a, cap, rfl, zn, QU, kX⟩ := hx.oN
          have als := QU ahZ
          have xg : jo im loc aA w { v := .own (ahP aA) esz 0 ((ahP rows) + (ahP new)) ((ahP rows) + (ahP new)) ahW, news := [.arr esz (rows ++ new)], rd := iP y } := by rw [h]; exact hk
          obtain ⟨hs, GK, QV⟩ := Cl (P := P) (w := w) hy zA htx xg.bu (fun t ht => xg.tok t (.inl ht))
          rw [<- oJ] at hs
          have Ac : (Builtin.firstCells i.size (ahP rows) (.slice a (ahP rows) cap)).run P w.drew = .ok (rows.flatMap aY).toArray w.drew /\ (∀ r ∈ rows, (ahP r) = esz) /\ (∀ r ∈ rows, ∀ c ∈ r, c.plain = ahV) := by
            cases hrw : rows with
            | nil =>
              refine ⟨?_, by simp, by simp⟩
              cases a with
              | none => simpa using run_firstCells_none w.drew i.size 0 0 cap
              | some a => exact run_firstCells_some w.drew i.size 0 a 0 cap [] (by simp) (by simp)
            | cons r0 rs =>
              rw [<- hrw]
              have Pd : rows ≠ [] := by rw [hrw]; simp
              obtain ⟨b, o, rfl, cJ⟩ := kX Pd
              have Ut : e1 = esz := by
                rcases DI with h | h
                · exact h
                rw [hrw] at h; simp at h
              subst Ut
              refine ⟨run_firstCells_some w.drew i.size (ahP rows) ⟨b, o, ahR⟩ (ahP rows) cap _ (by rw [oJ]; exact dA cJ.nQ) (fun j v hj => ?_), cJ.nQ, cJ.plain⟩
              rw [qJ]
              exact s7 xg.bu (cJ.flat j v hj)
          obtain ⟨Ac, hol, eI⟩ := Ac
          obtain ⟨nc, rest, hnc, UK, bI⟩ := Ew (P := P) (w := w) (tx := tx) (ty := ty) ht hi hz UL LW (sCap := cap) Ac hs (by omega) (by simpa [lT] using lA)
          obtain ⟨li, hlb, oD, sV, lx⟩ := Cm (im := im) (loc := loc) (r := { v := .own (ahP aA) esz 0 ((ahP rows) + (ahP new)) ((ahP rows) + (ahP new)) ahW, news := [.arr esz (rows ++ new)], rd := iP y })
            (w' := w.drew.alloc (.cells (((rows.flatMap aY) ++ (new.flatMap aY)).toArray ++ rest) e)) rfl rfl xg dM rfl hol eI GK QV hnc UK
          subst h
          exact ⟨_, _, _, bI, oD, s6.new xg li rfl rfl rfl rfl rfl rfl hlb sV⟩
        cases h
      | own tk e1 off len cap ex =>
        dsimp only at h
        obtain ⟨li, a, cB, rfl, hl, he, DH, bU, zn, hex, DJ⟩ := hx.iB
        cases bM : aA[tk]? with
        | none => rw [bM] at h; cases h
        | some cZ =>
          rw [bM] at h
          cases cZ with
          | arr e2 rows =>
            dsimp only at h
            split at h
            · cases h
            rename_i LR
            have LR : e1 = esz := by simpa using LR
            subst LR
            split at h
            ·
              rename_i xQ
              have xQ : len + (ahP new) <= cap := by simpa using xQ
              split at h
              · cases h
              rename_i Rb
              injection h with h
              subst h
              obtain ⟨hs, GK, QV⟩ := Cl (P := P) (w := w) hy zA htx hk.bu (fun t ht => hk.tok t (.inl ht))
              rw [<- oJ] at hs
              obtain ⟨k, iF, hb⟩ := hk.tok tk (.inr ⟨_, aa9.2 rfl⟩) li hl
              rw [bM] at iF; injection iF with iF; subst iF
              obtain ⟨b1, b2, b3⟩ := hb
              have nR : rows ≠ [] := by intro e; subst e; simp at b2; omega
              have xA : e2 = e1 := by rw [<- b1, he]
              subst xA
              obtain ⟨arr, el, s9, H8, Jl, cJ⟩ := b3 nR
              rcases DJ with h0 | ⟨_, rfl, vG⟩
              · omega
              have GL := dA GK
              have GI := UV e2 (show off + (len + (ahP new)) <= (ahP rows) by omega)
              have LX : (off + (len + (ahP new))) * e2 = off * e2 + len * e2 + (ahP new) * e2 := by rw [PP, PP]; omega
              have Ey : li.sh + off * e2 + len * i.size + (new.flatMap aY).length <= arr.size := by rw [oJ, GL]; omega
              have bI := qQ (P := P) (w := w) t tx ty e i ht hi li.cZ (li.sh + off * e2) len cB v (ahP new) (new.flatMap aY) hs (by omega) s9 Ey
              refine ⟨_, _, loc, bI, ?_, ?_⟩
              · exact .own tk e2 off (len + (ahP new)) cap ex li _ cB hl he DH xQ zn hex (.inr ⟨by omega, rfl, vG⟩)
              refine s6.write hk (t := tk) (k0 := .arr e2 rows) (li := li) rfl rfl hl bM (by cases rows with | nil => exact absurd rfl nR | cons _ _ => rfl) (fj s9) rfl rfl rfl ?_
              rw [xN _ _ _ (by omega)]
              refine ⟨b1, by rw [gy _ _ _ (by omega)]; exact b2, fun _ => ⟨(vF (li.sh + off * e2 + len * i.size) (new.flatMap aY) arr.toList).toArray, el, ?_, ?_, ?_, ?_⟩⟩
              · rw [fj s9]
                have c7 := (If.1 s9).1
                simp [c7]
              · rw [<- H8]
                simp only [abm]
                rw [gy _ _ _ (by simpa using Ey)]; simp
              · rw [gy _ _ _ (by omega)]; exact Jl
              refine cJ.vF (by omega) GK QV (fun k => ?_)
              simp only [ab9]
              rw [nP _ _ _ (by simpa using Ey), GL]
              have : li.sh + off * e2 + len * i.size = li.sh + (off + len) * e2 := by rw [oJ, PP]; omega
              rw [this]
              simp
            rename_i xQ
            have xQ : ¬ (len + (ahP new) <= cap) := by simpa using xQ
            split at h
            · cases h
            rename_i lA
            have lA : len + (ahP new) <= 1048576 := by simpa [lT] using lA
            have old : ∀ (rd : List Nat) (wr : List (Nat × jQ)), (tk ∈ rd \/ ∃ k, (tk, k) ∈ wr) ->
                jo im loc aA w { v := .own (ahP aA) e1 0 (len + (ahP new)) (len + (ahP new)) ahW, news := [.arr e1 ((rows.drop off).take len ++ new)], wr := wr, rd := rd } ->
                (Builtin.firstCells i.size len (.slice a len cB)).run P w.drew = .ok (((rows.drop off).take len).flatMap aY).toArray w.drew /\ ((rows.drop off).take len).length = len /\
                  (∀ r ∈ (rows.drop off).take len, (ahP r) = e1) /\ (∀ r ∈ (rows.drop off).take len, ∀ c ∈ r, c.plain = ahV) := by
              intro rd wr zo xg
              obtain ⟨k, iF, hb⟩ := xg.tok tk zo li hl
              rw [bM] at iF; injection iF with iF; subst iF
              obtain ⟨b1, b2, b3⟩ := hb
              have xA : e2 = e1 := by rw [<- b1, he]
              subst xA
              have Ae : ((rows.drop off).take len).length = len := by simp; omega
              by_cases Jm : len = 0
              · subst Jm
                refine ⟨?_, Ae, by simp, by simp⟩
                simp only [List.take_zero, acI]
                cases a with
                | none => exact run_firstCells_none w.drew i.size 0 0 cB
                | some a => exact run_firstCells_some w.drew i.size 0 a 0 cB [] (by simp) (by simp)
              have nR : rows ≠ [] := by intro e; subst e; simp at Ae; omega
              obtain ⟨arr, el, s9, H8, Jl, cJ⟩ := b3 nR
              have vH := (cJ.drop off).take len
              rcases DJ with h0 | ⟨_, rfl, _⟩
              · omega
              refine ⟨run_firstCells_some w.drew i.size len _ len cB _ (by rw [oJ, dA vH.nQ, Ae]) (fun j v hj => ?_), Ae, vH.nQ, vH.plain⟩
              rw [qJ]
              exact kI (w := w) s9 (vH.flat j v hj)
            split at h
            ·
              rename_i ah0
              injection h with h
              have xg : jo im loc aA w { v := .own (ahP aA) e1 0 (len + (ahP new)) (len + (ahP new)) ahW, news := [.arr e1 ((rows.drop off).take len ++ new)], wr := [], rd := tk :: iP y } := by rw [h]; exact hk
              obtain ⟨Ac, Ae, hol, eI⟩ := old (tk :: iP y) [] (.inl (by simp)) xg
              obtain ⟨hs, GK, QV⟩ := Cl (P := P) (w := w) hy zA htx xg.bu (fun t ht => xg.tok t (.inl (ace _ ht)))
              rw [<- oJ] at hs
              have hce := hex ah0
              obtain ⟨nc, rest, hnc, UK, bI⟩ := Ew (P := P) (w := w) (tx := tx) (ty := ty) ht hi hz UL LW (sCap := cB) Ac hs (by omega) lA
              obtain ⟨lj, hlb, oD, sV, lx⟩ := Cm (im := im) (loc := loc) (olds := (rows.drop off).take len) (new := new) (r := { v := .own (ahP aA) e1 0 (len + (ahP new)) (len + (ahP new)) ahW, news := [.arr e1 ((rows.drop off).take len ++ new)], wr := [], rd := tk :: iP y })
                (w' := w.drew.alloc (.cells (((((rows.drop off).take len).flatMap aY) ++ (new.flatMap aY)).toArray ++ rest) e)) (by rw [Ae]) rfl xg dM rfl hol eI GK QV (by rw [Ae]; exact hnc) (by rw [Ae]; exact UK)
              subst h
              rw [Ae] at oD
              exact ⟨_, _, _, bI, oD, s6.new xg lj rfl rfl rfl rfl rfl rfl hlb sV⟩
            rename_i ah0
            split at h
            · cases h
            rename_i Rb
            injection h with h
            have xg : jo im loc aA w { v := .own (ahP aA) e1 0 (len + (ahP new)) (len + (ahP new)) ahW, news := [.arr e1 ((rows.drop off).take len ++ new)], wr := [(tk, .dead)], rd := iP y } := by rw [h]; exact hk
            obtain ⟨Ac, Ae, hol, eI⟩ := old (iP y) [(tk, .dead)] (.inr ⟨_, aa9.2 rfl⟩) xg
            obtain ⟨hs, GK, QV⟩ := Cl (P := P) (w := w) hy zA htx xg.bu (fun t ht => xg.tok t (.inl ht))
            have uM := hs
            rw [<- oJ] at hs
            subst h
            rcases aa2 cB (len + (ahP new)) with hg | hg
            ·
              obtain ⟨nc, rest, hnc, UK, bI⟩ := Ew (P := P) (w := w) (tx := tx) (ty := ty) ht hi hz UL LW (sCap := cB) Ac hs hg lA
              obtain ⟨lj, hlb, oD, sV, lx⟩ := Cm (im := im) (loc := loc) (olds := (rows.drop off).take len) (new := new) (r := { v := .own (ahP aA) e1 0 (len + (ahP new)) (len + (ahP new)) ahW, news := [.arr e1 ((rows.drop off).take len ++ new)], wr := [(tk, .dead)], rd := iP y })
                (w' := w.drew.alloc (.cells (((((rows.drop off).take len).flatMap aY) ++ (new.flatMap aY)).toArray ++ rest) e)) (by rw [Ae]) rfl xg dM rfl hol eI GK QV (by rw [Ae]; exact hnc) (by rw [Ae]; exact UK)
              rw [Ae] at oD
              refine ⟨_, _, _, bI, oD, ?_⟩
              have oE := s6.new (r := { v := .own (ahP aA) e1 0 (len + (ahP new)) (len + (ahP new)) ahW, news := [.arr e1 ((rows.drop off).take len ++ new)], wr := [], rd := iP y })
                (w' := w.drew.alloc (.cells (((((rows.drop off).take len).flatMap aY) ++ (new.flatMap aY)).toArray ++ rest) e))
                ⟨xg.bu, fun t ht => xg.tok t (by rcases ht with ht | ⟨k, ht⟩; exact .inl ht; cases ht), fun t k h => absurd h (by simp), xg.fresh, fun t u li lj k k' h1 h2 => xg.iE t u li lj k k' (by rcases h1 with h | ⟨k, h⟩; exact .inl h; cases h) (by rcases h2 with h | ⟨k, h⟩; exact .inl h; cases h)⟩ lj rfl rfl rfl rfl rfl rfl hlb sV
              exact { fZ := oE.fZ, dz := oE.dz, bu := oE.bu, dF := oE.dF, os := oE.os, tape := oE.tape, output := oE.output, size := oE.size,
                      frame := fun b hb _ => oE.frame b hb (fun t k li k0 h => absurd h (by simp)),
                      O8 := (fun t k hm hs => by
                        obtain ⟨rfl, rfl⟩ : t = tk /\ k = .dead := by simpa using hm
                        cases hs),
                      wr := fun t k li hm kY => by
                        obtain ⟨rfl, rfl⟩ : t = tk /\ k = .dead := by simpa using hm
                        trivial,
                      kT := oE.kT,
                      news := fun j k li hj hl => by
                        obtain ⟨h2, h3⟩ := oE.news j k li hj hl
                        refine ⟨h2, fun hs => ⟨(h3 hs).1, ?_⟩⟩
                        rcases (h3 hs).2 with h | ⟨t, lt, k0, hm, _⟩
                        · exact .inl h
                        exact absurd hm (by simp),
                      distinct := oE.distinct }
            ·
              obtain ⟨k, iF, hb⟩ := xg.tok tk (.inr ⟨_, aa9.2 rfl⟩) li hl
              rw [bM] at iF; injection iF with iF; subst iF
              obtain ⟨b1, b2, b3⟩ := hb
              have xA : e2 = e1 := by rw [<- b1, he]
              subst xA
              rcases DJ with h0 | ⟨QW, rfl, vG⟩
              · omega
              have nR : rows ≠ [] := by intro e; subst e; simp at b2; omega
              obtain ⟨arr, el, s9, H8, Jl, cJ⟩ := b3 nR
              have vH := (cJ.drop off).take len
              have GL := dA GK
              have ah1 := dA hol
              rw [Ae] at ah1
              have GI := UV e2 (show off + (len + (ahP new)) <= off + cB by omega)
              have LX : (off + (len + (ahP new))) * e2 = off * e2 + len * e2 + (ahP new) * e2 := by rw [PP, PP]; omega
              have Ey : li.sh + off * e2 + len * i.size + (new.flatMap aY).length <= arr.size := by rw [oJ, GL]; omega
              have bI := qQ (P := P) (w := w) t tx ty e i ht hi li.cZ (li.sh + off * e2) len cB v (ahP new) (new.flatMap aY) hs hg s9 Ey
              have NI := fj (cs := (vF (li.sh + off * e2 + len * i.size) (new.flatMap aY) arr.toList).toArray) s9
              have c7 := (If.1 s9).1
              have Af : (jQ.arr e2 rows).bB = ahV := by cases rows with | nil => exact absurd rfl nR | cons _ _ => rfl
              have A5 := xg.free tk .dead (aa9.2 rfl) li (.arr e2 rows) hl bM Af
              let lj : LI := ⟨li.cZ, li.sh + off * e2, e2, ((rows.drop off).take len ++ new).length, li.sz⟩
              have Re : loc (ahP aA) = ahR := by have := xg.fresh 0 (by simp); simpa using this
              have hlj : lj.n = len + (ahP new) := by simp only [lj, abi, Ae]
              refine ⟨_, _, loc.set (ahP aA) lj, bI, ?_, ?_⟩
              · exact .own (ahP aA) e2 0 (len + (ahP new)) (len + (ahP new)) ahW lj _ cB (Loc.eH _ _ _) rfl (by omega) (Do _) hg (by simp)
                  (.inr ⟨by omega, by simp [lj], by simp only [lj, agd]; rw [PP] at vG; omega⟩)
              have sV : BR im (loc.set (ahP aA) lj) (w.setRow li.cZ (vF (li.sh + off * e2 + len * i.size) (new.flatMap aY) arr.toList).toArray) lj (.arr e2 ((rows.drop off).take len ++ new)) := by
                refine ⟨rfl, rfl, fun _ => ⟨(vF (li.sh + off * e2 + len * i.size) (new.flatMap aY) arr.toList).toArray, el, by rw [NI]; simp [lj, c7], ?_, ?_, ?_⟩⟩
                · simp only [lj, abm]
                  rw [gy _ _ _ (by simpa using Ey)]; simpa using H8
                · simp only [lj, abi, Ae]
                  rw [PP]; rw [LX] at GI; omega
                refine bz.Ck (fun r hr => ?_) (fun r hr => ?_) (fun j u hj => ?_)
                · rcases aba.1 hr with h | h
                  · exact hol r h
                  exact GK r h
                · rcases aba.1 hr with h | h
                  · exact eI r h
                  exact QV r h
                rw [aha] at hj
                simp only [lj, ab9]
                rw [nP _ _ _ (by simpa using Ey), GL, oJ]
                rcases aa2 j (len * e2) with LU | LU
                · rw [aa3 (by omega)] at hj
                  rw [ls (by omega)]
                  have := vH.flat j u hj
                  simpa using this
                rw [aa1 (by omega), ah1] at hj
                have hjb := (aaI.1 hj).1
                rw [lm ⟨by omega, by omega⟩, <- hj]
                congr 1
                omega
              exact { fZ := .refl _, dz := Loc.xK lj Re,
                      bu := fun b o hb => by
                        have h1 := xg.bu b o hb
                        have H9 : li.cZ ≠ b := fun e => by rw [e, hb] at A5; cases A5
                        rw [NI, aa8, ls H9]; exact h1,
                      dF := fun _ _ h => .inl h, os := rfl, tape := ⟨rfl, Do _⟩, output := rfl,
                      size := by rw [NI]; simp,
                      O8 := (fun t k hm hs => by
                        obtain ⟨rfl, rfl⟩ : t = tk /\ k = .dead := by simpa using hm
                        cases hs),
                      frame := fun b _ hb => by
                        have H9 := hb tk .dead li _ (aa9.2 rfl) hl bM Af
                        rw [NI, aa8, ls H9],
                      wr := fun t k li hm kY => by
                        obtain ⟨rfl, rfl⟩ : t = tk /\ k = .dead := by simpa using hm
                        trivial,
                      kT := fun t l h => by
                        unfold Loc.set at h
                        split at h
                        · rename_i e; subst e; exact .inr ⟨Do _, by simp⟩
                        exact .inl h,
                      news := Cj (fun j k hj => by
                        cases j with
                        | zero =>
                          simp at hj; subst hj
                          exact ⟨lj, Loc.eH _ _ _, sV, fun _ => ⟨A5, .inr ⟨tk, li, _, aa9.2 rfl, hl, bM, Af, rfl⟩⟩⟩
                        | succ j => simp at hj),
                      distinct := fun i j ki kj li lj h1 h2 _ _ _ _ _ => by
                        cases i <;> cases j <;> simp at h1 h2 <;> rfl }
          | _ => cases h
      | _ => cases h
end
end Go.Vm
/- Operation by operation, seventh part: aggregates and rows that are built, slices that are cut. -/
namespace Go.Vm
section
variable {P : Program} {im : Im} {loc : Loc} {aA : bS} {fz : List Nat} {w : World}
theorem uN {α β:Type} (f:α->Sem β) (g:α->β):
 ∀(xs:List α),(∀a∈xs,(f a).run P w= .ok (g a) w)-> ∀(acc:Array β),(xs.foldlM (fun bs a=>bs.push<$>f a) acc).run P w= .ok (acc++(xs.map g).toArray) w
 | [],_,acc=>by simp
 |x::xs,h,acc=>by
  simp only [ahz,ww,Sem.run_map,h x (by simp),ut,uN f g xs (fun a ha=>h a (by simp [ha]))]
  congr 1
  apply ab2;simp
theorem Pe {α β:Type} (f:α->Sem β) (g:α->β) (xs:Array α) (h: ∀a∈xs,(f a).run P w= .ok (g a) w):(xs.mapM f).run P w= .ok (xs.map g) w:=by
 rw [Array.mapM_eq_foldlM,<- Array.foldlM_toList,uN f g xs.toList (fun a ha=>h a (by simpa using ha))]
 congr 1
 apply ab2;simp
theorem G6 (off:Nat): ∀(xs:List Value) (k:Nat) (cells:Array Value),off+k+ahP xs<=cells.size->
 ((xs.zipIdx k).foldl (fun (cs:Array Value) (p:Value×Nat)=>cs.setIfInBounds (off+p.2) p.1) cells).toList=vF (off+k) xs cells.toList
 | [],k,cells,_=>by simp [vF]
 |x::xs,k,cells,h=>by
  simp only [abg] at h;rw [List.zipIdx_cons,abK,G6 off xs (k+1) _ (by simp;omega)];apply acp;intro j;rw [nP _ _ _ (by simp;omega),nP _ _ _ (by simp;omega)];simp only [abg,Array.toList_setIfInBounds]
  by_cases h1:off+(k+1)<=j/\j<off+(k+1)+ahP xs
  · rw [lm h1,lm ⟨by omega,by omega⟩]
    obtain ⟨m,hm⟩: ∃m,j- (off+k)=m+1:=⟨j- (off+k) -1,by omega⟩;rw [hm,show j- (off+(k+1))=m by omega];simp
  rw [ls h1]
  by_cases h2:j=off+k
  · subst h2
    rw [lm ⟨Do _,by omega⟩,ag8 (by simp;omega)];simp
  rw [ls (by omega),ah6 (by omega)]
theorem yO {place:Nat->Option (Nat×Nat)} {i off size:Nat} {v:Value} {rest:List (Nat×Value)} {cells:Array Value} (hp:place i=ahQ (off,size)) (hs:v.cells.size=size)
 (hf:off+size<=cells.size):Instr.fill place cells ((i,v)::rest)=Instr.fill place ⟨vF off v.cells.toList cells.toList⟩ rest:=by
 have he:(v.cells.zipIdx.foldl (fun cs (c,j)=>cs.setIfInBounds (off+j) c) cells)=⟨vF off v.cells.toList cells.toList⟩:=by apply ab2;rw [<- Array.foldl_toList,Array.toList_zipIdx];have:=G6 off v.cells.toList 0 cells (by simp;omega);simpa using this
 simp only [Instr.fill,hp];rw [ls (by simp [hs];omega),he]
inductive uO (im:Im) (loc:Loc) (place:Nat->Option (Nat×Nat)):List (Nat×Nat×PV)->List (Nat×Value)->Prop
 |nil:uO im loc place [] []
 |cons (off sz i:Nat) (x:PV) (v:Value) (r:List (Nat×Nat×PV)) (s:List (Nat×Value)) (hp:place i=ahQ (off,sz)) (hv:VR im loc x v) (h:uO im loc place r s):
  uO im loc place ((off,sz,x)::r) ((i,v)::s)
theorem JJ {place:Nat->Option (Nat×Nat)}: ∀{ps:List (Nat×Nat×PV)} {qs:List (Nat×Value)},uO im loc place ps qs-> ∀{cs G1:List PV} {vs:Array Value},
 eD im loc cs vs.toList->nh ps cs=ahQ G1-> ∃LJ,Instr.fill place vs qs=ahQ LJ/\eD im loc G1 LJ.toList
 |_,_,.nil,cs,G1,vs,h,hf=>by simp only [nh,pp] at hf;subst hf;exact ⟨vs,rfl,h⟩
 |_,_,.cons off sz i x v r s hp hv hr,cs,G1,vs,h,hf=>by
  simp only [nh] at hf;cases bM:x.stored with
  |none=>rw [bM] at hf;cases hf
  |some ws=>
   rw [bM] at hf;dsimp only at hf;split at hf
   · rename_i hc
     simp only [lw,ab8,abn] at hc;obtain ⟨rfl,A2⟩:=Ab bM;have NG:=hv.cells A2;have hl:=NG.mU;have G4:=h.mU;simp only [abe] at hl G4;rw [yO hp (by omega) (by omega)];exact JJ hr (eD.vF NG h) hf
   cases hf
theorem Ez {t:TypeId} {fs:Array Field} (hu:P.underlying t=ahQ (.struct fs)) (hf: ∀f∈fs,(P.info? f.type).isSome=ahV):
 (fs.mapM fun f=>do pure (f.offset,<- sizeOf f.type):Sem (Array (Nat×Nat))).run P w= .ok (fs.map fun f=>(f.offset,P.cellsOf f.type)) w/\
 (fun i=>(fs.map fun f=>(f.offset,P.cellsOf f.type))[i]?)=placeOf P t:=by
 constructor
 · refine Pe _ _ _ fun f hm=>?_
   obtain ⟨i,hi⟩:=abc.1 (hf f hm);simp [sizeOf,typeInfo,hi,Program.cellsOf]
 funext i
 unfold placeOf;rw [hu];cases hfi:fs[i]? with
 |none=>simp [hfi]
 |some f=>obtain ⟨j,hj⟩:=abc.1 (hf f (Array.mem_of_getElem? hfi));simp [hfi,hj,Program.cellsOf]
theorem Pf {t:TypeId} {zero cs:List PV} {ps:List (Nat×Nat×PV)} {qs:Array (Nat×Value)} (hz:tX P t zero=ahV)
 (nJ:(match P.underlying t with|some (.struct fs)=>fs.all fun f=>(P.info? f.type).isSome|some (.array _ e)=>(P.info? e).isSome|_=>ahW)=ahV)
 (hr:uO im loc (placeOf P t) ps qs.toList) (hf:nh ps zero=ahQ cs): ∃v,(Instr.build t qs).run P w= .ok v w/\VR im loc (.agg cs) v:=by
 unfold tX at hz;cases hi:P.info? t with
 |none=>rw [hi] at hz;cases hz
 |some i=>
  rw [hi] at hz;cases Ia:i.zero with
  |none=>simp [Ia] at hz
  |some z=>
   simp [Ia] at hz;have LK:(zeroValue t).run P w= .ok z w:=by simp [zeroValue,typeInfo,hi,Ia]
   obtain ⟨LJ,h1,h2⟩:=JJ hr (xJ hz) hf;refine ⟨.agg LJ,?_,.agg cs LJ.toList h2⟩;cases hu:P.underlying t with
   |none=>rw [hu] at nJ;cases nJ
   |some d=>
    rw [hu] at nJ;cases d<;>first|cases nJ|skip
    case array n e=>
     obtain ⟨j,hj⟩:=abc.1 nJ;have hp:(fun i=>ahQ (i*j.size,j.size))=placeOf P t:=by funext i;unfold placeOf;rw [hu];simp [hj]
     have oJ:(sizeOf e).run P w= .ok j.size w:=by simp [sizeOf,typeInfo,hj]
     simp only [Instr.build,ww,LK,run_underlying hu,ut,oJ,hp,h1,AC]
    case struct fs=>
     have q9: ∀f∈fs,(P.info? f.type).isSome=ahV:=by intro f hf;have:=Array.all_eq_true.1 nJ;obtain ⟨k,hk,rfl⟩:=Array.mem_iff_getElem.1 hf;exact this k hk
     obtain ⟨hm,hp⟩:=Ez (P:=P) (w:=w) hu q9;simp only [Instr.build,ww,LK,run_underlying hu,ut,hm,hp,h1,AC]
theorem Cn {zero:Row} {zs:Array Value} (h: ∀(j:Nat) (c:PV),zero[j]? =ahQ c-> ∃v,hJ c=ahQ v/\zs[j]? =ahQ v) (hl:(ahP zero)=zs.size) (n:Nat):
 bz (fun k=>((acr (n*zs.size)).map (zs[· %zs.size]!))[k]?) 0 zs.size (ab7 n zero):=by
 intro i r hr;have hi:i<n:=by
  rcases aa2 i n with h|h
  · exact h
  rw [IR (by simpa using h)] at hr;cases hr
 rw [List.getElem?_replicate,lm hi] at hr;injection hr with hr;subst hr;refine ⟨hl,fun j c hc=>?_⟩;obtain ⟨v,hv,hz⟩:=h j c hc;refine ⟨v,hv,?_⟩;have hj:j<zs.size:=(If.1 hz).1;have c7:i*zs.size+j<n*zs.size:=by have:=UV zs.size (show i+1<=n from hi);rw [PP] at this;omega
 have alw:(i*zs.size+j)%zs.size=j:=by rw [Nat.mul_comm,Nat.mul_add_mod];exact Nat.mod_eq_of_lt hj
 simp only [agd];rw [Array.getElem?_map,Array.getElem?_range,lm c7];simp only [ahB,alw];rw [getElem!_pos zs j hj];have:=(If.1 hz).2;rw [this]
inductive xR (im:Im) (loc:Loc):List (Nat×PV)->List (Nat×Value)->Prop
 |nil:xR im loc [] []
 |cons (i:Nat) (x:PV) (v:Value) (r:List (Nat×PV)) (s:List (Nat×Value)) (hv:VR im loc x v) (h:xR im loc r s):xR im loc ((i,x)::r) ((i,v)::s)
theorem A6 {esz n : Nat} : ∀ {ps : List (Nat × PV)} {qs : List (Nat × Value)}, xR im loc ps qs -> ∀ {rows qR : List Row} {vs : Array Value},
    bz (fun k => vs[k]?) 0 esz rows -> vs.size = n * esz -> (ahP rows) = n -> p8 ps rows esz = ahQ qR ->
    ∃ LJ, Instr.fill (fun i => ahQ (i * esz, esz)) vs qs = ahQ LJ /\ bz (fun k => LJ[k]?) 0 esz qR /\ LJ.size = n * esz /\ (ahP qR) = n
  | _, _, .nil, rows, qR, vs, h, hs, hn, hf => by
    simp only [p8, pp] at hf
    subst hf
    exact ⟨vs, rfl, h, hs, hn⟩
  | _, _, .cons i x v r s hv hr, rows, qR, vs, h, hs, hn, hf => by
    simp only [p8] at hf
    cases bM : x.bW with
    | none => rw [bM] at hf; cases hf
    | some ws =>
      rw [bM] at hf
      dsimp only at hf
      split at hf
      · rename_i hc
        have AU : (ahP ws) = esz := by simp only [lw, ab8] at hc; exact hc.1
        have GC : i < (ahP rows) := by simp only [lw] at hc; simpa using hc.2
        obtain ⟨rfl, LH⟩ := mO bM
        have NG := hv.cells (fun c hc => xM (LH c hc))
        have hl := NG.mU
        simp only [abe] at hl
        have GI := UV esz (show i + 1 <= n by omega)
        rw [PP] at GI
        rw [yO (place := fun i => ahQ (i * esz, esz)) rfl (by omega) (by omega)]
        have hgi : rows[i]? = ahQ rows[i] := NE GC
        have hil := (h i _ hgi).1
        have ah3 := h.store (get' := fun k => (⟨vF (i * esz) v.cells.toList vs.toList⟩ : Array Value)[k]?) (off := 0) (ws := x.cells) (vs := v.cells.toList) hgi (by omega) (NG.G3 LH) (by simp; omega) (fun k => by
          simp only [ab9]
          rw [nP _ _ _ (by simp; omega)]
          simp)
        have alx : vF 0 x.cells rows[i] = x.cells := by
          unfold vF; rw [abU (by omega)]; simp
        rw [alx] at ah3
        exact A6 hr ah3 (by simp only [abm]; rw [gy _ _ _ (by simp; omega)]; simpa using hs) (by simpa using hn) hf
      cases hf
end
end Go.Vm
/- Operation by operation, last part: all of them. -/
namespace Go.Vm
def kO.eJ:kO->List fc
 | .QS x| .un _ x| .conv _ x| .len x| .box x| .load _ x| .Ju x| .Jv _ x| .lq _ _ x| .ext _ x=>[x]
 | .pick a b c=>[a,b,c]
 | .bin _ x y| .Jt _ x y| .eqc _ _ x y| .store _ x y| .Jw _ x y| .Da _ _ x y| .idx _ _ _ x y| .Jx x y| .mks _ _ x y| .append _ x y| .copy _ x y=>[x,y]
 | .build _ ps=>ps.map (·.2.2)
 | .AW _ _ _ ps=>ps.map (·.2)
 | .C' x y=>[x,y]
 | .O5 _ x a b c=>x::(a.toList++b.toList++c.toList)
 | .mkf _ a b=>a++b
 | .lookup _ _ _ m k=>[m,k]
 | .HZ _ m k v=>[m,k,v]
 | .clear _ _ x=>[x]
 | .mm _ x xs=>x::xs
 | .call _ _ as=>as
 | .w9 x as=>x::as
 | .LQ _| .alloc _| .mkm _| .bad=>[]
section
variable {P : Program} {im : Im} {loc : Loc} {aA : bS} {fz : List Nat} {w : World} {e : Env} {ρ : Operand -> Value}
theorem nk: ∀{xs:List fc} {os:List Operand},(∀x∈xs,∀o,bn x o=ahV->VR im loc (x.ev e) (ρ o))->eB xs os=ahV->eD im loc (Ek e xs) (os.map ρ)
 | [],[],_,_=> .nil
 |x::xs,o::os,h,hc=>by simp only [eB,lw] at hc;exact .cons _ _ _ _ (h x (by simp) o hc.1) (nk (fun y hy=>h y (by simp [hy])) hc.2)
 | [],_::_,_,hc=>by simp [eB] at hc
 |_::_,[],_,hc=>by simp [eB] at hc
theorem A7 {place:Nat->Option (Nat×Nat)}: ∀{ps:List (Nat×Nat×fc)} {qs:List (Nat×Operand)},(∀x∈ps.map (·.2.2),∀o,bn x o=ahV->VR im loc (x.ev e) (ρ o))->uL place ps qs=ahV->
 uO im loc place (ps.map fun p=>(p.1,p.2.1,p.2.2.ev e)) (qs.map fun (i,x)=>(i,ρ x))
 | [],[],_,_=> .nil
 |(off,sz,x)::r,(i,o)::s,h,hc=>by
  simp only [uL,lw] at hc;obtain ⟨⟨h1,h2⟩,h3⟩:=hc;refine .cons off sz i _ _ _ _ ?_ (h x (by simp) o h2) (A7 (fun y hy=>h y (by simp only [ahJ,abF];exact .inr hy)) h3);cases hp:place i with
  |none=>rw [hp] at h1;cases h1
  |some q=>rw [hp] at h1;simp only [lw,beq_iff_eq] at h1;obtain ⟨rfl,rfl⟩:=h1;rfl
 | [],_::_,_,hc=>by simp [uL] at hc
 |_::_,[],_,hc=>by simp [uL] at hc
theorem xh: ∀{ps:List (Nat×fc)} {qs:List (Nat×Operand)},(∀x∈ps.map (·.2),∀o,bn x o=ahV->VR im loc (x.ev e) (ρ o))->nj ps qs=ahV->
 xR im loc (ps.map fun p=>(p.1,p.2.ev e)) (qs.map fun (i,x)=>(i,ρ x))
 | [],[],_,_=> .nil
 |(i,x)::r,(j,o)::s,h,hc=>by simp only [nj,lw,beq_iff_eq] at hc;obtain ⟨⟨rfl,h2⟩,h3⟩:=hc;exact .cons i _ _ _ _ (h x (by simp) o h2) (xh (fun y hy=>h y (by simp only [ahJ,abF];exact .inr hy)) h3)
 | [],_::_,_,hc=>by simp [nj] at hc
 |_::_,[],_,hc=>by simp [nj] at hc
theorem EA {t:TypeId} {zero:Row} (h:tX P t zero=ahV) (hp:zero.all PV.plain=ahV):
 ∃i z,P.info? t=ahQ i/\i.zero=ahQ z/\ahP zero=z.cells.size/\ ∀(j:Nat) (c:PV),zero[j]? =ahQ c-> ∃v,hJ c=ahQ v/\z.cells[j]? =ahQ v:=by
 unfold tX at h;cases hi:P.info? t with
 |none=>rw [hi] at h;cases h
 |some i=>
  rw [hi] at h;cases hz:i.zero with
  |none=>simp [hz] at h
  |some z=>simp [hz] at h;have hr:eD (fun _=>ahR) (fun _=>ahR) zero z.cells.toList:=xJ h;refine ⟨i,z,rfl,hz,by simpa using hr.mU,fun j c hc=>?_⟩;obtain ⟨v,hv,LS⟩:=hr.get j c hc;refine ⟨v,LS.plain ?_,by simpa using hv⟩;have:=ahA.1 hp c (ac2 hc);exact this
theorem Df {esz n len cap:Nat} {rows:List Row} {vs:Array Value} {el:TypeId} {r:nL} (hr:r={v:= .own (ahP aA) esz 0 len cap ahV,news:=[.arr esz rows]}) (hk:jo im loc aA w r)
 (cJ:bz (fun k=>vs[k]?) 0 esz rows) (hs:vs.size=n*esz) (hn:(ahP rows)=n) (hc:cap=n) (hl:len<=cap):
 ∃ba,VR im ba r.v (.slice (ahQ ⟨w.heap.size,0,ahR⟩) len cap)/\s6 im loc aA w r im ba {w with heap:=w.heap.push (.cells vs el)}:=by
 subst hr hc
 let li:LI:=⟨w.heap.size,0,esz,cap,vs.size⟩
 refine ⟨loc.set (ahP aA) li,?_,?_⟩
 · refine .own (ahP aA) esz 0 len cap ahV li _ cap (Loc.eH _ _ _) rfl (by simp [li]) hl (Do _) (fun _=>rfl) ?_
   rcases ahv cap with h|h
   · exact .inl h
   exact .inr ⟨by simp [li];omega,by simp [li],by simp [li,hs]⟩
 exact s6.new hk li rfl rfl rfl rfl rfl rfl rfl ⟨rfl,hn.symm,fun _=>⟨vs,el,by simp [li],rfl,by simp [li,hs,hn],cJ⟩⟩
theorem NJ {isMax:Bool} {k:IntKind}: ∀{ys:List PV} {us:List Value},eD im loc ys us-> ∀{a:Int} {z:PV},mmE isMax k a ys=ahQ z->
 ∃b,z= .int k b/\(us.foldlM (if isMax then Builtin.max2 else Builtin.min2) (.int k a)).run P w= .ok (.int k b) w
 |_,_,.nil,a,z,h=>by simp only [mmE,pp] at h;exact ⟨a,h.symm,rfl⟩
 |_,_,.cons y u ys us hy hs,a,z,h=>by
  unfold mmE at h;cases y with
  |int l c=>
   obtain rfl:=hy.eW;dsimp only at h;cases QX:eX k l with
   |false=>rw [QX] at h;cases h
   |true=>
    have:=eE.1 QX;subst this;rw [QX,lm rfl] at h;obtain ⟨b,hz,ih⟩:=NJ (isMax:=isMax) hs h;refine ⟨b,hz,?_⟩;rw [ahz,ww];cases isMax with
    |true=>simp only [if_true] at ih ⊢;simp only [Builtin.max2,AC,ut];exact ih
    |false=>simp only [aa4,if_false] at ih ⊢;simp only [Builtin.min2,AC,ut];exact ih
  |_=>cases h
end
end Go.Vm
/- Operation by operation: all that call nothing. -/
namespace Go.Vm
def Rf (P:Program) (ρ:Operand->Value) (o:Oper) (im:Im) (loc:Loc) (aA:bS) (w:World) (r:nL):Prop:=
 ∃nx w' ba,(execOp ρ o).run P w= .ok nx w'/\((nx= .skip/\r.v= .undef)\/ ∃v,nx= .value v/\VR im ba r.v v)/\s6 im loc aA w r im ba w'
section
variable {P : Program} {im : Im} {loc : Loc} {aA : bS} {fz : List Nat} {w : World} {e : Env} {ρ : Operand -> Value}
theorem Rf.pure {o:Oper} {r:nL} {v:Value} (hk:jo im loc aA w r) (hn:r.news=[]) (hw:r.wr=[]) (h:(execOp ρ o).run P w= .ok (.value v) w) (hv:VR im loc r.v v):
 Rf P ρ o im loc aA w r:=⟨_,w,loc,h,.inr ⟨v,rfl,hv⟩,s6.none hk hn hw⟩
theorem Ib {t:TypeId} (h:(P.underlying t matches ahQ .bool)=ahV):P.underlying t=ahQ .bool:=by
 split at h
 · assumption
 cases h
theorem vI {x:Option fc} {o:Option Operand} {n:Option Nat} (oA: ∀y∈x.toList,∀o,bn y o=ahV->VR im loc (y.ev e) (ρ o)) (hc:H5 x o=ahV)
 (h:(match (generalizing:=false) x with|none=>some none|some a=>(jm (a.ev e)).map some)=some n):Aa (o.map ρ) n:=by
 cases x with
 |none=>
  cases o with
  |none=>injection h with h;subst h;trivial
  |some o=>cases hc
 |some a=>
  cases o with
  |none=>cases hc
  |some o=>simp only [v6] at h;obtain ⟨m,hm,rfl⟩:=h;exact oM (oA a (by simp) o hc) hm
theorem tc {t el:TypeId} {esz:Nat} {a:Option Addr} {len cap l h m:Nat} {vl vh vm:Option Value} (hu:P.underlying t=ahQ (.slice el)) (hs:oC P el esz=ahV)
 (hb:(Instr.sliceBounds ahV len cap vl vh vm).run P w= .ok (l,h,m) w):
 (Instr.sliceAt t (.slice a len cap) vl vh vm).run P w= .ok (.slice (if m=l then a else a.map (·.add (l*esz))) (h-l) (m-l)) w:=by
 simp only [Instr.sliceAt,ww,run_underlying hu,ut,Instr.slice,hb,kv hs,AC]
theorem Pg {t el:TypeId} {esz:Nat} {x z:PV} {u:Value} {lo hi mx:Option Nat} {vl vh vm:Option Value} (hx:VR im loc x u) (hu:P.underlying t=ahQ (.slice el)) (hs:oC P el esz=ahV)
 (h1:Aa vl lo) (h2:Aa vh hi) (h3:Aa vm mx) (hm:mx.isSome=ahV->hi.isSome=ahV) (DI: ∀e c r,x= .sl e c r->r=[]\/e=esz) (ah4: ∀tk e o l c ex,x= .own tk e o l c ex->e=esz)
 (h:qH x lo hi mx=ahQ z): ∃v,(Instr.sliceAt t u vl vh vm).run P w= .ok v w/\VR im loc z v:=by
 unfold qH at h;cases x with
 |sl e qF rows=>
  obtain ⟨a,cap,rfl,zn,QU,kX⟩:=hx.oN;dsimp only at h;have sub: ∀(l h m:Nat) (NK:Bool),l<=h->h<=ahP rows->h<=m->m<=cap->(NK=ahV->m=h)->
   VR im loc (.sl e NK ((rows.drop l).take (h-l))) (.slice (if m=l then a else a.map (·.add (l*esz))) (h-l) (m-l)):=by
   intro l h m NK hlh hhr hhm hmc G4;have bU:((rows.drop l).take (h-l)).length=h-l:=by simp;omega
   have:=VR.sl (im:=im) (loc:=loc) e NK ((rows.drop l).take (h-l)) (if m=l then a else a.map (·.add (l*esz))) (m-l) (by omega) (fun hc=>by have:=G4 hc;omega) (fun dM=>by
    have c7:l<h:=by
     rcases aa2 l h with h'|h'
     · exact h'
     exfalso;apply dM;rw [show h-l=0 by omega];simp
    have nR:rows≠[]:=by intro e;subst e;simp at hhr;omega
    obtain ⟨b,o,rfl,cJ⟩:=kX nR;have he:e=esz:=(DI e qF rows rfl).resolve_left nR;subst he;refine ⟨b,o+l*e,?_,(cJ.drop l).take _⟩;rw [ls (by omega)];simp [qJ])
   rwa [bU] at this
  cases mx with
  |none=>
   dsimp only at h;split at h
   · rename_i hc
     simp only [lw,abn] at hc;injection h with h;subst h;have hb:=mN (P:=P) (w:=w) (len:=ahP rows) (cap:=cap) h1 h2 h3 hm hc.1 (fun _=>by simp;omega) (by simp);simp only [ac0] at hb;refine ⟨_,tc hu hs hb,sub _ _ cap _ hc.1 hc.2 (by omega) (Do _) (fun G4=>?_)⟩;simp only [lw,ab8] at G4;have:=QU G4.1;omega
   cases h
  |some m=>
   dsimp only at h;split at h
   · rename_i hc
     simp only [lw,abn] at hc;injection h with h;subst h;have hb:=mN (P:=P) (w:=w) (len:=ahP rows) (cap:=cap) h1 h2 h3 hm hc.1.1 (fun _=>hc.1.2) (by simp;omega);simp only [aak] at hb;refine ⟨_,tc hu hs hb,sub _ _ m _ hc.1.1 (by omega) hc.1.2 (by omega) (fun G4=>?_)⟩;simp only [ab8] at G4;exact G4.symm
   cases h
 |own tk e off len cap ex=>
  obtain ⟨li,a,cB,rfl,hl,he,DH,bU,zn,hex,DJ⟩:=hx.iB;have LR:=ah4 tk e off len cap ex rfl;subst LR;dsimp only at h;have sub: ∀(l h c m m':Nat) (ex':Bool),l<=h->h<=m->m<=cap->m<=m'->m'<=cB->(ex'=ahV->m'=m)->
   VR im loc (.own tk e (off+l) (h-l) (m-l) ex') (.slice (if m'=l then a else a.map (·.add (l*e))) (h-l) (m'-l)):=by
   intro l h c m m' ex' hlh hhm hmc hmm arq aly;refine .own tk e (off+l) (h-l) (m-l) ex' li _ (m'-l) hl he (by omega) (by omega) (by omega) (fun hx=>by have:=aly hx;omega) ?_
   by_cases zp:m'=l
   · exact .inl (by omega)
   rw [ls zp]
   rcases DJ with h0|⟨QW,rfl,vG⟩
   · exact .inl (by omega)
   refine .inr ⟨QW,?_,?_⟩
   · simp only [ahB,qJ];congr 2;rw [PP];omega
   have:=UV e (show off+l+(m'-l)<=off+cB by omega)
   omega
  cases mx with
  |none=>
   dsimp only at h;split at h
   · rename_i hc
     simp only [lw,abn] at hc;injection h with h;subst h;have hb:=mN (P:=P) (w:=w) (len:=len) (cap:=cB) h1 h2 h3 hm hc.1 (fun _=>by simp;omega) (by simp);simp only [ac0] at hb;exact ⟨_,tc hu hs hb,sub _ _ 0 cap cB ex hc.1 hc.2 (Do _) zn (Do _) hex⟩
   cases h
  |some m=>
   dsimp only at h;split at h
   · rename_i hc
     simp only [lw,abn] at hc;injection h with h;subst h;have hb:=mN (P:=P) (w:=w) (len:=len) (cap:=cB) h1 h2 h3 hm hc.1.1 (fun _=>hc.1.2) (by simp;omega);simp only [aak] at hb;exact ⟨_,tc hu hs hb,sub _ _ 0 m m ahV hc.1.1 hc.1.2 hc.2 (Do _) (by omega) (fun _=>rfl)⟩
   cases h
 |_=>cases h
end
end Go.Vm
/- Two aggregates of plain cells are compared cell by cell. -/
namespace Go.Vm
theorem xS: ∀(a b c d:List PV),ahP a=ahP b->cX (a++c) (b++d)=match cX a b with|some ahV=>cX c d|x=>x
 | [],[],c,d,_=>by simp [cX]
 |x::xs,y::ys,c,d,h=>by
  simp only [List.cons_append,cX];cases qG x y with
  |none=>rfl
  |some r=>
   cases r with
   |false=>rfl
   |true=>exact xS xs ys c d (by simpa using h)
 | [],_::_,_,_,h=>by simp at h
 |_::_,[],_,_,h=>by simp at h
section
variable {P : Program} {im : Im} {loc : Loc} {w : World}
def whole (P:Program) (t:TypeId) (us:List Value):Value:=if gO P t then .agg ⟨us⟩ else us.getD 0 Go.undef
def iR (P:Program) (d:Nat) (r:Option Nat) (f:Field):Option Nat:=
 match r with
 |some n=>if f.offset==n&&f.name != "_" then (match flat P d f.type with
  |some m=>if oC P f.type m then ahQ (n+m) else ahR
  |none=>ahR) else ahR
 |none=>ahR
theorem pD {d:Nat}: ∀(fs:List Field),fs.foldl (iR P d) ahR=ahR
 | []=>rfl
 |f::fs=>by rw [abK];exact pD fs
theorem Ic {d:Nat} {t:TypeId} {n:Nat} (h:flat P d t=ahQ n) (hr:gO P t=ahW):n=1:=by
 cases d with
 |zero=>cases h
 |succ d=>
  simp only [flat] at h;split at h
  · split at h
    · injection h with h;exact h.symm
    cases h
  · rename_i fs hu
    unfold gO at hr;rw [hu] at hr;cases hr
  cases h
theorem Ag {d:Nat} {t:TypeId} {m k:Nat} {us:List Value} (h:flat P d t=ahQ m) (hs:oC P t m=ahV) (hk:k+m<=ahP us) (NL:(P.underlying t).isSome=ahV):
 (Go.part t ⟨us⟩ k).run P w= .ok (whole P t ((us.drop k).take m)) w:=by
 unfold whole;cases hr:gO P t with
 |true=>
  simp only [Go.part,ww,Ch hr,ut,if_true,kv hs,AC]
  congr 2
  apply ab2;simp [acl]
 |false=>
  have h1:=Ic h hr;subst h1;simp only [Go.part,ww,Ci NL hr,ut,aa4,if_false];have c7:k<(ahP us):=by omega
  have:(⟨us⟩:Array Value)[k]? =ahQ us[k]:=by simp [c7]
  rw [this];simp [ahL,c7]
theorem G7 {d:Nat} {t:TypeId} {n:Nat} (h:flat P d t=ahQ n):(P.underlying t).isSome=ahV:=by
 cases d with
 |zero=>cases h
 |succ d=>
  simp only [flat] at h;cases hu:P.underlying t with
  |none=>rw [hu] at h;cases h
  |some _=>rfl
theorem EB {d:Nat}: ∀{fs:List Field} {k n:Nat},fs.foldl (iR P d) (ahQ k)=ahQ n->k<=n
 | [],k,n,h=>by simp at h;omega
 |f::fs,k,n,h=>by
  rw [abK] at h;cases hs:iR P d (ahQ k) f with
  |none=>rw [hs,pD] at h;cases h
  |some k'=>
   rw [hs] at h;have:=EB h;unfold iR at hs;dsimp only at hs;split at hs
   · split at hs
     · split at hs
       · injection hs with hs;omega
       cases hs
     cases hs
   cases hs
theorem Ie: ∀(d:Nat) (t:TypeId) (n:Nat),flat P d t=ahQ n-> ∀(D:Nat),d<=D-> ∀(xs ys:List PV) (us vs:List Value) (b:Bool),eD im loc xs us->eD im loc ys vs->ahP xs=n->ahP ys=n->
 cX xs ys=ahQ b->(Op.equalIn D t (whole P t us) (whole P t vs)).run P w= .ok b w
 |0,t,n,h,_,_,_,_,_,_,_,_,_,_,_,_=>by cases h
 |d+1,t,n,h,0,hD,_,_,_,_,_,_,_,_,_,_=>by omega
 |d+1,t,n,h,D+1,hD,xs,ys,us,vs,b,hx,hy,hxn,hyn,he=>by
  have UM:gO P t=ahW->n=1-> ∃x y u v,xs=[x]/\ys=[y]/\us=[u]/\vs=[v]/\VR im loc x u/\VR im loc y v/\qG x y=ahQ b:=by
   intro hr h1;subst h1
   match xs,us,ys,vs,hx,hy,hxn,hyn,he with
   | [x],[u],[y],[v],.cons _ _ _ _ h1 _,.cons _ _ _ _ h2 _,_,_,he=>
    refine ⟨x,y,u,v,rfl,rfl,rfl,rfl,h1,h2,?_⟩;simp only [cX] at he;cases hc:qG x y with
    |none=>rw [hc] at he;cases he
    |some r=>rw [hc] at he;cases r<;>simpa using he
  simp only [flat] at h;split at h
  · rename_i k hu
    have hr:gO P t=ahW:=by unfold gO;rw [hu]
    split at h
    · injection h with h
      obtain ⟨x,y,u,v,rfl,rfl,rfl,rfl,h1,h2,h3⟩:=UM hr h.symm;simp only [whole,hr,aa4,if_false,ahL,acJ,aak];unfold qG at h3;split at h3
      · split at h3
        · rename_i hk
          have:=eE.1 hk;subst this;injection h3 with h3;subst h3;rw [h1.eW,h2.eW];exact run_equalIn_int w D t _ _ _ _ hu
        cases h3
      cases h3
    cases h
  · rename_i fs hu
    have hr:gO P t=ahV:=by unfold gO;rw [hu]
    split at h
    · cases h
    rename_i bM
    have hf:P.fieldsOf t=fs:=by simp [Program.fieldsOf,hu]
    have bM:P.stoodInHeld t=ahW:=by simpa using bM
    have hxl:=hx.mU;have hyl:=hy.mU;simp only [whole,hr,if_true];rw [run_equalIn_agg w D t _ _ (by rw [hf];exact hu) bM,hf];change (match fs.toList.foldl (iR P d) (ahQ 0) with|some n=>if oC P t n then ahQ n else ahR|none=>ahR)=ahQ n at h;cases hfo:fs.toList.foldl (iR P d) (ahQ 0) with
    |none=>rw [hfo] at h;cases h
    |some n'=>
     rw [hfo] at h;dsimp only at h;split at h
     · injection h with h
       subst h;have key: ∀(l:List Field) (k:Nat),l.foldl (iR P d) (ahQ k)=ahQ n'-> ∀(b':Bool),cX (xs.drop k) (ys.drop k)=ahQ b'->
        (Op.eqFields D ⟨us⟩ ⟨vs⟩ l).run P w= .ok b' w:=by
        intro l
        induction l with
        |nil=>intro k hk b' zz;simp only [List.foldl_nil,pp] at hk;subst hk;rw [abU (by omega),abU (by omega)] at zz;simp only [cX,pp] at zz;subst zz;simp [Op.eqFields]
        |cons f l ih=>
         intro k hk b' zz;rw [abK] at hk;cases hs:iR P d (ahQ k) f with
         |none=>rw [hs,pD] at hk;cases hk
         |some k'=>
          rw [hs] at hk;have hge:=EB hk;unfold iR at hs;dsimp only at hs;split at hs
          · rename_i hc
            simp only [lw,beq_iff_eq,bne_iff_ne,ne_eq] at hc;split at hs
            · rename_i m hm
              split at hs
              · rename_i oJ
                injection hs with hs;subst hs;have NL:=G7 hm;have e1:xs.drop k=(xs.drop k).take m++xs.drop (k+m):=by rw [<- ahG,ah5]
                have e2:ys.drop k=(ys.drop k).take m++ys.drop (k+m):=by rw [<- ahG,ah5]
                rw [e1,e2,xS _ _ _ _ (by simp;omega)] at zz;have dM:f.name≠ "_" :=hc.2;simp only [Op.eqFields,ww,dM,ne_eq,not_false_eq_true,if_true,hc.1];rw [Ag (w:=w) hm oJ (by omega) NL];simp only [ut];rw [Ag (w:=w) hm oJ (by omega) NL];simp only [ut];cases hq:cX ((xs.drop k).take m) ((ys.drop k).take m) with
                |none=>rw [hq] at zz;cases zz
                |some r=>
                 have vJ:=Ie d f.type m hm D (by omega) _ _ _ _ r ((hx.drop k).take m) ((hy.drop k).take m) (by simp;omega) (by simp;omega) hq;rw [vJ];simp only [ut];rw [hq] at zz;cases r with
                 |false=>simp only [pp] at zz;subst zz;simp
                 |true=>dsimp only at zz;have:=ih (k+m) hk b' zz;simpa using this
              cases hs
            cases hs
          cases hs
       exact key fs.toList 0 hfo b (by simpa using he)
     cases h
  cases h
end
end Go.Vm
/- Maps; copy and clear. -/
namespace Go.Vm
theorem VR.xT {im:Im} {loc:Loc} {x:PV} {v:Value} (h:valOf x=ahQ v):VR im loc x v:=by
 cases x with
 |agg cs=>
  simp only [valOf,v6] at h;obtain ⟨vs,Uu,rfl⟩:=h;refine .agg cs vs ?_
  induction cs generalizing vs with
  |nil=>simp at Uu;subst Uu;exact .nil
  |cons c cs ih=>rw [ahH] at Uu;simp only [Option.bind_eq_bind,Option.bind_eq_some_iff,Option.pure_def,pp] at Uu;obtain ⟨v,hv,us,yP,rfl⟩:=Uu;exact .cons _ _ _ _ (.AZ hv) (ih us yP)
 |_=>exact .AZ h
theorem JK {im:Im} {loc:Loc} {x:PV} {v:Value} (h:VR im loc x v) (hp: ∀c∈x.cells,c.plain=ahV):valOf x=ahQ v:=by
 cases x with
 |agg cs=>
  obtain ⟨vs,rfl,hr⟩:=h.pC;simp only [valOf,v6];refine ⟨vs,?_,rfl⟩;simp only [PV.cells] at hp;clear h
  induction cs generalizing vs with
  |nil=>cases hr;rfl
  |cons c cs ih=>
   cases hr with
   |cons _ v _ us h1 h2=>rw [ahH];simp [h1.plain (hp c (by simp)),ih (fun d hd=>hp d (by simp [hd])) us h2]
 |_=>exact h.plain (hp _ (by simp [PV.cells]))
section
variable {P : Program} {im : Im} {loc : Loc} {aA : bS} {fz : List Nat} {w : World}
theorem vK: ∀{xs ys:List PV} {us vs:List Value},cX xs ys=ahQ ahV->eD im loc xs us->eD im loc ys vs->us=vs/\ ∀u∈us,∃k n,u= .int k n
 | [],[],_,_,_,.nil,.nil=>⟨rfl,by simp⟩
 |x::xs,y::ys,_,_,h,.cons _ u _ us h1 h2,.cons _ v _ vs h3 h4=>by
  simp only [cX] at h;split at h
  · rename_i UN
    obtain ⟨rfl,q9⟩:=vK h h2 h4;unfold qG at UN;split at UN
    · rename_i k a l b
      split at UN
      · rename_i QX
        have:=eE.1 QX;subst this;have Ph:a=b:=by simpa using UN
        subst Ph;rw [h1.eW,h3.eW];exact ⟨rfl,by
         intro u hu;rcases abF.1 hu with rfl|hu
         · exact ⟨_,_,rfl⟩
         exact q9 u hu⟩
      cases UN
    cases UN
  · cases h
  cases h
 | [],_::_,_,_,h,_,_=>by simp [cX] at h
 |_::_,[],_,_,h,_,_=>by simp [cX] at h
theorem zB: ∀(us:List Value) (n:Nat),(∀u∈us,∃k m,u= .int k m)->(us.zip us).all (fun (x,y)=>Instr.sameBits n x y)=ahV
 | [],_,_=>rfl
 |u::us,n,h=>by obtain ⟨k,m,rfl⟩:=h u (by simp);simp only [List.zip_cons_cons,List.all_cons,lw];exact ⟨by cases n<;>simp [Instr.sameBits],zB us n fun u hu=>h u (by simp [hu])⟩
theorem jS {n:Option Nat} {x:PV} {u:Value} (h:jA n x=ahV) (hv:VR im loc x u):(n=ahR/\ ∃k m,x= .int k m/\u= .int k m)\/(∃m cs us,n=ahQ m/\x= .agg cs/\ahP cs=m/\u= .agg ⟨us⟩/\eD im loc cs us):=by
 unfold jA at h;split at h
 · exact .inl ⟨rfl,_,_,rfl,hv.eW⟩
 · rename_i m cs
   obtain ⟨us,rfl,hr⟩:=hv.pC;exact .inr ⟨m,cs,us,rfl,rfl,by simpa using h,rfl,hr⟩
 cases h
theorem Rg {n:Option Nat} {x y:PV} {u v:Value} (hx:jA n x=ahV) (hy:jA n y=ahV) (h:cX x.cells y.cells=ahQ ahV) (hu:VR im loc x u) (hv:VR im loc y v):
 u=v/\Instr.sameBits 10000 u u=ahV:=by
 rcases jS hx hu with ⟨rfl,k,m,rfl,rfl⟩|⟨m,cs,us,rfl,rfl,_,rfl,hr⟩
 · rcases jS hy hv with ⟨_,l,m',rfl,rfl⟩|⟨_,_,_,h',_⟩
   · obtain ⟨h1,_⟩:=vK (im:=im) (loc:=loc) h (.cons _ _ _ _ (.int k m) .nil) (.cons _ _ _ _ (.int l m') .nil)
     injection h1 with h1;exact ⟨h1,by simp [Instr.sameBits]⟩
   cases h'
 rcases jS hy hv with ⟨h',_⟩|⟨_,ds,vs,_,rfl,_,rfl,hs⟩
 · cases h'
 obtain ⟨rfl,h2⟩:=vK h hr hs
 refine ⟨rfl,?_⟩;simp only [Instr.sameBits,beq_self_eq_true,ahI];exact zB us 9999 h2
theorem fh.get: ∀{es:List (PV×PV)} {kS:List MapEntry},fh es kS-> ∀{i:Nat} {p:PV×PV},es[i]? =ahQ p-> ∃e,kS[i]? =ahQ e/\valOf p.1=ahQ e.key/\valOf p.2=ahQ e.val
 |(k,v)::r,e::r',h,0,p,hp=>by simp at hp;subst hp;exact ⟨e,rfl,h.1,h.2.1⟩
 |(k,v)::r,e::r',h,i+1,p,hp=>by obtain ⟨e',h1,h2⟩:=fh.get h.2.2 (i:=i) (p:=p) (by simpa using hp);exact ⟨e',by simpa using h1,h2⟩
 | [],[],h,i,p,hp=>by simp at hp
 | [],_::_,h,_,_,_=>by simp [fh] at h
 |_::_,[],h,_,_,_=>by simp [fh] at h
theorem JL {q:IntKind} {k:PV} {u:Value} (hu:VR im loc k u) (hk:jA ahR k=ahV): ∀{es:List (PV×PV)} {kS:List MapEntry} {i:Nat} {r:Option Nat},fh es kS->eV ahR k es i=ahQ r->
 ∃r',Instr.findNow (.int q) u kS i=ahQ r'/\match r with|none=>r'=ahR|some j=>i<=j/\ ∃p e,es[j-i]? =ahQ p/\kS[j-i]? =ahQ e/\r'=ahQ (j,e.val)/\jA ahR p.1=ahV/\cX k.cells p.1.cells=ahQ ahV
 | [],[],i,r,_,h=>by simp only [eV,pp] at h;subst h;exact ⟨ahR,rfl,rfl⟩
 |(a,v)::es,e::kS,i,r,hm,h=>by
  simp only [eV] at h;split at h
  case isFalse=>cases h
  rename_i hka;obtain ⟨h1,h2,h3⟩:=hm;obtain ⟨_,kk,kn,rfl,rfl⟩:_/\ ∃kk kn,k= .int kk kn/\u= .int kk kn:=by
   rcases jS hk hu with ⟨_,kk,kn,e1,e2⟩|⟨_,_,_,e1,_⟩
   · exact ⟨trivial,kk,kn,e1,e2⟩
   cases e1
  obtain ⟨ak,an,rfl,hae⟩: ∃ak an,a= .int ak an/\e.key= .int ak an:=by
   rcases jS (im:=im) (loc:=loc) hka (VR.xT h1) with ⟨_,kk,kn,e1,e2⟩|⟨_,_,_,e1,_⟩
   · exact ⟨kk,kn,e1,e2⟩
   cases e1
  simp only [PV.cells,cX,qG] at h;cases xg:eX kk ak with
  |false=>rw [xg] at h;simp at h
  |true=>
   have:=eE.1 xg;subst this;rw [xg] at h;simp only [if_true] at h;simp only [Instr.findNow,hae,Instr.sameNow,if_true];cases hb:(kn==an) with
   |true=>rw [hb] at h;simp only [pp] at h;subst h;refine ⟨_,rfl,Do _,(.int kk an,v),e,by simp,by simp,rfl,hka,?_⟩;simp [PV.cells,cX,qG,xg,hb]
   |false=>
    rw [hb] at h;simp only at h;obtain ⟨r',g1,g2⟩:=JL (q:=q) (k:= .int kk kn) (.int kk kn) hk h3 h;refine ⟨r',g1,?_⟩;cases r with
    |none=>exact g2
    |some j=>
     obtain ⟨q1,p,e',q2,q3,q4,q5,q6⟩:=g2;refine ⟨by omega,p,e',?_,?_,q4,q5,q6⟩
     · rw [show j-i=(j- (i+1))+1 by omega];simpa using q2
     rw [show j-i=(j- (i+1))+1 by omega];simpa using q3
 | [],_::_,i,r,hm,h=>by simp [fh] at hm
 |_::_,[],i,r,hm,h=>by simp [fh] at hm
theorem JM {n:Nat} {kt:TypeId} (mC:gO P kt=ahV) (Pc:flat P 100 kt=ahQ n) {k:PV} {u:Value} (hu:VR im loc k u) (hk:jA (ahQ n) k=ahV): ∀{es:List (PV×PV)} {kS:List MapEntry} {i:Nat} {r:Option Nat},fh es kS->eV (ahQ n) k es i=ahQ r->
 ∃r',(Instr.findAsking kt u kS i).run P w= .ok r' w/\match r with|none=>r'=ahR|some j=>i<=j/\ ∃p e,es[j-i]? =ahQ p/\kS[j-i]? =ahQ e/\r'=ahQ (j,e.val)/\jA (ahQ n) p.1=ahV/\cX k.cells p.1.cells=ahQ ahV
 | [],[],i,r,_,h=>by simp only [eV,pp] at h;subst h;exact ⟨ahR,rfl,rfl⟩
 |(a,v)::es,e::kS,i,r,hm,h=>by
  simp only [eV] at h;split at h
  case isFalse=>cases h
  rename_i hka;obtain ⟨h1,h2,h3⟩:=hm;have hva:VR im loc a e.key:=VR.xT h1;have heq: ∀b,cX k.cells a.cells=ahQ b->(Op.equal kt u e.key).run P w= .ok b w:=by
   intro b hb;rcases jS hk hu with ⟨h',_⟩|⟨m,cs,us,h',rfl,hl,rfl,hr⟩
   · cases h'
   injection h' with h';subst h'
   rcases jS hka hva with ⟨h',_⟩|⟨m,ds,vs,h',rfl,kY,he,hs⟩
   · cases h'
   injection h' with h';subst h'
   rw [he];have:=Ie (P:=P) (w:=w) 100 kt n Pc Op.maxDepth (by decide) cs ds us vs b hr hs hl kY hb;simp only [whole,mC,if_true] at this;exact this
  cases hb:cX k.cells a.cells with
  |none=>rw [hb] at h;cases h
  |some b=>
   rw [hb] at h;have bI:=heq b hb;cases b with
   |true=>simp only [pp] at h;subst h;refine ⟨ahQ (i,e.val),by simp [Instr.findAsking,bI],Do _,(a,v),e,by simp,by simp,rfl,hka,hb⟩
   |false=>
    simp only at h;obtain ⟨r',g1,g2⟩:=JM mC Pc hu hk h3 h;refine ⟨r',by simp [Instr.findAsking,bI,g1],?_⟩;cases r with
    |none=>exact g2
    |some j=>
     obtain ⟨q1,p,e',q2,q3,q4,q5,q6⟩:=g2;refine ⟨by omega,p,e',?_,?_,q4,q5,q6⟩
     · rw [show j-i=(j- (i+1))+1 by omega];simpa using q2
     rw [show j-i=(j- (i+1))+1 by omega];simpa using q3
 | [],_::_,i,r,hm,h=>by simp [fh] at hm
 |_::_,[],i,r,hm,h=>by simp [fh] at hm
theorem EC: ∀(d:Nat) (t:TypeId) (n:Nat),flat P d t=ahQ n-> ∀(D:Nat),d<=D-> ∀(em:Bool) (xs:List PV) (us:List Value),eD im loc xs us->ahP us=n->
 (Instr.checkKey em D t (whole P t us)).run P w= .ok () w
 |0,t,n,h,_,_,_,_,_,_,_=>by cases h
 |d+1,t,n,h,0,hD,_,_,_,_,_=>by omega
 |d+1,t,n,h,D+1,hD,em,xs,us,hx,hun=>by
  simp only [flat] at h;split at h
  · rename_i k hu
    have hr:gO P t=ahW:=by unfold gO;rw [hu]
    split at h
    · injection h with h;subst h
      match us,xs,hx,hun with
      | [u],[x],.cons _ _ _ _ h1 _,_=>simp only [whole,hr,aa4,if_false,ahL,acJ,aak,Instr.checkKey,ww,run_underlying hu,ut];cases u<;>simp
    cases h
  · rename_i fs hu
    have hr:gO P t=ahV:=by unfold gO;rw [hu]
    split at h
    · cases h
    change (match fs.toList.foldl (iR P d) (ahQ 0) with|some n=>if oC P t n then ahQ n else ahR|none=>ahR)=ahQ n at h
    cases hfo:fs.toList.foldl (iR P d) (ahQ 0) with
    |none=>rw [hfo] at h;cases h
    |some n'=>
     rw [hfo] at h;dsimp only at h;split at h
     · injection h with h;subst h
       simp only [whole,hr,if_true,Instr.checkKey,ww,run_underlying hu,ut];rw [<- Array.forIn_toList];have hk: ∃k,fs.toList.foldl (iR P d) (ahQ k)=ahQ n':=⟨0,hfo⟩;clear hfo;obtain ⟨k,hk⟩:=hk;generalize fs.toList=L at hk
       induction L generalizing k with
       |nil=>simp
       |cons f l ih=>
        rw [abK] at hk;cases hs:iR P d (ahQ k) f with
        |none=>rw [hs,pD] at hk;cases hk
        |some k'=>
         rw [hs] at hk;have hge:=EB hk;unfold iR at hs;dsimp only at hs;split at hs
         · rename_i hc
           simp only [lw,beq_iff_eq,bne_iff_ne,ne_eq] at hc;split at hs
           · rename_i m hm
             split at hs
             · rename_i oJ
               injection hs with hs;subst hs;have p1:=Ag (w:=w) (us:=us) hm oJ (k:=k) (by omega) (G7 hm);have p2:=EC d f.type m hm D (by omega) em ((xs.drop k).take m) ((us.drop k).take m) ((hx.drop k).take m) (by simp;omega);simp only [List.forIn_cons,ww,hc.2,ne_eq,not_false_eq_true,if_true,hc.1,p1,p2,ut,AC];exact ih _ hk
             cases hs
           cases hs
         cases hs
     cases h
  cases h
theorem Pj {kt:TypeId} {q:IntKind} (hq:P.underlying kt=ahQ (.int q)) (em:Bool) (n:Nat) (k:IntKind) (m:Int):(Instr.checkKey em (n+1) kt (.int k m)).run P w= .ok () w:=by simp [Instr.checkKey,run_underlying hq]
theorem vL {r:Nat} {es:Array MapEntry} {clock:Nat} (hb:w.heap[r]? =ahQ (.map es clock)):(getObj r).run P w= .ok (.map es clock) w:=by simp [getObj,Sem.run,hb]
theorem ED {r:Nat} {es:Array MapEntry} {clock:Nat} (o:Obj) (hb:w.heap[r]? =ahQ (.map es clock)):(setObj r o).run P w= .ok () {w with heap:=w.heap.setIfInBounds r o}:=by simp [setObj,Sem.run,hb]
theorem JN {kt:TypeId} {d:TypeDesc} {k:Value} {l:List MapEntry} {a:Option (Nat×Value)} (hd:P.underlying kt=ahQ d) (h:Instr.findNow d k l 0=ahQ a):(Instr.findKey kt k l).run P w= .ok a w:=by simp [Instr.findKey,run_underlying hd,h]
theorem Dg {kt:TypeId} {n:Option Nat} (h:xI P kt n=ahV) {k:PV} {u:Value} (hu:VR im loc k u) (hk:jA n k=ahV) (em:Bool):(Instr.checkKey em 10000 kt u).run P w= .ok () w:=by
 rcases jS hk hu with ⟨rfl,kk,m,rfl,rfl⟩|⟨m,cs,us,rfl,rfl,hl,rfl,hr⟩
 · simp only [xI] at h
   split at h
   · rename_i q hq
     exact Pj hq em 9999 kk m
   cases h
 simp only [xI,lw,beq_iff_eq] at h
 have:=EC (P:=P) (w:=w) 100 kt m h.2 10000 (by decide) em cs us hr (by rw [<- hr.mU];exact hl);simp only [whole,h.1,if_true] at this;exact this
theorem EE {kt:TypeId} {n:Option Nat} (h:xI P kt n=ahV) {k:PV} {u:Value} (hu:VR im loc k u) (hk:jA n k=ahV) {es:List (PV×PV)} {kS:List MapEntry} {r:Option Nat} (hm:fh es kS) (hf:eV n k es 0=ahQ r):
 ∃r',(Instr.findKey kt u kS).run P w= .ok r' w/\match r with|none=>r'=ahR|some j=> ∃p e,es[j]? =ahQ p/\kS[j]? =ahQ e/\r'=ahQ (j,e.val)/\jA n p.1=ahV/\cX k.cells p.1.cells=ahQ ahV:=by
 cases n with
 |none=>
  simp only [xI] at h;split at h
  · rename_i q hq
    obtain ⟨r',h1,h2⟩:=JL (q:=q) hu hk hm hf;refine ⟨r',JN hq h1,?_⟩;cases r with
    |none=>exact h2
    |some j=>exact h2.2
  cases h
 |some m=>
  simp only [xI,lw,beq_iff_eq] at h;obtain ⟨r',h1,h2⟩:=JM (P:=P) (w:=w) h.1 h.2 hu hk hm hf;refine ⟨r',?_,?_⟩
  · rw [run_findKey_eq w ?_ u kS]
    · exact h1
    have:=h.1
    unfold gO at this
    revert this
    cases P.underlying kt with
    |none=>exact id
    |some d=>cases d<;>exact id
  cases r with
  |none=>exact h2
  |some j=>exact h2.2
theorem VR.Rh {t:Nat} {v:Value} (h:VR im loc (.mp t) v): ∃li,loc t=ahQ li/\v= .map (ahQ li.cZ):=by cases h with|mp _ li h=>exact ⟨li,h,rfl⟩
theorem LY {t kt et:TypeId} {n:Option Nat} {zero m k:PV} {ok:Bool} {um uk:Value} {r:nL} (ht:P.underlying t=ahQ (.map kt et)) (hkt:xI P kt n=ahV)
 (hz: ∃i z,P.info? et=ahQ i/\i.zero=ahQ z/\VR im loc zero z) (hm:VR im loc m um) (hk:VR im loc k uk)
 (h:s4 aA n zero ok m k=ahQ r) (hkn:jo im loc aA w r):
 ∃v,(Instr.lookup t um uk ok).run P w= .ok v w/\VR im loc r.v v/\r.news=[]/\r.wr=[]:=by
 unfold s4 at h;cases m with
 |mp tk=>
  dsimp only at h;obtain ⟨li,hl,rfl⟩:=hm.Rh;cases hs:aA[tk]? with
  |none=>rw [hs] at h;cases h
  |some b=>
   rw [hs] at h;cases b with
   |map es=>
    dsimp only at h;split at h
    case isFalse=>cases h
    rename_i Pk;cases hf:eV n k es 0 with
    |none=>rw [hf] at h;cases h
    |some q=>
     rw [hf] at h;have GJ:tk∈r.rd:=by
      revert h
      cases q with
      |none=>intro h;simp only [pp] at h;subst h;simp
      |some j=>
       dsimp only;cases es[j]? with
       |none=>intro h;cases h
       |some p=>intro h;simp only [pp] at h;subst h;simp
     obtain ⟨b',Ah,sV⟩:=hkn.tok tk (.inl GJ) li hl;rw [hs] at Ah;injection Ah with Ah;subst Ah;obtain ⟨kS,clock,hw,hrel⟩:=sV;obtain ⟨r',qI,GM⟩:=EE (P:=P) (w:=w) hkt hk Pk hrel hf;have QU:=Dg (P:=P) (w:=w) hkt hk Pk (kS.isEmpty);obtain ⟨i,z,hi,hiz,hvz⟩:=hz;have LK:(zeroValue et).run P w= .ok z w:=by simp [zeroValue,typeInfo,hi,hiz]
     cases q with
     |none=>
      dsimp only at h GM;subst GM;injection h with h;subst h;refine ⟨if ok then .tuple #[z,.bool ahW] else z,?_,?_,rfl,rfl⟩
      · simp only [Instr.lookup,ww,run_underlying ht,ut,vL hw,AC,QU,qI,LK]
      cases ok with
      |true=>exact .bN _ _ (.cons _ _ _ _ hvz (.cons _ _ _ _ (.bool ahW) .nil))
      |false=>exact hvz
     |some j=>
      dsimp only at h GM;obtain ⟨p,e,h1,h2,rfl,h4,h5⟩:=GM;rw [h1] at h;simp only [pp] at h;subst h;obtain ⟨e',B7,Pm,Ri⟩:=fh.get hrel h1;rw [h2] at B7;injection B7 with B7;subst B7;refine ⟨if ok then .tuple #[e.val,.bool ahV] else e.val,?_,?_,rfl,rfl⟩
      · simp only [Instr.lookup,ww,run_underlying ht,ut,vL hw,AC,QU,qI]
      cases ok with
      |true=>exact .bN _ _ (.cons _ _ _ _ (.xT Ri) (.cons _ _ _ _ (.bool ahV) .nil))
      |false=>exact .xT Ri
   |_=>cases h
 |_=>cases h
theorem fh.snoc: ∀{es:List (PV×PV)} {kS:List MapEntry} {p:PV×PV} {e:MapEntry},fh es kS->valOf p.1=ahQ e.key->valOf p.2=ahQ e.val->fh (es++[p]) (kS++[e])
 | [],[],p,e,_,h1,h2=>⟨h1,h2,trivial⟩
 |(k,v)::r,e::r',p,e',h,h1,h2=>⟨h.1,h.2.1,fh.snoc h.2.2 h1 h2⟩
 | [],_::_,_,_,h,_,_=>by simp [fh] at h
 |_::_,[],_,_,h,_,_=>by simp [fh] at h
theorem fh.set: ∀{es:List (PV×PV)} {kS:List MapEntry} {i:Nat} {p:PV×PV} {f:MapEntry->MapEntry},fh es kS->(∀e,valOf p.1=ahQ (f e).key/\valOf p.2=ahQ (f e).val)->fh (es.set i p) (kS.modify i f)
 | [],[],i,p,f,h,_=>by simp [fh]
 |(k,v)::r,e::r',0,p,f,h,h1=>⟨(h1 e).1,(h1 e).2,h.2.2⟩
 |(k,v)::r,e::r',i+1,p,f,h,h1=>by simp only [List.set_cons_succ,List.modify_succ_cons];exact ⟨h.1,h.2.1,fh.set h.2.2 h1⟩
 | [],_::_,_,_,_,h,_=>by simp [fh] at h
 |_::_,[],_,_,_,h,_=>by simp [fh] at h
theorem JO {t kt et:TypeId} {n:Option Nat} {m k x:PV} {um uk ux:Value} {r:nL} (ht:P.underlying t=ahQ (.map kt et)) (hkt:xI P kt n=ahV)
 (hm:VR im loc m um) (hk:VR im loc k uk) (hx:VR im loc x ux)
 (h:Dc aA fz n m k x=ahQ r) (hkn:jo im loc aA w r):
 ∃w',(Instr.mapUpdate t um uk ux).run P w= .ok () w'/\s6 im loc aA w r im loc w'/\r.v= .undef:=by
 unfold Dc at h;cases m with
 |mp tk=>
  dsimp only at h;obtain ⟨li,hl,rfl⟩:=hm.Rh;cases hs:aA[tk]? with
  |none=>rw [hs] at h;cases h
  |some b=>
   rw [hs] at h;cases b with
   |map es=>
    dsimp only at h;split at h
    case isFalse=>cases h
    rename_i Pk;simp only [lw,aaH] at Pk;obtain ⟨Pk,hnf⟩:=Pk;cases hkp:k.bW with
    |none=>rw [hkp] at h;cases h
    |some kc=>
     cases hxp:x.bW with
     |none=>rw [hkp,hxp] at h;cases h
     |some xc=>
      rw [hkp,hxp] at h;dsimp only at h;obtain ⟨_,alB⟩:=mO hkp;obtain ⟨_,alC⟩:=mO hxp;have vk:=JK hk alB;have vx:=JK hx alC;cases hf:eV n k es 0 with
      |none=>rw [hf] at h;cases h
      |some q=>
       rw [hf] at h;have hwr: ∃bb,r={v:= .undef,wr:=[(tk,bb)]}:=by
        revert h
        cases q with
        |none=>intro h;simp only [pp] at h;exact ⟨_,h.symm⟩
        |some j=>intro h;simp only [pp] at h;exact ⟨_,h.symm⟩
       obtain ⟨bb,hr⟩:=hwr;obtain ⟨b',Ah,sV⟩:=hkn.tok tk (.inr ⟨bb,by rw [hr];simp⟩) li hl;rw [hs] at Ah;injection Ah with Ah;subst Ah;obtain ⟨kS,clock,hw,hrel⟩:=sV;obtain ⟨r',qI,GM⟩:=EE (P:=P) (w:=w) hkt hk Pk hrel hf;have QU:=Dg (P:=P) (w:=w) hkt hk Pk ahW;have c7:=(If.1 hw).1;cases q with
       |none=>
        dsimp only at h GM;subst GM;injection h with h;refine ⟨{w with heap:=w.heap.setIfInBounds li.cZ (.map (kS.push {key:=uk,val:=ux,born:=clock}) (clock+1))},?_,s6.write hkn (t:=tk) (k0:= .map es) (o:= .map (kS.push {key:=uk,val:=ux,born:=clock}) (clock+1)) (li:=li) (by rw [<- h]) (by rw [<- h]) hl hs rfl rfl rfl rfl rfl ?_,by rw [<- h]⟩
        · simp only [Instr.mapUpdate,ww,run_underlying ht,ut,vL hw,QU,qI]
          exact ED _ hw
        refine ⟨kS.push {key:=uk,val:=ux,born:=clock},clock+1,by simp [c7],?_⟩
        rw [Array.toList_push];exact hrel.snoc vk vx
       |some j=>
        dsimp only at h GM;obtain ⟨p,e,h1,h2,rfl,h4,h5⟩:=GM;injection h with h;obtain ⟨e',B7,Pm,Ri⟩:=fh.get hrel h1;rw [h2] at B7;injection B7 with B7;subst B7;obtain ⟨Rj,ah8⟩:=Rg (im:=im) (loc:=loc) Pk h4 h5 hk (.xT Pm);have ah9:((kS[j]?).map (·.key)).getD uk=uk:=by
         have:kS[j]? =ahQ e:=by simpa using h2
         rw [this];exact Rj.symm
        refine ⟨{w with heap:=w.heap.setIfInBounds li.cZ (.map (kS.modify j fun e=>{e with key:=uk,val:=ux}) clock)},?_,s6.write hkn (t:=tk) (k0:= .map es) (o:= .map (kS.modify j fun e=>{e with key:=uk,val:=ux}) clock) (li:=li) (by rw [<- h]) (by rw [<- h]) hl hs rfl rfl rfl rfl rfl ?_,by rw [<- h]⟩
        · simp only [Instr.mapUpdate,ww,run_underlying ht,ut,vL hw,QU,qI,ah9,Instr.keyThatStays,ah8,if_true,AC]
          exact ED _ hw
        refine ⟨kS.modify j fun e=>{e with key:=uk,val:=ux},clock,by simp [c7],?_⟩
        rw [Array.toList_modify];exact hrel.set fun e=>⟨vk,vx⟩
   |_=>cases h
 |_=>cases h
theorem LZ {esz:Nat} {y:PV} {u:Value} {new:List Row} (hy:VR im loc y u) (hr:rowsOf aA esz y=ahQ new) (n:Nat) (hn:n<=ahP new)
 (bu: ∀b o,im b=ahQ o->w.heap[b]? =ahQ o) (tok: ∀t,t∈iP y-> ∀li,loc t=ahQ li-> ∃k,aA[t]? =ahQ k/\BR im loc w li k):
 (Builtin.lenOf u).run P w= .ok (ahP new) w/\(Builtin.firstCells esz n u).run P w= .ok ((new.take n).flatMap aY).toArray w/\(∀r∈new,ahP r=esz)/\(∀r∈new,∀c∈r,c.plain=ahV):=by
 have Rk: ∀(a:Option Addr) (l c:Nat),(Builtin.firstCells esz 0 (.slice a l c)).run P w= .ok #[] w:=by
  intro a l c;cases a with
  |none=>simp [Builtin.firstCells]
  |some a=>have:=run_loadCells_list (P:=P) w a [] (by simp);simpa [Builtin.firstCells] using this
 have get: ∀(rows:List Row) (b o l c:Nat) (g:Nat->Option Value),bz g o esz rows->(∀k v,g k=ahQ v->w.cell? ⟨b,k,ahR⟩=ahQ v)->n<=ahP rows->
  (Builtin.firstCells esz n (.slice (ahQ ⟨b,o,ahR⟩) l c)).run P w= .ok ((rows.take n).flatMap aY).toArray w:=by
  intro rows b o l c g cJ hg GK;have h1:=cJ.take n;have Pc:=dA h1.nQ;have:=run_loadCells_list (P:=P) w ⟨b,o,ahR⟩ ((rows.take n).flatMap aY) (fun j v hj=>by rw [qJ];exact hg _ _ (h1.flat j v hj));simp only [Builtin.firstCells];rw [show n*esz=((rows.take n).flatMap aY).length by rw [Pc,adc,ahC GK]];exact this
 unfold rowsOf at hr;cases y with
 |sl e qF rows=>
  obtain ⟨a,cap,rfl,_,_,kX⟩:=hy.oN;cases rows with
  |nil=>
   simp at hr;subst hr;have:n=0:=by simpa using hn
   subst this;exact ⟨rfl,by simpa using Rk a 0 cap,by simp,by simp⟩
  |cons r rs=>
   dsimp only at hr;split at hr
   · rename_i he
     have he:e=esz:=by simpa using he
     subst he;injection hr with hr;subst hr;obtain ⟨b,o,rfl,cJ⟩:=kX (by simp);exact ⟨rfl,get (r::rs) b o _ cap _ cJ (fun k v hk=>s7 bu hk) hn,cJ.nQ,cJ.plain⟩
   cases hr
 |own t e off len cap ex=>
  dsimp only at hr;split at hr
  · rename_i he
    have he:e=esz:=by simpa using he
    subst he;obtain ⟨li,a,cB,rfl,hl,h2,h3,h4,h5,h6,h7⟩:=hy.iB;obtain ⟨k,iF,hb⟩:=tok t (by simp [iP]) li hl;rw [iF] at hr;cases k with
    |arr e' rows=>
     simp only [pp] at hr;subst hr;obtain ⟨b1,b2,b3⟩:=hb;have bU:((rows.drop off).take len).length=len:=by simp;omega
     have LR:e'=e:=by rw [<- b1,h2]
     subst LR;rw [bU] at hn ⊢;cases rows with
     |nil=>
      have:len=0:=by simp at b2;omega
      subst this;have:n=0:=by omega
      subst this;exact ⟨rfl,by simpa using Rk a 0 cB,by simp,by simp⟩
     |cons r rs=>
      obtain ⟨arr,el,s9,H8,Jl,cJ⟩:=b3 (by simp);have vH:=(cJ.drop off).take len;refine ⟨rfl,?_,vH.nQ,vH.plain⟩;rcases ahv n with h0|h0
      · subst h0;simpa using Rk a len cB
      rcases h7 with h7|⟨h7,rfl,h9⟩
      · omega
      exact get _ li.cZ (li.sh+off*e') len cB _ vH (fun k v hk=>kI s9 hk) (by rw [bU];exact hn)
    |_=>cases hr
  cases hr
 |_=>cases hr
theorem JP {esz:Nat} {t off len cap:Nat} {ex:Bool} {u:Value} {rows new:List Row} {r:nL} {d:List Nat} {v:PV} (hx:VR im loc (.own t esz off len cap ex) u) (hs:aA[t]? =ahQ (.arr esz rows)) (hn:new≠[]) (hl:(ahP new)<=len)
 (JH: ∀r∈new,ahP r=esz) (UO: ∀r∈new,∀c∈r,c.plain=ahV) (hr:r={v:=v,wr:=[(t,.arr esz (kV off new rows))],rd:=d}) (hk:jo im loc aA w r):
 ∃b o c w',u= .slice (ahQ ⟨b,o,ahR⟩) len c/\(storeCells ⟨b,o,ahR⟩ (new.flatMap aY)).run P w= .ok () w'/\s6 im loc aA w r im loc w':=by
 obtain ⟨li,a,cB,rfl,kY,he,DH,zn,hex,hxk,DJ⟩:=hx.iB;obtain ⟨k,iF,hb⟩:=hk.tok t (.inr ⟨_,by rw [hr];simp;rfl⟩) li kY;rw [hs] at iF;injection iF with iF;subst iF;obtain ⟨b1,b2,b3⟩:=hb;have GK:0<(ahP new):=List.length_pos_iff.2 hn;have nR:rows≠[]:=by intro e;subst e;simp at b2;omega
 obtain ⟨arr,el,s9,H8,Jl,cJ⟩:=b3 nR;rcases DJ with h0|⟨_,rfl,vG⟩
 · omega
 have GL:=dA JH
 have GI:=UV esz (show off+ahP new<=(ahP rows) by omega);rw [PP] at GI;have Ey:li.sh+off*esz+(new.flatMap aY).length<=arr.size:=by rw [GL];omega
 have bI:=run_storeCells_at P li.cZ (li.sh+off*esz) el (new.flatMap aY) 0 arr w s9 (by simpa using Ey) (rY UO);refine ⟨li.cZ,li.sh+off*esz,cB,_,rfl,bI,?_⟩;refine s6.write hk (t:=t) (k0:= .arr esz rows) (li:=li) (by rw [hr]) (by rw [hr]) kY hs (by cases rows with|nil=>exact absurd rfl nR|cons _ _=>rfl) (fj s9) rfl rfl rfl ?_;rw [xN _ _ _ (by omega)];refine ⟨b1,by rw [gy _ _ _ (by omega)];exact b2,fun _=>⟨(arr.toList.take (li.sh+off*esz+0)++new.flatMap aY++arr.toList.drop (li.sh+off*esz+0+(new.flatMap aY).length)).toArray,el,?_,?_,?_,?_⟩⟩
 · rw [fj s9]
   have c7:=(If.1 s9).1;simp [c7]
 · rw [<- H8]
   have:=gy (li.sh+off*esz) (new.flatMap aY) arr.toList (by simpa using Ey);simp only [vF] at this;simpa using this
 · rw [gy _ _ _ (by omega)];exact Jl
 refine cJ.vF (by omega) JH UO (fun k=>?_)
 have:=nP (li.sh+off*esz) (new.flatMap aY) arr.toList (by simpa using Ey) k;simp only [vF] at this;simp only [ab9,ahM];rw [this,GL];simp
end
end Go.Vm
/- Operation by operation: the theorem. -/
namespace Go.Vm
section
variable {P : Program} {im : Im} {loc : Loc} {aA : bS} {fz : List Nat} {w : World} {e : Env} {ρ : Operand -> Value}
theorem Rl {esz:Nat} {x:PV} (h:uH esz x=ahV):(∀e c r,x= .sl e c r->r=[]\/e=esz)/\(∀tk e o l c ex,x= .own tk e o l c ex->e=esz):=by
 constructor
 · rintro e c r rfl
   simp only [uH,ah2,ab8,ahy] at h;exact h.symm
 rintro tk e o l c ex rfl
 simpa [uH] using h
theorem eo {x:Sem Value} {v:Value} (h:x.run P w= .ok v w):(do pure (Next.value (<- x)):Sem Next).run P w= .ok (.value v) w:=by simp only [ww,h,ut,AC]
theorem JQ {x y:fc} {l:List Operand} (h:eB [x,y] l=ahV): ∃a b,l=[a,b]/\bn x a=ahV/\bn y b=ahV:=by
 match l,h with
 | [],h=>simp [eB] at h
 | [_],h=>simp [eB] at h
 | [a,b],h=>simp only [eB,lw,ahK] at h;exact ⟨a,b,rfl,h.1,h.2⟩
 |_::_::_::_,h=>simp [eB] at h
theorem JR {x:fc} {l:List Operand} (h:eB [x] l=ahV): ∃a,l=[a]/\bn x a=ahV:=by
 match l,h with
 | [],h=>simp [eB] at h
 | [a],h=>simp only [eB,ahK] at h;exact ⟨a,rfl,h⟩
 |_::_::_,h=>simp [eB] at h
theorem Rm {prims:FuncId->Bool} {x:kO} {o:Oper} {r:nL} (hc:xf P prims o.type x o.op=ahV) (oA: ∀y∈x.eJ,∀o',bn y o'=ahV->VR im loc (y.ev e) (ρ o'))
 (h:bq e aA fz x=ahQ r) (hk:jo im loc aA w r):Rf P ρ o im loc aA w r:=by
 unfold xf at hc;split at hc
 case h_1 x o' eI=>injection h with h;subst h;exact .pure hk rfl rfl (by simp [execOp,eI]) (oA x (by simp [kO.eJ]) o' hc)
 case h_2 x o' eI=>injection h with h;subst h;exact .pure hk rfl rfl (by simp [execOp,eI]) (oA x (by simp [kO.eJ]) o' hc)
 case h_3 c a b d e' f eI=>
  simp only [lw] at hc;have h1:=oA c (by simp [kO.eJ]) d hc.1.1;simp only [bq] at h;split at h
  · rename_i hb;rw [hb] at h1;have h1:=h1.jC
    injection h with h;subst h;exact .pure hk rfl rfl (by simp [execOp,eI,h1,asBool]) (oA a (by simp [kO.eJ]) _ hc.1.2)
  · rename_i hb;rw [hb] at h1;have h1:=h1.jC
    injection h with h;subst h;exact .pure hk rfl rfl (by simp [execOp,eI,h1,asBool]) (oA b (by simp [kO.eJ]) _ hc.2)
  cases h
 case h_4 op x y op' t a b u eI=>simp only [lw,beq_iff_eq] at hc;obtain ⟨⟨rfl,h1⟩,h2⟩:=hc;simp only [bq,v6] at h;obtain ⟨z,hz,rfl⟩:=h;obtain ⟨v,bI,hv⟩:=UI (P:=P) (w:=w) (t:=t) (a:=a) (b:=b) (oA x (by simp [kO.eJ]) a h1) (oA y (by simp [kO.eJ]) b h2) hz;exact .pure hk rfl rfl (by simp only [execOp,eI];exact eo bI) hv
 case h_5 neg x y op t a b u eI=>
  simp only [lw] at hc;obtain ⟨⟨⟨h0,ht⟩,h1⟩,h2⟩:=hc;have hx:=oA x (by simp [kO.eJ]) a h1;have hy:=oA y (by simp [kO.eJ]) b h2;simp only [bq] at h;split at h
  · rename_i p q hp hq
    rw [hp] at hx;rw [hq] at hy;injection h with h;subst h;have ho:op=if neg then .neq else .eql:=by cases neg<;>simpa using h0
    refine .pure (v:= .bool (if neg then !(p==q) else p==q)) hk rfl rfl ?_ (.bool _);simp only [execOp,eI,hx.jC,hy.jC];exact eo (Q7 ho (Ib ht))
  cases h
 case h_6 n neg x y op t a b u eI=>
  simp only [lw,aaH,beq_iff_eq] at hc;obtain ⟨⟨⟨⟨⟨h0,hr⟩,hn⟩,hg⟩,h1⟩,h2⟩:=hc;have hx:=oA x (by simp [kO.eJ]) a h1;have hy:=oA y (by simp [kO.eJ]) b h2;simp only [bq] at h;split at h
  · rename_i p q hp hq
    rw [hp] at hx;rw [hq] at hy;obtain ⟨us,hu1,hu2⟩:=hx.pC;obtain ⟨vs,Pm,Ri⟩:=hy.pC;split at h
    case isFalse=>cases h
    rename_i bU;simp only [lw,ab8] at bU;rw [v6] at h;obtain ⟨c,NF,rfl⟩:=h;have ho:op=if neg then .neq else .eql:=by cases neg<;>simpa using h0
    have hq2:=Ie (P:=P) (w:=w) 100 t n hn 10000 (by omega) p q us vs c hu2 Ri bU.1 bU.2 NF;simp only [whole,hr,if_true] at hq2;refine .pure (v:= .bool (if neg then !c else c)) hk rfl rfl ?_ (.bool _);simp only [execOp,eI,hu1,Pm];refine eo ?_;simp only [ww,run_eqGuard_agg w op t a b ⟨us⟩ ⟨vs⟩ hg,ut];cases neg with
    |true=>simp only [if_true] at ho ⊢;subst ho;rw [run_neq_struct,hq2];rfl
    |false=>simp only [aa4,if_false] at ho ⊢;subst ho;rw [run_eql_struct,hq2];rfl
  cases h
 case h_7 op x op' t a eI=>simp only [lw,beq_iff_eq] at hc;obtain ⟨rfl,h1⟩:=hc;simp only [bq,v6] at h;obtain ⟨z,hz,rfl⟩:=h;obtain ⟨v,bI,hv⟩:=ab5 (P:=P) (w:=w) (oA x (by simp [kO.eJ]) a h1) hz;exact .pure hk rfl rfl (by simp only [execOp,eI];exact eo bI) hv
 case h_8 k x s d a eI=>
  simp only [lw] at hc;obtain ⟨⟨hs,hd⟩,h1⟩:=hc;have hx:=oA x (by simp [kO.eJ]) a h1;obtain ⟨ds,UP⟩:=abc.1 hs;simp only [bq] at h;split at h
  · rename_i k' n hp
    rw [hp] at hx;injection h with h;subst h;split at hd
    · rename_i l hl
      have:=eE.1 hd;subst this;refine .pure hk rfl rfl ?_ (.int _ _);simp only [execOp,eI,hx.eW];exact eo (Q8 UP hl)
    cases hd
  cases h
 case h_9 x args argTypes eI=>
  simp only [lw] at hc;obtain ⟨ht,h1⟩:=hc;obtain ⟨a,ha,h1a⟩:=JR h1;have kZ:args= #[a]:=ab2 (by simpa using ha);subst kZ;have hx:=oA x (by simp [kO.eJ]) a h1a;split at ht
  · rename_i t ht0
    unfold rW at ht;split at ht
    · rename_i el hu
      have bI: ∀{v:Value},(Builtin.len_ argTypes o.type #[ρ a]).run P w= .ok v w->(execOp ρ o).run P w= .ok (.value v) w:=by intro v hv;simp only [execOp,eI,resolve,ww,AC,ut,invoke,builtin];rw [show abO ρ #[a]= #[ρ a] by simp,hv];rfl
      simp only [bq] at h;split at h
      · rename_i e' c rows hp
        rw [hp] at hx;obtain ⟨ad,cap,hv,_⟩:=hx.oN;injection h with h;subst h;exact .pure hk rfl rfl (bI (by simp [Builtin.len_,ht0,run_underlying hu,hv,goInt])) (.int _ _)
      · rename_i tk e' off len cap ex hp
        rw [hp] at hx;obtain ⟨li,ad,cB,hv,_⟩:=hx.iB;injection h with h;subst h;exact .pure hk rfl rfl (bI (by simp [Builtin.len_,ht0,run_underlying hu,hv,goInt])) (.int _ _)
      cases h
    cases ht
  cases ht
 case h_10 n args argTypes eI=>
  simp only [lw] at hc;obtain ⟨h0,ht⟩:=hc;have dM:args.size≠0:=by intro hz;have:args= #[]:=Array.eq_empty_of_size_eq_zero hz;subst this;simp at h0
  have ha0:(abO ρ args)[0]? =ahQ (ρ args[0]):=by simp [show 0<args.size by omega]
  simp only [bq,pp] at h;subst h;have bI: ∀{v:Value},(Builtin.len_ argTypes o.type (abO ρ args)).run P w= .ok v w->(execOp ρ o).run P w= .ok (.value v) w:=by intro v hv;simp only [execOp,eI,resolve,ww,AC,ut,invoke,builtin,hv]
  refine .pure hk rfl rfl (bI ?_) (.int _ _);split at ht
  · rename_i t ht0
    split at ht
    · rename_i m el hu
      have hm:m=n:=by simpa using ht
      subst hm;simp only [Builtin.len_,ht0,ha0,ww,run_underlying hu,ut,goInt];cases ρ args[0]<;>rfl
    · rename_i el hu
      split at ht
      · rename_i m el2 hu2
        have hm:m=n:=by simpa using ht
        subst hm;simp only [Builtin.len_,ht0,ha0,ww,run_underlying hu,ut,goInt];cases ρ args[0]<;>simp [run_underlying hu2]
      cases ht
    cases ht
  cases ht
 case h_11 x el a eI=>
  have hx:=oA x (by simp [kO.eJ]) a hc;simp only [bq] at h;cases bM:(x.ev e).stored with
  |none=>rw [bM] at h;cases h
  |some cs=>rw [bM] at h;injection h with h;obtain ⟨rfl,A2⟩:=Ab bM;obtain ⟨ba,hv,he⟩:=Eu (el:=el) (hx.cells A2) h.symm hk;refine ⟨_,_,ba,?_,.inr ⟨_,rfl,hv⟩,he⟩;simp [execOp,eI,Instr.box,newVar,newRow]
 case h_12 cells t eI=>
  simp only [bq,pp] at h;unfold tX at hc;cases hi:P.info? t with
  |none=>rw [hi] at hc;cases hc
  |some i=>
   rw [hi] at hc;cases hz:i.zero with
   |none=>simp [hz] at hc
   |some z=>simp [hz] at hc;obtain ⟨ba,hv,he⟩:=Eu (el:=t) (xJ (im:=im) (loc:=loc) hc) h.symm hk;refine ⟨_,_,ba,?_,.inr ⟨_,rfl,hv⟩,he⟩;simp [execOp,eI,Instr.alloc,newVar,newRow,zeroValue,typeInfo,hi,hz]
 case h_13 zero parts t ps eI=>simp only [lw] at hc;obtain ⟨⟨⟨hz,_⟩,hp⟩,nJ⟩:=hc;simp only [bq,v6] at h;obtain ⟨cs,qP,rfl⟩:=h;have hrel:=A7 (im:=im) (loc:=loc) (e:=e) (ρ:=ρ) (fun y hy=>oA y (by simpa [kO.eJ] using hy)) hp;obtain ⟨v,bI,hv⟩:=Pf (P:=P) (w:=w) (qs:=ps.map fun (i,x)=>(i,ρ x)) hz nJ (by simpa using hrel) qP;exact .pure hk rfl rfl (by simp only [execOp,eI];exact eo bI) hv
 case h_14 esz n zero parts t m ps eI=>
  simp only [lw,beq_iff_eq] at hc;obtain ⟨⟨⟨⟨rfl,nJ⟩,lx⟩,LH⟩,hp⟩:=hc;split at nJ
  · rename_i el hu
    simp only [lw,beq_iff_eq,aaH] at nJ;obtain ⟨⟨⟨hs,hz⟩,hzl⟩,hnz⟩:=nJ;simp only [bq,v6] at h;obtain ⟨rows,kX,h⟩:=h;obtain ⟨i,z,hi,Ia,bU,JS⟩:=EA hz LH;have DI:z.cells.size=esz:=by omega
    have cJ:=Cn JS bU n;rw [DI] at cJ
    obtain ⟨LJ,h1,h2,h3,h4⟩:=A6 (n:=n) (esz:=esz) (xh (im:=im) (loc:=loc) (e:=e) (ρ:=ρ) (fun y hy=>oA y (by simpa [kO.eJ] using hy)) hp) cJ (by simp) (by simp) kX;obtain ⟨ba,hv,he⟩:=Df (el:=el) h.symm hk h2 h3 h4 rfl (Do _);refine ⟨_,_,ba,?_,.inr ⟨_,rfl,hv⟩,he⟩;have LK:(zeroValue el).run P w= .ok z w:=by simp [zeroValue,typeInfo,hi,Ia]
    have lx:n*esz<=1048576:=by simpa using lx
    have alE: ¬(n*esz>2^24):=by omega
    simp only [execOp,eI,Instr.buildSlice,ww,run_underlying hu,ut,kv hs,alE,if_false]
    by_cases h0:n*esz=0
    · have QW:n=0:=by
       rcases ahD.1 h0 with h|h
       · exact h
       rw [h] at hnz;simp at hnz
      subst QW;simp only [ahN] at h1;simp only [ahN,if_true,ww,AC,ut,ag0];have e0:(abO (fun x=>(#[]:Array Value)[x%(#[]:Array Value).size]!) (acr 0))=(abO (fun x=>z.cells[x%esz]!) (acr 0)):=by simp
      rw [e0,h1];simp [newRow]
    simp only [h0,if_false,ww,LK,ut,AC]
    simp only [DI,ag0,h1];simp [newRow]
  cases nJ
 case h_15 agg p t a eI=>simp only [lw] at hc;have hx:=oA p (by simp [kO.eJ]) a hc.2;simp only [bq] at h;obtain ⟨v,bI,hv,hn,hw⟩:=JF (P:=P) hx hc.1 h hk;exact .pure hk hn hw (by simp only [execOp,eI];exact eo bI) hv
 case h_16 sz p v t a b eI=>simp only [lw] at hc;simp only [bq] at h;obtain ⟨w',bI,xt,hu⟩:=Pa (P:=P) (oA p (by simp [kO.eJ]) a hc.1.2) (oA v (by simp [kO.eJ]) b hc.2) hc.1.1 h hk;exact ⟨.skip,w',loc,by simp only [execOp,eI,ww,bI,ut,AC],.inl ⟨rfl,hu⟩,xt⟩
 case h_17 x a eI=>
  have hx:=oA x (by simp [kO.eJ]) a hc;simp only [bq] at h;split at h
  · rename_i t s r' o' hp
    rw [hp] at hx;injection h with h;subst h;obtain ⟨li,h1,h2,h3,hv⟩:=hx.yN;exact .pure hk rfl rfl (by simp only [execOp,eI,hv];rfl) (by rw [<- hv];exact hx)
  · rename_i c o' hp
    rw [hp] at hx;injection h with h;subst h;obtain ⟨b,o2,vs,h1,h2,hv⟩:=hx.xL;exact .pure hk rfl rfl (by simp only [execOp,eI,hv];rfl) (by rw [<- hv];exact hx)
  · rename_i f a' b' hp
    rw [hp] at hx;injection h with h;subst h;generalize hg:ρ a=g at hx;cases hx with
    |eA fn a b as bs ha hb=>exact .pure hk rfl rfl (by simp only [execOp,eI,hg];rfl) (.eA _ _ _ _ _ ha hb)
  cases h
 case h_18 off p t a f eI=>
  simp only [lw] at hc;obtain ⟨hc,h1⟩:=hc;have hx:=oA p (by simp [kO.eJ]) a h1;split at hc
  · rename_i fs hu
    split at hc
    · rename_i g hg
      simp only [lw,beq_iff_eq] at hc;obtain ⟨DH,hi⟩:=hc;cases Rn:P.info? g.type with
      |none=>rw [Rn] at hi;cases hi
      |some i=>
       rw [Rn] at hi;have hz:i.size≠0:=by simpa using hi
       simp only [bq] at h;have: ∃z,(match p.ev e with| .ptr t s r o=>ahQ (PV.ptr t s r (o+off))| .bw c o=>ahQ (PV.bw c (o+off))|_=>ahR)=ahQ z/\r={v:=z}:=by
        revert h
        cases p.ev e<;>intro h<;>first|(injection h with h;exact ⟨_,rfl,h.symm⟩)|cases h
       obtain ⟨z,hz',rfl⟩:=this;obtain ⟨v,bI,hv⟩:=Q' (P:=P) (w:=w) hx hu hg DH Rn hz hz';exact .pure hk rfl rfl (by simp only [execOp,eI];exact eo bI) hv
    cases hc
  cases hc
 case h_19 agg off x t a f eI=>
  simp only [lw] at hc;obtain ⟨hc,h1⟩:=hc;have hx:=oA x (by simp [kO.eJ]) a h1;split at hc
  · rename_i fs hu
    split at hc
    · rename_i g hg
      simp only [lw,beq_iff_eq] at hc;obtain ⟨DH,hag⟩:=hc;simp only [bq] at h;split at h
      · rename_i cs hp
        rw [hp] at hx;obtain ⟨vs,hv,oD⟩:=hx.pC;rw [v6] at h;obtain ⟨z,hz,rfl⟩:=h;rw [<- DH] at hz;obtain ⟨v,bI,LS⟩:=JE (P:=P) (w:=w) hag oD hz;refine .pure hk rfl rfl ?_ LS;simp only [execOp,eI];exact eo (by simp only [Instr.field,ww,run_underlying hu,ut,hg,hv,asAgg,AC,bI])
      cases h
    cases hc
  cases hc
 case h_20 esz x i t a j eI=>
  simp only [lw] at hc;obtain ⟨⟨hs,h1⟩,h2⟩:=hc;have hx:=oA x (by simp [kO.eJ]) a h1;have hi:=oA i (by simp [kO.eJ]) j h2;simp only [bq] at h;cases hn:jm (i.ev e) with
  |none=>rw [hn] at h;cases h
  |some n=>
   rw [hn] at h;dsimp only at h;obtain ⟨k,Co⟩:=oM hi hn;unfold yL at hs;split at hs
   · rename_i el hu
     have: ∃z,(match x.ev e with
      | .sl s _ rows=>match rows[n]? with
       |some cs=>if EQ s esz then ahQ (PV.bw cs 0) else ahR
       |none=>ahR
      | .own t s off len _ _=>if abR n len&&EQ s esz then ahQ (PV.ptr t s (off+n) 0) else ahR
      |_=>ahR)=ahQ z/\r={v:=z}:=by
      revert h
      cases x.ev e with
      |sl s c rows=>
       dsimp only;cases rows[n]? with
       |none=>intro h;cases h
       |some cs=>
        dsimp only;split
        · intro h;injection h with h;exact ⟨_,rfl,h.symm⟩
        intro h;cases h
      |own t s off len cap ex=>
       dsimp only;split
       · intro h;injection h with h;exact ⟨_,rfl,h.symm⟩
       intro h;cases h
      |_=>intro h;cases h
     obtain ⟨z,hz,rfl⟩:=this;obtain ⟨v,bI,hv⟩:=Ra (P:=P) (w:=w) (k:=k) hx hu hs hz;exact .pure hk rfl rfl (by simp only [execOp,eI,Co];exact eo bI) hv
   cases hs
 case h_21 n esz p i t a j eI=>
  simp only [lw] at hc;obtain ⟨⟨hs,h1⟩,h2⟩:=hc;have hx:=oA p (by simp [kO.eJ]) a h1;have hi:=oA i (by simp [kO.eJ]) j h2;simp only [bq] at h;cases hn:jm (i.ev e) with
  |none=>rw [hn] at h;cases h
  |some m=>
   rw [hn] at h;dsimp only at h;split at h
   · rename_i c7
     have c7:m<n:=by simpa using c7
     obtain ⟨k,Co⟩:=oM hi hn;unfold ND at hs;split at hs
     · rename_i m' el hu
       simp only [lw,beq_iff_eq] at hs;obtain ⟨rfl,hs⟩:=hs;have: ∃z,(match p.ev e with| .ptr t s r o=>ahQ (PV.ptr t s r (o+m*esz))| .bw c o=>ahQ (PV.bw c (o+m*esz))|_=>ahR)=ahQ z/\r={v:=z}:=by
        revert h
        cases p.ev e<;>intro h<;>first|(injection h with h;exact ⟨_,rfl,h.symm⟩)|cases h
       obtain ⟨z,hz,rfl⟩:=this;obtain ⟨v,bI,hv⟩:=O9 (P:=P) (w:=w) (k:=k) hx hu hs c7 hz;exact .pure hk rfl rfl (by simp only [execOp,eI,Co];exact eo bI) hv
     cases hs
   cases h
 case h_22 n esz agg x i t a j eI=>
  simp only [lw] at hc;obtain ⟨⟨hs,h1⟩,h2⟩:=hc;have hx:=oA x (by simp [kO.eJ]) a h1;have hi:=oA i (by simp [kO.eJ]) j h2;simp only [bq] at h;cases hn:jm (i.ev e) with
  |none=>rw [hn] at h;cases h
  |some m=>
   rw [hn] at h;dsimp only at h;split at h
   · rename_i c7
     have c7:m<n:=by simpa using c7
     obtain ⟨k,Co⟩:=oM hi hn;split at hs
     · rename_i m' el hu
       simp only [lw,beq_iff_eq] at hs;obtain ⟨⟨rfl,hs⟩,hag⟩:=hs;split at h
       · rename_i cs hp
         rw [hp] at hx;obtain ⟨vs,hv,oD⟩:=hx.pC;rw [v6] at h;obtain ⟨z,hz,rfl⟩:=h;obtain ⟨v,bI,LS⟩:=JE (P:=P) (w:=w) hag oD hz;refine .pure hk rfl rfl ?_ LS;have alG:(0:Int)<=(m:Int)/\(m:Int)<(m':Int):=by omega
         simp only [execOp,eI];exact eo (by simp only [Instr.index,Co,asIntOf,ww,AC,run_underlying hu,ut,hv,alG,and_self,if_true,kv hs,acy,bI])
       cases h
     cases hs
   cases h
 case h_23 x i t a j eI=>
  simp only [lw] at hc;obtain ⟨⟨hs,h1⟩,h2⟩:=hc;have hx:=oA x (by simp [kO.eJ]) a h1;have hi:=oA i (by simp [kO.eJ]) j h2;have hu:P.underlying t=ahQ .string:=by
   split at hs
   · assumption
   cases hs
  simp only [bq] at h;split at h
  · rename_i n s hn hp
    rw [hp] at hx;obtain ⟨k,Co⟩:=oM hi hn;split at h
    · rename_i b hb
      injection h with h;subst h;refine .pure hk rfl rfl ?_ (.int _ _);have h0:(0:Int)<=(n:Int):=by omega
      simp only [execOp,eI];exact eo (by simp only [Instr.index,Co,asIntOf,ww,AC,run_underlying hu,ut,hx.D0,h0,if_true,acy,hb])
    cases h
  cases h
 case h_24 esz x l hh m t a b c d eI=>
  simp only [lw] at hc;obtain ⟨⟨⟨⟨⟨h0,hs⟩,h1⟩,h2⟩,h3⟩,h4⟩:=hc;have hx:=oA x (by simp [kO.eJ]) a h1;simp only [bq] at h;split at h
  · cases h
  rename_i he
  have he:uH esz (x.ev e)=ahV:=by simpa using he
  obtain ⟨Ut,xA⟩:=Rl he;split at h
  · rename_i lo hi mx Pn hhi hmx
    rw [v6] at h;obtain ⟨z,hz,rfl⟩:=h;unfold yL at hs;split at hs
    · rename_i el hu
      have b1:=vI (im:=im) (loc:=loc) (e:=e) (ρ:=ρ) (fun y hy=>oA y (by simp only [kO.eJ,abF,aba];exact .inr (.inl (.inl hy)))) h2 Pn;have b2:=vI (im:=im) (loc:=loc) (e:=e) (ρ:=ρ) (fun y hy=>oA y (by simp only [kO.eJ,abF,aba];exact .inr (.inl (.inr hy)))) h3 hhi;have b3:=vI (im:=im) (loc:=loc) (e:=e) (ρ:=ρ) (fun y hy=>oA y (by simp only [kO.eJ,abF,aba];exact .inr (.inr hy))) h4 hmx;have Ro:mx.isSome=ahV->hi.isSome=ahV:=by
       intro hmm;cases m with
       |none=>simp at hmx;subst hmx;cases hmm
       |some mo=>
        cases hh with
        |none=>simp at h0
        |some ho=>simp only [v6] at hhi;obtain ⟨q,_,rfl⟩:=hhi;rfl
      obtain ⟨v,bI,hv⟩:=Pg (P:=P) (w:=w) hx hu hs b1 b2 b3 Ro Ut xA hz;exact .pure hk rfl rfl (by simp only [execOp,eI];exact eo bI) hv
    cases hs
  cases h
 case h_25 esz zero l c t a b eI=>
  simp only [lw] at hc;obtain ⟨⟨⟨nJ,LH⟩,h1⟩,h2⟩:=hc;have hx:=oA l (by simp [kO.eJ]) a h1;have hy:=oA c (by simp [kO.eJ]) b h2;split at nJ
  · rename_i el hu
    simp only [lw,beq_iff_eq,aaH] at nJ;obtain ⟨⟨⟨⟨hs,hz⟩,hzl⟩,LW⟩,hnz⟩:=nJ;simp only [bq] at h;split at h
    · rename_i n m hn hm
      obtain ⟨k1,iF⟩:=oM hx hn;obtain ⟨k2,Co⟩:=oM hy hm;split at h
      · rename_i lx
        simp only [lw,abn] at lx;injection h with h;obtain ⟨i,z,hi,Ia,bU,JS⟩:=EA hz LH;have DI:z.cells.size=esz:=by omega
        have cJ:=Cn JS bU m;rw [DI] at cJ
        have lA:m<=1048576:=by simpa [lT] using lx.2
        obtain ⟨ba,hv,he⟩:=Df (el:=el) h.symm hk cJ (by simp) (by simp) rfl lx.1;refine ⟨_,_,ba,?_,.inr ⟨_,rfl,hv⟩,he⟩;have LK:(zeroValue el).run P w= .ok z w:=by simp [zeroValue,typeInfo,hi,Ia]
        have hti:(typeInfo el).run P w= .ok i w:=by simp [typeInfo,hi]
        have JT:i.bytes<=1048576:=by unfold DY at LW;rw [hi] at LW;simpa using LW
        have hw1:IntKind.i64.wrap (n:Int)=n:=DZ (by omega) (by omega);have UQ:IntKind.i64.wrap (m:Int)=m:=DZ (by omega) (by omega);have apZ:i.bytes*m<=1099511627776:=by have:=ahF JT lA;omega
        have AU: ¬((i.bytes:Int)*(m:Int)>2^48):=by
         have:((i.bytes*m:Nat):Int)=(i.bytes:Int)*(m:Int):=by simp
         omega
        have L0:(sizeOf el).run P w= .ok esz w:=kv hs;simp only [execOp,eI,iF,Co,Instr.makeSlice,asInt,asIntOf,ww,run_underlying hu,ut,AC,hti,hw1,UQ];have NM:((ahX ((m:Int)<0)||ahX ((i.bytes:Int)*(m:Int)>2^48))||ahX ((n:Int)<0)||ahX ((n:Int)>(m:Int)))=ahW:=by simp only [Bool.or_eq_false_iff,decide_eq_false_iff_not];refine ⟨⟨⟨by omega,AU⟩,by omega⟩,by omega⟩
        rw [NM];simp only [aa4,if_false,ww,run_askRoom,ut,L0,acy]
        by_cases h0:m*esz=0
        · have hm0:m=0:=by
           rcases ahD.1 h0 with h|h
           · exact h
           rw [h] at hnz;simp at hnz
          subst hm0;simp [newRow]
          congr 2
          apply Array.ext<;>simp
        simp only [h0,if_false,ww,LK,ut,AC,DI]
        simp [newRow]
      cases h
    cases h
  cases nJ
 case h_26 fn a b g c d eI=>
  simp only [lw,beq_iff_eq] at hc;obtain ⟨⟨rfl,h1⟩,h2⟩:=hc;simp only [bq,pp] at h;subst h;have r1:=nk (im:=im) (loc:=loc) (e:=e) (ρ:=ρ) (fun y hy=>oA y (by simp [kO.eJ,hy])) h1;have r2:=nk (im:=im) (loc:=loc) (e:=e) (ρ:=ρ) (fun y hy=>oA y (by simp [kO.eJ,hy])) h2;refine .pure (v:= .func (.func fn) (c.map ρ) (d.map ρ)) hk rfl rfl (by simp only [execOp,eI];exact eo rfl) ?_;have:=VR.eA (im:=im) (loc:=loc) fn _ _ _ _ r1 r2;have e1:(⟨c.toList.map ρ⟩:Array Value)=c.map ρ:=ab2 (by simp);have e2:(⟨d.toList.map ρ⟩:Array Value)=d.map ρ:=ab2 (by simp);rw [e1,e2] at this;exact this
 case h_27 t eI=>
  simp only [bq,pp] at h
  let li:LI:=⟨w.heap.size,0,0,0,0⟩
  refine ⟨.value (.map (ahQ w.heap.size)),{w with heap:=w.heap.push (.map #[] 0)},loc.set (ahP aA) li,?_,.inr ⟨_,rfl,?_⟩,?_⟩
  · simp [execOp,eI,Instr.makeMap]
  · subst h;exact .mp (ahP aA) li (Loc.eH _ _ _)
  refine s6.new hk (k:= .map []) (o:= .map #[] 0) li (by rw [<- h]) (by rw [<- h]) rfl rfl rfl rfl rfl ⟨#[],0,by simp [li],trivial⟩
 case h_28 i x a j eI=>
  simp only [lw,beq_iff_eq] at hc;obtain ⟨rfl,h1⟩:=hc;have hx:=oA x (by simp [kO.eJ]) a h1;simp only [bq] at h;split at h
  · rename_i vs hp
    rw [hp] at hx;obtain ⟨us,hv,oD⟩:=hx.A1;rw [v6] at h;obtain ⟨z,hz,rfl⟩:=h;obtain ⟨u,hu,hur⟩:=oD.get i z hz;have B8:(⟨us⟩:Array Value)[i]? =ahQ u:=by simpa using hu
    exact .pure hk rfl rfl (by simp only [execOp,eI];exact eo (by simp [Instr.extract,hv,B8])) hur
  cases h
 case h_29 esz x y args argTypes eI=>
  simp only [lw] at hc;obtain ⟨nJ,h1⟩:=hc;obtain ⟨a,b,Ph,h1a,h1b⟩:=JQ h1;have kZ:args= #[a,b]:=ab2 (by simpa using Ph);subst kZ;have hx:=oA x (by simp [kO.eJ]) a h1a;have hy:=oA y (by simp [kO.eJ]) b h1b;split at nJ
  · rename_i t tx cJ
    have EF:argTypes= #[t,tx]:=ab2 (by simpa using cJ);subst EF;simp only [lw] at nJ;obtain ⟨nJ,Uv⟩:=nJ;unfold rW at Uv;split at Uv
    · rename_i e' htx
      split at nJ
      · rename_i el hu
        simp only [lw] at nJ;obtain ⟨⟨⟨hs,LW⟩,hnz⟩,hz⟩:=nJ;cases hi:P.info? el with
        |none=>rw [hi] at hz;cases hz
        |some i=>
         rw [hi] at hz;cases Ia:i.zero with
         |none=>simp [Ia] at hz
         |some z=>
          have UL:z.cells.size=esz:=by rw [ahE,Ia,ahE] at hz;simpa using hz
          have oJ:i.size=esz:=by unfold oC at hs;rw [hi] at hs;simpa using hs
          have JT:i.bytes<=1048576:=by unfold DY at LW;rw [hi] at LW;simpa using LW
          simp only [bq] at h;obtain ⟨v',w',ba,bI,hv,xt⟩:=Ex (P:=P) (ty:=o.type) hu htx hi oJ Ia UL JT hx hy h hk;refine ⟨.value v',w',ba,?_,.inr ⟨v',rfl,hv⟩,xt⟩;simp only [execOp,eI,resolve,ww,AC,ut,invoke,builtin];rw [show abO ρ #[a,b]= #[ρ a,ρ b] by simp,bI];rfl
      cases nJ
    cases Uv
  cases nJ
 case h_30 n zero ok m k t a b ok' eI=>
  simp only [lw,beq_iff_eq] at hc;obtain ⟨⟨⟨rfl,nJ⟩,h1⟩,h2⟩:=hc;have hm:=oA m (by simp [kO.eJ]) a h1;have xg:=oA k (by simp [kO.eJ]) b h2;split at nJ
  · rename_i kt et ht
    simp only [lw] at nJ;obtain ⟨hkt,hz⟩:=nJ;have hz': ∃i z,P.info? et=ahQ i/\i.zero=ahQ z/\VR im loc zero z:=by
     cases hi:P.info? et with
     |none=>rw [hi] at hz;cases hz
     |some i=>
      cases Ia:i.zero with
      |none=>rw [hi] at hz;simp [Ia] at hz
      |some z=>rw [hi] at hz;simp [Ia] at hz;exact ⟨i,z,rfl,Ia,H7 hz⟩
    simp only [bq] at h;obtain ⟨v,bI,hv,hn,hw⟩:=LY (P:=P) ht hkt hz' hm xg h hk;exact .pure hk hn hw (by simp only [execOp,eI];exact eo bI) hv
  cases nJ
 case h_31 n m k v t a b c eI=>
  simp only [lw] at hc;obtain ⟨⟨⟨nJ,h1⟩,h2⟩,h3⟩:=hc;split at nJ
  · rename_i kt et ht
    simp only [bq] at h;obtain ⟨w',bI,xt,hu⟩:=JO (P:=P) ht nJ (oA m (by simp [kO.eJ]) a h1) (oA k (by simp [kO.eJ]) b h2) (oA v (by simp [kO.eJ]) c h3) h hk;exact ⟨.skip,w',loc,by simp only [execOp,eI,ww,bI,ut,AC],.inl ⟨rfl,hu⟩,xt⟩
  cases nJ
 case h_32 esz x y args argTypes eI=>
  simp only [lw] at hc;obtain ⟨nJ,h1⟩:=hc;obtain ⟨a,b,Ph,h1a,h1b⟩:=JQ h1;have kZ:args= #[a,b]:=ab2 (by simpa using Ph);subst kZ;have hx:=oA x (by simp [kO.eJ]) a h1a;have hy:=oA y (by simp [kO.eJ]) b h1b;split at nJ
  · rename_i t tx cJ
    have EF:argTypes= #[t,tx]:=ab2 (by simpa using cJ);subst EF;simp only [lw] at nJ;obtain ⟨Uv,_⟩:=nJ;unfold yL at Uv;split at Uv
    · rename_i el hu
      have Po: ∀{v:Value} {w':World},(Builtin.copy_ #[t,tx] o.type #[ρ a,ρ b]).run P w= .ok v w'->(execOp ρ o).run P w= .ok (.value v) w':=by intro v w' hv;simp only [execOp,eI,resolve,ww,AC,ut,invoke,builtin];rw [show abO ρ #[a,b]= #[ρ a,ρ b] by simp,hv];rfl
      simp only [bq] at h;split at h
      · rename_i src tk s off len cap ex zA Uw
        rw [Uw] at hx;have aca:Nat.min (ahP src) len=min (ahP src) len:=rfl;have GJ:r.rd=iP (y.ev e):=by
         split at h
         · injection h with h;rw [<- h]
         split at h
         · split at h
           · injection h with h;rw [<- h]
           cases h
         cases h
        obtain ⟨g1,g2,g3,g4⟩:=LZ (P:=P) (w:=w) hy zA (min (ahP src) len) (Nat.min_le_left _ _) hk.bu (fun t ht=>hk.tok t (.inl (by rw [GJ];exact ht)));have AV:(src.take (min (ahP src) len))=src.take len:=by
         rcases Nat.le_total (ahP src) len with h'|h'
         · rw [ahC h',agJ (Do _),agJ h']
         rw [Nat.min_eq_right h']
        rw [AV] at g2;have L0:(sizeOf el).run P w= .ok esz w:=kv Uv;split at h
        · rename_i xU
          injection h with h;subst h;rw [xU] at g2;have h0:min (ahP src) len=0:=by have:=congrArg ahO xU;simp only [adc,agY] at this;omega
          obtain ⟨li,ad,cB,hv,_⟩:=hx.iB;refine .pure (v:= .int .i64 0) hk rfl rfl (Po ?_) (.int _ _);have g2':(Builtin.firstCells esz 0 (ρ b)).run P w= .ok #[] w:=by rw [h0] at g2;simpa using g2
          simp only [Builtin.copy_,hv];cases ad with
          |none=>simp [run_underlying hu,g1,aca,h0,L0,g2',goInt]
          |some ad=>simp [run_underlying hu,g1,aca,h0,L0,g2',goInt,storeCells]
        rename_i r1 rs Rp
        split at h
        · rename_i s' rows bM
          split at h
          · rename_i NF
            simp only [lw,ab8,aaH] at NF;obtain ⟨rfl,hnf⟩:=NF;injection h with h;have UJ:s'=s:=by obtain ⟨li,ad,cB,hv,hl,he,_⟩:=hx.iB;obtain ⟨k,iF,hb⟩:=hk.tok tk (.inr ⟨_,by rw [<- h];simp;rfl⟩) li hl;rw [bM] at iF;injection iF with iF;subst iF;rw [<- hb.1,he]
            subst UJ;have vH: ∀q,q∈r1::rs->q∈src:=fun q hq=>by rw [<- Rp] at hq;exact List.mem_of_mem_take hq
            have abf:min (ahP src) len=ahP rs+1:=by have:=congrArg ahO Rp;simp only [adc,abg] at this;omega
            rw [Rp] at g2;obtain ⟨b',o',c',w',hv,bI,xt⟩:=JP (P:=P) (new:=r1::rs) hx bM (by simp) (by simp;omega) (fun q hq=>g3 q (vH q hq)) (fun q hq=>g4 q (vH q hq)) h.symm hk;refine ⟨.value (.int .i64 (Int.ofNat (ahP rs+1))),w',loc,Po ?_,.inr ⟨_,rfl,by rw [<- h];exact .int _ _⟩,xt⟩;rw [abf] at g2;simp only [Builtin.copy_,hv];simp [run_underlying hu,g1,aca,abf,L0,g2,goInt,-abb];rw [bI];rfl
          cases h
        cases h
      cases h
    cases Uv
  cases nJ
 case h_33 esz zero x args argTypes eI=>
  simp only [lw] at hc;obtain ⟨nJ,h1⟩:=hc;obtain ⟨a,ha,h1a⟩:=JR h1;have kZ:args= #[a]:=ab2 (by simpa using ha);subst kZ;have hx:=oA x (by simp [kO.eJ]) a h1a;split at nJ
  · rename_i t cJ
    have EF:argTypes= #[t]:=ab2 (by simpa using cJ);subst EF;split at nJ
    · rename_i el hu
      simp only [lw,beq_iff_eq] at nJ;obtain ⟨⟨⟨hs,hz⟩,hzl⟩,LH⟩:=nJ;have Po: ∀{v:Value} {w':World},(Builtin.clear_ #[t] o.type #[ρ a]).run P w= .ok v w'->(execOp ρ o).run P w= .ok (.value v) w':=by intro v w' hv;simp only [execOp,eI,resolve,ww,AC,ut,invoke,builtin];rw [show abO ρ #[a]= #[ρ a] by simp,hv];rfl
      simp only [bq] at h;split at h
      · rename_i tk s off len cap ex Uw
        rw [Uw] at hx;split at h
        · injection h with h;subst h
          obtain ⟨li,ad,cB,hv,_⟩:=hx.iB;refine .pure (v:= .tuple #[]) hk rfl rfl (Po ?_) (.undef _);simp only [Builtin.clear_,hv];cases ad<;>simp [run_underlying hu]
        rename_i len
        split at h
        · rename_i s' rows bM
          split at h
          · rename_i NF
            simp only [lw,ab8,aaH] at NF;obtain ⟨rfl,hnf⟩:=NF;injection h with h;have UJ:s'=s:=by obtain ⟨li,ad,cB,hv,hl,he,_⟩:=hx.iB;obtain ⟨k,iF,hb⟩:=hk.tok tk (.inr ⟨_,by rw [<- h];simp;rfl⟩) li hl;rw [bM] at iF;injection iF with iF;subst iF;rw [<- hb.1,he]
            subst UJ;obtain ⟨i,z,hi,Ia,bU,JS⟩:=EA hz LH;have JH: ∀q∈ab7 (len+1) zero,ahP q=s':=fun q hq=>by rw [(ahw.1 hq).2];exact hzl
            have UO: ∀q∈ab7 (len+1) zero,∀c∈q,c.plain=ahV:=fun q hq c hc=>by rw [(ahw.1 hq).2] at hc;exact ahA.1 LH c hc
            obtain ⟨b',o',c',w',hv,bI,xt⟩:=JP (P:=P) (new:=ab7 (len+1) zero) hx bM (by simp) (by simp) JH UO h.symm hk;refine ⟨.value (.tuple #[]),w',loc,Po ?_,.inr ⟨_,rfl,by rw [<- h];exact .undef _⟩,xt⟩;have LK:(zeroValue el).run P w= .ok z w:=by simp [zeroValue,typeInfo,hi,Ia]
            have hzc:(Builtin.zeroCells z.cells (len+1)).toList=(ab7 (len+1) zero).flatMap aY:=by
             have cJ:=Cn JS bU (len+1);have Pc:=dA JH;have oJ:=xO z.cells (len+1);apply acp;intro j;rcases aa2 j ((ab7 (len+1) zero).flatMap aY).length with hj|hj
             · have hfj:=cJ.flat j _ (NE hj)
               rw [NE hj,<- hfj];simp only [Builtin.zeroCells,agd,Array.getElem?_toList]
             rw [IR hj,IR]
             simp only [abe,oJ];rw [Pc] at hj;simp only [List.length_replicate] at hj;rw [<- bU,hzl];exact hj
            simp only [Builtin.clear_,hv];simp [run_underlying hu,LK,hzc,-abb];rw [bI];rfl
          cases h
        cases h
      · rename_i e1 c1 Uw
        rw [Uw] at hx;injection h with h;subst h;obtain ⟨ad,cB,hv,_⟩:=hx.oN;refine .pure (v:= .tuple #[]) hk rfl rfl (Po ?_) (.undef _);simp only [Builtin.clear_,hv];cases ad<;>simp [run_underlying hu]
      cases h
    cases nJ
  cases nJ
 case h_34 isMax x xs b args Ux eI=>
  simp only [lw] at hc;obtain ⟨hb,h1⟩:=hc;simp only [bq] at h;have hrel:=nk (im:=im) (loc:=loc) (e:=e) (ρ:=ρ) (fun y hy=>oA y (by simpa [kO.eJ] using hy)) h1;split at h
  · rename_i k a hp
    rw [v6] at h;obtain ⟨z,hz,rfl⟩:=h;have gJ:Ek e (x::xs)= .int k a::Ek e xs:=by simp [Ek,hp]
    rw [gJ] at hrel;generalize hl:args.toList.map ρ=l at hrel;cases hrel with
    |cons _ u _ us h1 h2=>
     obtain rfl:=h1.eW;obtain ⟨c,rfl,bI⟩:=NJ (P:=P) (w:=w) (isMax:=isMax) h2 hz;refine .pure hk rfl rfl ?_ (.int k c);have kY:(args.map ρ).toList= .int k a::us:=by simpa using hl
     have JT:b=if isMax then .max else .min:=by cases isMax<;>simpa using hb
     subst JT;cases isMax with
     |true=>simp only [if_true] at eI bI;simp only [execOp,eI,resolve,ww,AC,ut,invoke,builtin,Builtin.max_,kY,bI]
     |false=>simp only [aa4,if_false] at eI bI;simp only [execOp,eI,resolve,ww,AC,ut,invoke,builtin,Builtin.min_,kY,bI]
  cases h
 case h_37 x y t m ps eI=>
  simp only [lw,beq_iff_eq] at hc;obtain ⟨⟨rfl,nJ⟩,hp⟩:=hc;split at nJ
  · rename_i el hu
    simp only [lw] at nJ;obtain ⟨hs,hz⟩:=nJ;split at hp
    · rename_i i a j b hps
      simp only [lw,beq_iff_eq] at hp;obtain ⟨⟨⟨rfl,rfl⟩,h1⟩,h2⟩:=hp;simp only [bq] at h;split at h
      · rename_i A2
        simp only [lw] at A2;injection h with h;have hx:=oA x (by simp [kO.eJ]) a h1;have hy:=oA y (by simp [kO.eJ]) b h2;obtain ⟨ba,hv,he⟩:=JG (el:=el) hx hy h.symm hk;refine ⟨_,_,ba,?_,.inr ⟨_,rfl,hv⟩,he⟩;have Ia: ∃i z,P.info? el=ahQ i/\i.zero=ahQ z/\z.cells.size=1:=by
         cases hi:P.info? el with
         |none=>rw [hi] at hz;cases hz
         |some i=>
          cases hq:i.zero with
          |none=>rw [hi] at hz;simp [hq] at hz
          |some z=>rw [hi] at hz;simp [hq] at hz;exact ⟨i,z,rfl,hq,hz⟩
        obtain ⟨i,z,hi,hq,oJ⟩:=Ia;have LK:(zeroValue el).run P w= .ok z w:=by simp [zeroValue,typeInfo,hi,hq]
        have c1:(ρ a).cells= #[ρ a]:=by obtain ⟨q1,q2⟩:=hx.H6 A2.1;cases Pm:ρ a<;>first|rfl|exact absurd Pm (q1 _)|exact absurd Pm (q2 _)
        have c2:(ρ b).cells= #[ρ b]:=by obtain ⟨q1,q2⟩:=hy.H6 A2.2;cases Pm:ρ b<;>first|rfl|exact absurd Pm (q1 _)|exact absurd Pm (q2 _)
        have fl: ∀q:Value,Instr.fill (fun i=>ahQ (i*1,1)) #[q,q] [(0,ρ a),(1,ρ b)]=ahQ #[ρ a,ρ b]:=fun q=>by
         have s1:(⟨vF (0*1) (ρ a).cells.toList (#[q,q]:Array Value).toList⟩:Array Value)= #[ρ a,q]:=by rw [c1];rfl
         have s2:(⟨vF (1*1) (ρ b).cells.toList (#[ρ a,q]:Array Value).toList⟩:Array Value)= #[ρ a,ρ b]:=by rw [c2];rfl
         rw [yO (place:=fun i=>ahQ (i*1,1)) rfl (by rw [c1];rfl) (by simp),s1,yO (place:=fun i=>ahQ (i*1,1)) rfl (by rw [c2];rfl) (by simp),s2];rfl
        simp only [execOp,eI,Instr.buildSlice,ww,run_underlying hu,ut,kv hs];have e0:(abO (fun x=>z.cells[x%z.cells.size]!) (acr (2*1)))= #[z.cells[0]!,z.cells[0]!]:=by rw [oJ,show acr (2*1)= #[0,1] from by decide];simp [Nat.mod_one]
        have big: ¬(2*1>2^24):=by decide
        have nz: ¬(2*1=0):=by decide
        have ml:(ps.map fun (i,x)=>(i,ρ x)).toList=[(0,ρ a),(1,ρ b)]:=by rw [ag0,hps];rfl
        simp only [big,nz,if_false,ww,LK,ut,AC];rw [e0,ml,fl];simp [newRow]
      cases h
    cases hp
  cases nJ
 case h_38 n m k v t a b c eI=>
  simp only [lw] at hc;obtain ⟨⟨⟨nJ,h1⟩,h2⟩,h3⟩:=hc;split at nJ
  · rename_i kt et ht
    simp only [bq] at h;obtain ⟨w',bI,xt,hu⟩:=JO (P:=P) ht nJ (oA m (by simp [kO.eJ]) a h1) (oA k (by simp [kO.eJ]) b h2) (oA v (by simp [kO.eJ]) c h3) h hk;exact ⟨.skip,w',loc,by simp only [execOp,eI,ww,bI,ut,AC],.inl ⟨rfl,hu⟩,xt⟩
  cases nJ
 all_goals first|(simp only [bq] at h;cases h;done)|(simp at hc;done)
end
end Go.Vm
/- What goes over the border of a pure call, and what comes back. -/
namespace Go.Vm
def fC:Loc:=fun _=>ahR
def grow (im:Im) (w:World) (bs:List Nat):Im:=fun b=>match im b with
 |some o=>ahQ o
 |none=>if bs.contains b then w.heap[b]? else ahR
theorem Ig (im:Im) (w:World) (bs:List Nat):nO im (grow im w bs):=fun b o h=>by unfold grow;rw [h]
theorem NN {im:Im} {w:World} {bs:List Nat} (h: ∀b o,im b=ahQ o->w.heap[b]? =ahQ o): ∀b o,grow im w bs b=ahQ o->w.heap[b]? =ahQ o:=by
 intro b o hb;unfold grow at hb;split at hb
 · rename_i o' ho;injection hb with hb;subst hb;exact h b _ ho
 split at hb
 · exact hb
 cases hb
theorem UR {im:Im} {w:World} {bs:List Nat} (h: ∀b o,im b=ahQ o->w.heap[b]? =ahQ o) {b:Nat} (hb:b∈bs):grow im w bs b=w.heap[b]?:=by
 unfold grow;split
 · rename_i o ho;exact (h b o ho).symm
 rw [lm (by simpa using hb)]
theorem Rq {im:Im} {w:World} {bs:List Nat} {b:Nat} {o:Obj} (h:grow im w bs b=ahQ o):im b=ahQ o\/b∈bs:=by
 unfold grow at h;split at h
 · rename_i o' ho;injection h with h;subst h;exact .inl ho
 split at h
 · rename_i hc;exact .inr (by simpa using hc)
 cases h
def Ai (loc:Loc) (aA:bS) (tk:List Nat):List Nat:=tk.filterMap fun t=>if (aA[t]?).any jQ.bB then (loc t).map (·.cZ) else ahR
theorem Aj {loc:Loc} {aA:bS} {tk:List Nat} {b:Nat}:b∈Ai loc aA tk↔ ∃t li k,t∈tk/\loc t=ahQ li/\aA[t]? =ahQ k/\k.bB=ahV/\li.cZ=b:=by
 unfold Ai;rw [List.mem_filterMap];constructor
 · rintro ⟨t,ht,h⟩
   split at h
   · rename_i hs
     rw [v6] at h;obtain ⟨li,hl,rfl⟩:=h;cases hk:aA[t]? with
     |none=>rw [hk] at hs;cases hs
     |some k=>rw [hk] at hs;exact ⟨t,li,k,ht,hl,hk,hs,rfl⟩
   cases h
 rintro ⟨t,li,k,ht,hl,hk,hs,rfl⟩
 exact ⟨t,ht,by rw [hk,hl];simp [hs]⟩
theorem nm {e:Nat} {rows:List Row} (h:rows≠[]):(jQ.arr e rows).bB=ahV:=by
 cases rows with
 |nil=>exact absurd rfl h
 |cons _ _=>rfl
section
variable {im dT : Im} {loc : Loc} {aA : bS} {w : World}
def Over (im dT:Im) (loc:Loc) (aA:bS) (w:World) (t:Nat):Prop:=
 ∀li,loc t=ahQ li-> ∃k,aA[t]? =ahQ k/\BR im loc w li k/\(k.bB=ahV->dT li.cZ=w.heap[li.cZ]?)
def acb (dT:Im) (loc:Loc) (bx:Nat->Option (List PV)) (t:Nat):Prop:=
 ∀li cs,loc t=ahQ li->bx t=ahQ cs-> ∃vs,eD dT fC cs vs/\ ∀(j:Nat) (v:Value),vs[j]? =ahQ v->mv dT li.cZ (li.sh+j)=ahQ v
theorem yQ {b o:Nat} {cs:Array Value} {el:TypeId} {fr:Nat×Nat} (h:im b=ahQ (.cells cs el fr)):mv im b o=cs[o]?:=by unfold mv;rw [h]
theorem bz.JU {get:Nat->Option Value} {sh esz off len:Nat} {rows:List Row} (h:bz get sh esz rows):bz get (sh+off*esz) esz ((rows.drop off).take len):=(h.drop off).take len
mutual
theorem acd (hi:nO im dT) {bx:Nat->Option (List PV)} {tb:Nat->List Nat} (hb: ∀t,(∀u,u∈tb t->Over im dT loc aA w u)->Over im dT loc aA w t->acb dT loc bx t):
 ∀{x y:PV} {v:Value},(∀t,t∈jb tb x->Over im dT loc aA w t)->VR im loc x v->Cb aA bx x=ahQ y->VR dT fC y v
 | .undef,y,v,_,_,h=>by simp [Cb] at h
 | .js,y,v,_,_,h=>by simp [Cb] at h
 | .int k n,y,v,_,hv,h=>by simp only [Cb,pp] at h;subst h;rw [hv.eW];exact .int _ _
 | .bool b,y,v,_,hv,h=>by simp only [Cb,pp] at h;subst h;rw [hv.jC];exact .bool _
 | .str b,y,v,_,hv,h=>by simp only [Cb,pp] at h;subst h;rw [hv.D0];exact .str _
 | .agg cs,y,v,ht,hv,h=>by simp only [Cb,v6] at h;obtain ⟨ys,Pp,rfl⟩:=h;obtain ⟨vs,rfl,oD⟩:=hv.pC;exact .agg _ _ (xV hi hb (fun t h=>ht t (by simpa [jb] using h)) oD Pp)
 | .bN cs,y,v,ht,hv,h=>by simp only [Cb,v6] at h;obtain ⟨ys,Pp,rfl⟩:=h;obtain ⟨vs,rfl,oD⟩:=hv.A1;exact .bN _ _ (xV hi hb (fun t h=>ht t (by simpa [jb] using h)) oD Pp)
 | .sl e c rows,y,v,_,hv,h=>by simp only [Cb,pp] at h;subst h;obtain ⟨a,cap,rfl,h1,h2,h3⟩:=hv.oN;exact .sl e ahW rows a cap h1 (by simp) fun dM=>let ⟨b,o,ha,hr⟩:=h3 dM;⟨b,o,ha,hr.mono fun _ _ e=>hi.cell e⟩
 | .own t e off len cap ex,y,v,ht,hv,h=>by
  obtain ⟨li,a,cB,rfl,hl,h2,h3,h4,h5,h6,h7⟩:=hv.iB;obtain ⟨k,hk,sV,US⟩:=ht t (by simp [jb]) li hl;simp only [Cb,hk] at h;cases k with
  |arr e' rows=>
   simp only [pp] at h;subst h;obtain ⟨b1,b2,b3⟩:=sV;have bU:((rows.drop off).take len).length=len:=by simp;omega
   have he:e'=e:=by rw [<- b1,h2]
   subst he;have:=VR.sl (im:=dT) (loc:=fC) e' ahW ((rows.drop off).take len) a cB (by omega) (by simp) (fun dM=>by
    have nR:rows≠[]:=by intro e;subst e;simp at dM
    obtain ⟨arr,el,s9,H8,Jl,cJ⟩:=b3 nR;rcases h7 with h7|⟨_,rfl,_⟩
    · exfalso;apply dM;apply ag2.1;omega
    refine ⟨_,_,rfl,cJ.JU.mono fun k v hkv=>?_⟩
    rw [yQ (by rw [US (nm nR)];exact s9)];exact hkv)
   rwa [bU] at this
  |_=>cases h
 | .ptr t e row off,y,v,ht,hv,h=>by
  obtain ⟨li,hl,he,hn,rfl⟩:=hv.yN;obtain ⟨k,hk,sV,US⟩:=ht t (by simp [jb]) li hl;simp only [Cb,hk] at h;cases k with
  |arr e' rows=>
   simp only [v6] at h;obtain ⟨r,hr,rfl⟩:=h;obtain ⟨b1,b2,b3⟩:=sV;have nR:rows≠[]:=by intro e;subst e;simp at hr
   obtain ⟨arr,el,s9,H8,Jl,cJ⟩:=b3 nR;have LR:e'=e:=by rw [<- b1,he]
   subst LR;obtain ⟨h1,h2⟩:=s8 (im:=dT) (loc:=fC) cJ hr;exact .bw r off li.cZ (li.sh+row*e') _ h1 fun j v hj=>by rw [yQ (by rw [US (nm nR)];exact s9)];exact h2 j v hj
  |box cs=>
   dsimp only at h;split at h
   · rename_i mC
     have mC:row=0:=by simpa using mC
     subst mC;rw [v6] at h;obtain ⟨ys,Pp,rfl⟩:=h;obtain ⟨vs,h1,h2⟩:=hb t (fun u hu=>ht u (by simp [jb,hu])) (ht t (by simp [jb])) li ys hl Pp;exact .bw ys off li.cZ (li.sh+0*e) vs h1 fun j v hj=>by simpa using h2 j v hj
   cases h
  |_=>cases h
 | .bw cs off,y,v,ht,hv,h=>by simp only [Cb,v6] at h;obtain ⟨ys,Pp,rfl⟩:=h;obtain ⟨b,o,vs,h1,h2,rfl⟩:=hv.xL;exact .bw ys off b o vs (xV hi hb (fun t h=>ht t (by simpa [jb] using h)) h1 Pp) fun j v hj=>hi.cell (h2 j v hj)
 | .mp t,y,v,_,_,h=>by simp [Cb] at h
 | .eA fn a b,y,v,ht,hv,h=>by
  simp only [Cb] at h;cases ha:B6 aA bx a with
  |none=>rw [ha] at h;cases h
  |some a'=>
   cases zz:B6 aA bx b with
   |none=>rw [ha,zz] at h;cases h
   |some b'=>
    rw [ha,zz] at h;simp only [pp] at h;subst h;cases hv with
    |eA _ _ _ as bs h1 h2=>exact .eA fn a' b' as bs (xV hi hb (fun t h=>ht t (by simp [jb,h])) h1 ha) (xV hi hb (fun t h=>ht t (by simp [jb,h])) h2 zz)
 | .dC,y,v,_,hv,h=>by simp only [Cb,pp] at h;subst h;cases hv;exact .dC
theorem xV (hi:nO im dT) {bx:Nat->Option (List PV)} {tb:Nat->List Nat} (hb: ∀t,(∀u,u∈tb t->Over im dT loc aA w u)->Over im dT loc aA w t->acb dT loc bx t):
 ∀{x y:List PV} {v:List Value},(∀t,t∈cT tb x->Over im dT loc aA w t)->eD im loc x v->B6 aA bx x=ahQ y->eD dT fC y v
 | [],y,v,_,hv,h=>by simp only [B6,pp] at h;subst h;cases hv;exact .nil
 |x::xs,y,v,ht,hv,h=>by
  simp only [B6] at h;cases hx:Cb aA bx x with
  |none=>rw [hx] at h;cases h
  |some x'=>
   cases Pb:B6 aA bx xs with
   |none=>rw [hx,Pb] at h;cases h
   |some xs'=>
    rw [hx,Pb] at h;simp only [pp] at h;subst h;cases hv with
    |cons _ u _ us h1 h2=>exact .cons _ _ _ _ (acd hi hb (fun t h=>ht t (by simp [cT,h])) h1 hx) (xV hi hb (fun t h=>ht t (by simp [cT,h])) h2 Pb)
end
theorem NO (hi:nO im dT): ∀(n:Nat) (t:Nat),(∀u,u∈cK aA n t->Over im dT loc aA w u)->Over im dT loc aA w t->acb dT loc (xq aA n) t
 |0,t,_,_=>by intro li cs _ h;cases h
 |n+1,t,ht,hto=>by
  intro li cs hl h;obtain ⟨k,hk,sV,US⟩:=hto li hl;simp only [xq,hk] at h;cases k with
  |box cells=>dsimp only at h;obtain ⟨b1,b2,b3,vs,el,h4,h5,h6⟩:=sV;refine ⟨vs,xV hi (fun t'=>NO hi n t') (tb:=cK aA n) (fun u hu=>ht u (by simp [cK,hk,hu])) h6 h,fun j v hj=>?_⟩;rw [yQ (by rw [US rfl];exact h4),b3];simpa using hj
  |_=>cases h
end
end Go.Vm
/- A pure call: what comes back. -/
namespace Go.Vm
section
variable {im dT : Im} {loc ba : Loc} {aA : bS} {w : World}
mutual
theorem JV: ∀{x:PV} {v:Value},x.jB=ahV->VR im loc x v->VR dT ba x v
 | .int k n,v,_,h=>by rw [h.eW];exact .int _ _
 | .bool b,v,_,h=>by rw [h.jC];exact .bool _
 | .str s,v,_,h=>by rw [h.D0];exact .str _
 | .agg cs,v,hn,h=>by obtain ⟨vs,rfl,hr⟩:=h.pC;exact .agg _ _ (Cp (by simpa [PV.jB] using hn) hr)
 | .bN cs,v,hn,h=>by obtain ⟨vs,rfl,hr⟩:=h.A1;exact .bN _ _ (Cp (by simpa [PV.jB] using hn) hr)
 | .undef,_,hn,_=>by simp [PV.jB] at hn
 | .js,_,hn,_=>by simp [PV.jB] at hn
 | .sl ..,_,hn,_=>by simp [PV.jB] at hn
 | .own ..,_,hn,_=>by simp [PV.jB] at hn
 | .ptr ..,_,hn,_=>by simp [PV.jB] at hn
 | .bw ..,_,hn,_=>by simp [PV.jB] at hn
 | .mp ..,_,hn,_=>by simp [PV.jB] at hn
 | .eA ..,_,hn,_=>by simp [PV.jB] at hn
 | .dC,_,hn,_=>by simp [PV.jB] at hn
theorem Cp: ∀{x:List PV} {v:List Value},rV x=ahV->eD im loc x v->eD dT ba x v
 | [],_,_,h=>by cases h;exact .nil
 |x::xs,_,hn,h=>by
  simp only [rV,lw] at hn;cases h with
  |cons _ u _ us h1 h2=>exact .cons _ _ _ _ (JV hn.1 h1) (Cp hn.2 h2)
end
mutual
theorem Rr (hi:nO im dT): ∀{x y:PV} {v:Value},(∀t,t∈jb sT x->Over im dT loc aA w t)->VR im loc x v->xz aA x=ahQ y->VR dT ba y v
 | .int k n,y,v,_,hv,h=>by simp only [xz,pp] at h;subst h;rw [hv.eW];exact .int _ _
 | .bool b,y,v,_,hv,h=>by simp only [xz,pp] at h;subst h;rw [hv.jC];exact .bool _
 | .str b,y,v,_,hv,h=>by simp only [xz,pp] at h;subst h;rw [hv.D0];exact .str _
 | .agg cs,y,v,ht,hv,h=>by simp only [xz,v6] at h;obtain ⟨ys,Pp,rfl⟩:=h;obtain ⟨vs,rfl,oD⟩:=hv.pC;exact .agg _ _ (Ih hi (fun t h=>ht t (by simpa [jb] using h)) oD Pp)
 | .bN cs,y,v,ht,hv,h=>by simp only [xz,v6] at h;obtain ⟨ys,Pp,rfl⟩:=h;obtain ⟨vs,rfl,oD⟩:=hv.A1;exact .bN _ _ (Ih hi (fun t h=>ht t (by simpa [jb] using h)) oD Pp)
 | .sl e c rows,y,v,_,hv,h=>by simp only [xz,pp] at h;subst h;obtain ⟨a,cap,rfl,h1,h2,h3⟩:=hv.oN;exact .sl e ahW rows a cap h1 (by simp) fun dM=>let ⟨b,o,ha,hr⟩:=h3 dM;⟨b,o,ha,hr.mono fun _ _ e=>hi.cell e⟩
 | .own t e off len cap ex,y,v,ht,hv,h=>by
  obtain ⟨li,a,cB,rfl,hl,h2,h3,h4,h5,h6,h7⟩:=hv.iB;obtain ⟨k,hk,sV,US⟩:=ht t (by simp [jb]) li hl;simp only [xz,hk] at h;cases k with
  |arr e' rows=>
   simp only [pp] at h;subst h;obtain ⟨b1,b2,b3⟩:=sV;have bU:((rows.drop off).take len).length=len:=by simp;omega
   have he:e'=e:=by rw [<- b1,h2]
   subst he;have:=VR.sl (im:=dT) (loc:=ba) e' ahW ((rows.drop off).take len) a cB (by omega) (by simp) (fun dM=>by
    have nR:rows≠[]:=by intro e;subst e;simp at dM
    obtain ⟨arr,el,s9,H8,Jl,cJ⟩:=b3 nR;rcases h7 with h7|⟨_,rfl,_⟩
    · exfalso;apply dM;apply ag2.1;omega
    refine ⟨_,_,rfl,cJ.JU.mono fun k v hkv=>?_⟩
    rw [yQ (by rw [US (nm nR)];exact s9)];exact hkv)
   rwa [bU] at this
  |_=>cases h
 | .undef,_,_,_,_,h=>by simp [xz] at h
 | .js,_,_,_,_,h=>by simp [xz] at h
 | .ptr ..,_,_,_,_,h=>by simp [xz] at h
 | .bw ..,_,_,_,_,h=>by simp [xz] at h
 | .mp ..,_,_,_,_,h=>by simp [xz] at h
 | .eA ..,_,_,_,_,h=>by simp [xz] at h
 | .dC,_,_,_,_,h=>by simp [xz] at h
theorem Ih (hi:nO im dT): ∀{x y:List PV} {v:List Value},(∀t,t∈cT sT x->Over im dT loc aA w t)->eD im loc x v->El aA x=ahQ y->eD dT ba y v
 | [],y,v,_,hv,h=>by simp only [El,pp] at h;subst h;cases hv;exact .nil
 |x::xs,y,v,ht,hv,h=>by
  simp only [El] at h;cases hx:xz aA x with
  |none=>rw [hx] at h;cases h
  |some x'=>
   cases Pb:El aA xs with
   |none=>rw [hx,Pb] at h;cases h
   |some xs'=>
    rw [hx,Pb] at h;simp only [pp] at h;subst h;cases hv with
    |cons _ u _ us h1 h2=>exact .cons _ _ _ _ (Rr hi (fun t h=>ht t (by simp [cT,h])) h1 hx) (Ih hi (fun t h=>ht t (by simp [cT,h])) h2 Pb)
end
theorem pE {l:List Nat} {t:Nat}:has l t=ahV↔t∈l:=by
 unfold has;rw [List.any_eq_true];constructor
 · rintro ⟨x,hx,h⟩
   have:t=x:=by simpa using h
   subst this;exact hx
 intro h;exact ⟨t,h,by simp⟩
theorem jD {l:List Nat} {t:Nat}:has l t=ahW↔t∉l:=by rw [<- pE];simp
def alK:Im:=fun _=>ahR
structure ImO (cO:Loc) (nS:bS) (GD:List Nat) (w:World) (seen seen':List Nat) (news:bS) (JW:List LI) (ts:List (Option Nat)):Prop where
 Ii:(ahP JW)=ahP news
 JB:(ahP ts)=ahP news
 br: ∀(j:Nat) (k:jQ) (li:LI),news[j]? =ahQ k->JW[j]? =ahQ li->(∃e rows,k= .arr e rows)/\BR alK fC w li k
 own: ∀(j:Nat) (k:jQ) (li:LI) (t:Nat),news[j]? =ahQ k->JW[j]? =ahQ li->ts[j]? =ahQ (ahQ t)->cO t=ahQ li/\nS[t]? =ahQ k/\t∉GD/\t∈seen'/\t∉seen
 dum: ∀(j:Nat) (k:jQ),news[j]? =ahQ k->ts[j]? =ahQ ahR->k.bB=ahW
 inj: ∀(i j t:Nat),ts[i]? =ahQ (ahQ t)->ts[j]? =ahQ (ahQ t)->i=j
 sub: ∀t,t∈seen->t∈seen'
theorem ImO.none {cO:Loc} {nS:bS} {GD:List Nat} {seen:List Nat}:ImO cO nS GD w seen seen [] [] [] where
 Ii:=rfl
 JB:=rfl
 br:=fun j k li h=>by simp at h
 own:=fun j k li t h=>by simp at h
 dum:=fun j k h=>by simp at h
 inj:=fun i j t h=>by simp at h
 sub:=fun _ h=>h
theorem gd {α:Type} {a b:List α} {j:Nat} {x:α} (h:(a++b)[j]? =ahQ x):(j<ahP a/\a[j]? =ahQ x)\/(ahP a<=j/\b[j-(ahP a)]? =ahQ x):=by
 rcases aa2 j (ahP a) with hj|hj
 · rw [aa3 hj] at h;exact .inl ⟨hj,h⟩
 rw [aa1 hj] at h;exact .inr ⟨hj,h⟩
theorem ImO.append {cO:Loc} {nS:bS} {GD s0 s1 s2:List Nat} {n1 n2:bS} {l1 l2:List LI} {t1 t2:List (Option Nat)} (h:ImO cO nS GD w s0 s1 n1 l1 t1) (k:ImO cO nS GD w s1 s2 n2 l2 t2):
 ImO cO nS GD w s0 s2 (n1++n2) (l1++l2) (t1++t2):=by
 have e1:=h.Ii;have e2:=h.JB;have Rs: ∀(j t:Nat),t1[j]? =ahQ (ahQ t)->t∈s1:=by intro j t ht;have hj:=(aaI.1 ht).1;exact (h.own j n1[j] l1[j] t (NE (by omega)) (NE (by omega)) ht).2.2.2.1
 have NP: ∀(j t:Nat),t2[j]? =ahQ (ahQ t)->t∉s1:=by intro j t ht;have hj:=(aaI.1 ht).1;have:=k.Ii;have:=k.JB;exact (k.own j n2[j] l2[j] t (NE (by omega)) (NE (by omega)) ht).2.2.2.2
 refine ⟨by simp [e1,k.Ii],by simp [e2,k.JB],fun j b li hb hl=>?_,fun j b li t hb hl ht=>?_,fun j b hb ht=>?_,fun i j t hi hj=>?_,fun t ht=>k.sub t (h.sub t ht)⟩
 · rcases gd hb with ⟨h1,hb⟩|⟨h1,hb⟩
   · rcases gd hl with ⟨h2,hl⟩|⟨h2,hl⟩
     · exact h.br j b li hb hl
     omega
   rcases gd hl with ⟨h2,hl⟩|⟨h2,hl⟩
   · omega
   rw [e1] at hl;exact k.br _ b li hb hl
 · rcases gd hb with ⟨h1,hb⟩|⟨h1,hb⟩
   · rcases gd hl with ⟨h2,hl⟩|⟨h2,hl⟩
     · rcases gd ht with ⟨h3,ht⟩|⟨h3,ht⟩
       · obtain ⟨a1,a2,a3,a4,a5⟩:=h.own j b li t hb hl ht
         exact ⟨a1,a2,a3,k.sub t a4,a5⟩
       omega
     omega
   rcases gd hl with ⟨h2,hl⟩|⟨h2,hl⟩
   · omega
   rcases gd ht with ⟨h3,ht⟩|⟨h3,ht⟩
   · omega
   rw [e1] at hl;rw [e2] at ht
   obtain ⟨a1,a2,a3,a4,a5⟩:=k.own _ b li t hb hl ht;exact ⟨a1,a2,a3,a4,fun hs=>a5 (h.sub t hs)⟩
 · rcases gd hb with ⟨h1,hb⟩|⟨h1,hb⟩
   · rcases gd ht with ⟨h3,ht⟩|⟨h3,ht⟩
     · exact h.dum j b hb ht
     omega
   rcases gd ht with ⟨h3,ht⟩|⟨h3,ht⟩
   · omega
   rw [e2] at ht;exact k.dum _ b hb ht
 rcases gd hi with ⟨h1,hi⟩|⟨h1,hi⟩
 · rcases gd hj with ⟨h2,hj⟩|⟨h2,hj⟩
   · exact h.inj i j t hi hj
   exact absurd (Rs i t hi) (NP _ t hj)
 rcases gd hj with ⟨h2,hj⟩|⟨h2,hj⟩
 · exact absurd (Rs j t hj) (NP _ t hi)
 have:=k.inj _ _ t hi hj;omega
def abh (cO:Loc) (nS:bS) (D1:Im) (w:World):Prop:= ∀t li,cO t=ahQ li-> ∃k,nS[t]? =ahQ k/\BR D1 cO w li k
mutual
theorem Rt {D1:Im} {cO:Loc} {nS:bS} {GD:List Nat} (hk:abh cO nS D1 w): ∀{x y:PV} {v:Value} {nx:Nat} {seen seen':List Nat} {news:bS},
 VR D1 cO x v->zl nS GD nx seen x=ahQ (y,news,seen')->
 ∃JW ts,ImO cO nS GD w seen seen' news JW ts/\ ∀(D2:Im) (qK:Loc),(∀(j:Nat) (li:LI),JW[j]? =ahQ li->qK (nx+j)=ahQ li)->VR D2 qK y v
 | .int k n,y,v,nx,seen,seen',news,hv,h=>by simp only [zl,pp,abd] at h;obtain ⟨rfl,rfl,rfl⟩:=h;exact ⟨[],[],.none,fun _ _ _=>by rw [hv.eW];exact .int _ _⟩
 | .bool k,y,v,nx,seen,seen',news,hv,h=>by simp only [zl,pp,abd] at h;obtain ⟨rfl,rfl,rfl⟩:=h;exact ⟨[],[],.none,fun _ _ _=>by rw [hv.jC];exact .bool _⟩
 | .agg cs,y,v,nx,seen,seen',news,hv,h=>by simp only [zl,v6,abd] at h;obtain ⟨⟨ys,n2,s2⟩,hr,rfl,rfl,rfl⟩:=h;obtain ⟨vs,rfl,oD⟩:=hv.pC;obtain ⟨JW,ts,h1,h2⟩:=Ij hk oD hr;exact ⟨JW,ts,h1,fun D2 qK hl=> .agg _ _ (h2 D2 qK hl)⟩
 | .bN cs,y,v,nx,seen,seen',news,hv,h=>by simp only [zl,v6,abd] at h;obtain ⟨⟨ys,n2,s2⟩,hr,rfl,rfl,rfl⟩:=h;obtain ⟨vs,rfl,oD⟩:=hv.A1;obtain ⟨JW,ts,h1,h2⟩:=Ij hk oD hr;exact ⟨JW,ts,h1,fun D2 qK hl=> .bN _ _ (h2 D2 qK hl)⟩
 | .sl e c rows,y,v,nx,seen,seen',news,hv,h=>by
  obtain ⟨a,cap,rfl,h1,h2,h3⟩:=hv.oN;cases c with
  |false=>simp [zl] at h
  |true=>
   cases rows with
   |cons r rs=>simp [zl] at h
   |nil=>
    simp only [zl,pp,abd] at h;obtain ⟨rfl,rfl,rfl⟩:=h;have zn:cap=0:=h2 rfl;subst zn;refine ⟨[⟨0,0,e,0,0⟩],[ahR],⟨rfl,rfl,fun j k li hj hl=>?_,fun j k li t hj hl ht=>?_,fun j k hj ht=>?_,fun i j t hi hj=>?_,fun _ h=>h⟩,fun D2 qK hl=>?_⟩
    · cases j with
      |zero=>simp at hj hl;subst hj hl;exact ⟨⟨_,_,rfl⟩,rfl,rfl,fun dM=>absurd rfl dM⟩
      |succ j=>simp at hj
    · cases j<;>simp at ht
    · cases j with
      |zero=>simp at hj;subst hj;rfl
      |succ j=>simp at hj
    · cases i<;>simp at hi
    exact .own nx e 0 0 0 ahW ⟨0,0,e,0,0⟩ a 0 (hl 0 _ rfl) rfl (Do _) (Do _) (Do _) (by simp) (.inl rfl)
 | .own t e off len cap ex,y,v,nx,seen,seen',news,hv,h=>by
  obtain ⟨li,a,cB,rfl,hl,h2,h3,h4,h5,h6,h7⟩:=hv.iB;obtain ⟨k,xg,sV⟩:=hk t li hl;simp only [zl,xg] at h;cases k with
  |arr e' rows=>
   dsimp only at h;split at h
   · cases h
   rename_i hs
   simp only [ah2,not_or,Bool.not_eq_true] at hs;simp only [pp,abd] at h;obtain ⟨rfl,rfl,rfl⟩:=h;refine ⟨[li],[ahQ t],⟨rfl,rfl,fun j k li' hj kY=>?_,fun j k li' t' hj kY ht=>?_,fun j k hj ht=>?_,fun i j t hi hj=>?_,fun _ h=>ace _ h⟩,fun D2 qK G5=>?_⟩
   · cases j with
     |zero=>simp at hj kY;subst hj kY;exact ⟨⟨_,_,rfl⟩,sV⟩
     |succ j=>simp at hj
   · cases j with
     |zero=>simp at hj kY ht;subst hj kY ht;exact ⟨hl,xg,jD.1 hs.2,by simp,jD.1 hs.1⟩
     |succ j=>simp at hj
   · cases j<;>simp at ht
   · cases i with
     |zero=>
      cases j with
      |zero=>rfl
      |succ j=>simp at hj
     |succ i=>simp at hi
   exact .own nx e off len cap ahW li a cB (G5 0 _ rfl) h2 h3 h4 h5 (fun h=>by cases h) h7
  |_=>cases h
 | .str s,y,v,nx,seen,seen',news,hv,h=>by simp [zl] at h
 | .undef,y,v,nx,seen,seen',news,hv,h=>by simp [zl] at h
 | .js,y,v,nx,seen,seen',news,hv,h=>by simp [zl] at h
 | .ptr ..,y,v,nx,seen,seen',news,hv,h=>by simp [zl] at h
 | .bw ..,y,v,nx,seen,seen',news,hv,h=>by simp [zl] at h
 | .mp ..,y,v,nx,seen,seen',news,hv,h=>by simp [zl] at h
 | .eA ..,y,v,nx,seen,seen',news,hv,h=>by simp [zl] at h
 | .dC,y,v,nx,seen,seen',news,hv,h=>by simp [zl] at h
theorem Ij {D1:Im} {cO:Loc} {nS:bS} {GD:List Nat} (hk:abh cO nS D1 w): ∀{x y:List PV} {v:List Value} {nx:Nat} {seen seen':List Nat} {news:bS},
 eD D1 cO x v->H0 nS GD nx seen x=ahQ (y,news,seen')->
 ∃JW ts,ImO cO nS GD w seen seen' news JW ts/\ ∀(D2:Im) (qK:Loc),(∀(j:Nat) (li:LI),JW[j]? =ahQ li->qK (nx+j)=ahQ li)->eD D2 qK y v
 | [],y,v,nx,seen,seen',news,hv,h=>by simp only [H0,pp,abd] at h;obtain ⟨rfl,rfl,rfl⟩:=h;cases hv;exact ⟨[],[],.none,fun _ _ _=> .nil⟩
 |x::xs,y,v,nx,seen,seen',news,hv,h=>by
  simp only [H0] at h;cases h1:zl nS GD nx seen x with
  |none=>rw [h1] at h;cases h
  |some r1=>
   obtain ⟨y1,n1,s1⟩:=r1;rw [h1] at h;dsimp only at h;cases h2:H0 nS GD (nx+ahP n1) s1 xs with
   |none=>rw [h2] at h;cases h
   |some r2=>
    obtain ⟨y2,n2,s2⟩:=r2;rw [h2] at h;simp only [pp,abd] at h;obtain ⟨rfl,rfl,rfl⟩:=h;cases hv with
    |cons _ u _ us hx Pb=>
     obtain ⟨l1,t1,a1,b1⟩:=Rt hk hx h1;obtain ⟨l2,t2,a2,b2⟩:=Ij hk Pb h2;refine ⟨l1++l2,t1++t2,a1.append a2,fun D2 qK hl=> .cons _ _ _ _ (b1 D2 qK fun j li hj=>?_) (b2 D2 qK fun j li hj=>?_)⟩
     · have:=(aaI.1 hj).1
       exact hl j li (by rw [aa3 this];exact hj)
     have:=hl (ahP n1+j) li (by rw [aa1 (by rw [a1.Ii];omega),a1.Ii,show (ahP n1)+j-(ahP n1)=j by omega];exact hj)
     rwa [<- abD] at this
end
end
end Go.Vm
