/- The logical machine, part 1: VmDef, VmWp, VmChk, VmRel, VmRen, VmOps1, VmEff, VmOps2, VmOps3, VmOps4, VmOps5, VmOps6, VmOps7, VmOps8, VmOps9, VmEq, VmMap, VmOpsA, VmCall, VmCall2. -/
import GoSem.Dispatch
import Derived.Laws.StructEq
import Derived.Calls
import Derived.Below
import Derived.Laws.CopyRow
import Derived.Deep.AppendSrc
import Derived.Deep.Upon
import Derived.WideKeyRuns
open Bool renaming and_eq_true->pp,false_eq_true->ad6,not_eq_true'->adA,or_eq_true->ak0,true_and->alG,and_true->alI,true->alQ,false->alR
open Option.some renaming injEq->rc
open Go.Result renaming andThen_ok->ut
open Option renaming map_eq_some_iff->v6,getD_some->adz,isSome_iff_exists->adK,getD_none->aev,isSome_some->al0,map_some->ala,any_some->alC,some->alO,none->alP
open Go.Sem renaming run_bind->ww,run_pure->AC
open Nat renaming le_refl->Do,beq->EQ,add_mul->NE,mul_le_mul_right->PP,lt_or_ge->acl,ble->ad9,beq_eq->adG,ble_eq->ae8,add_assoc->aeh,blt->aem,le_max_right->aeU,zero_add->ajg,le_max_left->aji,eq_zero_or_pos->al1,min_eq_left->alt,mul_eq_zero->alB,mul_le_mul->alD,add_zero->alK,zero_mul->alL
open Array renaming getElem?_eq_some_iff->If,getElem?_setIfInBounds->adc,ext'->adC,length_toList->adN,map->ael,range->aeK,toList_map->afi,getElem?_eq_none->agd,getElem?_push->akN
open List renaming getElem?_eq_none->IR,getElem?_eq_getElem->M2,getElem?_append_right->UV,getElem?_append_left->ad5,mem_singleton->ady,getElem?_eq_some_iff->adB,replicate->adF,getElem?_toArray->adH,mem_append->adI,flatMap_cons->adJ,length_cons->adP,length_append->adQ,size_toArray->ae7,getElem?_take_of_lt->aeb,mem_cons->aei,foldl_cons->aej,drop_eq_nil_of_le->aet,mem_of_getElem?->aex,mem_iff_getElem->aey,mem_cons_of_mem->aez,getElem?_drop->aeD,extract_eq_take_drop->aeE,ext_getElem?->aeF,flatMap_nil->aeY,getElem?_cons_zero->afc,length_take->afe,length_eq_zero_iff->afn,getElem?_set_self->aig,take_of_length_le->ajh,length_nil->ajj,take_append_drop->ak2,getElem?_set_ne->ak4,flatMap_append->akT,mem_replicate->al2,append_assoc->al3,isEmpty_iff->al4,foldlM_cons->al5,all_eq_true->al9,drop_drop->alE,mapM_cons->alF,map_cons->alH,getD->alJ,length->alM,length->alN
open Prod.mk renaming injEq->adL
open Int renaming toNat_natCast->aeS
open Decidable renaming decide->alS
/- Definitions of a logical machine over pure values: what it computes is tied to the model's runs in VmSound. -/
namespace Go.Vm
universe u
theorem lc{α:Sort u}{a b:α}:cond alQ a b=a:=rfl
theorem lm{α:Sort u}{a b:α}:cond alR a b=b:=rfl
theorem ls{c:Prop}{h:Decidable c}(p:c){α:Sort u}{t e:α}:ite c t e=t:=if_pos p
theorem lw{c:Prop}{h:Decidable c}(p:¬c){α:Sort u}{t e:α}:ite c t e=e:=if_neg p
inductive PV where
 |undef
 |jR
 |int (k:IntKind) (n:Int)
 |bool (b:Bool)
 |str (s:ByteArray)
 |agg (cs:List PV)
 |cj (cs:List PV)
 |sl (esz:Nat) (rf:Bool) (rows:List (List PV))
 |own (t esz off len cap:Nat) (ex:Bool)
 |ptr (t esz row off:Nat)
 |bO (cells:List PV) (off:Nat)
 |mp (t:Nat)
 |eO (fn:FuncId) (fst cap:List PV)
 |eg
instance:Inhabited PV:=⟨.undef⟩
abbrev Row:=List PV
inductive ky where
 |arr (esz:Nat) (rows:List Row)
 |box (cells:List PV)
 |map (es:List (PV×PV))
 |dead
abbrev cK:=List ky
abbrev Env:=List (Nat×PV)
inductive fS where
 |t (n:Nat)
 |c (v:PV)
inductive CM where
 |V6|own|shr|fp
inductive lA where
 |Sj (x:fS)
 |pick (c a b:fS)
 |bin (op:BinOp) (x y:fS)
 |KE (neg:Bool) (x y:fS)
 |eqc (n:Nat) (neg:Bool) (x y:fS)
 |un (op:UnOp) (x:fS)
 |conv (k:IntKind) (x:fS)
 |len (x:fS)
 |Na (n:Nat)
 |box (x:fS)
 |alloc (cells:List PV)
 |build (zero:List PV) (parts:List (Nat×Nat×fS))
 |Bn (esz n:Nat) (zero:Row) (parts:List (Nat×fS))
 |DD (x y:fS)
 |load (agg:Option Nat) (p:fS)
 |store (sz:Nat) (p v:fS)
 |KF (x:fS)
 |KG (off:Nat) (p:fS)
 |ju (agg:Option Nat) (off:Nat) (x:fS)
 |KH (esz:Nat) (x i:fS)
 |DE (n esz:Nat) (p i:fS)
 |idx (n esz:Nat) (agg:Option Nat) (x i:fS)
 |KI (x i:fS)
 |Qz (esz:Nat) (x:fS) (lo hi mx:Option fS)
 |mks (esz:Nat) (zero:Row) (len cap:fS)
 |mkf (fn:FuncId) (fst cap:List fS)
 |mkm (z:Option PV)
 |lookup (n:Option Nat) (zero:PV) (ok:Bool) (m k:fS)
 |I4 (n:Option Nat) (m k v:fS)
 |ext (i:Nat) (x:fS)
 |append (esz:Nat) (x y:fS)
 |copy (esz:Nat) (x y:fS)
 |clear (esz:Nat) (zero:Row) (x:fS)
 |mm (isMax:Bool) (x:fS) (xs:List fS)
 |call (m:CM) (f:FuncId) (args:List fS)
 |xF (x:fS) (args:List fS)
 |bad
structure bY where
 dst:Option Nat
 op:lA
 guard:Option (Nat×Bool)
inductive kz where
 |skip
 |region (draw:Option (List Nat)) (ops:List bY) (gj:List Nat)
 |seq (a b:kz)
 |cond (c:fS) (a b:kz)
 |block (id:Nat) (b:kz)
 |loop (live:List (Nat×Option Nat)) (b:kz)
 |exit (id:Nat)
 |ret
inductive RV where
 |tmp (t:Nat)
 |cell (t:Nat) (agg:Option Nat)
structure aF where
 DF:Nat
 code:kz
 res:List RV
inductive Ent where
 |code (x:aF)
 |kG (O5:Bool) (f:List PV->Option (PV×cK))
 |Hi (f:List PV->cK->List Nat->Option (PV×cK×List Nat))
abbrev nv:=FuncId->Option Ent
structure St where
 env:Env
 aD:cK
 fz:List Nat
 kn:Nat
inductive iA where
 |normal
 |exit (id:Nat)
 |ret
def lk (t:Nat):Env->PV
 | []=> .undef
 |(s,v)::r=>if EQ s t then v else lk t r
def fS.ev (e:Env):fS->PV
 | .t n=>lk n e
 | .c v=>v
def PV.qu:PV->Bool
 | .undef| .jR| .agg _| .cj _=>alR
 |_=>alQ
def PV.plain:PV->Bool
 | .int _ _| .bool _| .str _=>alQ
 |_=>alR
def PV.cells:PV->List PV
 | .agg cs=>cs
 |v=>[v]
def PV.stored (v:PV):Option (List PV):=if v.cells.all PV.qu then alO v.cells else alP
def PV.cM (v:PV):Option (List PV):=if v.cells.all PV.plain then alO v.cells else alP
def part (agg:Option Nat) (off:Nat) (cs:List PV):Option PV:=
 match agg with
 |some s=>if off+s<=(alN cs) then alO (.agg ((cs.drop off).take s)) else alP
 |none=>cs[off]?
def ou (off:Nat) (new old:List PV):List PV:=old.take off++new++old.drop (off+alN new)
def aa (k:IntKind) (n:Int):Int:=
 match k,n with
 | .i64,.ofNat m=>if aem m 9223372036854775808 then .ofNat m else IntKind.wrap .i64 n
 | .i64,.negSucc m=>if aem m 9223372036854775808 then .negSucc m else IntKind.wrap .i64 n
 | .u64,.ofNat m=> .ofNat (Nat.mod m 18446744073709551616)
 |k,n=>IntKind.wrap k n
def arith (op:BinOp) (k:IntKind) (a b:Int):Option PV:=
 match op with
 | .add=>alO (.int k (aa k (a+b)))
 | .sub=>alO (.int k (aa k (a-b)))
 | .mul=>alO (.int k (aa k (a*b)))
 | .quo=>if b=0 then alP else alO (.int k (aa k (a.tdiv b)))
 | .rem=>if b=0 then alP else alO (.int k (a.tmod b))
 | .and=>alO (.int k (k.wrap (BitVec.ofInt k.bits a&&&BitVec.ofInt k.bits b).toNat))
 | .or=>alO (.int k (k.wrap (BitVec.ofInt k.bits a|||BitVec.ofInt k.bits b).toNat))
 | .xor=>alO (.int k (k.wrap (BitVec.ofInt k.bits a^^^BitVec.ofInt k.bits b).toNat))
 | .andNot=>alO (.int k (k.wrap (BitVec.ofInt k.bits a&&& ~~~ BitVec.ofInt k.bits b).toNat))
 | .eql=>alO (.bool (a==b))
 | .neq=>alO (.bool (a !=b))
 | .lss=>alO (.bool (alS (a<b)))
 | .leq=>alO (.bool (alS (a<=b)))
 | .gtr=>alO (.bool (alS (a>b)))
 | .geq=>alO (.bool (alS (a>=b)))
 | .shl| .shr=>alP
def CD (op:BinOp) (k:IntKind) (a b:Int):Option PV:=
 if b<0 then alP else
 let n:=min b.toNat k.bits
 match op with
 | .shl=>alO (.int k (k.wrap (a*2^n)))
 | .shr=>alO (.int k (a.fdiv (2^n)))
 |_=>alP
def fO:IntKind->IntKind->Bool
 | .i8,.i8| .i16,.i16| .i32,.i32| .i64,.i64| .u8,.u8| .u16,.u16| .u32,.u32| .u64,.u64=>alQ
 |_,_=>alR
def QA (op:BinOp) (x y:PV):Option PV:=
 match x,y with
 | .int k a,.int l b=>
  match op with
  | .shl=>CD .shl k a b
  | .shr=>CD .shr k a b
  |op=>if fO k l then arith op k a b else alP
 |_,_=>alP
def rh:PV->PV->Option Bool
 | .int k a,.int l b=>if fO k l then alO (a==b) else alP
 |_,_=>alP
def dK:List PV->List PV->Option Bool
 | [],[]=>alO alQ
 |x::xs,y::ys=>
  match rh x y with
  |some alQ=>dK xs ys
  |some alR=>alO alR
  |none=>alP
 |_,_=>alP
def unE (op:UnOp) (x:PV):Option PV:=
 match op,x with
 | .neg,.int k n=>alO (.int k (aa k (0-n)))
 | .not,.bool b=>alO (.bool !b)
 |_,_=>alP
def rowsOf (aD:cK) (esz:Nat):PV->Option (List Row)
 | .sl e _ rows=>match rows with
  | []=>alO []
  |_=>if EQ e esz then alO rows else alP
 | .own t e off len _ _=>if EQ e esz then (match aD[t]? with
  |some (.arr _ rows)=>alO ((rows.drop off).take len)
  |_=>alP) else alP
 |_=>alP
def jg:PV->List Nat
 | .own t _ _ _ _ _=>[t]
 |_=>[]
structure ov where
 v:PV
 news:cK:=[]
 wr:List (Nat×ky):=[]
 rd:List Nat:=[]
 fr:List Nat:=[]
def nO:List (Nat×Nat×PV)->List PV->Option (List PV)
 | [],cs=>alO cs
 |(off,sz,v)::r,cs=>
  match v.stored with
  |some w=>if EQ (alN w) sz&&ad9 (off+sz) (alN cs) then nO r (ou off w cs) else alP
  |none=>alP
def qv:List (Nat×PV)->List Row->Nat->Option (List Row)
 | [],rows,_=>alO rows
 |(i,v)::r,rows,esz=>
  match v.cM with
  |some w=>if EQ (alN w) esz&&aem i (alN rows) then qv r (rows.set i w) esz else alP
  |none=>alP
def kA:PV->Option Nat
 | .int _ n=>match n with
  | .ofNat m=>alO m
  | .negSucc _=>alP
 |_=>alP
def jS (n:Option Nat) (k:PV):Bool:=
 match n,k with
 |none,.int _ _=>alQ
 |some n,.agg cs=>EQ (alN cs) n
 |_,_=>alR
def fN (n:Option Nat) (k:PV):List (PV×PV)->Nat->Option (Option Nat)
 | [],_=>alO alP
 |(a,_)::r,i=>
  if jS n a then
   match dK k.cells a.cells with
   |some alQ=>alO (alO i)
   |some alR=>fN n k r (i+1)
   |none=>alP
  else alP
def fa:Nat:=1048576
def pj (aD:cK) (agg:Option Nat):PV->Option ov
 | .ptr t _ row off=>match aD[t]? with
  |some (.arr _ rows)=>match rows[row]? with
   |some cs=>(part agg off cs).map fun v=>{v,rd:=[t]}
   |none=>alP
  |some (.box cs)=>if EQ row 0 then (part agg off cs).map fun v=>{v,rd:=[t]} else alP
  |_=>alP
 | .bO cs off=>(part agg off cs).map fun v=>{v}
 |_=>alP
def has (l:List Nat) (t:Nat):Bool:=l.any (EQ t)
def sO (aD:cK) (fz:List Nat) (sz:Nat) (v:PV):PV->Option ov
 | .ptr t _ row off=>match aD[t]? with
  |some (.arr e rows)=>match rows[row]?,v.cM with
   |some cs,alO w=>if EQ (alN w) sz&&ad9 (off+sz) (alN cs)&&!has fz t then
    alO {v:= .undef,wr:=[(t,.arr e (rows.set row (ou off w cs)))]} else alP
   |_,_=>alP
  |some (.box cs)=>match v.stored with
   |some w=>if EQ row 0&&EQ (alN w) sz&&ad9 (off+sz) (alN cs)&&!has fz t then
    alO {v:= .undef,wr:=[(t,.box (ou off w cs))]} else alP
   |none=>alP
  |_=>alP
 |_=>alP
def vC (esz:Nat):PV->Bool
 | .sl e _ rows=>EQ e esz||rows.isEmpty
 | .own _ e _ _ _ _=>EQ e esz
 |_=>alR
def ri (x:PV) (lo hi mx:Option Nat):Option PV:=
 match x with
 | .sl e rf rows=>
  let l:=lo.getD 0
  let h:=hi.getD (alN rows)
  match mx with
  |none=>if ad9 l h&&ad9 h (alN rows) then alO (.sl e (rf&&EQ h (alN rows)) ((rows.drop l).take (h-l))) else alP
  |some m=>if ad9 l h&&ad9 h m&&ad9 m (alN rows) then alO (.sl e (EQ h m) ((rows.drop l).take (h-l))) else alP
 | .own t e off len cap ex=>
  let l:=lo.getD 0
  let h:=hi.getD len
  match mx with
  |none=>if ad9 l h&&ad9 h cap then alO (.own t e (off+l) (h-l) (cap-l) ex) else alP
  |some m=>if ad9 l h&&ad9 h m&&ad9 m cap then alO (.own t e (off+l) (h-l) (m-l) alQ) else alP
 |_=>alP
def lE:Nat->List Row->List Row->List Row
 |_,[],rows=>rows
 |i,w::r,rows=>lE (i+1) r (rows.set i w)
def jh (aD:cK) (fz:List Nat) (esz:Nat) (x y:PV):Option ov:=
 match rowsOf aD esz y with
 |none=>alP
 |some new=>
  match new with
  | []=>match x with
   | .sl _ rf rows=>if rf&&rows.isEmpty then alO {v:= .own (alN aD) esz 0 0 0 alR,news:=[.arr esz []],rd:=jg y} else alO {v:=x,rd:=jg y}
   | .own t _ _ len cap ex=>if EQ len 0&&EQ cap 0&&ex then alO {v:= .own (alN aD) esz 0 0 0 alR,news:=[.arr esz []],rd:=t::jg y} else alO {v:=x,rd:=jg y}
   |_=>alP
  |_=>
   let m:=alN new
   match x with
   | .sl e rf rows=>
    if rf&&(EQ e esz||EQ (alN rows) 0)&&ad9 (alN rows+m) fa then
     alO {v:= .own (alN aD) esz 0 (alN rows+m) (alN rows+m) alR,news:=[.arr esz (rows++new)],rd:=jg y}
    else alP
   | .own t e off len cap ex=>
    match aD[t]? with
    |some (.arr _ rows)=>
     if !Nat.beq e esz then alP
     else if ad9 (len+m) cap then
      if has fz t then alP else alO {v:= .own t e off (len+m) cap ex,wr:=[(t,.arr e (lE (off+len) new rows))],rd:=jg y}
     else if !Nat.ble (len+m) fa then alP
     else if ex then
      alO {v:= .own (alN aD) e 0 (len+m) (len+m) alR,news:=[.arr e ((rows.drop off).take len++new)],rd:=t::jg y}
     else if has fz t then alP
     else alO {v:= .own (alN aD) e 0 (len+m) (len+m) alR,news:=[.arr e ((rows.drop off).take len++new)],wr:=[(t,.dead)],rd:=jg y}
    |_=>alP
   |_=>alP
def mmE (isMax:Bool) (k:IntKind):Int->List PV->Option PV
 |a,[]=>alO (.int k a)
 |a,x::r=>match x with
  | .int l b=>if fO k l then mmE isMax k (if isMax then (if b>a then b else a) else (if b<a then b else a)) r else alP
  |_=>alP
def EH (e:Env) (l:List fS):List PV:=l.map (fS.ev e)
def tV (aD:cK) (n:Option Nat) (zero:PV) (ok:Bool) (m k:PV):Option ov:=
 match m with
 | .mp t=>match aD[t]? with
  |some (.map es)=>if jS n k then (match fN n k es 0 with
   |some (alO i)=>match es[i]? with
    |some p=>alO {v:=if ok then .cj [p.2,.bool alQ] else p.2,rd:=[t]}
    |none=>alP
   |some alP=>alO {v:=if ok then .cj [zero,.bool alR] else zero,rd:=[t]}
   |none=>alP) else alP
  |_=>alP
 |_=>alP
def DG (aD:cK) (fz:List Nat) (n:Option Nat) (m k v:PV):Option ov:=
 match m with
 | .mp t=>match aD[t]? with
  |some (.map es)=>if jS n k&&!has fz t then (match k.cM,v.cM with
   |some _,alO _=>match fN n k es 0 with
    |some (alO i)=>alO {v:= .undef,wr:=[(t,.map (es.set i (k,v)))]}
    |some alP=>alO {v:= .undef,wr:=[(t,.map (es++[(k,v)]))]}
    |none=>alP
   |_,_=>alP) else alP
  |_=>alP
 |_=>alP
def bI (e:Env) (aD:cK) (fz:List Nat):lA->Option ov
 | .Sj x=>alO {v:=x.ev e}
 | .pick c a b=>match c.ev e with
  | .bool alQ=>alO {v:=a.ev e}
  | .bool alR=>alO {v:=b.ev e}
  |_=>alP
 | .bin op x y=>(QA op (x.ev e) (y.ev e)).map fun v=>{v}
 | .KE neg x y=>match x.ev e,y.ev e with
  | .bool a,.bool b=>alO {v:= .bool (if neg then !(a==b) else a==b)}
  |_,_=>alP
 | .eqc n neg x y=>match x.ev e,y.ev e with
  | .agg xs,.agg ys=>if EQ (alN xs) n&&EQ (alN ys) n then (dK xs ys).map fun b=>{v:= .bool (if neg then !b else b)} else alP
  |_,_=>alP
 | .un op x=>(unE op (x.ev e)).map fun v=>{v}
 | .conv k x=>match x.ev e with
  | .int _ n=>alO {v:= .int k (aa k n)}
  |_=>alP
 | .len x=>match x.ev e with
  | .sl _ _ rows=>alO {v:= .int .i64 (.ofNat (alN rows))}
  | .own _ _ _ len _ _=>alO {v:= .int .i64 (.ofNat len)}
  |_=>alP
 | .Na n=>alO {v:= .int .i64 (.ofNat n)}
 | .box x=>match (x.ev e).stored with
  |some cs=>alO {v:= .ptr (alN aD) (alN cs) 0 0,news:=[.box cs]}
  |none=>alP
 | .alloc cells=>alO {v:= .ptr (alN aD) (alN cells) 0 0,news:=[.box cells]}
 | .build zero parts=>(nO (parts.map fun p=>(p.1,p.2.1,p.2.2.ev e)) zero).map fun cs=>{v:= .agg cs}
 | .Bn esz n zero parts=>(qv (parts.map fun p=>(p.1,p.2.ev e)) (adF n zero) esz).map fun rows=>
  {v:= .own (alN aD) esz 0 n n alQ,news:=[.arr esz rows]}
 | .DD x y=>if (x.ev e).qu&&(y.ev e).qu then alO {v:= .own (alN aD) 1 0 2 2 alQ,news:=[.box [x.ev e,y.ev e]]} else alP
 | .load agg p=>pj aD agg (p.ev e)
 | .store sz p v=>sO aD fz sz (v.ev e) (p.ev e)
 | .KF x=>match x.ev e with
  | .ptr t s r o=>alO {v:= .ptr t s r o}
  | .bO c o=>alO {v:= .bO c o}
  | .eO f a b=>alO {v:= .eO f a b}
  |_=>alP
 | .KG off p=>match p.ev e with
  | .ptr t s r o=>alO {v:= .ptr t s r (o+off)}
  | .bO c o=>alO {v:= .bO c (o+off)}
  |_=>alP
 | .ju agg off x=>match x.ev e with
  | .agg cs=>(part agg off cs).map fun v=>{v}
  |_=>alP
 | .KH esz x i=>match kA (i.ev e) with
  |none=>alP
  |some n=>match x.ev e with
   | .sl s _ rows=>match rows[n]? with
    |some cs=>if EQ s esz then alO {v:= .bO cs 0} else alP
    |none=>alP
   | .own t s off len _ _=>if aem n len&&EQ s esz then alO {v:= .ptr t s (off+n) 0} else alP
   |_=>alP
 | .DE n esz p i=>match kA (i.ev e) with
  |none=>alP
  |some j=>if aem j n then (match p.ev e with
   | .ptr t s r o=>alO {v:= .ptr t s r (o+j*esz)}
   | .bO c o=>alO {v:= .bO c (o+j*esz)}
   |_=>alP) else alP
 | .idx n esz agg x i=>match kA (i.ev e) with
  |none=>alP
  |some j=>if aem j n then (match x.ev e with
   | .agg cs=>(part agg (j*esz) cs).map fun v=>{v}
   |_=>alP) else alP
 | .KI x i=>match kA (i.ev e),x.ev e with
  |some j,.str s=>match s[j]? with
   |some b=>alO {v:= .int .u8 b.toNat}
   |none=>alP
  |_,_=>alP
 | .Qz esz x lo hi mx=>
  if !vC esz (x.ev e) then alP else
  match (match lo with|none=>alO alP|some a=>(kA (a.ev e)).map alO),
   (match hi with|none=>alO alP|some a=>(kA (a.ev e)).map alO),
   (match mx with|none=>alO alP|some a=>(kA (a.ev e)).map alO) with
  |some l,alO h,alO m=>(ri (x.ev e) l h m).map fun v=>{v}
  |_,_,_=>alP
 | .mks esz zero l c=>match kA (l.ev e),kA (c.ev e) with
  |some n,alO m=>if ad9 n m&&ad9 m fa then
   alO {v:= .own (alN aD) esz 0 n m alQ,news:=[.arr esz (adF m zero)]} else alP
  |_,_=>alP
 | .mkf fn a b=>alO {v:= .eO fn (EH e a) (EH e b)}
 | .mkm _=>alO {v:= .mp (alN aD),news:=[.map []]}
 | .lookup n zero ok m k=>tV aD n zero ok (m.ev e) (k.ev e)
 | .I4 n m k v=>DG aD fz n (m.ev e) (k.ev e) (v.ev e)
 | .ext i x=>match x.ev e with
  | .cj vs=>vs[i]?.map fun v=>{v}
  |_=>alP
 | .append esz x y=>jh aD fz esz (x.ev e) (y.ev e)
 | .copy esz x y=>match rowsOf aD esz (y.ev e),x.ev e with
  |some src,.own t s off len _ _=>match src.take len with
   | []=>alO {v:= .int .i64 0,rd:=jg (y.ev e)}
   |r::rs=>match aD[t]? with
    |some (.arr s' rows)=>
     if EQ s esz&&!has fz t then
      alO {v:= .int .i64 (.ofNat (alN rs+1)),wr:=[(t,.arr s' (lE off (r::rs) rows))],rd:=jg (y.ev e)}
     else alP
    |_=>alP
  |_,_=>alP
 | .clear esz zero x=>match x.ev e with
  | .own t s off len _ _=>match len with
   |0=>alO {v:= .undef}
   |len+1=>match aD[t]? with
    |some (.arr s' rows)=>
     if EQ s esz&&!has fz t then
      alO {v:= .undef,wr:=[(t,.arr s' (lE off (adF (len+1) zero) rows))]}
     else alP
    |_=>alP
  | .sl _ _ []=>alO {v:= .undef}
  |_=>alP
 | .mm isMax x xs=>match x.ev e with
  | .int k a=>(mmE isMax k a (EH e xs)).map fun v=>{v}
  |_=>alP
 | .call .. =>alP
 | .xF .. =>alP
 | .bad=>alP
mutual
def CE (aD:cK) (bx:Nat->Option (List PV)):PV->Option PV
 | .undef=>alP
 | .jR=>alP
 | .int k n=>alO (.int k n)
 | .bool b=>alO (.bool b)
 | .str s=>alO (.str s)
 | .agg cs=>(CF aD bx cs).map .agg
 | .cj cs=>(CF aD bx cs).map .cj
 | .sl e _ rows=>alO (.sl e alR rows)
 | .own t e off len _ _=>match aD[t]? with
  |some (.arr _ rows)=>alO (.sl e alR ((rows.drop off).take len))
  |_=>alP
 | .ptr t _ row off=>match aD[t]? with
  |some (.box _)=>if EQ row 0 then (bx t).map (.bO · off) else alP
  |some (.arr _ rows)=>rows[row]?.map (.bO · off)
  |_=>alP
 | .bO cs off=>(CF aD bx cs).map (.bO · off)
 | .mp _=>alP
 | .eO f a b=>match CF aD bx a,CF aD bx b with
  |some a',alO b'=>alO (.eO f a' b')
  |_,_=>alP
 | .eg=>alO .eg
def CF (aD:cK) (bx:Nat->Option (List PV)):List PV->Option (List PV)
 | []=>alO []
 |x::xs=>match CE aD bx x,CF aD bx xs with
  |some y,alO ys=>alO (y::ys)
  |_,_=>alP
end
def x9 (aD:cK):Nat->Nat->Option (List PV)
 |0,_=>alP
 |n+1,t=>match aD[t]? with
  |some (.box cs)=>CF aD (x9 aD n) cs
  |_=>alP
mutual
def jv (bx:Nat->List Nat):PV->List Nat
 | .agg cs=>dL bx cs
 | .cj cs=>dL bx cs
 | .own t _ _ _ _ _=>[t]
 | .ptr t _ _ _=>t::bx t
 | .bO cs _=>dL bx cs
 | .mp t=>[t]
 | .eO _ a b=>dL bx a++dL bx b
 | .undef| .jR| .int _ _| .bool _| .str _| .sl .. | .eg=>[]
def dL (bx:Nat->List Nat):List PV->List Nat
 | []=>[]
 |x::xs=>jv bx x++dL bx xs
end
def tM (_:Nat):List Nat:=[]
def dA (aD:cK):Nat->Nat->List Nat
 |0,_=>[]
 |n+1,t=>match aD[t]? with
  |some (.box cs)=>dL (dA aD n) cs
  |_=>[]
mutual
def PV.kU:PV->Bool
 | .int _ _| .bool _| .str _=>alQ
 | .agg cs=>wB cs
 | .cj cs=>wB cs
 |_=>alR
def wB:List PV->Bool
 | []=>alQ
 |x::xs=>x.kU&&wB xs
end
mutual
def zb (aD:cK):PV->Option PV
 | .int k n=>alO (.int k n)
 | .bool b=>alO (.bool b)
 | .str s=>alO (.str s)
 | .agg cs=>(I5 aD cs).map .agg
 | .cj cs=>(I5 aD cs).map .cj
 | .sl e _ rows=>alO (.sl e alR rows)
 | .own t e off len _ _=>match aD[t]? with
  |some (.arr _ rows)=>alO (.sl e alR ((rows.drop off).take len))
  |_=>alP
 |_=>alP
def I5 (aD:cK):List PV->Option (List PV)
 | []=>alO []
 |x::xs=>match zb aD x,I5 aD xs with
  |some y,alO ys=>alO (y::ys)
  |_,_=>alP
end
mutual
def zT (aD:cK) (fz:List Nat):Nat->List Nat->PV->Option (PV×cK×List Nat)
 |_,seen,.int k n=>alO (.int k n,[],seen)
 |_,seen,.bool b=>alO (.bool b,[],seen)
 |nx,seen,.agg cs=>(I6 aD fz nx seen cs).map fun r=>(.agg r.1,r.2)
 |nx,seen,.cj cs=>(I6 aD fz nx seen cs).map fun r=>(.cj r.1,r.2)
 |nx,seen,.sl e alQ []=>alO (.own nx e 0 0 0 alR,[.arr e []],seen)
 |nx,seen,.own t e off len cap _=>match aD[t]? with
  |some (.arr e' rows)=>if has seen t||has fz t then alP else alO (.own nx e off len cap alR,[.arr e' rows],t::seen)
  |_=>alP
 |_,_,_=>alP
def I6 (aD:cK) (fz:List Nat):Nat->List Nat->List PV->Option (List PV×cK×List Nat)
 |_,seen,[]=>alO ([],[],seen)
 |nx,seen,x::xs=>match zT aD fz nx seen x with
  |some (y,n1,al6)=>match I6 aD fz (nx+alN n1) al6 xs with
   |some (ys,n2,al7)=>alO (y::ys,n1++n2,al7)
   |none=>alP
  |none=>alP
end
def rN:ky->List Nat
 | .box cs=>dL tM cs
 |_=>[]
def reach (aD:cK):Nat->List Nat->List Nat->Option (List Nat)
 |_,[],seen=>alO seen
 |0,_::_,_=>alP
 |n+1,t::ts,seen=>
  if has seen t then reach aD n ts seen
  else match aD[t]? with
   |some b=>reach aD n (rN b++ts) (seen++[t])
   |none=>alP
def idxOf (t:Nat):List Nat->Option Nat
 | []=>alP
 |s::r=>if EQ s t then alO 0 else (idxOf t r).map (· +1)
mutual
def uO (m:List Nat):PV->Option PV
 | .agg cs=>(zP m cs).map .agg
 | .cj cs=>(zP m cs).map .cj
 | .own t e off len cap ex=>(idxOf t m).map fun u=> .own u e off len cap ex
 | .ptr t e row off=>(idxOf t m).map fun u=> .ptr u e row off
 | .bO cs off=>(zP m cs).map (.bO · off)
 | .mp t=>(idxOf t m).map .mp
 | .eO f a b=>match zP m a,zP m b with
  |some a',alO b'=>alO (.eO f a' b')
  |_,_=>alP
 | .undef=>alO .undef
 | .jR=>alO .jR
 | .int k n=>alO (.int k n)
 | .bool b=>alO (.bool b)
 | .str s=>alO (.str s)
 | .sl e c rows=>alO (.sl e c rows)
 | .eg=>alO .eg
def zP (m:List Nat):List PV->Option (List PV)
 | []=>alO []
 |x::xs=>match uO m x,zP m xs with
  |some y,alO ys=>alO (y::ys)
  |_,_=>alP
end
def ox (m:List Nat):ky->Option ky
 | .box cs=>(zP m cs).map .box
 | .arr e rows=>alO (.arr e rows)
 | .map es=>alO (.map es)
 | .dead=>alO .dead
def ya (aD:cK) (m:List Nat):List Nat->Option cK
 | []=>alO []
 |t::ts=>match aD[t]? with
  |some b=>match ox m b,ya aD m ts with
   |some b',alO r=>alO (b'::r)
   |_,_=>alP
  |none=>alP
def yb (fz:List Nat):Nat->List Nat->List Nat
 |_,[]=>[]
 |i,t::ts=>if has fz t then i::yb fz (i+1) ts else yb fz (i+1) ts
def HQ:Option Nat->PV->PV
 |some _,.own t e off len cap _=> .own t e off len cap alR
 |_,v=>v
def rO (e:Env) (m:List Nat):Nat->List (Nat×Option Nat)->Option (Env×cK)
 |_,[]=>alO ([],[])
 |nx,(s,k)::r=>
  match k,lk s e with
  |some esz,.sl _ alQ []=>(rO e m (nx+1) r).map fun p=>((s,.own nx esz 0 0 0 alR)::p.1,.arr esz []::p.2)
  |_,v=>match uO m v,rO e m nx r with
   |some v',alO p=>alO ((s,HQ k v')::p.1,p.2)
   |_,_=>alP
def vD:Nat->List Nat
 |0=>[]
 |n+1=>vD n++[n]
def rQ (st:St) (t c esz:Nat):St:=
 match st.aD[t]? with
 |some (.box cs)=>match cs[c]? with
  |some (.sl _ alQ [])=>{st with aD:=st.aD.set t (.box (cs.set c (.own (alN st.aD) esz 0 0 0 alR)))++[.arr esz []]}
  |_=>st
 |_=>st
def EI:PV->Option Nat
 | .ptr t _ 0 0=>alO t
 |_=>alP
def KJ:PV->Option Nat
 | .eO _ _ (x::_)=>EI x
 |x=>EI x
def kV:List (Nat×Option Nat)->St->St
 | [],st=>st
 |(s,k)::r,st=>match k with
  |some n=>if ad9 1000 n then (match KJ (lk s st.env) with
   |some t=>kV r (rQ st t (n / 1000-1) (n%1000))
   |none=>kV r st) else kV r st
  |none=>kV r st
def EJ (live:List (Nat×Option Nat)) (st:St):Option St:=
 match reach st.aD 4096 ((st.aD.take st.kn).flatMap rN++live.flatMap fun p=>jv tM (lk p.1 st.env)) (vD st.kn) with
 |none=>alP
 |some m=>match ya st.aD m m,rO st.env m (alN m) live with
  |some s1,alO (e1,s2)=>alO (kV live {env:=e1,aD:=s1++s2,fz:=yb st.fz 0 m,kn:=st.kn})
  |_,_=>alP
def norm (live:List (Nat×Option Nat)) (st:St):Option St:=
 match EJ live st with
 |some s=>if live.any fun p=>p.2.isSome then EJ live s else alO s
 |none=>alP
inductive Task where
 |func (f:FuncId) (args:List PV) (aD:cK) (fz:List Nat)
 |loop (live:List (Nat×Option Nat)) (b:kz) (st:St)
inductive Out where
 |func (v:PV) (aD:cK) (fz:List Nat)
 |code (e:iA) (st:St)
structure Tr where
 rd:List Nat
 wr:List Nat
 al:Bool
 KK:Bool
 cl:Bool
 lo:Nat
 hi:Nat
inductive XR where
 |loc (r:ov)
 |shr (v:PV) (aD:cK) (fz:List Nat)
def gC:List (Nat×ky)->cK->cK
 | [],s=>s
 |(t,b)::r,s=>gC r (s.set t b)
def EK:PV->Bool
 | .ptr .. =>alQ
 | .own .. =>alQ
 | .mp _=>alQ
 |_=>alR
def deep:Nat:=8
def dF (F:nv) (rec:Task->Option Out) (own:Bool) (f:FuncId) (args:List PV) (aD:cK) (fz:List Nat):Option ov:=
 match CF aD (x9 aD deep) args with
 |none=>alP
 |some nP=>
  let tk:=dL (dA aD deep) args
  match F f with
  |some (.kG O5 p)=>match p nP with
   |some (v,news)=>match zT news [] (alN aD) [] v with
    |some (v',n2,_)=>
     if O5 then match args with
      | .own t _ _ _ _ _::r=>
       let tr:=dL (dA aD deep) r
       if has fz t||has tr t then alP
       else alO {v:=v',news:=n2,wr:=[(t,.dead)],rd:=tr}
      |_=>alP
     else alO {v:=v',news:=n2,rd:=tk}
    |none=>alP
   |none=>alP
  |_=>match rec (.func f nP [] []) with
   |some (.func v s1 z1)=>
    if own then match zT s1 z1 (alN aD) [] v with
     |some (v',n2,_)=>alO {v:=v',news:=n2,rd:=tk}
     |none=>alP
    else if v.kU then alO {v,rd:=tk}
    else match zb s1 v with
     |some v'=>alO {v:=v',rd:=tk,fr:=tk}
     |none=>alP
   |_=>alP
def ky.bS:ky->Bool
 | .dead=>alR
 | .arr _ []=>alR
 |_=>alQ
def pk:List Nat->List Nat
 | []=>[]
 |t::r=>if has r t then pk r else t::pk r
mutual
def CG (g:Nat->Nat):PV->PV
 | .agg cs=> .agg (xG g cs)
 | .cj cs=> .cj (xG g cs)
 | .own t e off len cap ex=> .own (g t) e off len cap ex
 | .ptr t e row off=> .ptr (g t) e row off
 | .bO cs off=> .bO (xG g cs) off
 | .mp t=> .mp (g t)
 | .eO f a b=> .eO f (xG g a) (xG g b)
 | .undef=> .undef
 | .jR=> .jR
 | .int k n=> .int k n
 | .bool b=> .bool b
 | .str s=> .str s
 | .sl e c rows=> .sl e c rows
 | .eg=> .eg
def xG (g:Nat->Nat):List PV->List PV
 | []=>[]
 |x::xs=>CG g x::xG g xs
end
def zU (g:Nat->Nat):ky->ky
 | .box cs=> .box (xG g cs)
 |b=>b
def Bo (g:Nat->Nat):cK->cK
 | []=>[]
 |b::r=>zU g b::Bo g r
def kH (tk:List Nat) (n u:Nat):Nat:=
 match tk[u]? with
 |some t=>t
 |none=>n+(u-(alN tk))
def py (g:Nat->Nat):List Nat->cK->List (Nat×ky)
 |t::r,b::s=>(t,zU g b)::py g r s
 |_,_=>[]
def wC:cK->cK->Bool
 | [],_=>alQ
 |b::r,c::q=>(match b.bS,c.bS with|true,alQ=>alQ|false,alR=>alQ|_,_=>alR)&&wC r q
 |_::_,[]=>alR
def Wi (args:List PV) (aD:cK) (fz:List Nat) (tk:List Nat):Option (List PV×cK):=
 if tk.all fun t=>!has fz t then
  match zP tk args,ya aD tk tk with
  |some a,alO s=>alO (a,s)
  |_,_=>alP
 else alP
def iL (k:Nat) (v:PV) (s:cK):Bool:=(jv tM v++(s.take k).flatMap rN).all fun t=>aem t k
def EL (tk:List Nat) (n:Nat) (s0:cK) (v:PV) (s:cK):Option ov:=
 if wC s0 s then alO {v:=CG (kH tk n) v,news:=if iL (alN tk) v s then [] else Bo (kH tk n) (s.drop (alN tk)),wr:=py (kH tk n) tk s} else alP
def uP (rec:Task->Option Out) (f:FuncId) (args:List PV) (aD:cK) (fz:List Nat):Option ov:=
 match Wi args aD fz (pk (dL (dA aD deep) args)) with
 |none=>alP
 |some (a,s0)=>match rec (.func f a s0 []) with
  |some (.func v s [])=>EL (pk (dL (dA aD deep) args)) (alN aD) s0 v s
  |_=>alP
def gm (rec:Task->Option Out) (f:FuncId) (args:List PV) (aD:cK) (fz:List Nat):Option XR:=
 match rec (.func f args aD fz) with
 |some (.func v s z)=>if ad9 (alN aD) (alN s)&&fz.all (has z) then alO (.shr v s z) else alP
 |_=>alP
def xH (F:nv) (rec:Task->Option Out) (e:Env) (aD:cK) (fz:List Nat):lA->Option XR
 | .call m f args=>match m with
  | .V6=>(dF F rec alR f (EH e args) aD fz).map .loc
  | .own=>(dF F rec alQ f (EH e args) aD fz).map .loc
  | .shr=>gm rec f (EH e args) aD fz
  | .fp=>(uP rec f (EH e args) aD fz).map .loc
 | .xF x args=>match x.ev e with
  | .eO f a b=>
   if (EH e args++b).any EK then gm rec f (a++EH e args++b) aD fz
   else (dF F rec alR f (a++EH e args++b) aD fz).map .loc
  |_=>alP
 |op=>(bI e aD fz op).map .loc
def jb (d:Option Nat) (v:PV) (e:Env):Env:=
 match d with
 |some t=>(t,v)::e
 |none=>e
def KL (s:cK):List ky->cK
 | []=>s
 |b::r=>s++b::r
theorem rR (s:cK) (l:List ky):KL s l=s++l:=by
 cases l
 · exact (List.append_nil s).symm
 rfl
def XR.next (d:Option Nat) (st:St):XR->St
 | .loc r=>{env:=jb d r.v st.env,aD:=KL (gC r.wr st.aD) r.news,fz:=r.fr++st.fz,kn:=st.kn}
 | .shr v s z=>{env:=jb d v st.env,aD:=s,fz:=z,kn:=st.kn}
def XR.tr (nx:Nat):XR->Tr
 | .loc r=>⟨r.rd++r.fr,r.wr.map (·.1),!r.news.isEmpty,alR,(r.rd++r.fr).all (aem · nx)&&r.wr.all (fun p=>aem p.1 nx),nx,nx+alN r.news⟩
 | .shr .. =>⟨[],[],alQ,alQ,alQ,0,0⟩
def wD:List (Nat×ky)->Bool
 | []=>alQ
 |p::r=>(r.all fun q=>!Nat.beq q.1 p.1)&&wD r
def XR.ok (fz:List Nat):XR->Bool
 | .loc r=>(r.wr.all fun p=>!has fz p.1)&&wD r.wr
 | .shr .. =>alQ
def Tr.idle:Tr:=⟨[],[],alR,alR,alQ,0,0⟩
def wanted (g:Option (Nat×Bool)) (e:Env):Option Bool:=
 match g with
 |none=>alO alQ
 |some (s,want)=>match lk s e with
  | .bool b=>alO (b==want)
  | .jR=>alO alR
  |_=>alP
def mV (F:nv) (rec:Task->Option Out):List bY->St->List Tr->Option (St×List Tr)
 | [],st,tr=>alO (st,tr)
 |o::r,st,tr=>
  match wanted o.guard st.env with
  |some alQ=>match xH F rec st.env st.aD st.fz o.op with
   |some x=>if x.ok st.fz then mV F rec r (x.next o.dst st) (x.tr (alN st.aD)::tr) else alP
   |none=>alP
  |some alR=>mV F rec r {st with env:=jb o.dst .jR st.env} (Tr.idle::tr)
  |none=>alP
def meets (a b:List Nat):Bool:=a.any (has b)
def Tr.ik (a:Tr):Bool:=!a.rd.isEmpty||!a.wr.isEmpty||a.al||a.KK
def Tr.vE (a b:Tr):Bool:=
 (a.KK&&b.ik)||(b.KK&&a.ik)||meets a.wr b.rd||meets a.wr b.wr||meets a.rd b.wr||
  b.wr.any fun t=>ad9 a.lo t&&aem t a.hi
def wE (rows:List Row):Bool:=rows.all fun r=>EQ (alN r) 1&&r.all PV.plain
def I7 (args:List PV) (aD:cK) (fz:List Nat):Option (PV×cK×List Nat):=
 match args with
 | [.own t e off len _ _]=>match aD[t]? with
  |some (.box [.sl e1 _ x,.sl e2 _ y])=>if EQ e 1&&EQ off 0&&EQ len 2&&!has fz t&&wE x&&wE y&&ad9 1 (alN x+alN y)&&ad9 (alN x+alN y) fa&&(EQ e1 1||x.isEmpty)&&(EQ e2 1||y.isEmpty) then
   alO (.own (alN aD) 1 0 (x++y).length (x++y).length alR,aD.set t .dead++[.arr 1 (x++y)],fz)
   else alP
  |_=>alP
 |_=>alP
def I8 (i:Nat) (a:Tr):List (Tr×Nat)->Bool
 | []=>alQ
 |(b,bf)::r=>(!a.vE b||bf.testBit i)&&I8 i a r
def rS:Nat->List (Tr×Nat)->Bool
 |_,[]=>alQ
 |i,(a,_)::r=>a.cl&&I8 i a r&&rS (i+1) r
def lN (F:nv) (rec:Task->Option Out) (draw:Option (List Nat)) (ops:List bY) (gj:List Nat) (st:St):Option St:=
 match mV F rec ops st [] with
 |none=>alP
 |some (la,tr)=>
  let Ec:St:={la with env:=gj.map fun s=>(s,lk s la.env)}
  match draw with
  |none=>alO Ec
  |some bf=>if rS 0 (tr.reverse.zip bf) then alO Ec else alP
def tN (F:nv) (rec:Task->Option Out):kz->St->Option (iA×St)
 | .skip,st=>alO (.normal,st)
 | .region d ops gj,st=>(lN F rec d ops gj st).map fun s=>(.normal,s)
 | .seq a b,st=>match tN F rec a st with
  |some (.normal,la)=>tN F rec b la
  |r=>r
 | .cond c a b,st=>match c.ev st.env with
  | .bool alQ=>tN F rec a st
  | .bool alR=>tN F rec b st
  |_=>alP
 | .block id b,st=>match tN F rec b st with
  |some (.exit j,la)=>if EQ j id then alO (.normal,la) else alO (.exit j,la)
  |r=>r
 | .loop live b,st=>match rec (.loop live b st) with
  |some (.code e la)=>alO (e,la)
  |_=>alP
 | .exit id,st=>alO (.exit id,st)
 | .ret,st=>alO (.ret,st)
def EM (st:St):RV->Option PV
 | .tmp t=>alO (lk t st.env)
 | .cell t agg=>(pj st.aD agg (lk t st.env)).map (·.v)
def oy (st:St):List RV->Option (List PV)
 | []=>alO []
 |r::rs=>match EM st r,oy st rs with
  |some v,alO vs=>alO (v::vs)
  |_,_=>alP
def results1:List PV->PV
 | [v]=>v
 |vs=> .cj vs
def vF:Nat->List PV->Env
 |_,[]=>[]
 |i,v::r=>(i,v)::vF (i+1) r
def step (F:nv) (rec:Task->Option Out):Task->Option Out
 | .func f args aD fz=>match F f with
  |some (.code x)=>
   if EQ (alN args) x.DF then
    match tN F rec x.code {env:=vF 0 args,aD,fz,kn:=alN aD} with
    |some (.normal,st)=>(oy st x.res).map fun vs=> .func (results1 vs) st.aD st.fz
    |some (.ret,st)=>(oy st x.res).map fun vs=> .func (results1 vs) st.aD st.fz
    |_=>alP
   else alP
  |some (.Hi p)=>(p args aD fz).map fun r=> .func r.1 r.2.1 r.2.2
  |_=>alP
 | .loop live b st=>match norm live st with
  |none=>alP
  |some oo=>match tN F rec b oo with
   |some (.normal,Ec)=>rec (.loop live b Ec)
   |some (e,Ec)=>alO (.code e Ec)
   |none=>alP
def fU (esz:Nat):List PV->Option (PV×cK)
 | [.sl e _ rows]=>match rows with
  | []=>alO (.own 1 esz 0 0 0 alR,[.arr esz [],.arr esz []])
  |r::rs=>if EQ e esz&&ad9 (alN rs+1) fa then alO (.own 1 esz 0 (0+(alN rs+1)) (0+(alN rs+1)) alR,[.arr esz [],.arr esz (r::rs)]) else alP
 |_=>alP
def I9 (esz:Nat) (args:List PV) (aD:cK) (fz:List Nat):Option (PV×cK×List Nat):=
 match args with
 | [.own t e off len _ _,.int .i64 i,.own u e2 al8 KM _ _]=>
  match aD[t]?,aD[u]? with
  |some (.arr _ rows),alO (.arr _ new)=>
   if EQ e esz&&EQ e2 esz&&EQ off 0&&EQ al8 0&&EQ len (alN rows)&&EQ KM 1&&EQ (alN new) 1&&!Nat.beq t u&&!has fz t&&alS (0<=i)&&ad9 i.toNat len&&ad9 (len+1) fa then
    alO (.own (alN aD) esz 0 (len+1) (len+1) alR,aD.set t .dead++[.arr esz (rows.take i.toNat++new++rows.drop i.toNat)],fz)
   else alP
  |_,_=>alP
 |_=>alP
def Aw:List PV->Option (PV×cK)
 | [.int .u64 (.ofNat a),.int .u64 (.ofNat b),.int .u64 (.ofNat c)]=>
  if ad9 c 1 then
   let s:=a+b+c
   alO (.cj [.int .u64 (.ofNat (s%18446744073709551616)),.int .u64 (.ofNat (s / 18446744073709551616))],[])
  else alP
 |_=>alP
noncomputable def run (F:nv) (n:Nat):Task->Option Out:=Nat.rec (fun _=>alP) (fun _ ih=>step F ih) n
end Go.Vm
/- Rules for the logical machine: what more fuel keeps, and a calculus of its runs. -/
namespace Go.Vm
def Le (r s:Task->Option Out):Prop:= ∀t o,r t=alO o->s t=alO o
theorem uQ {F:nv} {r s:Task->Option Out} (h:Le r s) {own:Bool} {f:FuncId} {args:List PV} {aD:cK} {fz:List Nat} {x:ov}
 (hx:dF F r own f args aD fz=alO x):dF F s own f args aD fz=alO x:=by
 cases ha:CF aD (x9 aD deep) args with
 |none=>simp [dF,ha] at hx
 |some a=>
  simp only [dF,ha] at hx ⊢;cases hp:F f with
  |none=>
   rw [hp] at hx;dsimp only at hx ⊢;cases hr:r (.func f a [] []) with
   |none=>rw [hr] at hx;cases hx
   |some o=>rw [hr] at hx;rw [h _ _ hr];exact hx
  |some en=>
   rw [hp] at hx;cases en with
   |kG k p=>exact hx
   |code x=>
    dsimp only at hx ⊢;cases hr:r (.func f a [] []) with
    |none=>rw [hr] at hx;cases hx
    |some o=>rw [hr] at hx;rw [h _ _ hr];exact hx
   |Hi x=>
    dsimp only at hx ⊢;cases hr:r (.func f a [] []) with
    |none=>rw [hr] at hx;cases hx
    |some o=>rw [hr] at hx;rw [h _ _ hr];exact hx
theorem xI {r s:Task->Option Out} (h:Le r s) {f:FuncId} {args:List PV} {aD:cK} {fz:List Nat} {x:XR}
 (hx:gm r f args aD fz=alO x):gm s f args aD fz=alO x:=by
 unfold gm at hx ⊢;cases hr:r (.func f args aD fz) with
 |none=>rw [hr] at hx;cases hx
 |some o=>rw [hr] at hx;rw [h _ _ hr];exact hx
theorem KN {r s:Task->Option Out} (h:Le r s) {f:FuncId} {args:List PV} {aD:cK} {fz:List Nat} {x:ov}
 (hx:uP r f args aD fz=alO x):uP s f args aD fz=alO x:=by
 unfold uP at hx ⊢;cases hl:Wi args aD fz (pk (dL (dA aD deep) args)) with
 |none=>rw [hl] at hx;cases hx
 |some p=>
  rw [hl] at hx;dsimp only at hx ⊢;cases hr:r (.func f p.1 p.2 []) with
  |none=>rw [hr] at hx;cases hx
  |some o=>rw [hr] at hx;rw [h _ _ hr];exact hx
theorem KO {F:nv} {r s:Task->Option Out} (h:Le r s) {e:Env} {aD:cK} {fz:List Nat} {op:lA} {x:XR}
 (hx:xH F r e aD fz op=alO x):xH F s e aD fz op=alO x:=by
 cases op with
 |call m f args=>
  cases m with
  |V6=>simp only [xH,v6] at hx ⊢;obtain ⟨a,ha,rfl⟩:=hx;exact ⟨a,uQ h ha,rfl⟩
  |own=>simp only [xH,v6] at hx ⊢;obtain ⟨a,ha,rfl⟩:=hx;exact ⟨a,uQ h ha,rfl⟩
  |shr=>exact xI h hx
  |fp=>simp only [xH,v6] at hx ⊢;obtain ⟨a,ha,rfl⟩:=hx;exact ⟨a,KN h ha,rfl⟩
 |xF c args=>
  simp only [xH] at hx ⊢;split at hx
  · split at hx
    · rename_i hc;simp only [hc,if_true];exact xI h hx
    rename_i hc
    rw [lw hc];rw [v6] at hx ⊢;obtain ⟨a,ha,rfl⟩:=hx;exact ⟨a,uQ h ha,rfl⟩
  cases hx
 |_=>exact hx
theorem EN {F:nv} {r s:Task->Option Out} (h:Le r s) (ops:List bY):
 ∀(st:St) (tr:List Tr) (x:St×List Tr),mV F r ops st tr=alO x->mV F s ops st tr=alO x:=by
 induction ops with
 |nil=>intro st tr x hx;exact hx
 |cons o l ih=>
  intro st tr x hx;simp only [mV] at hx ⊢;cases hw:wanted o.guard st.env with
  |none=>rw [hw] at hx;cases hx
  |some b=>
   rw [hw] at hx;cases b with
   |false=>exact ih _ _ _ hx
   |true=>
    dsimp only at hx ⊢;cases hy:xH F r st.env st.aD st.fz o.op with
    |none=>rw [hy] at hx;cases hx
    |some y=>
     rw [hy] at hx;rw [KO h hy];dsimp only at hx ⊢;split at hx
     · rename_i Ax;rw [ls Ax];exact ih _ _ _ hx
     cases hx
theorem Hn {F:nv} {r s:Task->Option Out} (h:Le r s) {d:Option (List Nat)} {ops:List bY} {gj:List Nat} {st la:St}
 (hx:lN F r d ops gj st=alO la):lN F s d ops gj st=alO la:=by
 unfold lN at hx ⊢;cases hy:mV F r ops st [] with
 |none=>rw [hy] at hx;cases hx
 |some y=>rw [hy] at hx;rw [EN h _ _ _ _ hy];exact hx
theorem qw {F:nv} {r s:Task->Option Out} (h:Le r s) (c:kz):
 ∀(st:St) (x:iA×St),tN F r c st=alO x->tN F s c st=alO x:=by
 induction c with
 |skip=>intro st x hx;exact hx
 |region d ops gj=>intro st x hx;simp only [tN,v6] at hx ⊢;obtain ⟨a,ha,rfl⟩:=hx;exact ⟨a,Hn h ha,rfl⟩
 |seq a b iha ihb=>
  intro st x hx;simp only [tN] at hx ⊢;cases hy:tN F r a st with
  |none=>rw [hy] at hx;cases hx
  |some y=>
   rw [hy] at hx;rw [iha _ _ hy];obtain ⟨e,oo⟩:=y;cases e with
   |normal=>exact ihb _ _ hx
   |exit i=>exact hx
   |ret=>exact hx
 |cond c a b iha ihb=>
  intro st x hx;simp only [tN] at hx ⊢;split at hx
  · exact iha _ _ hx
  · exact ihb _ _ hx
  cases hx
 |block id b ih=>
  intro st x hx;simp only [tN] at hx ⊢;cases hy:tN F r b st with
  |none=>rw [hy] at hx;cases hx
  |some y=>rw [hy] at hx;rw [ih _ _ hy];exact hx
 |loop live b _=>
  intro st x hx;simp only [tN] at hx ⊢;split at hx
  · rename_i e oo hr;rw [h _ _ hr];exact hx
  cases hx
 |exit id=>intro st x hx;exact hx
 |ret=>intro st x hx;exact hx
theorem QB {F:nv} {r s:Task->Option Out} (h:Le r s):Le (step F r) (step F s):=by
 intro t o ho;cases t with
 |func f args aD fz=>
  simp only [step] at ho ⊢;split at ho
  · rename_i x hx
    split at ho
    · rename_i hl
      simp only [hl,if_true];split at ho
      · rename_i oo hc;rw [qw h _ _ _ hc];exact ho
      · rename_i oo hc;rw [qw h _ _ _ hc];exact ho
      cases ho
    cases ho
  · exact ho
  cases ho
 |loop live b st=>
  simp only [step] at ho ⊢;split at ho
  · cases ho
  rename_i oo hn
  split at ho
  · rename_i Ec hc;rw [qw h _ _ _ hc];exact h _ _ ho
  · rename_i e Ec dW hc
    rw [qw h _ _ _ hc];cases e with
    |normal=>exact absurd rfl (dW ·)
    |exit i=>exact ho
    |ret=>exact ho
  cases ho
theorem lO (F:nv) (n:Nat):run F (n+1)=step F (run F n):=rfl
theorem aeA (F:nv) (n:Nat):Le (run F n) (run F (n+1)):=by
 induction n with
 |zero=>intro t o h;cases h
 |succ n ih=>exact QB ih
theorem qx (F:nv) {n m:Nat} (h:n<=m):Le (run F n) (run F m):=by
 induction h with
 |refl=>intro t o h;exact h
 |step _ ih=>intro t o h;exact aeA F _ _ _ (ih _ _ h)
def Fin (F:nv) (t:Task) (Q:Out->Prop):Prop:= ∃n o,run F n t=alO o/\Q o
def WP (F:nv) (c:kz) (st:St) (Q:iA->St->Prop):Prop:= ∃n e s,tN F (run F n) c st=alO (e,s)/\Q e s
def WO (F:nv) (ops:List bY) (st:St) (tr:List Tr) (Q:St->List Tr->Prop):Prop:=
 ∃n s t,mV F (run F n) ops st tr=alO (s,t)/\Q s t
variable {F : nv}
theorem Fin.mono {t:Task} {Q R:Out->Prop} (h:Fin F t Q) (hr: ∀o,Q o->R o):Fin F t R:=
 let ⟨n,o,e,q⟩:=h;⟨n,o,e,hr _ q⟩
theorem WP.mono {c:kz} {st:St} {Q R:iA->St->Prop} (h:WP F c st Q) (hr: ∀e s,Q e s->R e s):WP F c st R:=
 let ⟨n,e,s,x,q⟩:=h;⟨n,e,s,x,hr _ _ q⟩
theorem WP.skip {st:St} {Q:iA->St->Prop} (h:Q .normal st):WP F .skip st Q:=⟨0,_,_,rfl,h⟩
theorem WP.ret {st:St} {Q:iA->St->Prop} (h:Q .ret st):WP F .ret st Q:=⟨0,_,_,rfl,h⟩
theorem WP.exit {id:Nat} {st:St} {Q:iA->St->Prop} (h:Q (.exit id) st):WP F (.exit id) st Q:=⟨0,_,_,rfl,h⟩
def andThen (k:St->Prop) (Q:iA->St->Prop):iA->St->Prop
 | .normal,s=>k s
 |e,s=>Q e s
theorem WP.seq {a b:kz} {st:St} {Q:iA->St->Prop} (h:WP F a st (andThen (fun s=>WP F b s Q) Q)):WP F (.seq a b) st Q:=by
 obtain ⟨n,e,s,he,hq⟩:=h;cases e with
 |normal=>obtain ⟨m,e',s',Cz,Sk⟩:=hq;refine ⟨max n m,e',s',?_,Sk⟩;simp only [tN];rw [qw (qx F (aji n m)) _ _ _ he];exact qw (qx F (aeU n m)) _ _ _ Cz
 |exit i=>exact ⟨n,_,s,by simp only [tN,he],hq⟩
 |ret=>exact ⟨n,_,s,by simp only [tN,he],hq⟩
theorem WP.adD {c:fS} {a b:kz} {st:St} {Q:iA->St->Prop} (hc:c.ev st.env= .bool alQ) (h:WP F a st Q):WP F (.cond c a b) st Q:=by obtain ⟨n,e,s,he,hq⟩:=h;exact ⟨n,e,s,by simp only [tN,hc,he],hq⟩
theorem WP.adE {c:fS} {a b:kz} {st:St} {Q:iA->St->Prop} (hc:c.ev st.env= .bool alR) (h:WP F b st Q):WP F (.cond c a b) st Q:=by obtain ⟨n,e,s,he,hq⟩:=h;exact ⟨n,e,s,by simp only [tN,hc,he],hq⟩
theorem WP.cond {c:fS} {a b:kz} {st:St} {Q:iA->St->Prop} (t:Bool) (hc:c.ev st.env= .bool t)
 (ha:t=alQ->WP F a st Q) (hb:t=alR->WP F b st Q):WP F (.cond c a b) st Q:=by
 cases t
 · exact WP.adE hc (hb rfl)
 exact WP.adD hc (ha rfl)
def inBlock (id:Nat) (Q:iA->St->Prop):iA->St->Prop
 | .exit j,s=>if j=id then Q .normal s else Q (.exit j) s
 |e,s=>Q e s
theorem WP.block {id:Nat} {b:kz} {st:St} {Q:iA->St->Prop} (h:WP F b st (inBlock id Q)):WP F (.block id b) st Q:=by
 obtain ⟨n,e,s,he,hq⟩:=h;cases e with
 |normal=>exact ⟨n,_,s,by simp only [tN,he],hq⟩
 |ret=>exact ⟨n,_,s,by simp only [tN,he],hq⟩
 |exit j=>
  by_cases hj:j=id
  · subst hj
    have Sk:Q .normal s:=by simpa [inBlock] using hq
    exact ⟨n,.normal,s,by simp [tN,he],Sk⟩
  have Sk:Q (.exit j) s:=by simpa [inBlock,hj] using hq
  exact ⟨n,.exit j,s,by simp [tN,he,hj],Sk⟩
def qy (gj:List Nat) (s:St):St:={s with env:=gj.map fun t=>(t,lk t s.env)}
theorem WP.region {ops:List bY} {gj:List Nat} {st:St} {Q:iA->St->Prop}
 (h:WO F ops st [] (fun s _=>Q .normal (qy gj s))):WP F (.region alP ops gj) st Q:=by
 obtain ⟨n,s,t,he,hq⟩:=h;exact ⟨n,.normal,_,by simp only [tN,lN,he];rfl,hq⟩
theorem WP.Wj {bf:List Nat} {ops:List bY} {gj:List Nat} {st:St} {Q:iA->St->Prop}
 (h:WO F ops st [] (fun s t=>rS 0 (t.reverse.zip bf)=alQ/\Q .normal (qy gj s))):WP F (.region (alO bf) ops gj) st Q:=by
 obtain ⟨n,s,t,he,ho,hq⟩:=h;exact ⟨n,.normal,qy gj s,by simp [tN,lN,he,ho,qy],hq⟩
theorem WO.nil {st:St} {tr:List Tr} {Q:St->List Tr->Prop} (h:Q st tr):WO F [] st tr Q:=⟨0,_,_,rfl,h⟩
theorem WO.op {o:bY} {r:List bY} {st:St} {tr:List Tr} {Q:St->List Tr->Prop} (x:ov)
 (hw:wanted o.guard st.env=alO alQ) (hx: ∀rec,xH F rec st.env st.aD st.fz o.op=alO (.loc x)) (Ax:(XR.loc x).ok st.fz=alQ)
 (h:WO F r ((XR.loc x).next o.dst st) ((XR.loc x).tr (alN st.aD)::tr) Q):WO F (o::r) st tr Q:=by
 obtain ⟨n,s,t,he,hq⟩:=h;exact ⟨n,s,t,by simp only [mV,hw,hx,Ax,if_true,he],hq⟩
theorem WO.skip {o:bY} {r:List bY} {st:St} {tr:List Tr} {Q:St->List Tr->Prop}
 (hw:wanted o.guard st.env=alO alR)
 (h:WO F r {st with env:=jb o.dst .jR st.env} (Tr.idle::tr) Q):WO F (o::r) st tr Q:=by
 obtain ⟨n,s,t,he,hq⟩:=h;exact ⟨n,s,t,by simp only [mV,hw,he],hq⟩
theorem WO.call {o:bY} {r:List bY} {st:St} {tr:List Tr} {Q:St->List Tr->Prop} (x:XR)
 (hw:wanted o.guard st.env=alO alQ) (hx: ∃n,xH F (run F n) st.env st.aD st.fz o.op=alO x) (Ax:x.ok st.fz=alQ)
 (h:WO F r (x.next o.dst st) (x.tr (alN st.aD)::tr) Q):WO F (o::r) st tr Q:=by
 obtain ⟨n,s,t,he,hq⟩:=h;obtain ⟨m,hx⟩:=hx;refine ⟨max n m,s,t,?_,hq⟩;simp only [mV,hw];rw [KO (qx F (aeU n m)) hx];dsimp only;rw [ls Ax];exact EN (qx F (aji n m)) _ _ _ _ he
theorem WP.loop {α:Type} {live:List (Nat×Option Nat)} {b:kz} {st:St} {Q:iA->St->Prop} (S:α->St) (I:α->Prop) (μ:α->Nat)
 (x:α) (h0:norm live st=alO (S x)) (hI:I x)
 (round: ∀x,I x->WP F b (S x) (andThen (fun s=> ∃y,norm live s=alO (S y)/\I y/\μ y<μ x) Q)):WP F (.loop live b) st Q:=by
 have key: ∀k x st,μ x=k->I x->norm live st=alO (S x)-> ∃n e s,run F n (.loop live b st)=alO (.code e s)/\Q e s:=by
  intro k
  induction k using Nat.strongRecOn with
  |_ k ih=>
   intro x st hk hI h0;obtain ⟨n,e,s,he,hq⟩:=round x hI;cases e with
   |normal=>obtain ⟨y,hy,hIy,dV⟩:=hq;obtain ⟨m,e',s',hr,Sk⟩:=ih (μ y) (hk▸dV) y s rfl hIy hy;refine ⟨max n m+1,e',s',?_,Sk⟩;rw [lO];simp only [step,h0];rw [qw (qx F (aji n m)) _ _ _ he];exact qx F (aeU n m) _ _ hr
   |exit i=>exact ⟨n+1,_,s,by rw [lO];simp only [step,h0,he],hq⟩
   |ret=>exact ⟨n+1,_,s,by rw [lO];simp only [step,h0,he],hq⟩
 obtain ⟨n,e,s,hr,hq⟩:=key _ x st rfl hI h0;exact ⟨n,e,s,by simp only [tN,hr],hq⟩
def I' (x:aF) (R:PV->cK->List Nat->Prop):iA->St->Prop
 | .normal,s=> ∃vs,oy s x.res=alO vs/\R (results1 vs) s.aD s.fz
 | .ret,s=> ∃vs,oy s x.res=alO vs/\R (results1 vs) s.aD s.fz
 | .exit _,_=>False
def Ay (F:nv) (f:FuncId) (args:List PV) (aD:cK) (fz:List Nat) (R:PV->cK->List Nat->Prop):Prop:=
 ∃n v s z,run F n (.func f args aD fz)=alO (.func v s z)/\R v s z
theorem Ay.of {f:FuncId} {x:aF} {args:List PV} {aD:cK} {fz:List Nat} {R:PV->cK->List Nat->Prop}
 (hf:F f=alO (.code x)) (hn:EQ (alN args) x.DF=alQ)
 (h:WP F x.code {env:=vF 0 args,aD,fz,kn:=alN aD} (I' x R)):Ay F f args aD fz R:=by
 obtain ⟨n,e,s,he,hq⟩:=h;cases e with
 |normal=>obtain ⟨vs,hv,hr⟩:=hq;exact ⟨n+1,_,_,_,by rw [lO];simp only [step,hf,hn,he,hv,if_true];rfl,hr⟩
 |ret=>obtain ⟨vs,hv,hr⟩:=hq;exact ⟨n+1,_,_,_,by rw [lO];simp only [step,hf,hn,he,hv,if_true];rfl,hr⟩
 |exit i=>exact hq.elim
def Pure (F:nv) (f:FuncId) (args:List PV) (v:PV):Prop:=
 (∀k p,F f≠alO (.kG k p))/\Ay F f args [] [] fun u _ _=>u.kU=alQ/\u=v
def O6 (F:nv) (f:FuncId) (args:List PV) (v:PV):Prop:=
 (∀k p,F f≠alO (.kG k p))/\Ay F f args [] [] fun u s _=>u.kU=alR/\zb s u=alO v
theorem Pure.of {f:FuncId} {x:aF} {args:List PV} {v:PV}
 (hf:F f=alO (.code x)) (hn:EQ (alN args) x.DF=alQ)
 (h:WP F x.code {env:=vF 0 args,aD:=[],fz:=[],kn:=0} (I' x fun u _ _=>u.kU=alQ/\u=v)):
 Pure F f args v:=⟨fun k p e=>by (rw [hf] at e;cases e),Ay.of hf hn h⟩
theorem O6.of {f:FuncId} {x:aF} {args:List PV} {v:PV}
 (hf:F f=alO (.code x)) (hn:EQ (alN args) x.DF=alQ)
 (h:WP F x.code {env:=vF 0 args,aD:=[],fz:=[],kn:=0} (I' x fun u s _=>u.kU=alR/\zb s u=alO v)):
 O6 F f args v:=⟨fun k p e=>by (rw [hf] at e;cases e),Ay.of hf hn h⟩
theorem Pure.dF {f:FuncId} {as args:List PV} {aD:cK} {fz:List Nat} {v:PV} (h:Pure F f args v)
 (ha:CF aD (x9 aD deep) as=alO args):
 ∃n,Vm.dF F (run F n) alR f as aD fz=alO {v,rd:=dL (dA aD deep) as}:=by
 obtain ⟨hp,n,u,s,z,hr,h1,h2⟩:=h;subst h2;refine ⟨n,?_⟩;simp only [Vm.dF,ha];cases hf:F f with
 |none=>simp [hr,h1]
 |some en=>
  cases en with
  |kG k p=>exact absurd hf (hp k p)
  |code x=>simp [hr,h1]
  |Hi x=>simp [hr,h1]
theorem O6.dF {f:FuncId} {as args:List PV} {aD:cK} {fz:List Nat} {v:PV} (h:O6 F f args v)
 (ha:CF aD (x9 aD deep) as=alO args):
 ∃n,Vm.dF F (run F n) alR f as aD fz=alO {v,rd:=dL (dA aD deep) as,fr:=dL (dA aD deep) as}:=by
 obtain ⟨hp,n,u,s,z,hr,h1,h2⟩:=h;refine ⟨n,?_⟩;simp only [Vm.dF,ha];cases hf:F f with
 |none=>simp [hr,h1,h2]
 |some en=>
  cases en with
  |kG k p=>exact absurd hf (hp k p)
  |code x=>simp [hr,h1,h2]
  |Hi x=>simp [hr,h1,h2]
theorem WO.pure {d:Option Nat} {g:Option (Nat×Bool)} {f:FuncId} {as:List fS} {r:List bY} {st:St} {tr:List Tr} {Q:St->List Tr->Prop}
 {args:List PV} {v:PV} (h:Pure F f args v)
 (hw:wanted g st.env=alO alQ) (ha:CF st.aD (x9 st.aD deep) (EH st.env as)=alO args)
 (k:WO F r ((XR.loc {v,rd:=dL (dA st.aD deep) (EH st.env as)}).next d st) ((XR.loc {v,rd:=dL (dA st.aD deep) (EH st.env as)}).tr (alN st.aD)::tr) Q):
 WO F (⟨d,.call .V6 f as,g⟩::r) st tr Q:=by
 obtain ⟨n,hn⟩:=h.dF (fz:=st.fz) ha;exact WO.call _ hw ⟨n,by simp only [xH,hn];rfl⟩ rfl k
end Go.Vm
/- The look at an operation of the model: is the logical machine's operation its own? -/
namespace Go.Vm
mutual
def uR:PV->Value->Bool
 | .int k n,.int l m=>fO k l&&n==m
 | .bool a,.bool b=>a==b
 | .sl _ _ [],.slice alP 0 0=>alQ
 | .agg cs,.agg vs=>EO cs vs.toList
 | .eg,.nilFunc=>alQ
 | .str s,.string t=>s.data.toList==t.data.toList
 | .undef,_=>alQ
 |_,_=>alR
def EO:List PV->List Value->Bool
 | [],[]=>alQ
 |x::xs,v::vs=>uR x v&&EO xs vs
 |_,_=>alR
end
def bH:fS->Operand->Bool
 | .t n,.tmp m=>n==m
 | .c v,.const u=>uR v u
 | .c (.eO f [] []),.func g=>f==g
 | .c .undef,_=>alQ
 |_,_=>alR
def fy:List fS->List Operand->Bool
 | [],[]=>alQ
 |x::xs,o::os=>bH x o&&fy xs os
 |_,_=>alR
def Ja:Option fS->Option Operand->Bool
 |none,alP=>alQ
 |some x,alO o=>bH x o
 |_,_=>alR
section
variable (P : Program)
def iq (t:TypeId):Bool:=
 match P.underlying t with
 |some (.struct _)|some (.array _ _)=>alQ
 |_=>alR
def pf (t:TypeId) (n:Nat):Bool:=(P.info? t).any fun i=>i.size==n
def Ep (t:TypeId):Bool:=(P.info? t).any fun i=>ad9 i.bytes 1048576
def Bp (t:TypeId) (agg:Option Nat):Bool:=
 (P.underlying t).isSome&&match agg with
 |some n=>iq P t&&pf P t n
 |none=>!iq P t&&pf P t 1
def zc (t:TypeId) (esz:Nat):Bool:=
 match P.underlying t with
 |some (.slice e)=>pf P e esz
 |_=>alR
def sP (t:TypeId):Bool:=
 match P.underlying t with
 |some (.slice _)=>alQ
 |_=>alR
def O7 (t:TypeId) (n esz:Nat):Bool:=
 match P.underlying t with
 |some (.array m e)=>m==n&&pf P e esz
 |_=>alR
def uT (t:TypeId) (cells:List PV):Bool:=
 match (P.info? t).bind (·.zero) with
 |some v=>EO cells v.cells.toList
 |none=>alR
def flat:Nat->TypeId->Option Nat
 |0,_=>alP
 |d+1,t=>
  match P.underlying t with
  |some (.int _)=>if pf P t 1 then alO 1 else alP
  |some (.struct fs)=>
   if P.stoodInHeld t then alP else
   match fs.toList.foldl (fun r f=>match r with
    |some n=>if f.offset==n&&f.name != "_" then (match flat d f.type with
     |some m=>if pf P f.type m then alO (n+m) else alP
     |none=>alP) else alP
    |none=>alP) (alO 0) with
   |some n=>if pf P t n then alO n else alP
   |none=>alP
  |_=>alP
def vG (place:Nat->Option (Nat×Nat)):List (Nat×Nat×fS)->List (Nat×Operand)->Bool
 | [],[]=>alQ
 |(off,sz,x)::r,(i,o)::s=>(match place i with|some (a,b)=>a==off&&b==sz|none=>alR)&&bH x o&&vG place r s
 |_,_=>alR
def nQ:List (Nat×fS)->List (Nat×Operand)->Bool
 | [],[]=>alQ
 |(i,x)::r,(j,o)::s=>i==j&&bH x o&&nQ r s
 |_,_=>alR
def placeOf (t:TypeId):Nat->Option (Nat×Nat):=
 match P.underlying t with
 |some (.struct fs)=>fun i=>(fs[i]?).bind fun f=>(P.info? f.type).map fun j=>(f.offset,j.size)
 |some (.array _ e)=>fun i=>(P.info? e).map fun j=>(i*j.size,j.size)
 |_=>fun _=>alP
def yc (t:TypeId) (n:Option Nat):Bool:=
 match n with
 |none=>(match P.underlying t with|some (.int _)=>alQ|_=>alR)
 |some n=>iq P t&&flat P 100 t==alO n
def Wk (f:FuncId):Bool:=(P.funcs[f]?).any fun fn=>fn.body.isSome&&!(fn.name== "runtime.NumGoroutine")
def xJ (prims:FuncId->Bool) (ty:TypeId):lA->Op->Bool
 | .Sj x,.move o=>bH x o
 | .Sj x,.assign o=>bH x o
 | .pick c a b,.pick d e f=>bH c d&&bH a e&&bH b f
 | .bin op x y,.binOp op' _ a b _=>op==op'&&bH x a&&bH y b
 | .KE neg x y,.binOp op t a b _=>(if neg then op== .neq else op== .eql)&&P.underlying t matches alO .bool&&bH x a&&bH y b
 | .eqc n neg x y,.binOp op t a b _=>(if neg then op== .neq else op== .eql)&&iq P t&&flat P 100 t==alO n&&!P.eqGuardType P.depth t&&bH x a&&bH y b
 | .un op x,.unOp op' _ a=>op==op'&&bH x a
 | .conv k x,.convert s d a=>(P.underlying s).isSome&&(match P.underlying d with|some (.int l)=>fO k l|_=>alR)&&bH x a
 | .len x,.call {callee:= .builtin .len,args,argTypes}=>(match argTypes[0]? with|some t=>sP P t|none=>alR)&&fy [x] args.toList
 | .Na n,.call {callee:= .builtin .len,args,argTypes}=>!args.isEmpty&&(match argTypes[0]? with
  |some t=>(match P.underlying t with
   |some (.array m _)=>m==n
   |some (.pointer e)=>(match P.underlying e with|some (.array m _)=>m==n|_=>alR)
   |_=>alR)
  |none=>alR)
 | .box x,.box _ a=>bH x a
 | .alloc cells,.alloc t=>uT P t cells
 | .build zero parts,.build t ps=>uT P t zero&&iq P t&&vG (placeOf P t) parts ps.toList
  &&(match P.underlying t with|some (.struct fs)=>fs.all fun f=>(P.info? f.type).isSome|some (.array _ e)=>(P.info? e).isSome|_=>alR)
 | .Bn esz n zero parts,.buildSlice t m ps=>n==m&&(match P.underlying t with|some (.slice e)=>pf P e esz&&uT P e zero&&(alN zero)==esz&&!(esz==0)|_=>alR)&&ad9 (n*esz) 1048576&&zero.all PV.plain&&nQ parts ps.toList
 | .load agg p,.load t a=>Bp P t agg&&bH p a
 | .store sz p v,.store t a b=>pf P t sz&&bH p a&&bH v b
 | .KF x,.nilCheck a=>bH x a
 | .KG off p,.fieldAddr t a f=>(match P.underlying t with
  |some (.struct fs)=>(match fs[f]? with|some g=>g.offset==off&&(P.info? g.type).any fun i=>!(i.size==0)|none=>alR)
  |_=>alR)&&bH p a
 | .ju agg off x,.field t a f=>(match P.underlying t with
  |some (.struct fs)=>(match fs[f]? with|some g=>g.offset==off&&Bp P g.type agg|none=>alR)
  |_=>alR)&&bH x a
 | .KH esz x i,.indexAddr t a j=>zc P t esz&&bH x a&&bH i j
 | .DE n esz p i,.indexAddr t a j=>O7 P t n esz&&bH p a&&bH i j
 | .idx n esz agg x i,.index t a j=>(match P.underlying t with|some (.array m e)=>m==n&&pf P e esz&&Bp P e agg|_=>alR)&&bH x a&&bH i j
 | .KI x i,.index t a j=>P.underlying t matches alO .string&&bH x a&&bH i j
 | .Qz esz x l h m,.slice t a b c d=>(m.isNone||h.isSome)&&zc P t esz&&bH x a&&Ja l b&&Ja h c&&Ja m d
 | .mks esz zero l c,.makeSlice t a b=>(match P.underlying t with|some (.slice e)=>pf P e esz&&uT P e zero&&(alN zero)==esz&&Ep P e&&!(esz==0)|_=>alR)&&zero.all PV.plain&&bH l a&&bH c b
 | .mkf fn a b,.makeFunc (.func g) c d=>fn==g&&fy a c.toList&&fy b d.toList
 | .mkm _,.makeMap _ alP=>alQ
 | .ext i x,.extract a j=>i==j&&bH x a
 | .append esz x y,.call {callee:= .builtin .append,args,argTypes}=>(match argTypes.toList with
  | [t,u]=>(match P.underlying t with|some (.slice e)=>pf P e esz&&Ep P e&&!(esz==0)&&(P.info? e).any (fun i=>i.zero.any fun z=>z.cells.size==esz)|_=>alR)&&sP P u
  |_=>alR)&&fy [x,y] args.toList
 | .lookup n zero ok m k,.lookup t a b ok'=>ok==ok'&&(match P.underlying t with|some (.map kt et)=>yc P kt n&&(match (P.info? et).bind (·.zero) with|some v=>uR zero v|none=>alR)|_=>alR)&&bH m a&&bH k b
 | .I4 n m k v,.mapUpdate t a b c=>(match P.underlying t with|some (.map kt _)=>yc P kt n|_=>alR)&&bH m a&&bH k b&&bH v c
 | .copy esz x y,.call {callee:= .builtin .copy,args,argTypes}=>(match argTypes.toList with| [t,u]=>zc P t esz&&sP P u|_=>alR)&&fy [x,y] args.toList
 | .clear esz zero x,.call {callee:= .builtin .clear,args,argTypes}=>(match argTypes.toList with
  | [t]=>(match P.underlying t with|some (.slice e)=>pf P e esz&&uT P e zero&&(alN zero)==esz&&zero.all PV.plain|_=>alR)
  |_=>alR)&&fy [x] args.toList
 | .mm isMax x xs,.call {callee:= .builtin b,args,argTypes:=_}=>(if isMax then b== .max else b== .min)&&fy (x::xs) args.toList
 | .call _ f args,.call {callee:= .value (.func g),args:=as,argTypes:=_}=>f==g&&(prims f||Wk P f)&&fy args as.toList
 | .xF x args,.call {callee:= .value (.tmp t),args:=as,argTypes:=_}=>bH x (.tmp t)&&fy args as.toList
 | .DD x y,.buildSlice t m ps=>m==2&&(match P.underlying t with|some (.slice e)=>pf P e 1&&(P.info? e).any (fun i=>i.zero.any fun z=>z.cells.size==1)|_=>alR)&&(match ps.toList with| [(i,a),(j,b)]=>i==0&&j==1&&bH x a&&bH y b|_=>alR)
 | .I4 n m k v,.insert t a b c=>(match P.underlying t with|some (.map kt _)=>yc P kt n|_=>alR)&&bH m a&&bH k b&&bH v c
 | .bad,_=>alQ
 |_,_=>ty==0&&alR
end
end Go.Vm
/- What a pure value says of a value of the model, a block of the call's own of the memory. -/
namespace Go.Vm
structure Tape (w w':World):Prop where
 eq:w'.tape=w.tape
 dr:w.drawn<=w'.drawn
theorem Tape.refl (w:World):Tape w w:=⟨rfl,Do _⟩
theorem Tape.trans {a b c:World} (h2:Tape b c) (h1:Tape a b):Tape a c:=⟨h2.eq.trans h1.eq,Nat.le_trans h1.dr h2.dr⟩
theorem Tape.same {w w':World} (h:w'.tape=w.tape) (k:w'.drawn=w.drawn):Tape w w':=⟨h,by rw [k];exact Do _⟩
structure LI where
 dw:Nat
 sh:Nat
 esz:Nat
 n:Nat
 sz:Nat
abbrev Im:=Nat->Option Obj
abbrev Loc:=Nat->Option LI
def oz (im:Im) (b o:Nat):Option Value:=
 match im b with
 |some (.cells c _ _)=>c[o]?
 |_=>alP
def jT:PV->Option Value
 | .int k n=>alO (.int k n)
 | .bool b=>alO (.bool b)
 | .str s=>alO (.string s)
 |_=>alP
def bU (get:Nat->Option Value) (sh esz:Nat) (rows:List Row):Prop:=
 ∀(i:Nat) (r:Row),rows[i]? =alO r->alN r=esz/\ ∀(j:Nat) (c:PV),r[j]? =alO c-> ∃v,jT c=alO v/\get (sh+i*esz+j)=alO v
mutual
inductive VR (im:Im) (loc:Loc):PV->Value->Prop
 |undef (v:Value):VR im loc .undef v
 |jR:VR im loc .jR Go.undef
 |int (k:IntKind) (n:Int):VR im loc (.int k n) (.int k n)
 |bool (b:Bool):VR im loc (.bool b) (.bool b)
 |str (s:ByteArray):VR im loc (.str s) (.string s)
 |agg (cs:List PV) (vs:List Value) (h:fx im loc cs vs):VR im loc (.agg cs) (.agg ⟨vs⟩)
 |cj (cs:List PV) (vs:List Value) (h:fx im loc cs vs):VR im loc (.cj cs) (.tuple ⟨vs⟩)
 |sl (esz:Nat) (rf:Bool) (rows:List Row) (a:Option Addr) (cap:Nat) (hc:(alN rows)<=cap) (hk:rf=alQ->cap=alN rows)
  (h:rows≠[]-> ∃b o,a=alO ⟨b,o,alP⟩/\bU (oz im b) o esz rows):VR im loc (.sl esz rf rows) (.slice a (alN rows) cap)
 |own (t esz off len cap:Nat) (ex:Bool) (li:LI) (a:Option Addr) (dd:Nat) (hl:loc t=alO li) (he:li.esz=esz) (hn:off+cap<=li.n) (hc:len<=cap)
  (hx:cap<=dd) (hk:ex=alQ->dd=cap)
  (h:dd=0\/(li.n≠0/\a=alO ⟨li.dw,li.sh+off*esz,alP⟩/\li.sh+(off+dd)*esz<=li.sz)):VR im loc (.own t esz off len cap ex) (.slice a len dd)
 |ptr (t esz row off:Nat) (li:LI) (hl:loc t=alO li) (he:li.esz=esz) (hn:row<li.n):
  VR im loc (.ptr t esz row off) (.pointer (alO ⟨li.dw,li.sh+row*esz+off,alP⟩))
 |bO (cs:List PV) (off b o:Nat) (vs:List Value) (h:fx im loc cs vs) (hv: ∀(j:Nat) (v:Value),vs[j]? =alO v->oz im b (o+j)=alO v):
  VR im loc (.bO cs off) (.pointer (alO ⟨b,o+off,alP⟩))
 |mp (t:Nat) (li:LI) (hl:loc t=alO li):VR im loc (.mp t) (.map (alO li.dw))
 |eO (fn:FuncId) (a b:List PV) (as bs:List Value) (ha:fx im loc a as) (hb:fx im loc b bs):VR im loc (.eO fn a b) (.func (.func fn) ⟨as⟩ ⟨bs⟩)
 |eg:VR im loc .eg .nilFunc
inductive fx (im:Im) (loc:Loc):List PV->List Value->Prop
 |nil:fx im loc [] []
 |cons (x:PV) (v:Value) (xs:List PV) (vs:List Value) (h:VR im loc x v) (hs:fx im loc xs vs):fx im loc (x::xs) (v::vs)
end
def oA (im eN:Im):Prop:= ∀b o,im b=alO o->eN b=alO o
def mN (loc bz:Loc):Prop:= ∀t li,loc t=alO li->bz t=alO li
theorem oA.refl (im:Im):oA im im:=fun _ _ h=>h
theorem oA.trans {a b c:Im} (h:oA a b) (k:oA b c):oA a c:=fun x o e=>k x o (h x o e)
theorem mN.refl (loc:Loc):mN loc loc:=fun _ _ h=>h
theorem mN.trans {a b c:Loc} (h:mN a b) (k:mN b c):mN a c:=fun x o e=>k x o (h x o e)
theorem oA.cell {im eN:Im} (h:oA im eN) {b o:Nat} {v:Value} (hc:oz im b o=alO v):oz eN b o=alO v:=by
 unfold oz at hc ⊢;cases hb:im b with
 |none=>rw [hb] at hc;cases hc
 |some x=>rw [hb] at hc;rw [h b x hb];exact hc
theorem bU.mono {g g':Nat->Option Value} {sh esz:Nat} {rows:List Row} (h:bU g sh esz rows) (hg: ∀k v,g k=alO v->g' k=alO v):
 bU g' sh esz rows:=by
 intro i r hr;obtain ⟨h1,h2⟩:=h i r hr;exact ⟨h1,fun j c hc=>let ⟨v,hv,hw⟩:=h2 j c hc;⟨v,hv,hg _ _ hw⟩⟩
mutual
theorem VR.mono {im eN:Im} {loc bz:Loc} (hi:oA im eN) (hl:mN loc bz): ∀{x:PV} {v:Value},VR im loc x v->VR eN bz x v
 |_,_,.undef v=> .undef v
 |_,_,.jR=> .jR
 |_,_,.int k n=> .int k n
 |_,_,.bool b=> .bool b
 |_,_,.str s=> .str s
 |_,_,.agg cs vs h=> .agg cs vs (fx.mono hi hl h)
 |_,_,.cj cs vs h=> .cj cs vs (fx.mono hi hl h)
 |_,_,.sl esz rf rows a cap hc hk h=> .sl esz rf rows a cap hc hk fun dW=>let ⟨b,o,ha,hr⟩:=h dW;⟨b,o,ha,hr.mono fun _ _ e=>hi.cell e⟩
 |_,_,.own t esz off len cap ex li a dd h1 h2 h3 h4 h5 h6 h7=> .own t esz off len cap ex li a dd (hl _ _ h1) h2 h3 h4 h5 h6 h7
 |_,_,.ptr t esz row off li h1 h2 h3=> .ptr t esz row off li (hl _ _ h1) h2 h3
 |_,_,.bO cs off b o vs h hv=> .bO cs off b o vs (fx.mono hi hl h) fun j v e=>hi.cell (hv j v e)
 |_,_,.mp t li h=> .mp t li (hl _ _ h)
 |_,_,.eO fn a b as bs ha hb=> .eO fn a b as bs (fx.mono hi hl ha) (fx.mono hi hl hb)
 |_,_,.eg=> .eg
theorem fx.mono {im eN:Im} {loc bz:Loc} (hi:oA im eN) (hl:mN loc bz): ∀{x:List PV} {v:List Value},fx im loc x v->fx eN bz x v
 |_,_,.nil=> .nil
 |_,_,.cons x v xs vs h hs=> .cons x v xs vs (VR.mono hi hl h) (fx.mono hi hl hs)
end
theorem fx.ny {im:Im} {loc:Loc}: ∀{x:List PV} {v:List Value},fx im loc x v->alN x=alN v
 |_,_,.nil=>rfl
 |_,_,.cons _ _ _ _ _ hs=>by simp [hs.ny]
theorem fx.get {im:Im} {loc:Loc}: ∀{xs:List PV} {vs:List Value},fx im loc xs vs-> ∀(i:Nat) (x:PV),xs[i]? =alO x-> ∃v,vs[i]? =alO v/\VR im loc x v
 |_,_,.nil,i,x,h=>by simp at h
 |_,_,.cons y v xs vs h hs,0,x,e=>by simp at e;subst e;exact ⟨v,rfl,h⟩
 |_,_,.cons y v xs vs h hs,i+1,x,e=>by obtain ⟨u,hu,hr⟩:=hs.get i x (by simpa using e);exact ⟨u,by simpa using hu,hr⟩
theorem fx.append {im:Im} {loc:Loc}: ∀{xs:List PV} {vs:List Value},fx im loc xs vs-> ∀{ys:List PV} {us:List Value},fx im loc ys us->fx im loc (xs++ys) (vs++us)
 |_,_,.nil,_,_,k=>k
 |_,_,.cons y v xs vs h hs,_,_,k=> .cons _ _ _ _ h (hs.append k)
theorem fx.take {im:Im} {loc:Loc}: ∀{xs:List PV} {vs:List Value},fx im loc xs vs-> ∀n,fx im loc (xs.take n) (vs.take n)
 |_,_,.nil,n=>by simp;exact .nil
 |_,_,.cons y v xs vs h hs,0=> .nil
 |_,_,.cons y v xs vs h hs,n+1=> .cons _ _ _ _ h (hs.take n)
theorem fx.drop {im:Im} {loc:Loc}: ∀{xs:List PV} {vs:List Value},fx im loc xs vs-> ∀n,fx im loc (xs.drop n) (vs.drop n)
 |_,_,.nil,n=>by simp;exact .nil
 |_,_,.cons y v xs vs h hs,0=> .cons _ _ _ _ h hs
 |_,_,.cons y v xs vs h hs,n+1=>hs.drop n
theorem fx.of {im:Im} {loc:Loc}: ∀(xs:List PV) (vs:List Value),alN xs=alN vs->(∀(i:Nat) (x:PV) (v:Value),xs[i]? =alO x->vs[i]? =alO v->VR im loc x v)->fx im loc xs vs
 | [],[],_,_=> .nil
 |x::xs,v::vs,hl,h=> .cons x v xs vs (h 0 x v rfl rfl) (fx.of xs vs (by simpa using hl) fun i a b ha hb=>h (i+1) a b (by simpa using ha) (by simpa using hb))
theorem VR.plain {im:Im} {loc:Loc} {x:PV} {v:Value} (h:VR im loc x v) (hp:x.plain=alQ):jT x=alO v:=by cases h<;>first|rfl|cases hp
theorem VR.EP {im:Im} {loc:Loc} {x:PV} {v:Value} (h:jT x=alO v):VR im loc x v:=by cases x<;>simp only [jT,rc] at h<;>first|(subst h;constructor)|cases h
theorem VR.cells {im:Im} {loc:Loc} {x:PV} {v:Value} (h:VR im loc x v) (hs: ∀c∈x.cells,c.qu=alQ):fx im loc x.cells v.cells.toList:=by
 have one: ∀{y:PV} {u:Value},VR im loc y u->y.qu=alQ->(∀us,u≠ .agg us):=by intro y u hy ho us e;subst e;cases hy<;>cases ho
 cases h with
 |agg cs vs h=>exact h
 |undef v=>have:=hs .undef (by simp [PV.cells]);cases this
 |jR=>have:=hs .jR (by simp [PV.cells]);cases this
 |cj cs vs h=>have:=hs (.cj cs) (by simp [PV.cells]);cases this
 |int k n=>exact .cons _ _ _ _ (.int k n) .nil
 |bool b=>exact .cons _ _ _ _ (.bool b) .nil
 |str s=>exact .cons _ _ _ _ (.str s) .nil
 |sl esz rf rows a cap hc hk h=>exact .cons _ _ _ _ (.sl esz rf rows a cap hc hk h) .nil
 |own t esz off len cap ex li a dd h1 h2 h3 h4 h5 h6 h7=>exact .cons _ _ _ _ (.own t esz off len cap ex li a dd h1 h2 h3 h4 h5 h6 h7) .nil
 |ptr t esz row off li h1 h2 h3=>exact .cons _ _ _ _ (.ptr t esz row off li h1 h2 h3) .nil
 |bO cs off b o vs h hv=>exact .cons _ _ _ _ (.bO cs off b o vs h hv) .nil
 |mp t li h=>exact .cons _ _ _ _ (.mp t li h) .nil
 |eO fn a b as bs ha hb=>exact .cons _ _ _ _ (.eO fn a b as bs ha hb) .nil
 |eg=>exact .cons _ _ _ _ .eg .nil
theorem VR.Jb {im:Im} {loc:Loc} {x:PV} {v:Value} (h:VR im loc x v) (hs:x.qu=alQ):(∀us,v≠ .agg us)/\ ∀us,v≠ .tuple us:=by cases h<;>first|(simp [PV.qu] at hs;done)|simp
def valOf:PV->Option Value
 | .agg cs=>(cs.mapM jT).map fun vs=> .agg ⟨vs⟩
 |x=>jT x
def fV:List (PV×PV)->List MapEntry->Prop
 | [],[]=>True
 |(k,v)::r,e::r'=>valOf k=alO e.key/\valOf v=alO e.val/\fV r r'
 |_,_=>False
def BR (im:Im) (loc:Loc) (w:World) (li:LI):ky->Prop
 | .arr e rows=>li.esz=e/\li.n=alN rows/\(rows≠[]-> ∃cs el,w.heap[li.dw]? =alO (.cells cs el (0,0))/\cs.size=li.sz/\li.sh+alN rows*e<=li.sz/\bU (fun k=>cs[k]?) li.sh e rows)
 | .box cells=>(li.esz=alN cells/\li.n=1\/li.esz=1/\li.n=alN cells)/\True/\li.sh=0/\ ∃vs el,w.heap[li.dw]? =alO (.cells ⟨vs⟩ el (0,0))/\alN vs=li.sz/\fx im loc cells vs
 | .map es=> ∃lB clock,w.heap[li.dw]? =alO (.map lB clock)/\fV es lB.toList
 | .dead=>True
theorem BR.mono {im eN:Im} {loc bz:Loc} {w w':World} {li:LI} {k:ky} (h:BR im loc w li k) (hi:oA im eN) (hl:mN loc bz)
 (hw:w'.heap[li.dw]? =w.heap[li.dw]?):BR eN bz w' li k:=by
 cases k with
 |arr e rows=>exact ⟨h.1,h.2.1,fun dW=>let ⟨cs,el,h1,h2,h3⟩:=h.2.2 dW;⟨cs,el,by rw [hw];exact h1,h2,h3⟩⟩
 |box cells=>obtain ⟨h1,h2,h3,vs,el,h4,h5,h6⟩:=h;exact ⟨h1,h2,h3,vs,el,by rw [hw];exact h4,h5,h6.mono hi hl⟩
 |map es=>obtain ⟨en,cl,h1,h2⟩:=h;exact ⟨en,cl,by rw [hw];exact h1,h2⟩
 |dead=>trivial
theorem BR.lt {im:Im} {loc:Loc} {w:World} {li:LI} {k:ky} (h:BR im loc w li k) (hs:k.bS=alQ):li.dw<w.heap.size:=by
 have get: ∀{o:Obj},w.heap[li.dw]? =alO o->li.dw<w.heap.size:=fun e=>by
  rcases acl li.dw w.heap.size with h|h
  · exact h
  simp [agd h] at e
 cases k with
 |arr e rows=>
  cases rows with
  |nil=>cases hs
  |cons r rs=>obtain ⟨cs,el,h1,_⟩:=h.2.2 (by simp);exact get h1
 |box cells=>obtain ⟨_,_,_,vs,el,h4,_⟩:=h;exact get h4
 |map es=>obtain ⟨en,cl,h1,h2⟩:=h;exact get h1
 |dead=>cases hs
structure SR (im:Im) (loc:Loc) (aD:cK) (fz:List Nat) (w:World):Prop where
 bL: ∀b o,im b=alO o->w.heap[b]? =alO o
 dw: ∀t li,loc t=alO li-> ∃k,aD[t]? =alO k/\BR im loc w li k
 jc: ∀t u li lj k k',loc t=alO li->loc u=alO lj->aD[t]? =alO k->aD[u]? =alO k'->k.bS=alQ->k'.bS=alQ->li.dw=lj.dw->t=u
 free: ∀t li k,loc t=alO li->aD[t]? =alO k->k.bS=alQ->has fz t=alR->im li.dw=alP
def ER (im:Im) (loc:Loc) (e:Env) (tmps:Array Value):Prop:= ∀t,VR im loc (lk t e) (tmps.getD t Go.undef)
theorem ER.mono {im eN:Im} {loc bz:Loc} (hi:oA im eN) (hl:mN loc bz) {e:Env} {tmps:Array Value} (h:ER im loc e tmps):ER eN bz e tmps:=
 fun t=>(h t).mono hi hl
theorem rT (t s:Nat) (v:PV) (e:Env):lk t ((s,v)::e)=if s=t then v else lk t e:=by
 simp only [lk]
 by_cases h:s=t<;>simp [h]
theorem ER.put {im:Im} {loc:Loc} {e:Env} {tmps:Array Value} (h:ER im loc e tmps) {d:Nat} {x:PV} {v:Value} (hd:d<tmps.size) (hv:VR im loc x v):
 ER im loc ((d,x)::e) (tmps.setIfInBounds d v):=by
 intro t;rw [rT]
 by_cases hdt:d=t
 · subst hdt
   simpa [hd] using hv
 rw [lw hdt]
 have:=h t;simpa [adc,hdt] using this
end Go.Vm
/- Renaming the blocks. -/
namespace Go.Vm
theorem zd {t:Nat}: ∀{m:List Nat} {u:Nat},idxOf t m=alO u->m[u]? =alO t
 | [],u,h=>by simp [idxOf] at h
 |s::r,u,h=>by
  simp only [idxOf] at h;split at h
  · rename_i e
    injection h with h;subst h;have:s=t:=by simpa using e
    simp [this]
  rw [v6] at h
  obtain ⟨v,hv,rfl⟩:=h;simpa using zd hv
section
variable {im : Im} {loc dB : Loc} {m : List Nat}
def Ren (m:List Nat) (loc dB:Loc):Prop:= ∀(u t:Nat),m[u]? =alO t->dB u=loc t
mutual
theorem Sx (hm:Ren m loc dB): ∀{x y:PV} {v:Value},VR im loc x v->uO m x=alO y->VR im dB y v
 | .undef,y,v,h,hr=>by simp only [uO,rc] at hr;subst hr;exact .undef _
 | .jR,y,v,h,hr=>by simp only [uO,rc] at hr;subst hr;cases h;exact .jR
 | .int k n,y,v,h,hr=>by simp only [uO,rc] at hr;subst hr;cases h;exact .int _ _
 | .bool b,y,v,h,hr=>by simp only [uO,rc] at hr;subst hr;cases h;exact .bool _
 | .str b,y,v,h,hr=>by simp only [uO,rc] at hr;subst hr;cases h;exact .str _
 | .eg,y,v,h,hr=>by simp only [uO,rc] at hr;subst hr;cases h;exact .eg
 | .agg cs,y,v,h,hr=>by simp only [uO,v6] at hr;obtain ⟨HR,h1,rfl⟩:=hr;cases h with|agg _ vs h=>exact .agg _ _ (tX hm h h1)
 | .cj cs,y,v,h,hr=>by simp only [uO,v6] at hr;obtain ⟨HR,h1,rfl⟩:=hr;cases h with|cj _ vs h=>exact .cj _ _ (tX hm h h1)
 | .sl e c rows,y,v,h,hr=>by simp only [uO,rc] at hr;subst hr;cases h with|sl _ _ _ a cap h1 h2 h3=>exact .sl _ _ _ a cap h1 h2 h3
 | .own t e off len cap ex,y,v,h,hr=>by simp only [uO,v6] at hr;obtain ⟨u,h1,rfl⟩:=hr;cases h with|own _ _ _ _ _ _ li a dd g1 g2 g3 g4 g5 g6 g7=>exact .own _ _ _ _ _ _ li a dd (by rw [hm u t (zd h1)];exact g1) g2 g3 g4 g5 g6 g7
 | .ptr t e row off,y,v,h,hr=>by simp only [uO,v6] at hr;obtain ⟨u,h1,rfl⟩:=hr;cases h with|ptr _ _ _ _ li g1 g2 g3=>exact .ptr _ _ _ _ li (by rw [hm u t (zd h1)];exact g1) g2 g3
 | .bO cs off,y,v,h,hr=>by simp only [uO,v6] at hr;obtain ⟨HR,h1,rfl⟩:=hr;cases h with|bO _ _ b o vs h hv=>exact .bO _ _ b o vs (tX hm h h1) hv
 | .mp t,y,v,h,hr=>by simp only [uO,v6] at hr;obtain ⟨u,h1,rfl⟩:=hr;cases h with|mp _ li g1=>exact .mp _ li (by rw [hm u t (zd h1)];exact g1)
 | .eO f a b,y,v,h,hr=>by
  simp only [uO] at hr;split at hr
  · rename_i a' b' ha hb
    injection hr with hr;subst hr;cases h with|eO _ _ _ as bs h1 h2=>exact .eO _ _ _ _ _ (tX hm h1 ha) (tX hm h2 hb)
  cases hr
theorem tX (hm:Ren m loc dB): ∀{x y:List PV} {v:List Value},fx im loc x v->zP m x=alO y->fx im dB y v
 | [],y,v,h,hr=>by simp only [zP,rc] at hr;subst hr;cases h;exact .nil
 |x::xs,y,v,h,hr=>by
  simp only [zP] at hr;split at hr
  · rename_i x' xs' h1 h2
    injection hr with hr;subst hr;cases h with|cons _ u _ us g1 g2=>exact .cons _ _ _ _ (Sx hm g1 h1) (tX hm g2 h2)
  cases hr
end
theorem DH: ∀{x y:List PV},zP m x=alO y->alN y=alN x
 | [],y,h=>by simp only [zP,rc] at h;subst h;rfl
 |x::xs,y,h=>by
  simp only [zP] at h;split at h
  · rename_i x' xs' h1 h2
    injection h with h;subst h;simp [DH h2]
  cases h
theorem HS {w:World} {li:LI} {k k':ky} (hm:Ren m loc dB) (hr:ox m k=alO k') (h:BR im loc w li k):BR im dB w li k':=by
 cases k with
 |arr e rows=>simp only [ox,rc] at hr;subst hr;exact h
 |map es=>simp only [ox,rc] at hr;subst hr;exact h
 |dead=>simp only [ox,rc] at hr;subst hr;trivial
 |box cs=>simp only [ox,v6] at hr;obtain ⟨HR,h1,rfl⟩:=hr;obtain ⟨g1,g2,g3,vs,el,g4,g5,g6⟩:=h;exact ⟨by rw [DH h1];exact g1,g2,g3,vs,el,g4,g5,tX hm g6 h1⟩
theorem Bq {k k':ky} (hr:ox m k=alO k'):k'.bS=k.bS:=by
 cases k with
 |arr e rows=>simp only [ox,rc] at hr;subst hr;rfl
 |map es=>simp only [ox,rc] at hr;subst hr;rfl
 |dead=>simp only [ox,rc] at hr;subst hr;rfl
 |box cs=>simp only [ox,v6] at hr;obtain ⟨HR,h1,rfl⟩:=hr;rfl
theorem CH {aD:cK}: ∀{l:List Nat} {s1:cK},ya aD m l=alO s1->alN s1=alN l/\ ∀(u t:Nat),l[u]? =alO t-> ∃k k',aD[t]? =alO k/\ox m k=alO k'/\s1[u]? =alO k'
 | [],s1,h=>by simp only [ya,rc] at h;subst h;exact ⟨rfl,fun u t h=>by simp at h⟩
 |t::ts,s1,h=>by
  simp only [ya] at h;split at h
  · rename_i b hb
    split at h
    · rename_i b' r h1 h2
      injection h with h;subst h;obtain ⟨g1,g2⟩:=CH h2;refine ⟨by simp [g1],fun u t' ht=>?_⟩;cases u with
      |zero=>simp at ht;subst ht;exact ⟨b,b',hb,h1,rfl⟩
      |succ u=>simpa using g2 u t' (by simpa using ht)
    cases h
  cases h
end
end Go.Vm
/- Operation by operation: the model's run gives what the logical machine says. First part: what reads no memory. -/
namespace Go.Vm
theorem fE {k l:IntKind}:fO k l=alQ↔k=l:=by cases k<;>cases l<;>simp [fO]
theorem Er {n:Int} (h1: -9223372036854775808<=n) (h2:n<9223372036854775808):IntKind.wrap .i64 n=n:=by
 simp only [IntKind.wrap,IntKind.bits,IntKind.signed,alG];have e1:(2:Int)^64=18446744073709551616:=by decide
 have e2:(2:Int)^(64-1)=9223372036854775808:=by decide
 simp only [e1,e2,decide_eq_true_eq];split<;>omega
theorem sQ (k:IntKind) (n:Int):aa k n=k.wrap n:=by
 unfold aa;split
 · rename_i m
   split
   · rename_i h
     have h:m<9223372036854775808:=by simpa using h
     have e:Int.ofNat m=(m:Int):=rfl;exact (Er (by rw [e];omega) (by rw [e];omega)).symm
   rfl
 · rename_i m
   split
   · rename_i h
     have h:m<9223372036854775808:=by simpa using h
     exact (Er (by omega) (by omega)).symm
   rfl
 · rename_i m
   simp only [IntKind.wrap,IntKind.bits,IntKind.signed,Bool.false_and];have e1:(2:Int)^64=18446744073709551616:=by decide
   simp only [e1];rfl
 rfl
section
variable {P : Program} {im : Im} {loc : Loc} {w : World}
theorem VR.gN {k:IntKind} {n:Int} {v:Value} (h:VR im loc (.int k n) v):v= .int k n:=by cases h;rfl
theorem VR.jU {b:Bool} {v:Value} (h:VR im loc (.bool b) v):v= .bool b:=by cases h;rfl
theorem VR.Es {b:ByteArray} {v:Value} (h:VR im loc (.str b) v):v= .string b:=by cases h;rfl
theorem VR.pV {cs:List PV} {v:Value} (h:VR im loc (.agg cs) v): ∃vs,v= .agg ⟨vs⟩/\fx im loc cs vs:=by cases h with|agg _ vs h=>exact ⟨vs,rfl,h⟩
theorem VR.Br {cs:List PV} {v:Value} (h:VR im loc (.cj cs) v): ∃vs,v= .tuple ⟨vs⟩/\fx im loc cs vs:=by cases h with|cj _ vs h=>exact ⟨vs,rfl,h⟩
mutual
theorem Jc: ∀{x:PV} {v:Value},uR x v=alQ->VR im loc x v
 | .int k n,v,h=>by
  cases v<;>simp only [uR] at h<;>first|cases h|skip
  simp only [pp,beq_iff_eq,fE] at h;obtain ⟨rfl,rfl⟩:=h;exact .int _ _
 | .bool a,v,h=>by
  cases v<;>simp only [uR] at h<;>first|cases h|skip
  rename_i b;have:a=b:=by simpa using h
  subst this;exact .bool _
 | .str a,v,h=>by
  cases v<;>simp only [uR] at h<;>first|cases h|skip
  rename_i b;have h1:a.data.toList=b.data.toList:=by simpa using h
  obtain ⟨⟨x⟩⟩:=a;obtain ⟨⟨y⟩⟩:=b;have h2:x=y:=h1;subst h2;exact .str _
 | .sl e c [],v,h=>by
  cases v with
  |slice a n cap=>
   cases a with
   |none=>
    cases n with
    |zero=>
     cases cap with
     |zero=>exact .sl e c [] alP 0 (Nat.zero_le _) (fun _=>rfl) (fun dW=>absurd rfl dW)
     |succ c=>simp [uR] at h
    |succ n=>simp [uR] at h
   |some a=>simp [uR] at h
  |_=>simp [uR] at h
 | .sl e c (_::_),v,h=>by simp [uR] at h
 | .agg cs,v,h=>by
  cases v<;>simp only [uR] at h<;>first|cases h|skip
  rename_i vs;exact .agg cs vs.toList (yd h)
 | .eg,v,h=>by
  cases v<;>simp only [uR] at h<;>first|cases h|skip
  exact .eg
 | .undef,v,_=> .undef v
 | .jR,v,h=>by simp [uR] at h
 | .cj _,v,h=>by simp [uR] at h
 | .own ..,v,h=>by simp [uR] at h
 | .ptr ..,v,h=>by simp [uR] at h
 | .bO ..,v,h=>by simp [uR] at h
 | .mp _,v,h=>by simp [uR] at h
 | .eO ..,v,h=>by simp [uR] at h
theorem yd: ∀{x:List PV} {v:List Value},EO x v=alQ->fx im loc x v
 | [],[],_=> .nil
 |x::xs,v::vs,h=>by simp only [EO,pp] at h;exact .cons _ _ _ _ (Jc h.1) (yd h.2)
 | [],_::_,h=>by simp [EO] at h
 |_::_,[],h=>by simp [EO] at h
end
theorem Wl {op : BinOp} {t : TypeId} {a b : Operand} {x y : PV} {u v : Value} {z : PV} (hx : VR im loc x u) (hy : VR im loc y v) (h : QA op x y = alO z) :
    ∃ r, (do eqGuard op t a b u v; binOp op t u v : Sem Value).run P w = .ok r w /\ VR im loc z r := by
  unfold QA at h
  split at h
  · rename_i k a l b
    obtain rfl := hx.gN
    obtain rfl := hy.gN
    have hg : ∀ (k l : IntKind) (a b : Int) (o p : Operand), (eqGuard op t o p (.int k a) (.int l b)).run P w = .ok () w := by
      intros; unfold eqGuard; cases op <;> simp
    split at h
    · simp only [CD] at h
      split at h
      · cases h
      rename_i hb
      injection h with h; subst h
      refine ⟨_, ?_, .int _ _⟩
      simp only [ww, hg, ut, binOp, Op.shift, hb, if_false]
      rfl
    · simp only [CD] at h
      split at h
      · cases h
      rename_i hb
      injection h with h; subst h
      refine ⟨_, ?_, .int _ _⟩
      simp only [ww, hg, ut, binOp, Op.shift, hb, if_false]
      rfl
    split at h
    · rename_i awo awp hk
      have := fE.1 hk; subst this
      unfold arith at h
      split at h
      all_goals first
        | (injection h with h; subst h
           first
             | (refine ⟨_, ?_, .int _ _⟩
                simp only [ww, hg, ut, binOp, Op.intArith, Op.intBits, sQ, ne_eq, not_true_eq_false, if_false]
                rfl)
             | (refine ⟨_, ?_, .bool _⟩
                simp only [ww, hg, ut, binOp, Op.intCmp, ne_eq, not_true_eq_false, if_false]
                rfl))
        | (split at h
           · cases h
           rename_i hb
           injection h with h; subst h
           refine ⟨_, ?_, .int _ _⟩
           simp only [ww, hg, ut, binOp, Op.intDiv, sQ, ne_eq, not_true_eq_false, if_false, hb]
           rfl)
        | cases h
    cases h
  cases h
theorem Sy {neg:Bool} {op:BinOp} {t:TypeId} {p q:Operand} {a b:Bool} (ho:op=if neg then .neq else .eql) (ht:P.underlying t=alO .bool):
 (do eqGuard op t p q (.bool a) (.bool b);binOp op t (.bool a) (.bool b):Sem Value).run P w= .ok (.bool (if neg then !(a==b) else a==b)) w:=by
 have h1:(Op.equal t (.bool a) (.bool b)).run P w= .ok (a==b) w:=run_equalIn_bool' w 9999 t a b ht;cases neg<;>simp only [ad6,if_false,if_true] at ho<;>subst ho<;>simp [eqGuard,binOp,h1]
theorem aeB {op:UnOp} {x z:PV} {u:Value} (hx:VR im loc x u) (h:unE op x=alO z): ∃r,(Op.unary op u).run P w= .ok r w/\VR im loc z r:=by
 unfold unE at h;split at h
 · injection h with h;subst h
   obtain rfl:=hx.gN;exact ⟨_,rfl,by rw [sQ];exact .int _ _⟩
 · injection h with h;subst h
   obtain rfl:=hx.jU;exact ⟨_,rfl,.bool _⟩
 cases h
theorem Sz {s d:TypeId} {k k':IntKind} {n:Int} {ds:TypeDesc} (hs:P.underlying s=alO ds) (hd:P.underlying d=alO (.int k)):
 (convert s d (.int k' n)).run P w= .ok (.int k (aa k n)) w:=by
 simp only [convert,ww,run_underlying hs,run_underlying hd,ut,sQ];cases ds<;>rfl
theorem CI {t:TypeId} (h:iq P t=alQ):(isAgg t).run P w= .ok alQ w:=by
 unfold iq at h;split at h
 · rename_i f hu;simp [isAgg,run_underlying hu]
 · rename_i n f hu;simp [isAgg,run_underlying hu]
 cases h
theorem CJ {t:TypeId} (hs:(P.underlying t).isSome=alQ) (h:iq P t=alR):(isAgg t).run P w= .ok alR w:=by
 cases hu:P.underlying t with
 |none=>rw [hu] at hs;cases hs
 |some d=>unfold iq at h;rw [hu] at h;cases d<;>first|(simp [isAgg,run_underlying hu];done)|cases h
theorem kW {t:TypeId} {n:Nat} (h:pf P t n=alQ):(sizeOf t).run P w= .ok n w:=by
 unfold pf at h;cases hi:P.info? t with
 |none=>rw [hi] at h;cases h
 |some i=>
  rw [hi] at h;have:i.size=n:=by simpa using h
  simp [sizeOf,typeInfo,hi,this]
theorem KP {agg:Option Nat} {t:TypeId} {off:Nat} {cs:List PV} {vs:List Value} {x:PV} (ha:Bp P t agg=alQ) (h:fx im loc cs vs)
 (hp:part agg off cs=alO x): ∃v,(Go.part t ⟨vs⟩ off).run P w= .ok v w/\VR im loc x v:=by
 unfold Bp at ha;simp only [pp] at ha;obtain ⟨hs,ha⟩:=ha;cases agg with
 |some n=>
  simp only [pp] at ha;simp only [part] at hp;split at hp
  · rename_i lP
    injection hp with hp;subst hp;refine ⟨.agg ⟨(vs.drop off).take n⟩,?_,.agg _ _ ((h.drop off).take n)⟩;simp only [Go.part,ww,CI ha.1,ut,if_true,kW ha.2,AC]
    congr 2
    apply adC;simp [aeE]
  cases hp
 |none=>
  simp only [pp,adA] at ha;simp only [part] at hp;obtain ⟨v,hv,hr⟩:=h.get off x hp;refine ⟨v,?_,hr⟩;simp only [Go.part,ww,CJ hs ha.1,ut,ad6,if_false];have:(⟨vs⟩:Array Value)[off]? =alO v:=by simpa using hv
  simp [this]
theorem wF {agg:Option Nat} {t:TypeId} {b o off:Nat} {cs:List PV} {vs:List Value} {x:PV} (ha:Bp P t agg=alQ) (h:fx im loc cs vs)
 (hm: ∀(j:Nat) (v:Value),vs[j]? =alO v->w.cell? ⟨b,o+j,alP⟩=alO v)
 (hp:part agg off cs=alO x): ∃v,(loadVar t ⟨b,o+off,alP⟩).run P w= .ok v w/\VR im loc x v:=by
 unfold Bp at ha;simp only [pp] at ha;obtain ⟨hs,ha⟩:=ha;have aqe: ∀k j:Nat,(⟨b,k,alP⟩:Addr).add j=⟨b,k+j,alP⟩:=by
  intro k j;unfold Addr.add;split
  · rename_i h;subst h;rfl
  rfl
 cases agg with
 |some n=>
  simp only [pp] at ha;simp only [part] at hp;split at hp
  · rename_i lP
    injection hp with hp;subst hp;refine ⟨.agg ⟨(vs.drop off).take n⟩,?_,.agg _ _ ((h.drop off).take n)⟩;have hl:((vs.drop off).take n).length=n:=by have:=h.ny;simp;omega
    have:=run_loadCells_list (P:=P) w ⟨b,o+off,alP⟩ ((vs.drop off).take n) (by
     intro j v hj;rw [aqe];have hj':j<n:=by
      rcases acl j n with h|h
      · exact h
      rw [IR (by omega)] at hj;cases hj
     rw [aeb hj',aeD] at hj;have:=hm _ _ hj
     rwa [show o+(off+j)=o+off+j by omega] at this)
    rw [hl] at this;simp only [loadVar,ww,CI ha.1,ut,if_true,kW ha.2,this,AC]
  cases hp
 |none=>simp only [pp,adA] at ha;simp only [part] at hp;obtain ⟨v,hv,hr⟩:=h.get off x hp;refine ⟨v,?_,hr⟩;simp only [loadVar,ww,CJ hs ha.1,ut,ad6,if_false];rw [run_load,hm off v hv]
end
end Go.Vm
/- What an operation does to the memory, and the shapes in which it does it. -/
namespace Go.Vm
structure tY (im:Im) (loc:Loc) (aD:cK) (w:World) (r:ov) (eN:Im) (bz:Loc) (w':World):Prop where
 gX:oA im eN
 eh:mN loc bz
 bL: ∀b o,eN b=alO o->w'.heap[b]? =alO o
 ew: ∀b o,eN b=alO o->im b=alO o\/w.heap.size<=b\/ ∃t li k,has r.fr t=alQ/\loc t=alO li/\aD[t]? =alO k/\k.bS=alQ/\li.dw=b
 os:w'.os=w.os
 tape:Tape w w'
 output:w'.output=w.output
 size:w.heap.size<=w'.heap.size
 frame: ∀b,b<w.heap.size->(∀t k li k0,(t,k)∈r.wr->loc t=alO li->aD[t]? =alO k0->k0.bS=alQ->li.dw≠b)->w'.heap[b]? =w.heap[b]?
 QC: ∀t k,(t,k)∈r.wr->k.bS=alQ-> ∃k0,aD[t]? =alO k0/\k0.bS=alQ
 wr: ∀t k li,(t,k)∈r.wr->loc t=alO li->BR eN bz w' li k
 lC: ∀t li,bz t=alO li->loc t=alO li\/(alN aD<=t/\t<alN aD+alN r.news)
 news: ∀(j:Nat) (k:ky) (li:LI),r.news[j]? =alO k->bz (alN aD+j)=alO li->BR eN bz w' li k/\
  (k.bS=alQ->eN li.dw=alP/\(w.heap.size<=li.dw\/ ∃t lt k0,(t,ky.dead)∈r.wr/\loc t=alO lt/\aD[t]? =alO k0/\k0.bS=alQ/\lt.dw=li.dw))
 distinct: ∀(i j:Nat) (ki kj:ky) (li lj:LI),r.news[i]? =alO ki->r.news[j]? =alO kj->ki.bS=alQ->kj.bS=alQ->
  bz (alN aD+i)=alO li->bz (alN aD+j)=alO lj->li.dw=lj.dw->i=j
theorem CK {α:Type} {n:Nat} {l:List α} {loc:Loc} {A:LI->α->Prop} (h: ∀(j:Nat) (k:α),l[j]? =alO k-> ∃li,loc (n+j)=alO li/\A li k):
 ∀(j:Nat) (k:α) (li:LI),l[j]? =alO k->loc (n+j)=alO li->A li k:=fun j k li hj hl=>by
 obtain ⟨li',h1,h2⟩:=h j k hj;rw [hl] at h1;injection h1 with h1;subst h1;exact h2
structure jG (im:Im) (loc:Loc) (aD:cK) (w:World) (r:ov):Prop where
 bL: ∀b o,im b=alO o->w.heap[b]? =alO o
 tok: ∀t,t∈r.rd\/(∃k,(t,k)∈r.wr)-> ∀li,loc t=alO li-> ∃k,aD[t]? =alO k/\BR im loc w li k
 free: ∀t k,(t,k)∈r.wr-> ∀li k',loc t=alO li->aD[t]? =alO k'->k'.bS=alQ->im li.dw=alP
 fresh: ∀j,j<alN r.news->loc (alN aD+j)=alP
 jc: ∀t u li lj k k',(t∈r.rd\/ ∃b,(t,b)∈r.wr)->(u∈r.rd\/ ∃b,(u,b)∈r.wr)->loc t=alO li->loc u=alO lj->aD[t]? =alO k->aD[u]? =alO k'->k.bS=alQ->k'.bS=alQ->li.dw=lj.dw->t=u
section
variable {im : Im} {loc : Loc} {aD : cK} {w : World} {r : ov}
theorem tY.none (hk:jG im loc aD w r) (hn:r.news=[]) (hw:r.wr=[]):tY im loc aD w r im loc w where
 gX:= .refl _
 eh:= .refl _
 bL:=hk.bL
 ew:=fun _ _ h=> .inl h
 os:=rfl
 tape:= .refl _
 output:=rfl
 size:=Do _
 frame:=fun _ _ _=>rfl
 QC:=fun t k h=>by rw [hw] at h;cases h
 wr:=fun t k li h=>by rw [hw] at h;cases h
 lC:=fun _ _ h=> .inl h
 news:=fun j k li h=>by rw [hn] at h;simp at h
 distinct:=fun i j ki kj li lj h=>by rw [hn] at h;simp at h
def Loc.set (loc:Loc) (t:Nat) (li:LI):Loc:=fun u=>if u=t then alO li else loc u
theorem Loc.fo (loc:Loc) (t:Nat) (li:LI):loc.set t li t=alO li:=by simp [Loc.set]
theorem Loc.ye {loc:Loc} {t:Nat} (li:LI) (h:loc t=Option.none):mN loc (loc.set t li):=by
 intro u l hu;unfold Loc.set;split
 · rename_i e;subst e;rw [h] at hu;cases hu
 exact hu
theorem tY.new (hk:jG im loc aD w r) {k:ky} {o:Obj} {w':World} (li:LI) (hn:r.news=[k]) (hw:r.wr=[])
 (hh:w'.heap=w.heap.push o) (ho:w'.os=w.os) (ht:w'.tape=w.tape) (hp:w'.output=w.output) (hl:li.dw=w.heap.size)
 (hb:BR im (loc.set (alN aD) li) w' li k) (hd:w.drawn<=w'.drawn:=by first|exact Do _|exact Nat.le_succ _):tY im loc aD w r im (loc.set (alN aD) li) w' where
 gX:= .refl _
 eh:=Loc.ye li (by have:=hk.fresh 0 (by simp [hn]);simpa using this)
 bL:=fun b o h=>by
  have h1:=hk.bL b o h;have dV:b<w.heap.size:=by
   rcases acl b w.heap.size with h|h
   · exact h
   simp [agd h] at h1
  rw [hh,akN,lw (by omega)];exact h1
 ew:=fun _ _ h=> .inl h
 os:=ho
 tape:=⟨ht,hd⟩
 output:=hp
 size:=by rw [hh];simp
 frame:=fun b Bl _=>by rw [hh,akN,lw (by omega)]
 QC:=fun t k h=>by rw [hw] at h;cases h
 wr:=fun t k li h=>by rw [hw] at h;cases h
 lC:=fun t l h=>by
  unfold Loc.set at h;split at h
  · rename_i e;subst e;exact .inr ⟨Do _,by simp [hn]⟩
  exact .inl h
 news:=CK fun j k' h=>by
  rw [hn] at h;cases j with
  |zero=>
   simp at h;subst h;refine ⟨li,Loc.fo _ _ _,hb,fun _=>⟨?_,.inl (by omega)⟩⟩;cases hi:im li.dw with
   |none=>rfl
   |some o=>have:=hk.bL _ _ hi;rw [hl] at this;simp at this
  |succ j=>simp at h
 distinct:=fun i j ki kj li lj h1 h2 _ _ _ _ _=>by rw [hn] at h1 h2;cases i<;>cases j<;>simp at h1 h2<;>rfl
theorem tY.SA (hk:jG im loc aD w r) {esz:Nat} (hn:r.news=[.arr esz []]) (hw:r.wr=[]):tY im loc aD w r im (loc.set (alN aD) ⟨0,0,esz,0,0⟩) w where
 gX:= .refl _
 eh:=Loc.ye _ (by have:=hk.fresh 0 (by simp [hn]);simpa using this)
 bL:=hk.bL
 ew:=fun _ _ h=> .inl h
 os:=rfl
 tape:= .refl _
 output:=rfl
 size:=Do _
 frame:=fun _ _ _=>rfl
 QC:=fun t k h=>by rw [hw] at h;cases h
 wr:=fun t k li h=>by rw [hw] at h;cases h
 lC:=fun t l h=>by
  unfold Loc.set at h;split at h
  · rename_i e;subst e;exact .inr ⟨Do _,by simp [hn]⟩
  exact .inl h
 news:=CK fun j k' h=>by
  rw [hn] at h;cases j with
  |zero=>simp at h;subst h;exact ⟨_,Loc.fo _ _ _,⟨rfl,rfl,fun dW=>absurd rfl dW⟩,fun hs=>by cases hs⟩
  |succ j=>simp at h
 distinct:=fun i j ki kj li lj h1 h2 _ _ _ _ _=>by rw [hn] at h1 h2;cases i<;>cases j<;>simp at h1 h2<;>rfl
theorem tY.write (hk:jG im loc aD w r) {t:Nat} {k k0:ky} {o:Obj} {w':World} {li:LI} (hn:r.news=[]) (hw:r.wr=[(t,k)])
 (hl:loc t=alO li) (h0:aD[t]? =alO k0) (hs:k0.bS=alQ)
 (hh:w'.heap=w.heap.setIfInBounds li.dw o) (ho:w'.os=w.os) (ht:w'.tape=w.tape) (hp:w'.output=w.output)
 (hb:BR im loc w' li k) (hd:w.drawn<=w'.drawn:=by first|exact Do _|exact Nat.le_succ _):tY im loc aD w r im loc w' where
 gX:= .refl _
 eh:= .refl _
 bL:=fun b o' h=>by
  have h1:=hk.bL b o' h;have sR:=hk.free t k (by simp [hw]) li k0 hl h0 hs;have dW:li.dw≠b:=fun e=>by rw [e,h] at sR;cases sR
  rw [hh,adc,lw dW];exact h1
 ew:=fun _ _ h=> .inl h
 os:=ho
 tape:=⟨ht,hd⟩
 output:=hp
 size:=by rw [hh];simp
 frame:=fun b _ h=>by have dW:=h t k li k0 (by simp [hw]) hl h0 hs;rw [hh,adc,lw dW]
 QC:=fun t' k' hm _=>by rw [hw] at hm;simp at hm;exact ⟨k0,by rw [hm.1];exact h0,hs⟩
 wr:=fun t' k' li' h h'=>by rw [hw] at h;simp at h;obtain ⟨rfl,rfl⟩:=h;rw [hl] at h';injection h' with h';subst h';exact hb
 lC:=fun _ _ h=> .inl h
 news:=fun j k li h=>by rw [hn] at h;simp at h
 distinct:=fun i j ki kj li lj h=>by rw [hn] at h;simp at h
end
end Go.Vm
/- Operation by operation, second part: addresses, reads, new blocks. -/
namespace Go.Vm
section
variable {P : Program} {im : Im} {loc : Loc} {aD : cK} {w : World}
theorem rj (b o n:Nat):(⟨b,o,alP⟩:Addr).add n=⟨b,o+n,alP⟩:=by
 unfold Addr.add;split
 · rename_i h;subst h;rfl
 rfl
theorem VR.ze {t e r o:Nat} {v:Value} (h:VR im loc (.ptr t e r o) v):
 ∃li,loc t=alO li/\li.esz=e/\r<li.n/\v= .pointer (alO ⟨li.dw,li.sh+r*e+o,alP⟩):=by
 cases h with|ptr _ _ _ _ li h1 h2 h3=>exact ⟨li,h1,h2,h3,rfl⟩
theorem VR.yf {cs:List PV} {off:Nat} {v:Value} (h:VR im loc (.bO cs off) v):
 ∃b o vs,fx im loc cs vs/\(∀(j:Nat) (v:Value),vs[j]? =alO v->oz im b (o+j)=alO v)/\v= .pointer (alO ⟨b,o+off,alP⟩):=by
 cases h with|bO _ _ b o vs h1 h2=>exact ⟨b,o,vs,h1,h2,rfl⟩
theorem lf {b o:Nat} {cs:Array Value} {el:TypeId} {fr:Nat×Nat} {v:Value} (h:w.heap[b]? =alO (.cells cs el fr)) (hc:cs[o]? =alO v):
 w.cell? ⟨b,o,alP⟩=alO v:=by simp [World.cell?,h,hc]
theorem qz (hk: ∀b o,im b=alO o->w.heap[b]? =alO o) {b o:Nat} {v:Value} (h:oz im b o=alO v):w.cell? ⟨b,o,alP⟩=alO v:=by
 unfold oz at h;cases hb:im b with
 |none=>rw [hb] at h;cases h
 |some x=>rw [hb] at h;cases x<;>first|exact lf (hk b _ hb) h|cases h
def aW (r:Row):List Value:=r.map fun c=>(jT c).getD Go.undef
theorem tZ {get:Nat->Option Value} {sh esz:Nat} {rows:List Row} (h:bU get sh esz rows) {i:Nat} {r:Row} (hr:rows[i]? =alO r):
 fx im loc r (aW r)/\ ∀(j:Nat) (v:Value),(aW r)[j]? =alO v->get (sh+i*esz+j)=alO v:=by
 obtain ⟨_,hc⟩:=h i r hr;constructor
 · refine fx.of _ _ (by simp [aW]) fun j x v hx hv=>?_
   obtain ⟨u,hu,_⟩:=hc j x hx;simp [aW,hx,hu] at hv;subst hv;exact VR.EP hu
 intro j v hv
 cases hx:r[j]? with
 |none=>simp [aW,hx] at hv
 |some x=>obtain ⟨u,hu,hg⟩:=hc j x hx;simp [aW,hx,hu] at hv;subst hv;exact hg
theorem KQ {agg:Option Nat} {t:TypeId} {p:PV} {u:Value} {r:ov} (hp:VR im loc p u) (ha:Bp P t agg=alQ) (h:pj aD agg p=alO r)
 (hk:jG im loc aD w r): ∃v,(Instr.loadAt t u).run P w= .ok v w/\VR im loc r.v v/\r.news=[]/\r.wr=[]:=by
 unfold pj at h;split at h
 · rename_i tk e row off
   obtain ⟨li,hl,he,hn,rfl⟩:=hp.ze;split at h
   · rename_i e' rows hs
     split at h
     · rename_i cs nA
       rw [v6] at h;obtain ⟨x,hx,rfl⟩:=h;obtain ⟨k,ij,hb⟩:=hk.tok tk (.inl (by simp)) li hl;rw [hs] at ij;injection ij with ij;subst ij;have dW:rows≠[]:=by intro e;subst e;simp at nA
       obtain ⟨h1,h2,h3⟩:=hb;obtain ⟨arr,el,ua,_,_,lQ⟩:=h3 dW;obtain ⟨hv,hg⟩:=tZ (im:=im) (loc:=loc) lQ nA;have Nb:e'=e:=by rw [<- h1,he]
       subst Nb;obtain ⟨v,cB,pg⟩:=wF (P:=P) (w:=w) (b:=li.dw) (o:=li.sh+row*e') ha hv
        (fun j v hj=>lf ua (hg j v hj)) hx
       exact ⟨v,by simp only [Instr.loadAt,Instr.sureAddr,ww,AC,ut,cB],pg,rfl,rfl⟩
     cases h
   · rename_i cs hs
     split at h
     · rename_i vH
       have vH:row=0:=by simpa using vH
       subst vH;rw [v6] at h;obtain ⟨x,hx,rfl⟩:=h;obtain ⟨k,ij,hb⟩:=hk.tok tk (.inl (by simp)) li hl;rw [hs] at ij;injection ij with ij;subst ij;obtain ⟨h1,h2,h3,vs,el,h4,h5,h6⟩:=hb;obtain ⟨v,cB,pg⟩:=wF (P:=P) (w:=w) (b:=li.dw) (o:=li.sh+0*e) ha h6
        (fun j v hj=>lf h4 (by simpa [h3] using hj)) hx
       exact ⟨v,by simp only [Instr.loadAt,Instr.sureAddr,ww,AC,ut,cB],pg,rfl,rfl⟩
     cases h
   cases h
 · rename_i cs off
   obtain ⟨b,o,vs,h1,h2,rfl⟩:=hp.yf;rw [v6] at h;obtain ⟨x,hx,rfl⟩:=h;obtain ⟨v,cB,pg⟩:=wF (P:=P) (w:=w) (b:=b) (o:=o) ha h1 (fun j v hj=>qz hk.bL (h2 j v hj)) hx;exact ⟨v,by simp only [Instr.loadAt,Instr.sureAddr,ww,AC,ut,cB],pg,rfl,rfl⟩
 cases h
theorem ES {cs:List PV} {vs:List Value} {el:TypeId} {r:ov} (h:fx im loc cs vs) (hr:r={v:= .ptr (alN aD) (alN cs) 0 0,news:=[.box cs]}) (hk:jG im loc aD w r):
 ∃bz,VR im bz r.v (.pointer (alO ⟨w.heap.size,0,alP⟩))/\tY im loc aD w r im bz {w with heap:=w.heap.push (.cells ⟨vs⟩ el)}:=by
 subst hr
 let li:LI:=⟨w.heap.size,0,alN cs,1,alN vs⟩
 refine ⟨loc.set (alN aD) li,?_,?_⟩
 · have:=VR.ptr (im:=im) (loc:=loc.set (alN aD) li) (alN aD) (alN cs) 0 0 li (Loc.fo _ _ _) rfl (Nat.zero_lt_one)
   simpa [li] using this
 refine tY.new hk li rfl rfl rfl rfl rfl rfl rfl ⟨.inl ⟨rfl,rfl⟩,trivial,rfl,vs,el,?_,rfl,h.mono (.refl _) (Loc.ye li (by have:=hk.fresh 0 (by simp);simpa using this))⟩
 simp [li]
theorem KR {x y:PV} {u v:Value} {el:TypeId} {r:ov} (hx:VR im loc x u) (hy:VR im loc y v) (hr:r={v:= .own (alN aD) 1 0 2 2 alQ,news:=[.box [x,y]]}) (hk:jG im loc aD w r):
 ∃bz,VR im bz r.v (.slice (alO ⟨w.heap.size,0,alP⟩) 2 2)/\tY im loc aD w r im bz {w with heap:=w.heap.push (.cells #[u,v] el)}:=by
 subst hr
 let li:LI:=⟨w.heap.size,0,1,2,2⟩
 refine ⟨loc.set (alN aD) li,?_,?_⟩
 · exact .own (alN aD) 1 0 2 2 alQ li _ 2 (Loc.fo _ _ _) rfl (Do _) (Do _) (Do _) (fun _=>rfl) (.inr ⟨by simp [li],by simp [li],by simp [li]⟩)
 refine tY.new hk li rfl rfl rfl rfl rfl rfl rfl ⟨.inr ⟨rfl,rfl⟩,trivial,rfl,[u,v],el,?_,rfl,(fx.cons _ _ _ _ hx (.cons _ _ _ _ hy .nil)).mono (.refl _) (Loc.ye li (by have:=hk.fresh 0 (by simp);simpa using this))⟩
 simp [li]
theorem SC {off:Nat} {t:TypeId} {f:Nat} {fs:Array Field} {g:Field} {i:TypeInfo} {p z:PV} {u:Value} (hp:VR im loc p u)
 (hu:P.underlying t=alO (.struct fs)) (hf:fs[f]? =alO g) (ho:g.offset=off) (hi:P.info? g.type=alO i) (hz:i.size≠0)
 (h:(match (generalizing:=false) p with| .ptr t s r o=>some (PV.ptr t s r (o+off))| .bO c o=>some (PV.bO c (o+off))|_=>none)=some z):
 ∃v,(Instr.fieldAt t u f).run P w= .ok v w/\VR im loc z v:=by
 have q9:(sizeOf g.type).run P w= .ok i.size w:=by simp [sizeOf,typeInfo,hi]
 cases p with
 |ptr tk s r o=>injection h with h;subst h;obtain ⟨li,hl,he,hn,rfl⟩:=hp.ze;refine ⟨_,?_,.ptr tk s r (o+off) li hl he hn⟩;simp [Instr.fieldAt,run_underlying hu,hf,Instr.sureAddr,fieldPlace,q9,hz,rj,ho,aeh]
 |bO cs o=>injection h with h;subst h;obtain ⟨b,o',vs,h1,h2,rfl⟩:=hp.yf;refine ⟨_,?_,.bO cs (o+off) b o' vs h1 h2⟩;simp [Instr.fieldAt,run_underlying hu,hf,Instr.sureAddr,fieldPlace,q9,hz,rj,ho,aeh]
 |_=>cases h
theorem pz {x:PV} {n:Nat} {u:Value} (hx:VR im loc x u) (h:kA x=alO n): ∃k,u= .int k (n:Int):=by
 unfold kA at h;split at h
 · rename_i k m
   obtain rfl:=hx.gN;split at h
   · rename_i m';injection h with h;subst h;exact ⟨k,rfl⟩
   cases h
 cases h
theorem QD {n esz j:Nat} {t e:TypeId} {p z:PV} {u:Value} {k:IntKind} (hp:VR im loc p u)
 (hu:P.underlying t=alO (.array n e)) (hs:pf P e esz=alQ) (hj:j<n)
 (h:(match (generalizing:=false) p with| .ptr t s r o=>some (PV.ptr t s r (o+j*esz))| .bO c o=>some (PV.bO c (o+j*esz))|_=>none)=some z):
 ∃v,(Instr.indexAt t u (.int k j)).run P w= .ok v w/\VR im loc z v:=by
 have q9:=kW (P:=P) (w:=w) hs;cases p with
 |ptr tk s r o=>injection h with h;subst h;obtain ⟨li,hl,he,hn,rfl⟩:=hp.ze;refine ⟨_,?_,.ptr tk s r (o+j*esz) li hl he hn⟩;simp [Instr.indexAt,asIntOf,run_underlying hu,Instr.sureAddr,q9,rj,aeh];intro h;omega
 |bO cs o=>injection h with h;subst h;obtain ⟨b,o',vs,h1,h2,rfl⟩:=hp.yf;refine ⟨_,?_,.bO cs (o+j*esz) b o' vs h1 h2⟩;simp [Instr.indexAt,asIntOf,run_underlying hu,Instr.sureAddr,q9,rj,aeh];intro h;omega
 |_=>cases h
theorem VR.oB {esz:Nat} {rf:Bool} {rows:List Row} {v:Value} (h:VR im loc (.sl esz rf rows) v):
 ∃a cap,v= .slice a (alN rows) cap/\alN rows<=cap/\(rf=alQ->cap=alN rows)/\(rows≠[]-> ∃b o,a=alO ⟨b,o,alP⟩/\bU (oz im b) o esz rows):=by
 cases h with|sl _ _ _ a cap hc hk h=>exact ⟨a,cap,rfl,hc,hk,h⟩
theorem VR.ir {t esz off len cap:Nat} {ex:Bool} {v:Value} (h:VR im loc (.own t esz off len cap ex) v):
 ∃li a dd,v= .slice a len dd/\loc t=alO li/\li.esz=esz/\off+cap<=li.n/\len<=cap/\cap<=dd/\(ex=alQ->dd=cap)/\
  (dd=0\/(li.n≠0/\a=alO ⟨li.dw,li.sh+off*esz,alP⟩/\li.sh+(off+dd)*esz<=li.sz)):=by
 cases h with|own _ _ _ _ _ _ li a dd h1 h2 h3 h4 h5 h6 h7=>exact ⟨li,a,dd,rfl,h1,h2,h3,h4,h5,h6,h7⟩
theorem run_indexAt_slice {t e:TypeId} {esz j len cap b o:Nat} {k:IntKind} (hu:P.underlying t=alO (.slice e)) (hs:pf P e esz=alQ) (hj:j<len):
 (Instr.indexAt t (.slice (alO ⟨b,o,alP⟩) len cap) (.int k j)).run P w= .ok (.pointer (alO ⟨b,o+j*esz,alP⟩)) w:=by
 have q9:=kW (P:=P) (w:=w) hs;have dV: ¬(len<=j):=by omega
 simp [Instr.indexAt,asIntOf,run_underlying hu,q9,rj];intro h;exact absurd h dV
theorem SD {esz n:Nat} {t e:TypeId} {x z:PV} {u:Value} {k:IntKind} (hx:VR im loc x u)
 (hu:P.underlying t=alO (.slice e)) (hs:pf P e esz=alQ)
 (h:(match (generalizing:=false) x with
  | .sl s _ rows=>match rows[n]? with
   |some cs=>if EQ s esz then alO (PV.bO cs 0) else alP
   |none=>alP
  | .own t s off len _ _=>if aem n len&&EQ s esz then alO (PV.ptr t s (off+n) 0) else alP
  |_=>alP)=alO z):
 ∃v,(Instr.indexAt t u (.int k n)).run P w= .ok v w/\VR im loc z v:=by
 cases x with
 |sl s rf rows=>
  dsimp only at h;cases nA:rows[n]? with
  |none=>rw [nA] at h;cases h
  |some cs=>
   rw [nA] at h;dsimp only at h;split at h
   · rename_i Wm
     have Wm:s=esz:=by simpa using Wm
     subst Wm;injection h with h;subst h;obtain ⟨a,cap,rfl,_,_,hr⟩:=hx.oB;have dW:rows≠[]:=by intro e;subst e;simp at nA
     obtain ⟨b,o,rfl,lQ⟩:=hr dW;have hn:n<(alN rows):=by
      rcases acl n (alN rows) with h|h
      · exact h
      rw [IR h] at nA;cases nA
     refine ⟨_,run_indexAt_slice hu hs hn,?_⟩;obtain ⟨hv,hg⟩:=tZ (im:=im) (loc:=loc) lQ nA;have:=VR.bO (im:=im) (loc:=loc) cs 0 b (o+n*s) (aW cs) hv hg;simpa using this
   cases h
 |own tk s off len cap ex=>
  dsimp only at h;split at h
  · rename_i hc
    simp only [pp] at hc;have hn:n<len:=by simpa using hc.1
    have Wm:s=esz:=by simpa using hc.2
    subst Wm;injection h with h;subst h;obtain ⟨li,a,dd,rfl,hl,he,CL,c9,Ho,_,hd⟩:=hx.ir;rcases hd with hd|⟨dW,rfl,_⟩
    · omega
    refine ⟨_,run_indexAt_slice hu hs hn,?_⟩
    have:=VR.ptr (im:=im) (loc:=loc) tk s (off+n) 0 li hl he (by omega);rw [show li.sh+(off+n)*s+0=li.sh+off*s+n*s by rw [NE];omega] at this;exact this
  cases h
 |_=>cases h
theorem run_sliceBound {x k:Nat} {kd:IntKind} {code:BoundsCode} (h:x<=k):(Instr.sliceBound (.int kd x) k code).run P w= .ok x w:=by
 have:(0:Int)<=(x:Int)/\(x:Int)<=(k:Int):=by omega
 simp [Instr.sliceBound,asIntOf,this]
def Az (v:Option Value) (n:Option Nat):Prop:=
 match v,n with
 |none,alP=>True
 |some v,alO n=> ∃k,v= .int k (n:Int)
 |_,_=>False
theorem ng {len cap:Nat} {lo hi mx:Option Nat} {vl vh vm:Option Value} (h1:Az vl lo) (h2:Az vh hi) (h3:Az vm mx)
 (hm:mx.isSome=alQ->hi.isSome=alQ) (lP:lo.getD 0<=hi.getD len) (hhm:hi.isSome=alQ->hi.getD len<=mx.getD cap) (hmc:mx.getD cap<=cap):
 (Instr.sliceBounds alQ len cap vl vh vm).run P w= .ok (lo.getD 0,hi.getD len,mx.getD cap) w:=by
 cases mx with
 |none=>
  cases vm with
  |some v=>exact h3.elim
  |none=>
   cases hi with
   |none=>
    cases vh with
    |some v=>exact h2.elim
    |none=>
     cases lo with
     |none=>
      cases vl with
      |some v=>exact h1.elim
      |none=>simp [Instr.sliceBounds]
     |some l=>
      cases vl with
      |none=>exact h1.elim
      |some v=>obtain ⟨k,rfl⟩:=h1;simp only [adz,aev] at lP;simp [Instr.sliceBounds,run_sliceBound lP]
   |some hh=>
    cases vh with
    |none=>exact h2.elim
    |some v=>
     obtain ⟨k,rfl⟩:=h2;simp only [adz,aev,al0,true_implies] at lP hhm;cases lo with
     |none=>
      cases vl with
      |some v=>exact h1.elim
      |none=>simp [Instr.sliceBounds,run_sliceBound hhm]
     |some l=>
      cases vl with
      |none=>exact h1.elim
      |some v=>obtain ⟨k,rfl⟩:=h1;simp only [adz] at lP;simp [Instr.sliceBounds,run_sliceBound hhm,run_sliceBound lP]
 |some m=>
  cases vm with
  |none=>exact h3.elim
  |some v=>
   obtain ⟨k,rfl⟩:=h3;cases hi with
   |none=>simp at hm
   |some hh=>
    cases vh with
    |none=>exact h2.elim
    |some v=>
     obtain ⟨k,rfl⟩:=h2;simp only [adz,al0,true_implies] at lP hhm hmc;cases lo with
     |none=>
      cases vl with
      |some v=>exact h1.elim
      |none=>simp [Instr.sliceBounds,run_sliceBound hhm,run_sliceBound hmc]
     |some l=>
      cases vl with
      |none=>exact h1.elim
      |some v=>obtain ⟨k,rfl⟩:=h1;simp only [adz] at lP;simp [Instr.sliceBounds,run_sliceBound hhm,run_sliceBound lP,run_sliceBound hmc]
end
end Go.Vm
/- Operation by operation, third part: stores, aggregates. -/
namespace Go.Vm
def ni {α:Type} (off:Nat) (new old:List α):List α:=old.take off++new++old.drop (off+alN new)
theorem iu {α:Type} (off:Nat) (new old:List α) (h:off+alN new<=alN old) (j:Nat):
 (ni off new old)[j]? =if off<=j/\j<off+(alN new) then new[j-off]? else old[j]?:=by
 unfold ni;have hl:(old.take off).length=off:=by simp;omega
 by_cases h1:j<off
 · rw [lw (by omega),al3,ad5 (by omega),aeb h1]
 by_cases h2:j<off+alN new
 · rw [ls ⟨by omega,h2⟩,al3,UV (by omega),hl,ad5 (by omega)]
 rw [lw (by omega),UV (by simp;omega),aeD]
 congr 1
 simp;omega
theorem de {α:Type} (off:Nat) (new old:List α) (h:off+alN new<=alN old):(ni off new old).length=(alN old):=by unfold ni;simp;omega
theorem fx.ni {im:Im} {loc:Loc} {off:Nat} {xs ys:List PV} {vs us:List Value} (h:fx im loc xs vs) (k:fx im loc ys us):
 fx im loc (Vm.ni off xs ys) (Vm.ni off vs us):=by
 unfold Vm.ni;rw [<- h.ny];exact ((k.take off).append h).append (k.drop _)
theorem fx.HT {im:Im} {loc:Loc}: ∀{xs:List PV} {vs:List Value},fx im loc xs vs->(∀c∈xs,c.plain=alQ)->
 ∀(j:Nat) (c:PV),xs[j]? =alO c-> ∃v,jT c=alO v/\vs[j]? =alO v:=by
 intro xs vs h hp j c hc;obtain ⟨v,hv,hr⟩:=h.get j c hc;exact ⟨v,hr.plain (hp c (aex hc)),hv⟩
theorem QE {i row esz j off n sh:Nat} (dW:i≠row) (hj:j<esz) (hn:off+n<=esz):
 ¬(sh+row*esz+off<=sh+i*esz+j/\sh+i*esz+j<sh+row*esz+off+n):=by
 rcases Nat.lt_or_gt_of_ne dW with h|h
 · have:=PP esz (show i+1<=row from h)
   rw [NE] at this;omega
 have:=PP esz (show row+1<=i from h)
 rw [NE] at this;omega
theorem bU.store {get get':Nat->Option Value} {sh esz row off:Nat} {rows:List Row} {cs ws:List PV} {vs:List Value}
 (h:bU get sh esz rows) (hr:rows[row]? =alO cs) (lP:off+alN ws<=alN cs)
 (hw: ∀(j:Nat) (c:PV),ws[j]? =alO c-> ∃v,jT c=alO v/\vs[j]? =alO v) (hl:(alN vs)=alN ws)
 (hg: ∀k,get' k=if sh+row*esz+off<=k/\k<sh+row*esz+off+(alN vs) then vs[k- (sh+row*esz+off)]? else get k):
 bU get' sh esz (rows.set row (ni off ws cs)):=by
 intro i r hi;rw [List.getElem?_set] at hi;have vH:row<(alN rows):=by
  rcases acl row (alN rows) with h|h
  · exact h
  rw [IR h] at hr;cases hr
 obtain ⟨zV,Nc⟩:=h row cs hr;split at hi
 · rename_i e
   subst e;injection hi with hi;subst hi;refine ⟨by rw [de _ _ _ lP];exact zV,fun j c hc=>?_⟩;rw [iu _ _ _ lP] at hc;rw [hg];split at hc
   · rename_i hj
     obtain ⟨v,hv,Nf⟩:=hw _ _ hc;refine ⟨v,hv,?_⟩;rw [ls ⟨by omega,by omega⟩,<- Nf]
     congr 1
     omega
   rename_i hj
   obtain ⟨v,hv,Nf⟩:=Nc j c hc;refine ⟨v,hv,?_⟩;rw [lw (by omega)];exact Nf
 rename_i dW
 obtain ⟨KS,hrc⟩:=h i r hi;refine ⟨KS,fun j c hc=>?_⟩;obtain ⟨v,hv,Nf⟩:=hrc j c hc;refine ⟨v,hv,?_⟩;have hj:j<esz:=by
  rcases acl j (alN r) with h|h
  · omega
  rw [IR h] at hc;cases hc
 rw [hg,lw (QE (fun e=>dW e.symm) hj (by omega))];exact Nf
section
variable {P : Program} {im : Im} {loc : Loc} {aD : cK} {fz : List Nat} {w : World}
theorem bZ {g:Nat} {cur cs:Array Value} {t:TypeId} (hg:w.heap[g]? =alO (.cells cur t (0,0))):
 (w.setRow g cs).heap=w.heap.setIfInBounds g (.cells cs t (0,0)):=by
 have dV:g<w.heap.size:=(If.1 hg).1;have hv:w.heap[g]= .cells cur t (0,0):=(If.1 hg).2;unfold World.setRow;apply Array.ext
 · simp
 intro k h1 h2
 rw [Array.getElem_setIfInBounds];simp only [Array.getElem_modify];split
 · rename_i hk;subst hk;simp [hv]
 rfl
theorem KT {v:Value} (h:(∀us,v≠ .agg us)/\ ∀us,v≠ .tuple us):v.oneCell'=alQ:=by cases v<;>first|rfl|exact absurd rfl (h.1 _)|exact absurd rfl (h.2 _)
theorem fx.one: ∀{xs:List PV} {vs:List Value},fx im loc xs vs->(∀c∈xs,c.qu=alQ)-> ∀v∈vs,v.oneCell'=alQ
 |_,_,.nil,_,_,hv=>by cases hv
 |_,_,.cons x u xs vs h hs,ho,v,hv=>by
  cases hv with
  |head=>exact KT (h.Jb (ho x (by simp)))
  |tail _ hm=>exact fx.one hs (fun c hc=>ho c (by simp [hc])) v hm
theorem yg {c:PV} (h:c.plain=alQ):c.qu=alQ:=by cases c<;>first|rfl|cases h
theorem AA {v:PV} {ws:List PV} (h:v.stored=alO ws):ws=v.cells/\ ∀c∈v.cells,c.qu=alQ:=by
 unfold PV.stored at h;split at h
 · rename_i ha;injection h with h;exact ⟨h.symm,by simpa using ha⟩
 cases h
theorem nj {v:PV} {ws:List PV} (h:v.cM=alO ws):ws=v.cells/\ ∀c∈v.cells,c.plain=alQ:=by
 unfold PV.cM at h;split at h
 · rename_i ha;injection h with h;exact ⟨h.symm,by simpa using ha⟩
 cases h
theorem DI {t el:TypeId} {sz b o:Nat} {x:Value} {cur:Array Value} (hs:pf P t sz=alQ) (hb:w.heap[b]? =alO (.cells cur el (0,0)))
 (hx:x.cells.size=sz) (lP:o+sz<=cur.size) (h1: ∀v∈x.cells.toList,v.oneCell'=alQ):
 (Instr.storeAt t (.pointer (alO ⟨b,o,alP⟩)) x).run P w= .ok () (w.setRow b (ni o x.cells.toList cur.toList).toArray):=by
 have:=run_storeCells_at P b o el x.cells.toList 0 cur w hb (by simp;omega) h1;simp only [Instr.storeAt,Instr.sureAddr,ww,AC,ut,storeVar,kW hs,hx,ne_eq,not_true_eq_false,if_false];simpa [ni] using this
theorem QF {t:TypeId} {sz:Nat} {p v:PV} {u x:Value} {r:ov} (hp:VR im loc p u) (hv:VR im loc v x) (hs:pf P t sz=alQ)
 (h:sO aD fz sz v p=alO r) (hk:jG im loc aD w r):
 ∃w',(Instr.storeAt t u x).run P w= .ok () w'/\tY im loc aD w r im loc w'/\r.v= .undef:=by
 unfold sO at h;cases p with
 |ptr tk e row off=>
  dsimp only at h;obtain ⟨li,hl,he,hn,rfl⟩:=hp.ze;cases qA:aD[tk]? with
  |none=>rw [qA] at h;cases h
  |some dw=>
   rw [qA] at h;cases dw with
   |arr e' rows=>
    dsimp only at h;cases nA:rows[row]? with
    |none=>rw [nA] at h;cases h
    |some cs=>
     cases hw:v.cM with
     |none=>rw [nA,hw] at h;cases h
     |some ws=>
      rw [nA,hw] at h;dsimp only at h;split at h
      · rename_i hc
        simp only [pp,adG,ae8] at hc;obtain ⟨⟨c9,lP⟩,Sl⟩:=hc;obtain ⟨rfl,Ng⟩:=nj hw;injection h with h;subst h;obtain ⟨k,ij,hb⟩:=hk.tok tk (.inr ⟨_,ady.2 rfl⟩) li hl;rw [qA] at ij;injection ij with ij;subst ij;have dW:rows≠[]:=by intro e;subst e;simp at nA
        obtain ⟨h1,h2,h3⟩:=hb;obtain ⟨arr,el,ua,Jd,Ky,lQ⟩:=h3 dW;have Nb:e'=e:=by rw [<- h1,he]
        subst Nb;have zV:(alN cs)=e':=(lQ row cs nA).1;have O8:=hv.cells (fun c hc=>yg (Ng c hc));have QG:x.cells.size=sz:=by have:=O8.ny;simp only [adN] at this;omega
        have KS:row<(alN rows):=by
         rcases acl row (alN rows) with h|h
         · exact h
         rw [IR h] at nA;cases nA
        have Hp:=PP e' (show row+1<=(alN rows) from KS);rw [NE] at Hp;have rl:li.sh+row*e'+off+sz<=arr.size:=by omega
        have cB:=DI (P:=P) (w:=w) (t:=t) (b:=li.dw) (o:=li.sh+row*e'+off) hs ua QG rl (O8.one (fun c hc=>yg (Ng c hc)));refine ⟨_,cB,?_,rfl⟩;refine tY.write hk (t:=tk) (k0:= .arr e' rows) (li:=li) rfl rfl hl qA (by cases rows with|nil=>exact absurd rfl dW|cons _ _=>rfl) (bZ ua) rfl rfl rfl ?_;refine ⟨h1,by simpa using h2,fun _=>⟨(ni (li.sh+row*e'+off) x.cells.toList arr.toList).toArray,el,?_,?_,by simpa using Ky,?_⟩⟩
        · rw [bZ ua]
          have dV:=(If.1 ua).1;simp [dV]
        · rw [<- Jd]
          simp only [ae7];rw [de _ _ _ (by simp;omega)];simp
        refine lQ.store nA (by omega) (O8.HT Ng) O8.ny.symm (fun k=>?_)
        simp only [adH];rw [iu _ _ _ (by simp;omega)];simp
      cases h
   |box cs=>
    dsimp only at h;cases hw:v.stored with
    |none=>rw [hw] at h;cases h
    |some ws=>
     rw [hw] at h;dsimp only at h;split at h
     · rename_i hc
       simp only [pp,adG,ae8] at hc;obtain ⟨⟨⟨vH,c9⟩,lP⟩,Sl⟩:=hc;subst vH;obtain ⟨rfl,Bs⟩:=AA hw;injection h with h;subst h;obtain ⟨k,ij,hb⟩:=hk.tok tk (.inr ⟨_,ady.2 rfl⟩) li hl;rw [qA] at ij;injection ij with ij;subst ij;obtain ⟨h1,h2,h3,vs,el,h4,h5,h6⟩:=hb;have O8:=hv.cells Bs;have QG:x.cells.size=sz:=by have:=O8.ny;simp only [adN] at this;omega
       have hcv:=h6.ny;have cB:=DI (P:=P) (w:=w) (t:=t) (b:=li.dw) (o:=li.sh+0*e+off) hs h4 QG (by simp [h3];omega) (O8.one Bs);refine ⟨_,cB,?_,rfl⟩;refine tY.write hk (t:=tk) (k0:= .box cs) (li:=li) rfl rfl hl qA rfl (bZ h4) rfl rfl rfl ?_;refine ⟨by rw [show (ou off v.cells cs).length=(alN cs) by have:=de off v.cells cs (by omega);unfold ni at this;simpa [ou] using this];exact h1,h2,h3,ni off x.cells.toList vs,el,?_,?_,?_⟩
       · rw [bZ h4]
         have dV:=(If.1 h4).1;simp [dV,h3]
       · rw [de _ _ _ (by simp;omega)];exact h5
       exact fx.ni O8 h6
     cases h
   |_=>cases h
 |_=>cases h
end
end Go.Vm
/- Operation by operation, fourth part: aggregates, rows, slices. -/
namespace Go.Vm
theorem bU.tail {get:Nat->Option Value} {sh esz:Nat} {r:Row} {rs:List Row} (h:bU get sh esz (r::rs)):bU get (sh+esz) esz rs:=by intro i x hx;obtain ⟨h1,h2⟩:=h (i+1) x (by simpa using hx);refine ⟨h1,fun j c hc=>?_⟩;obtain ⟨v,hv,hg⟩:=h2 j c hc;refine ⟨v,hv,?_⟩;rw [<- hg];congr 1;rw [NE];omega
theorem bU.drop {get:Nat->Option Value} {sh esz:Nat} {rows:List Row} (h:bU get sh esz rows) (n:Nat):bU get (sh+n*esz) esz (rows.drop n):=by intro i x hx;rw [aeD] at hx;obtain ⟨h1,h2⟩:=h (n+i) x hx;refine ⟨h1,fun j c hc=>?_⟩;obtain ⟨v,hv,hg⟩:=h2 j c hc;refine ⟨v,hv,?_⟩;rw [<- hg];congr 1;rw [NE];omega
theorem bU.take {get:Nat->Option Value} {sh esz:Nat} {rows:List Row} (h:bU get sh esz rows) (n:Nat):bU get sh esz (rows.take n):=by
 intro i x hx;have hi:i<n:=by
  rcases acl i n with h|h
  · exact h
  rw [IR (by simp;omega)] at hx;cases hx
 rw [aeb hi] at hx;exact h i x hx
theorem bU.append {get:Nat->Option Value} {sh esz:Nat} {xs ys:List Row} (h:bU get sh esz xs) (k:bU get (sh+alN xs*esz) esz ys):bU get sh esz (xs++ys):=by
 intro i r hr;rcases acl i (alN xs) with hi|hi
 · rw [ad5 hi] at hr;exact h i r hr
 rw [UV hi] at hr
 obtain ⟨h1,h2⟩:=k _ r hr;refine ⟨h1,fun j c hc=>?_⟩;obtain ⟨v,hv,hg⟩:=h2 j c hc;refine ⟨v,hv,?_⟩;rw [<- hg];congr 1;have:i*esz=alN xs*esz+(i-(alN xs))*esz:=by rw [<- NE];congr 1;omega
 omega
theorem bU.oC {get:Nat->Option Value} {sh esz:Nat} {rows:List Row} (h:bU get sh esz rows): ∀r∈rows,alN r=esz:=by intro r hr;obtain ⟨i,hi,rfl⟩:=aey.1 hr;exact (h i _ (M2 hi)).1
theorem lR (r:Row):(aW r).length=(alN r):=by simp [aW]
theorem dP {esz:Nat}: ∀{rows:List Row},(∀r∈rows,alN r=esz)->(rows.flatMap aW).length=alN rows*esz
 | [],_=>by simp
 |r::rs,h=>by have ih:=dP (esz:=esz) (rows:=rs) (fun x hx=>h x (by simp [hx]));simp only [adJ,adQ,ih,lR,h r (by simp),adP,NE];omega
theorem bU.flat {get:Nat->Option Value} {esz:Nat}: ∀{rows:List Row} {sh:Nat},bU get sh esz rows-> ∀(j:Nat) (v:Value),(rows.flatMap aW)[j]? =alO v->get (sh+j)=alO v
 | [],_,_,j,v,h=>by simp at h
 |r::rs,sh,hr,j,v,h=>by
  rw [adJ] at h;have hl:(aW r).length=esz:=by rw [lR];exact hr.oC r (by simp)
  rcases acl j esz with hj|hj
  · rw [ad5 (by omega)] at h
    have:=(tZ (im:=fun _=>alP) (loc:=fun _=>alP) hr (i:=0) rfl).2 j v h;simpa using this
  rw [UV (by omega),hl] at h
  have:=bU.flat hr.tail (j-esz) v h;rw [show sh+esz+(j-esz)=sh+j by omega] at this;exact this
theorem bU.AB {esz:Nat}: ∀{rows:List Row} {get:Nat->Option Value} {sh:Nat},(∀r∈rows,alN r=esz)->(∀r∈rows,∀c∈r,c.plain=alQ)->
 (∀(j:Nat) (v:Value),(rows.flatMap aW)[j]? =alO v->get (sh+j)=alO v)->bU get sh esz rows
 | [],_,_,_,_,_=>by intro i r h;simp at h
 |r::rs,get,sh,hl,hp,hg=>by
  have KS:(aW r).length=esz:=by rw [lR];exact hl r (by simp)
  have h1:bU get sh esz [r]:=by
   intro i x hx;cases i with
   |succ i=>simp at hx
   |zero=>
    simp at hx;subst hx;refine ⟨hl r (by simp),fun j c hc=>?_⟩;have hcp:=hp r (by simp) c (aex hc);obtain ⟨v,hv⟩: ∃v,jT c=alO v:=by cases c<;>first|exact ⟨_,rfl⟩|cases hcp
    refine ⟨v,hv,?_⟩;have hj:j<esz:=by
     rcases acl j (alN r) with h|h
     · have:=hl r (by simp);omega
     rw [IR h] at hc;cases hc
    have:=hg j v (by rw [adJ,ad5 (by omega)];simp [aW,hc,hv]);simpa using this
  have h2:bU get (sh+esz) esz rs:=bU.AB (fun x hx=>hl x (by simp [hx])) (fun x hx=>hp x (by simp [hx])) (fun j v hj=>by
   have:=hg (esz+j) v (by rw [adJ,UV (by omega),KS,show esz+j-esz=j by omega];exact hj)
   rwa [<- aeh] at this)
  have:=h1.append (ys:=rs) (by simpa using h2);simpa using this
theorem bU.plain {get:Nat->Option Value} {sh esz:Nat} {rows:List Row} (h:bU get sh esz rows): ∀r∈rows,∀c∈r,c.plain=alQ:=by intro r hr c hc;obtain ⟨i,hi,rfl⟩:=aey.1 hr;obtain ⟨j,hj,rfl⟩:=aey.1 hc;obtain ⟨v,hv,_⟩:=(h i _ (M2 hi)).2 j _ (M2 hj);cases hh:rows[i][j]<;>rw [hh] at hv<;>first|rfl|cases hv
theorem oD {rows:List Row} (hp: ∀r∈rows,∀c∈r,c.plain=alQ): ∀u∈rows.flatMap aW,u.oneCell'=alQ:=by intro u hu;obtain ⟨r,hr,hu⟩:=List.mem_flatMap.1 hu;obtain ⟨c,hc,rfl⟩:=List.mem_map.1 hu;have:=hp r hr c hc;cases c<;>first|rfl|cases this
section
variable {P : Program} {im : Im} {loc : Loc} {aD : cK} {fz : List Nat} {w : World}
theorem CN {esz:Nat} {y:PV} {u:Value} {new:List Row} {tx e':TypeId} (hy:VR im loc y u) (hr:rowsOf aD esz y=alO new) (hx:P.underlying tx=alO (.slice e'))
 (bL: ∀b o,im b=alO o->w.heap[b]? =alO o) (tok: ∀t,t∈jg y-> ∀li,loc t=alO li-> ∃k,aD[t]? =alO k/\BR im loc w li k):
 Src P esz tx u (alN new) (new.flatMap aW) w/\(∀r∈new,alN r=esz)/\(∀r∈new,∀c∈r,c.plain=alQ):=by
 unfold rowsOf at hr;cases y with
 |sl e rf rows=>
  obtain ⟨a,cap,rfl,_,_,lQ⟩:=hy.oB;cases rows with
  |nil=>
   simp at hr;subst hr;refine ⟨?_,by simp,by simp⟩;cases a with
   |none=>exact Src.ofNil w hx cap
   |some a=>exact Src.ofSlice w hx a 0 cap [] (by simp) (by simp) (by simp)
  |cons r rs=>
   dsimp only at hr;split at hr
   · rename_i he
     have he:e=esz:=by simpa using he
     subst he;injection hr with hr;subst hr;obtain ⟨b,o,rfl,dm⟩:=lQ (by simp);refine ⟨Src.ofSlice w hx ⟨b,o,alP⟩ _ cap _ (dP dm.oC) (fun j v hj=>?_) (oD dm.plain),dm.oC,dm.plain⟩;rw [rj];exact qz bL (dm.flat j v hj)
   cases hr
 |own t e off len cap ex=>
  dsimp only at hr;split at hr
  · rename_i he
    have he:e=esz:=by simpa using he
    subst he;obtain ⟨li,a,dd,rfl,hl,h2,h3,h4,h5,h6,h7⟩:=hy.ir;obtain ⟨k,ij,hb⟩:=tok t (by simp [jg]) li hl;rw [ij] at hr;cases k with
    |arr e' rows=>
     simp only [rc] at hr;subst hr;obtain ⟨b1,b2,b3⟩:=hb;have c9:((rows.drop off).take len).length=len:=by simp;omega
     have Nb:e'=e:=by rw [<- b1,h2]
     subst Nb;cases rows with
     |nil=>
      have:len=0:=by simp at b2;omega
      subst this;refine ⟨?_,by simp,by simp⟩;simp;cases a with
      |none=>exact Src.ofNil w hx dd
      |some a=>exact Src.ofSlice w hx a 0 dd [] (by simp) (by simp) (by simp)
     |cons r rs=>
      obtain ⟨arr,el,ua,Jd,Ky,dm⟩:=b3 (by simp);have wG:=(dm.drop off).take len;rcases h7 with h7|⟨h7,rfl,h9⟩
      · have:len=0:=by omega
        subst this;refine ⟨?_,by simp,by simp⟩;simp;cases a with
        |none=>exact Src.ofNil w hx dd
        |some a=>exact Src.ofSlice w hx a 0 dd [] (by simp) (by simp) (by simp)
      rw [c9]
      refine ⟨Src.ofSlice w hx ⟨li.dw,li.sh+off*e',alP⟩ len dd _ (by rw [dP wG.oC,c9]) (fun j v hj=>?_) (oD wG.plain),wG.oC,wG.plain⟩;rw [rj];exact lf ua (wG.flat j v hj)
    |_=>cases hr
  cases hr
 |_=>cases hr
end
end Go.Vm
/- Operation by operation, fifth part: append. -/
namespace Go.Vm
theorem yh: ∀(new:List Row) (i:Nat) (rows:List Row),i+alN new<=alN rows->lE i new rows=ni i new rows
 | [],i,rows,h=>by simp [lE,ni]
 |r::rs,i,rows,h=>by
  simp only [adP] at h;rw [lE,yh rs (i+1) (rows.set i r) (by simp;omega)];apply aeF;intro j;rw [iu _ _ _ (by simp;omega),iu _ _ _ (by simp;omega)];simp only [adP]
  by_cases h1:i+1<=j/\j<i+1+alN rs
  · rw [ls h1,ls ⟨by omega,by omega⟩]
    obtain ⟨k,hk⟩: ∃k,j-i=k+1:=⟨j-i-1,by omega⟩;rw [hk,show j- (i+1)=k by omega];simp
  rw [lw h1]
  by_cases h2:j=i
  · subst h2
    rw [ls ⟨Do _,by omega⟩,aig (by omega)];simp
  rw [lw (by omega),ak4 (by omega)]
theorem bU.ni {get get':Nat->Option Value} {sh esz i:Nat} {new rows:List Row} (h:bU get sh esz rows) (lP:i+alN new<=alN rows)
 (hl: ∀r∈new,alN r=esz) (hp: ∀r∈new,∀c∈r,c.plain=alQ)
 (hg: ∀k,get' k=if sh+i*esz<=k/\k<sh+i*esz+alN new*esz then (new.flatMap aW)[k- (sh+i*esz)]? else get k):
 bU get' sh esz (ni i new rows):=by
 have SF:=dP hl;have old: ∀k r,rows[k]? =alO r->(k<i\/i+alN new<=k)->alN r=esz/\ ∀(j:Nat) (c:PV),r[j]? =alO c-> ∃v,jT c=alO v/\get' (sh+k*esz+j)=alO v:=by
  intro k r hk Wn;obtain ⟨h1,h2⟩:=h k r hk;refine ⟨h1,fun j c hc=>?_⟩;obtain ⟨v,hv,Nf⟩:=h2 j c hc;refine ⟨v,hv,?_⟩;have hj:j<esz:=by
   rcases acl j (alN r) with h|h
   · omega
   rw [IR h] at hc;cases hc
  rw [hg,lw]
  · exact Nf
  rcases Wn with Wn|Wn
  · have:=PP esz (show k+1<=i from Wn)
    rw [NE] at this;omega
  have:=PP esz Wn
  rw [NE] at this;omega
 have Bt:bU get' (sh+i*esz) esz new:=bU.AB hl hp fun j v hj=>by
  have Nh:j<alN new*esz:=by
   rcases acl j (alN new*esz) with h|h
   · exact h
   rw [IR (by omega)] at hj;cases hj
  rw [hg,ls ⟨by omega,by omega⟩,<- hj];congr 1;omega
 intro k r hk;rw [iu _ _ _ lP] at hk;split at hk
 · rename_i hc
   obtain ⟨h1,h2⟩:=Bt _ r hk;refine ⟨h1,fun j c CO=>?_⟩;obtain ⟨v,hv,Nf⟩:=h2 j c CO;refine ⟨v,hv,?_⟩;rw [<- Nf];congr 1;have:k*esz=i*esz+(k-i)*esz:=by rw [<- NE];congr 1;omega
   omega
 rename_i hc
 exact old k r hk (by omega)
theorem grownCap_ge (w:World) (Ni old:Nat) (e:TypeId):Ni<=grownCap w Ni old e:=by unfold grownCap;simp [Question.cut]
theorem SG {Ni old bytes:Nat} (h:old<Ni) (hn:Ni<=1048576) (hb:bytes<=1048576):Builtin.nextslicecap Ni old*bytes<=281474976710656:=by
 have h1:=nextslicecap_le h;have h2:Builtin.nextslicecap Ni old<=2097152:=by omega
 have:=alD h2 hb;omega
theorem yi (z:Array Value) (n:Nat):(Builtin.zeroCells z n).size=n*z.size:=by simp [Builtin.zeroCells]
section
variable {P : Program} {im : Im} {loc : Loc} {aD : cK} {fz : List Nat} {w : World}
theorem jK (t tx ty e:TypeId) (i:TypeInfo) (ht:P.underlying t=alO (.slice e)) (hi:P.info? e=alO i) (b off uU sCap:Nat) (x:Value) (n:Nat) (news:List Value) (hs:Src P i.size tx x n news w)
 (ud:uU+n<=sCap) {cur:Array Value} {el:TypeId} (hb:w.heap[b]? =alO (.cells cur el (0,0))) (lP:off+uU*i.size+alN news<=cur.size):
 (Builtin.append_ #[t,tx] ty #[.slice (alO ⟨b,off,alP⟩) uU sCap,x]).run P w=
  .ok (.slice (alO ⟨b,off,alP⟩) (uU+n) sCap) (w.setRow b (ni (off+uU*i.size) news cur.toList).toArray):=by
 have cy:=run_storeCells_at P b (off+uU*i.size) el news 0 cur w hb (by simpa using lP) hs.one;simp only [alK] at cy;rcases hs.kind with ⟨e',hk⟩|hk<;>simp [Builtin.append_,run_underlying ht,run_underlying hk,sizeOf,typeInfo,hi,hs.len,ud,hs.cells,Addr.add_lit,cy,ni]
theorem CP {esz:Nat} {olds new:List Row} {rest:Array Value} {el:TypeId} {r:ov} {w':World} {nc:Nat} (hr:r.v= .own (alN aD) esz 0 (alN olds+alN new) (alN olds+alN new) alR)
 (hn:r.news=[.arr esz (olds++new)]) (hk:jG im loc aD w r) (dW:new≠[])
 (hh:w'.heap=w.heap.push (.cells (((olds.flatMap aW)++(new.flatMap aW)).toArray++rest) el))
 (HU: ∀r∈olds,alN r=esz) (hp1: ∀r∈olds,∀c∈r,c.plain=alQ) (KU: ∀r∈new,alN r=esz) (hp2: ∀r∈new,∀c∈r,c.plain=alQ)
 (hnc:(alN olds)+alN new<=nc) (Wo:rest.size=(nc- (alN olds+alN new))*esz):
 ∃li:LI,li.dw=w.heap.size/\VR im (loc.set (alN aD) li) r.v (.slice (alO ⟨w.heap.size,0,alP⟩) (alN olds+alN new) nc)/\
  BR im (loc.set (alN aD) li) w' li (.arr esz (olds++new))/\mN loc (loc.set (alN aD) li):=by
 have aqh:=dP HU;have aqi:=dP KU;have q9:(((olds.flatMap aW)++(new.flatMap aW)).toArray++rest).size=nc*esz:=by simp only [Array.size_append,ae7,adQ,aqh,aqi,Wo];rw [<- NE,<- NE];congr 1;omega
 let li:LI:=⟨w.heap.size,0,esz,(olds++new).length,nc*esz⟩
 refine ⟨li,rfl,?_,⟨rfl,rfl,fun _=>⟨_,el,by rw [hh];simp [li],q9,?_,?_⟩⟩,Loc.ye li (by have:=hk.fresh 0 (by simp [hn]);simpa using this)⟩
 · rw [hr]
   have:=VR.own (im:=im) (loc:=loc.set (alN aD) li) (alN aD) esz 0 (alN olds+alN new) (alN olds+alN new) alR li (alO ⟨w.heap.size,0,alP⟩) nc
    (Loc.fo _ _ _) rfl (by simp [li]) (Do _) hnc (by simp)
    (.inr ⟨by simp [li];intro _;exact dW,by simp [li],by simp [li]⟩)
   exact this
 · simp only [li]
   have:=PP esz hnc;simp only [adQ];omega
 refine bU.AB (fun r hr=>?_) (fun r hr=>?_) (fun j v hj=>?_)
 · rcases adI.1 hr with h|h
   · exact HU r h
   exact KU r h
 · rcases adI.1 hr with h|h
   · exact hp1 r h
   exact hp2 r h
 rw [akT] at hj
 simp only [li,ajg];rw [Array.getElem?_append_left (by have:=(adB.1 hj).1;simpa using this)];simpa using hj
end
end Go.Vm
/- Operation by operation, sixth part: append, whole. -/
namespace Go.Vm
section
variable {P : Program} {im : Im} {loc : Loc} {aD : cK} {fz : List Nat} {w : World}
theorem ET {t tx ty e:TypeId} {i:TypeInfo} {z:Value} {esz:Nat} (ht:P.underlying t=alO (.slice e)) (hi:P.info? e=alO i) (hz:i.zero=alO z) (KV:z.cells.size=esz)
 (Nj:i.bytes<=1048576) {oE:Option Addr} {uU sCap:Nat} {olds:List Row} {new:List Row} {x:Value}
 (uW:(Builtin.firstCells i.size uU (.slice oE uU sCap)).run P w.drew= .ok (olds.flatMap aW).toArray w.drew)
 (hs:Src P i.size tx x (alN new) (new.flatMap aW) w) (hg:sCap<uU+alN new) (hm:uU+alN new<=1048576):
 ∃(nc:Nat) (rest:Array Value),uU+alN new<=nc/\rest.size=(nc- (uU+alN new))*esz/\
  (Builtin.append_ #[t,tx] ty #[.slice oE uU sCap,x]).run P w= .ok (.slice (alO ⟨w.heap.size,0,alP⟩) (uU+alN new) nc)
   (w.drew.alloc (.cells (((olds.flatMap aW)++(new.flatMap aW)).toArray++rest) e)):=by
 refine ⟨_,_,grownCap_ge w (uU+alN new) sCap e,by rw [yi,KV],
  run_append_grow_src w t tx ty e i z ht hi hz oE uU sCap _ uW x _ _ hs hg (by omega) (SG hg hm Nj)⟩
theorem EU {t tx ty e e' : TypeId} {i : TypeInfo} {z : Value} {esz : Nat} (ht : P.underlying t = alO (.slice e)) (htx : P.underlying tx = alO (.slice e')) (hi : P.info? e = alO i) (q9 : i.size = esz)
    (hz : i.zero = alO z) (KV : z.cells.size = esz) (Nj : i.bytes <= 1048576)
    {x y : PV} {u v : Value} {r : ov} (hx : VR im loc x u) (hy : VR im loc y v) (h : jh aD fz esz x y = alO r) (hk : jG im loc aD w r) :
    ∃ v' w' bz, (Builtin.append_ #[t, tx] ty #[u, v]).run P w = .ok v' w' /\ VR im bz r.v v' /\ tY im loc aD w r im bz w' := by
  unfold jh at h
  cases Bm : rowsOf aD esz y with
  | none => rw [Bm] at h; cases h
  | some new =>
    rw [Bm] at h
    dsimp only at h
    cases new with
    | nil =>
      dsimp only at h
      have key : ∀ (a : Option Addr) (n cap : Nat), u = .slice a n cap -> n <= cap -> alO ({ v := x, rd := jg y } : ov) = alO r ->
          ∃ v' w' bz, (Builtin.append_ #[t, tx] ty #[u, v]).run P w = .ok v' w' /\ VR im bz r.v v' /\ tY im loc aD w r im bz w' := by
        intro a n cap hu lP hr
        injection hr with hr; subst hr
        obtain ⟨hs, _, _⟩ := CN (P := P) (w := w) hy Bm htx hk.bL (fun t ht => hk.tok t (.inl ht))
        simp only [aeY, ajj] at hs
        subst hu
        rw [<- q9] at hs
        exact ⟨_, _, loc, run_append_nothing w t tx ty e i ht hi a n cap lP _ hs, hx, tY.none hk rfl rfl⟩
      have fresh : ∀ (a : Option Addr) (rd : List Nat), u = .slice a 0 0 -> (∀ t ∈ jg y, t ∈ rd) -> alO ({ v := .own (alN aD) esz 0 0 0 alR, news := [.arr esz []], rd := rd } : ov) = alO r ->
          ∃ v' w' bz, (Builtin.append_ #[t, tx] ty #[u, v]).run P w = .ok v' w' /\ VR im bz r.v v' /\ tY im loc aD w r im bz w' := by
        intro a rd hu Hq hr
        injection hr with hr; subst hr
        obtain ⟨hs, _, _⟩ := CN (P := P) (w := w) hy Bm htx hk.bL (fun t ht => hk.tok t (.inl (Hq t ht)))
        simp only [aeY, ajj] at hs
        subst hu
        rw [<- q9] at hs
        exact ⟨_, _, _, run_append_nothing w t tx ty e i ht hi a 0 0 (Do _) _ hs, .own _ esz 0 0 0 alR ⟨0, 0, esz, 0, 0⟩ a 0 (Loc.fo _ _ _) rfl (Do _) (Do _) (Do _) (by simp) (.inl rfl), tY.SA hk rfl rfl⟩
      cases x with
      | sl e rf rows =>
        obtain ⟨a, cap, hu, lP, zV, _⟩ := hx.oB
        dsimp only at h
        split at h
        · rename_i hc
          simp only [pp, al4] at hc
          obtain ⟨hc, rfl⟩ := hc
          have := zV hc
          simp at this
          subst this
          exact fresh a _ (by simpa using hu) (fun _ h => h) h
        exact key a _ cap hu lP h
      | own tk e off len cap ex =>
        obtain ⟨li, a, dd, hu, h1, h2, h3, h4, h5, h6, _⟩ := hx.ir
        dsimp only at h
        split at h
        · rename_i hc
          simp only [pp, adG] at hc
          obtain ⟨⟨rfl, rfl⟩, hc⟩ := hc
          have := h6 hc
          subst this
          exact fresh a _ hu (fun _ h => aez _ h) h
        exact key a _ dd hu (by omega) h
      | _ => cases h
    | cons n0 ns =>
      dsimp only at h
      generalize Bt : n0 :: ns = new at h Bm
      have dW : new ≠ [] := by rw [<- Bt]; simp
      have Hr : 0 < (alN new) := by rw [<- Bt]; simp
      cases x with
      | sl e1 rf rows =>
        dsimp only at h
        split at h
        · rename_i hc
          simp only [pp, ak0, adG, ae8] at hc
          obtain ⟨⟨amb, Ed⟩, iM⟩ := hc
          injection h with h
          obtain ⟨a, cap, rfl, Ho, V7, lQ⟩ := hx.oB
          have aqj := V7 amb
          have vI : jG im loc aD w { v := .own (alN aD) esz 0 ((alN rows) + (alN new)) ((alN rows) + (alN new)) alR, news := [.arr esz (rows ++ new)], rd := jg y } := by rw [h]; exact hk
          obtain ⟨hs, Hs, Sm⟩ := CN (P := P) (w := w) hy Bm htx vI.bL (fun t ht => vI.tok t (.inl ht))
          rw [<- q9] at hs
          have uW : (Builtin.firstCells i.size (alN rows) (.slice a (alN rows) cap)).run P w.drew = .ok (rows.flatMap aW).toArray w.drew /\ (∀ r ∈ rows, (alN r) = esz) /\ (∀ r ∈ rows, ∀ c ∈ r, c.plain = alQ) := by
            cases hrw : rows with
            | nil =>
              refine ⟨?_, by simp, by simp⟩
              cases a with
              | none => simpa using run_firstCells_none w.drew i.size 0 0 cap
              | some a => exact run_firstCells_some w.drew i.size 0 a 0 cap [] (by simp) (by simp)
            | cons r0 rs =>
              rw [<- hrw]
              have aeC : rows ≠ [] := by rw [hrw]; simp
              obtain ⟨b, o, rfl, dm⟩ := lQ aeC
              have Sn : e1 = esz := by
                rcases Ed with h | h
                · exact h
                rw [hrw] at h; simp at h
              subst Sn
              refine ⟨run_firstCells_some w.drew i.size (alN rows) ⟨b, o, alP⟩ (alN rows) cap _ (by rw [q9]; exact dP dm.oC) (fun j v hj => ?_), dm.oC, dm.plain⟩
              rw [rj]
              exact qz vI.bL (dm.flat j v hj)
          obtain ⟨uW, hol, fP⟩ := uW
          obtain ⟨nc, rest, hnc, Wo, cB⟩ := ET (P := P) (w := w) (tx := tx) (ty := ty) ht hi hz KV Nj (sCap := cap) uW hs (by omega) (by simpa [fa] using iM)
          obtain ⟨li, hlb, pg, sS, lP⟩ := CP (im := im) (loc := loc) (r := { v := .own (alN aD) esz 0 ((alN rows) + (alN new)) ((alN rows) + (alN new)) alR, news := [.arr esz (rows ++ new)], rd := jg y })
            (w' := w.drew.alloc (.cells (((rows.flatMap aW) ++ (new.flatMap aW)).toArray ++ rest) e)) rfl rfl vI dW rfl hol fP Hs Sm hnc Wo
          subst h
          exact ⟨_, _, _, cB, pg, tY.new vI li rfl rfl rfl rfl rfl rfl hlb sS⟩
        cases h
      | own tk e1 off len cap ex =>
        dsimp only at h
        obtain ⟨li, a, dd, rfl, hl, he, CL, c9, Ho, hex, Bu⟩ := hx.ir
        cases cy : aD[tk]? with
        | none => rw [cy] at h; cases h
        | some dw =>
          rw [cy] at h
          cases dw with
          | arr e2 rows =>
            dsimp only at h
            split at h
            · cases h
            rename_i Nb
            have Nb : e1 = esz := by simpa using Nb
            subst Nb
            split at h
            ·
              rename_i ud
              have ud : len + (alN new) <= cap := by simpa using ud
              split at h
              · cases h
              rename_i Sl
              injection h with h
              subst h
              obtain ⟨hs, Hs, Sm⟩ := CN (P := P) (w := w) hy Bm htx hk.bL (fun t ht => hk.tok t (.inl ht))
              rw [<- q9] at hs
              obtain ⟨k, ij, hb⟩ := hk.tok tk (.inr ⟨_, ady.2 rfl⟩) li hl
              rw [cy] at ij; injection ij with ij; subst ij
              obtain ⟨b1, b2, b3⟩ := hb
              have oF : rows ≠ [] := by intro e; subst e; simp at b2; omega
              have DJ : e2 = e1 := by rw [<- b1, he]
              subst DJ
              obtain ⟨arr, el, ua, Jd, Ky, dm⟩ := b3 oF
              rcases Bu with h0 | ⟨_, rfl, rl⟩
              · omega
              have Ht := dP Hs
              have Hp := PP e2 (show off + (len + (alN new)) <= (alN rows) by omega)
              have Nk : (off + (len + (alN new))) * e2 = off * e2 + len * e2 + (alN new) * e2 := by rw [NE, NE]; omega
              have EV : li.sh + off * e2 + len * i.size + (new.flatMap aW).length <= arr.size := by rw [q9, Ht]; omega
              have cB := jK (P := P) (w := w) t tx ty e i ht hi li.dw (li.sh + off * e2) len dd v (alN new) (new.flatMap aW) hs (by omega) ua EV
              refine ⟨_, _, loc, cB, ?_, ?_⟩
              · exact .own tk e2 off (len + (alN new)) cap ex li _ dd hl he CL ud Ho hex (.inr ⟨by omega, rfl, rl⟩)
              refine tY.write hk (t := tk) (k0 := .arr e2 rows) (li := li) rfl rfl hl cy (by cases rows with | nil => exact absurd rfl oF | cons _ _ => rfl) (bZ ua) rfl rfl rfl ?_
              rw [yh _ _ _ (by omega)]
              refine ⟨b1, by rw [de _ _ _ (by omega)]; exact b2, fun _ => ⟨(ni (li.sh + off * e2 + len * i.size) (new.flatMap aW) arr.toList).toArray, el, ?_, ?_, ?_, ?_⟩⟩
              · rw [bZ ua]
                have dV := (If.1 ua).1
                simp [dV]
              · rw [<- Jd]
                simp only [ae7]
                rw [de _ _ _ (by simpa using EV)]; simp
              · rw [de _ _ _ (by omega)]; exact Ky
              refine dm.ni (by omega) Hs Sm (fun k => ?_)
              simp only [adH]
              rw [iu _ _ _ (by simpa using EV), Ht]
              have : li.sh + off * e2 + len * i.size = li.sh + (off + len) * e2 := by rw [q9, NE]; omega
              rw [this]
              simp
            rename_i ud
            have ud : ¬ (len + (alN new) <= cap) := by simpa using ud
            split at h
            · cases h
            rename_i iM
            have iM : len + (alN new) <= 1048576 := by simpa [fa] using iM
            have old : ∀ (rd : List Nat) (wr : List (Nat × ky)), (tk ∈ rd \/ ∃ k, (tk, k) ∈ wr) ->
                jG im loc aD w { v := .own (alN aD) e1 0 (len + (alN new)) (len + (alN new)) alR, news := [.arr e1 ((rows.drop off).take len ++ new)], wr := wr, rd := rd } ->
                (Builtin.firstCells i.size len (.slice a len dd)).run P w.drew = .ok (((rows.drop off).take len).flatMap aW).toArray w.drew /\ ((rows.drop off).take len).length = len /\
                  (∀ r ∈ (rows.drop off).take len, (alN r) = e1) /\ (∀ r ∈ (rows.drop off).take len, ∀ c ∈ r, c.plain = alQ) := by
              intro rd wr zQ vI
              obtain ⟨k, ij, hb⟩ := vI.tok tk zQ li hl
              rw [cy] at ij; injection ij with ij; subst ij
              obtain ⟨b1, b2, b3⟩ := hb
              have DJ : e2 = e1 := by rw [<- b1, he]
              subst DJ
              have AD : ((rows.drop off).take len).length = len := by simp; omega
              by_cases Kz : len = 0
              · subst Kz
                refine ⟨?_, AD, by simp, by simp⟩
                simp only [List.take_zero, aeY]
                cases a with
                | none => exact run_firstCells_none w.drew i.size 0 0 dd
                | some a => exact run_firstCells_some w.drew i.size 0 a 0 dd [] (by simp) (by simp)
              have oF : rows ≠ [] := by intro e; subst e; simp at AD; omega
              obtain ⟨arr, el, ua, Jd, Ky, dm⟩ := b3 oF
              have wG := (dm.drop off).take len
              rcases Bu with h0 | ⟨_, rfl, _⟩
              · omega
              refine ⟨run_firstCells_some w.drew i.size len _ len dd _ (by rw [q9, dP wG.oC, AD]) (fun j v hj => ?_), AD, wG.oC, wG.plain⟩
              rw [rj]
              exact lf (w := w) ua (wG.flat j v hj)
            split at h
            ·
              rename_i amd
              injection h with h
              have vI : jG im loc aD w { v := .own (alN aD) e1 0 (len + (alN new)) (len + (alN new)) alR, news := [.arr e1 ((rows.drop off).take len ++ new)], wr := [], rd := tk :: jg y } := by rw [h]; exact hk
              obtain ⟨uW, AD, hol, fP⟩ := old (tk :: jg y) [] (.inl (by simp)) vI
              obtain ⟨hs, Hs, Sm⟩ := CN (P := P) (w := w) hy Bm htx vI.bL (fun t ht => vI.tok t (.inl (aez _ ht)))
              rw [<- q9] at hs
              have hce := hex amd
              obtain ⟨nc, rest, hnc, Wo, cB⟩ := ET (P := P) (w := w) (tx := tx) (ty := ty) ht hi hz KV Nj (sCap := dd) uW hs (by omega) iM
              obtain ⟨lj, hlb, pg, sS, lP⟩ := CP (im := im) (loc := loc) (olds := (rows.drop off).take len) (new := new) (r := { v := .own (alN aD) e1 0 (len + (alN new)) (len + (alN new)) alR, news := [.arr e1 ((rows.drop off).take len ++ new)], wr := [], rd := tk :: jg y })
                (w' := w.drew.alloc (.cells (((((rows.drop off).take len).flatMap aW) ++ (new.flatMap aW)).toArray ++ rest) e)) (by rw [AD]) rfl vI dW rfl hol fP Hs Sm (by rw [AD]; exact hnc) (by rw [AD]; exact Wo)
              subst h
              rw [AD] at pg
              exact ⟨_, _, _, cB, pg, tY.new vI lj rfl rfl rfl rfl rfl rfl hlb sS⟩
            rename_i amd
            split at h
            · cases h
            rename_i Sl
            injection h with h
            have vI : jG im loc aD w { v := .own (alN aD) e1 0 (len + (alN new)) (len + (alN new)) alR, news := [.arr e1 ((rows.drop off).take len ++ new)], wr := [(tk, .dead)], rd := jg y } := by rw [h]; exact hk
            obtain ⟨uW, AD, hol, fP⟩ := old (jg y) [(tk, .dead)] (.inr ⟨_, ady.2 rfl⟩) vI
            obtain ⟨hs, Hs, Sm⟩ := CN (P := P) (w := w) hy Bm htx vI.bL (fun t ht => vI.tok t (.inl ht))
            have vJ := hs
            rw [<- q9] at hs
            subst h
            rcases acl dd (len + (alN new)) with hg | hg
            ·
              obtain ⟨nc, rest, hnc, Wo, cB⟩ := ET (P := P) (w := w) (tx := tx) (ty := ty) ht hi hz KV Nj (sCap := dd) uW hs hg iM
              obtain ⟨lj, hlb, pg, sS, lP⟩ := CP (im := im) (loc := loc) (olds := (rows.drop off).take len) (new := new) (r := { v := .own (alN aD) e1 0 (len + (alN new)) (len + (alN new)) alR, news := [.arr e1 ((rows.drop off).take len ++ new)], wr := [(tk, .dead)], rd := jg y })
                (w' := w.drew.alloc (.cells (((((rows.drop off).take len).flatMap aW) ++ (new.flatMap aW)).toArray ++ rest) e)) (by rw [AD]) rfl vI dW rfl hol fP Hs Sm (by rw [AD]; exact hnc) (by rw [AD]; exact Wo)
              rw [AD] at pg
              refine ⟨_, _, _, cB, pg, ?_⟩
              have oE := tY.new (r := { v := .own (alN aD) e1 0 (len + (alN new)) (len + (alN new)) alR, news := [.arr e1 ((rows.drop off).take len ++ new)], wr := [], rd := jg y })
                (w' := w.drew.alloc (.cells (((((rows.drop off).take len).flatMap aW) ++ (new.flatMap aW)).toArray ++ rest) e))
                ⟨vI.bL, fun t ht => vI.tok t (by rcases ht with ht | ⟨k, ht⟩; exact .inl ht; cases ht), fun t k h => absurd h (by simp), vI.fresh, fun t u li lj k k' h1 h2 => vI.jc t u li lj k k' (by rcases h1 with h | ⟨k, h⟩; exact .inl h; cases h) (by rcases h2 with h | ⟨k, h⟩; exact .inl h; cases h)⟩ lj rfl rfl rfl rfl rfl rfl hlb sS
              exact { gX := oE.gX, eh := oE.eh, bL := oE.bL, ew := oE.ew, os := oE.os, tape := oE.tape, output := oE.output, size := oE.size,
                      frame := fun b hb _ => oE.frame b hb (fun t k li k0 h => absurd h (by simp)),
                      QC := (fun t k hm hs => by
                        obtain ⟨rfl, rfl⟩ : t = tk /\ k = .dead := by simpa using hm
                        cases hs),
                      wr := fun t k li hm mU => by
                        obtain ⟨rfl, rfl⟩ : t = tk /\ k = .dead := by simpa using hm
                        trivial,
                      lC := oE.lC,
                      news := fun j k li hj hl => by
                        obtain ⟨h2, h3⟩ := oE.news j k li hj hl
                        refine ⟨h2, fun hs => ⟨(h3 hs).1, ?_⟩⟩
                        rcases (h3 hs).2 with h | ⟨t, lt, k0, hm, _⟩
                        · exact .inl h
                        exact absurd hm (by simp),
                      distinct := oE.distinct }
            ·
              obtain ⟨k, ij, hb⟩ := vI.tok tk (.inr ⟨_, ady.2 rfl⟩) li hl
              rw [cy] at ij; injection ij with ij; subst ij
              obtain ⟨b1, b2, b3⟩ := hb
              have DJ : e2 = e1 := by rw [<- b1, he]
              subst DJ
              rcases Bu with h0 | ⟨Wp, rfl, rl⟩
              · omega
              have oF : rows ≠ [] := by intro e; subst e; simp at b2; omega
              obtain ⟨arr, el, ua, Jd, Ky, dm⟩ := b3 oF
              have wG := (dm.drop off).take len
              have Ht := dP Hs
              have ame := dP hol
              rw [AD] at ame
              have Hp := PP e2 (show off + (len + (alN new)) <= off + dd by omega)
              have Nk : (off + (len + (alN new))) * e2 = off * e2 + len * e2 + (alN new) * e2 := by rw [NE, NE]; omega
              have EV : li.sh + off * e2 + len * i.size + (new.flatMap aW).length <= arr.size := by rw [q9, Ht]; omega
              have cB := jK (P := P) (w := w) t tx ty e i ht hi li.dw (li.sh + off * e2) len dd v (alN new) (new.flatMap aW) hs hg ua EV
              have O9 := bZ (cs := (ni (li.sh + off * e2 + len * i.size) (new.flatMap aW) arr.toList).toArray) ua
              have dV := (If.1 ua).1
              have AE : (ky.arr e2 rows).bS = alQ := by cases rows with | nil => exact absurd rfl oF | cons _ _ => rfl
              have Bv := vI.free tk .dead (ady.2 rfl) li (.arr e2 rows) hl cy AE
              let lj : LI := ⟨li.dw, li.sh + off * e2, e2, ((rows.drop off).take len ++ new).length, li.sz⟩
              have SH : loc (alN aD) = alP := by have := vI.fresh 0 (by simp); simpa using this
              have hlj : lj.n = len + (alN new) := by simp only [lj, adQ, AD]
              refine ⟨_, _, loc.set (alN aD) lj, cB, ?_, ?_⟩
              · exact .own (alN aD) e2 0 (len + (alN new)) (len + (alN new)) alR lj _ dd (Loc.fo _ _ _) rfl (by omega) (Do _) hg (by simp)
                  (.inr ⟨by omega, by simp [lj], by simp only [lj, ajg]; rw [NE] at rl; omega⟩)
              have sS : BR im (loc.set (alN aD) lj) (w.setRow li.dw (ni (li.sh + off * e2 + len * i.size) (new.flatMap aW) arr.toList).toArray) lj (.arr e2 ((rows.drop off).take len ++ new)) := by
                refine ⟨rfl, rfl, fun _ => ⟨(ni (li.sh + off * e2 + len * i.size) (new.flatMap aW) arr.toList).toArray, el, by rw [O9]; simp [lj, dV], ?_, ?_, ?_⟩⟩
                · simp only [lj, ae7]
                  rw [de _ _ _ (by simpa using EV)]; simpa using Jd
                · simp only [lj, adQ, AD]
                  rw [NE]; rw [Nk] at Hp; omega
                refine bU.AB (fun r hr => ?_) (fun r hr => ?_) (fun j u hj => ?_)
                · rcases adI.1 hr with h | h
                  · exact hol r h
                  exact Hs r h
                · rcases adI.1 hr with h | h
                  · exact fP r h
                  exact Sm r h
                rw [akT] at hj
                simp only [lj, adH]
                rw [iu _ _ _ (by simpa using EV), Ht, q9]
                rcases acl j (len * e2) with Nh | Nh
                · rw [ad5 (by omega)] at hj
                  rw [lw (by omega)]
                  have := wG.flat j u hj
                  simpa using this
                rw [UV (by omega), ame] at hj
                have hjb := (adB.1 hj).1
                rw [ls ⟨by omega, by omega⟩, <- hj]
                congr 1
                omega
              exact { gX := .refl _, eh := Loc.ye lj SH,
                      bL := fun b o hb => by
                        have h1 := vI.bL b o hb
                        have Nl : li.dw ≠ b := fun e => by rw [e, hb] at Bv; cases Bv
                        rw [O9, adc, lw Nl]; exact h1,
                      ew := fun _ _ h => .inl h, os := rfl, tape := ⟨rfl, Do _⟩, output := rfl,
                      size := by rw [O9]; simp,
                      QC := (fun t k hm hs => by
                        obtain ⟨rfl, rfl⟩ : t = tk /\ k = .dead := by simpa using hm
                        cases hs),
                      frame := fun b _ hb => by
                        have Nl := hb tk .dead li _ (ady.2 rfl) hl cy AE
                        rw [O9, adc, lw Nl],
                      wr := fun t k li hm mU => by
                        obtain ⟨rfl, rfl⟩ : t = tk /\ k = .dead := by simpa using hm
                        trivial,
                      lC := fun t l h => by
                        unfold Loc.set at h
                        split at h
                        · rename_i e; subst e; exact .inr ⟨Do _, by simp⟩
                        exact .inl h,
                      news := CK (fun j k hj => by
                        cases j with
                        | zero =>
                          simp at hj; subst hj
                          exact ⟨lj, Loc.fo _ _ _, sS, fun _ => ⟨Bv, .inr ⟨tk, li, _, ady.2 rfl, hl, cy, AE, rfl⟩⟩⟩
                        | succ j => simp at hj),
                      distinct := fun i j ki kj li lj h1 h2 _ _ _ _ _ => by
                        cases i <;> cases j <;> simp at h1 h2 <;> rfl }
          | _ => cases h
      | _ => cases h
end
end Go.Vm
/- Operation by operation, seventh part: aggregates and rows that are built, slices that are cut. -/
namespace Go.Vm
section
variable {P : Program} {im : Im} {loc : Loc} {aD : cK} {fz : List Nat} {w : World}
theorem vK {α β:Type} (f:α->Sem β) (g:α->β):
 ∀(xs:List α),(∀a∈xs,(f a).run P w= .ok (g a) w)-> ∀(acc:Array β),(xs.foldlM (fun bs a=>bs.push<$>f a) acc).run P w= .ok (acc++(xs.map g).toArray) w
 | [],_,acc=>by simp
 |x::xs,h,acc=>by
  simp only [al5,ww,Sem.run_map,h x (by simp),ut,vK f g xs (fun a ha=>h a (by simp [ha]))]
  congr 1
  apply adC;simp
theorem QH {α β:Type} (f:α->Sem β) (g:α->β) (xs:Array α) (h: ∀a∈xs,(f a).run P w= .ok (g a) w):(xs.mapM f).run P w= .ok (xs.map g) w:=by
 rw [Array.mapM_eq_foldlM,<- Array.foldlM_toList,vK f g xs.toList (fun a ha=>h a (by simpa using ha))]
 congr 1
 apply adC;simp
theorem HV (off:Nat): ∀(xs:List Value) (k:Nat) (cells:Array Value),off+k+alN xs<=cells.size->
 ((xs.zipIdx k).foldl (fun (cs:Array Value) (p:Value×Nat)=>cs.setIfInBounds (off+p.2) p.1) cells).toList=ni (off+k) xs cells.toList
 | [],k,cells,_=>by simp [ni]
 |x::xs,k,cells,h=>by
  simp only [adP] at h;rw [List.zipIdx_cons,aej,HV off xs (k+1) _ (by simp;omega)];apply aeF;intro j;rw [iu _ _ _ (by simp;omega),iu _ _ _ (by simp;omega)];simp only [adP,Array.toList_setIfInBounds]
  by_cases h1:off+(k+1)<=j/\j<off+(k+1)+alN xs
  · rw [ls h1,ls ⟨by omega,by omega⟩]
    obtain ⟨m,hm⟩: ∃m,j- (off+k)=m+1:=⟨j- (off+k) -1,by omega⟩;rw [hm,show j- (off+(k+1))=m by omega];simp
  rw [lw h1]
  by_cases h2:j=off+k
  · subst h2
    rw [ls ⟨Do _,by omega⟩,aig (by simp;omega)];simp
  rw [lw (by omega),ak4 (by omega)]
theorem zf {place:Nat->Option (Nat×Nat)} {i off size:Nat} {v:Value} {rest:List (Nat×Value)} {cells:Array Value} (hp:place i=alO (off,size)) (hs:v.cells.size=size)
 (hf:off+size<=cells.size):Instr.fill place cells ((i,v)::rest)=Instr.fill place ⟨ni off v.cells.toList cells.toList⟩ rest:=by
 have he:(v.cells.zipIdx.foldl (fun cs (c,j)=>cs.setIfInBounds (off+j) c) cells)=⟨ni off v.cells.toList cells.toList⟩:=by apply adC;rw [<- Array.foldl_toList,Array.toList_zipIdx];have:=HV off v.cells.toList 0 cells (by simp;omega);simpa using this
 simp only [Instr.fill,hp];rw [lw (by simp [hs];omega),he]
inductive vL (im:Im) (loc:Loc) (place:Nat->Option (Nat×Nat)):List (Nat×Nat×PV)->List (Nat×Value)->Prop
 |nil:vL im loc place [] []
 |cons (off sz i:Nat) (x:PV) (v:Value) (r:List (Nat×Nat×PV)) (s:List (Nat×Value)) (hp:place i=alO (off,sz)) (hv:VR im loc x v) (h:vL im loc place r s):
  vL im loc place ((off,sz,x)::r) ((i,v)::s)
theorem KW {place:Nat->Option (Nat×Nat)}: ∀{ps:List (Nat×Nat×PV)} {qs:List (Nat×Value)},vL im loc place ps qs-> ∀{cs HR:List PV} {vs:Array Value},
 fx im loc cs vs.toList->nO ps cs=alO HR-> ∃M5,Instr.fill place vs qs=alO M5/\fx im loc HR M5.toList
 |_,_,.nil,cs,HR,vs,h,hf=>by simp only [nO,rc] at hf;subst hf;exact ⟨vs,rfl,h⟩
 |_,_,.cons off sz i x v r s hp hv hr,cs,HR,vs,h,hf=>by
  simp only [nO] at hf;cases cy:x.stored with
  |none=>rw [cy] at hf;cases hf
  |some ws=>
   rw [cy] at hf;dsimp only at hf;split at hf
   · rename_i hc
     simp only [pp,adG,ae8] at hc;obtain ⟨rfl,Bs⟩:=AA cy;have O8:=hv.cells Bs;have hl:=O8.ny;have zV:=h.ny;simp only [adN] at hl zV;rw [zf hp (by omega) (by omega)];exact KW hr (fx.ni O8 h) hf
   cases hf
theorem EW {t:TypeId} {fs:Array Field} (hu:P.underlying t=alO (.struct fs)) (hf: ∀f∈fs,(P.info? f.type).isSome=alQ):
 (fs.mapM fun f=>do pure (f.offset,<- sizeOf f.type):Sem (Array (Nat×Nat))).run P w= .ok (fs.map fun f=>(f.offset,P.cellsOf f.type)) w/\
 (fun i=>(fs.map fun f=>(f.offset,P.cellsOf f.type))[i]?)=placeOf P t:=by
 constructor
 · refine QH _ _ _ fun f hm=>?_
   obtain ⟨i,hi⟩:=adK.1 (hf f hm);simp [sizeOf,typeInfo,hi,Program.cellsOf]
 funext i
 unfold placeOf;rw [hu];cases hfi:fs[i]? with
 |none=>simp [hfi]
 |some f=>obtain ⟨j,hj⟩:=adK.1 (hf f (Array.mem_of_getElem? hfi));simp [hfi,hj,Program.cellsOf]
theorem QI {t:TypeId} {zero cs:List PV} {ps:List (Nat×Nat×PV)} {qs:Array (Nat×Value)} (hz:uT P t zero=alQ)
 (ot:(match P.underlying t with|some (.struct fs)=>fs.all fun f=>(P.info? f.type).isSome|some (.array _ e)=>(P.info? e).isSome|_=>alR)=alQ)
 (hr:vL im loc (placeOf P t) ps qs.toList) (hf:nO ps zero=alO cs): ∃v,(Instr.build t qs).run P w= .ok v w/\VR im loc (.agg cs) v:=by
 unfold uT at hz;cases hi:P.info? t with
 |none=>rw [hi] at hz;cases hz
 |some i=>
  rw [hi] at hz;cases Je:i.zero with
  |none=>simp [Je] at hz
  |some z=>
   simp [Je] at hz;have O':(zeroValue t).run P w= .ok z w:=by simp [zeroValue,typeInfo,hi,Je]
   obtain ⟨M5,h1,h2⟩:=KW hr (yd hz) hf;refine ⟨.agg M5,?_,.agg cs M5.toList h2⟩;cases hu:P.underlying t with
   |none=>rw [hu] at ot;cases ot
   |some d=>
    rw [hu] at ot;cases d<;>first|cases ot|skip
    case array n e=>
     obtain ⟨j,hj⟩:=adK.1 ot;have hp:(fun i=>alO (i*j.size,j.size))=placeOf P t:=by funext i;unfold placeOf;rw [hu];simp [hj]
     have q9:(sizeOf e).run P w= .ok j.size w:=by simp [sizeOf,typeInfo,hj]
     simp only [Instr.build,ww,O',run_underlying hu,ut,q9,hp,h1,AC]
    case struct fs=>
     have rU: ∀f∈fs,(P.info? f.type).isSome=alQ:=by intro f hf;have:=Array.all_eq_true.1 ot;obtain ⟨k,hk,rfl⟩:=Array.mem_iff_getElem.1 hf;exact this k hk
     obtain ⟨hm,hp⟩:=EW (P:=P) (w:=w) hu rU;simp only [Instr.build,ww,O',run_underlying hu,ut,hm,hp,h1,AC]
theorem CQ {zero:Row} {zs:Array Value} (h: ∀(j:Nat) (c:PV),zero[j]? =alO c-> ∃v,jT c=alO v/\zs[j]? =alO v) (hl:(alN zero)=zs.size) (n:Nat):
 bU (fun k=>((aeK (n*zs.size)).map (zs[· %zs.size]!))[k]?) 0 zs.size (adF n zero):=by
 intro i r hr;have hi:i<n:=by
  rcases acl i n with h|h
  · exact h
  rw [IR (by simpa using h)] at hr;cases hr
 rw [List.getElem?_replicate,ls hi] at hr;injection hr with hr;subst hr;refine ⟨hl,fun j c hc=>?_⟩;obtain ⟨v,hv,hz⟩:=h j c hc;refine ⟨v,hv,?_⟩;have hj:j<zs.size:=(If.1 hz).1;have dV:i*zs.size+j<n*zs.size:=by have:=PP zs.size (show i+1<=n from hi);rw [NE] at this;omega
 have aqm:(i*zs.size+j)%zs.size=j:=by rw [Nat.mul_comm,Nat.mul_add_mod];exact Nat.mod_eq_of_lt hj
 simp only [ajg];rw [Array.getElem?_map,Array.getElem?_range,ls dV];simp only [ala,aqm];rw [getElem!_pos zs j hj];have:=(If.1 hz).2;rw [this]
inductive yj (im:Im) (loc:Loc):List (Nat×PV)->List (Nat×Value)->Prop
 |nil:yj im loc [] []
 |cons (i:Nat) (x:PV) (v:Value) (r:List (Nat×PV)) (s:List (Nat×Value)) (hv:VR im loc x v) (h:yj im loc r s):yj im loc ((i,x)::r) ((i,v)::s)
theorem Bw {esz n : Nat} : ∀ {ps : List (Nat × PV)} {qs : List (Nat × Value)}, yj im loc ps qs -> ∀ {rows rH : List Row} {vs : Array Value},
    bU (fun k => vs[k]?) 0 esz rows -> vs.size = n * esz -> (alN rows) = n -> qv ps rows esz = alO rH ->
    ∃ M5, Instr.fill (fun i => alO (i * esz, esz)) vs qs = alO M5 /\ bU (fun k => M5[k]?) 0 esz rH /\ M5.size = n * esz /\ (alN rH) = n
  | _, _, .nil, rows, rH, vs, h, hs, hn, hf => by
    simp only [qv, rc] at hf
    subst hf
    exact ⟨vs, rfl, h, hs, hn⟩
  | _, _, .cons i x v r s hv hr, rows, rH, vs, h, hs, hn, hf => by
    simp only [qv] at hf
    cases cy : x.cM with
    | none => rw [cy] at hf; cases hf
    | some ws =>
      rw [cy] at hf
      dsimp only at hf
      split at hf
      · rename_i hc
        have DK : (alN ws) = esz := by simp only [pp, adG] at hc; exact hc.1
        have KA : i < (alN rows) := by simp only [pp] at hc; simpa using hc.2
        obtain ⟨rfl, Ng⟩ := nj cy
        have O8 := hv.cells (fun c hc => yg (Ng c hc))
        have hl := O8.ny
        simp only [adN] at hl
        have Hp := PP esz (show i + 1 <= n by omega)
        rw [NE] at Hp
        rw [zf (place := fun i => alO (i * esz, esz)) rfl (by omega) (by omega)]
        have hgi : rows[i]? = alO rows[i] := M2 KA
        have hil := (h i _ hgi).1
        have amf := h.store (get' := fun k => (⟨ni (i * esz) v.cells.toList vs.toList⟩ : Array Value)[k]?) (off := 0) (ws := x.cells) (vs := v.cells.toList) hgi (by omega) (O8.HT Ng) (by simp; omega) (fun k => by
          simp only [adH]
          rw [iu _ _ _ (by simp; omega)]
          simp)
        have aqn : ni 0 x.cells rows[i] = x.cells := by
          unfold ni; rw [aet (by omega)]; simp
        rw [aqn] at amf
        exact Bw hr amf (by simp only [ae7]; rw [de _ _ _ (by simp; omega)]; simpa using hs) (by simpa using hn) hf
      cases hf
end
end Go.Vm
/- Operation by operation, last part: all of them. -/
namespace Go.Vm
def lA.fH:lA->List fS
 | .Sj x| .un _ x| .conv _ x| .len x| .box x| .load _ x| .KF x| .KG _ x| .ju _ _ x| .ext _ x=>[x]
 | .pick a b c=>[a,b,c]
 | .bin _ x y| .KE _ x y| .eqc _ _ x y| .store _ x y| .KH _ x y| .DE _ _ x y| .idx _ _ _ x y| .KI x y| .mks _ _ x y| .append _ x y| .copy _ x y=>[x,y]
 | .build _ ps=>ps.map (·.2.2)
 | .Bn _ _ _ ps=>ps.map (·.2)
 | .DD x y=>[x,y]
 | .Qz _ x a b c=>x::(a.toList++b.toList++c.toList)
 | .mkf _ a b=>a++b
 | .lookup _ _ _ m k=>[m,k]
 | .I4 _ m k v=>[m,k,v]
 | .clear _ _ x=>[x]
 | .mm _ x xs=>x::xs
 | .call _ _ as=>as
 | .xF x as=>x::as
 | .Na _| .alloc _| .mkm _| .bad=>[]
section
variable {P : Program} {im : Im} {loc : Loc} {aD : cK} {fz : List Nat} {w : World} {e : Env} {ρ : Operand -> Value}
theorem nR: ∀{xs:List fS} {os:List Operand},(∀x∈xs,∀o,bH x o=alQ->VR im loc (x.ev e) (ρ o))->fy xs os=alQ->fx im loc (EH e xs) (os.map ρ)
 | [],[],_,_=> .nil
 |x::xs,o::os,h,hc=>by simp only [fy,pp] at hc;exact .cons _ _ _ _ (h x (by simp) o hc.1) (nR (fun y hy=>h y (by simp [hy])) hc.2)
 | [],_::_,_,hc=>by simp [fy] at hc
 |_::_,[],_,hc=>by simp [fy] at hc
theorem Bx {place:Nat->Option (Nat×Nat)}: ∀{ps:List (Nat×Nat×fS)} {qs:List (Nat×Operand)},(∀x∈ps.map (·.2.2),∀o,bH x o=alQ->VR im loc (x.ev e) (ρ o))->vG place ps qs=alQ->
 vL im loc place (ps.map fun p=>(p.1,p.2.1,p.2.2.ev e)) (qs.map fun (i,x)=>(i,ρ x))
 | [],[],_,_=> .nil
 |(off,sz,x)::r,(i,o)::s,h,hc=>by
  simp only [vG,pp] at hc;obtain ⟨⟨h1,h2⟩,h3⟩:=hc;refine .cons off sz i _ _ _ _ ?_ (h x (by simp) o h2) (Bx (fun y hy=>h y (by simp only [alH,aei];exact .inr hy)) h3);cases hp:place i with
  |none=>rw [hp] at h1;cases h1
  |some q=>rw [hp] at h1;simp only [pp,beq_iff_eq] at h1;obtain ⟨rfl,rfl⟩:=h1;rfl
 | [],_::_,_,hc=>by simp [vG] at hc
 |_::_,[],_,hc=>by simp [vG] at hc
theorem xK: ∀{ps:List (Nat×fS)} {qs:List (Nat×Operand)},(∀x∈ps.map (·.2),∀o,bH x o=alQ->VR im loc (x.ev e) (ρ o))->nQ ps qs=alQ->
 yj im loc (ps.map fun p=>(p.1,p.2.ev e)) (qs.map fun (i,x)=>(i,ρ x))
 | [],[],_,_=> .nil
 |(i,x)::r,(j,o)::s,h,hc=>by simp only [nQ,pp,beq_iff_eq] at hc;obtain ⟨⟨rfl,h2⟩,h3⟩:=hc;exact .cons i _ _ _ _ (h x (by simp) o h2) (xK (fun y hy=>h y (by simp only [alH,aei];exact .inr hy)) h3)
 | [],_::_,_,hc=>by simp [nQ] at hc
 |_::_,[],_,hc=>by simp [nQ] at hc
theorem EX {t:TypeId} {zero:Row} (h:uT P t zero=alQ) (hp:zero.all PV.plain=alQ):
 ∃i z,P.info? t=alO i/\i.zero=alO z/\alN zero=z.cells.size/\ ∀(j:Nat) (c:PV),zero[j]? =alO c-> ∃v,jT c=alO v/\z.cells[j]? =alO v:=by
 unfold uT at h;cases hi:P.info? t with
 |none=>rw [hi] at h;cases h
 |some i=>
  rw [hi] at h;cases hz:i.zero with
  |none=>simp [hz] at h
  |some z=>simp [hz] at h;have hr:fx (fun _=>alP) (fun _=>alP) zero z.cells.toList:=yd h;refine ⟨i,z,rfl,hz,by simpa using hr.ny,fun j c hc=>?_⟩;obtain ⟨v,hv,Nf⟩:=hr.get j c hc;refine ⟨v,Nf.plain ?_,by simpa using hv⟩;have:=al9.1 hp c (aex hc);exact this
theorem DL {esz n len cap:Nat} {rows:List Row} {vs:Array Value} {el:TypeId} {r:ov} (hr:r={v:= .own (alN aD) esz 0 len cap alQ,news:=[.arr esz rows]}) (hk:jG im loc aD w r)
 (dm:bU (fun k=>vs[k]?) 0 esz rows) (hs:vs.size=n*esz) (hn:(alN rows)=n) (hc:cap=n) (hl:len<=cap):
 ∃bz,VR im bz r.v (.slice (alO ⟨w.heap.size,0,alP⟩) len cap)/\tY im loc aD w r im bz {w with heap:=w.heap.push (.cells vs el)}:=by
 subst hr hc
 let li:LI:=⟨w.heap.size,0,esz,cap,vs.size⟩
 refine ⟨loc.set (alN aD) li,?_,?_⟩
 · refine .own (alN aD) esz 0 len cap alQ li _ cap (Loc.fo _ _ _) rfl (by simp [li]) hl (Do _) (fun _=>rfl) ?_
   rcases al1 cap with h|h
   · exact .inl h
   exact .inr ⟨by simp [li];omega,by simp [li],by simp [li,hs]⟩
 exact tY.new hk li rfl rfl rfl rfl rfl rfl rfl ⟨rfl,hn.symm,fun _=>⟨vs,el,by simp [li],rfl,by simp [li,hs,hn],dm⟩⟩
theorem Pa {isMax:Bool} {k:IntKind}: ∀{ys:List PV} {us:List Value},fx im loc ys us-> ∀{a:Int} {z:PV},mmE isMax k a ys=alO z->
 ∃b,z= .int k b/\(us.foldlM (if isMax then Builtin.max2 else Builtin.min2) (.int k a)).run P w= .ok (.int k b) w
 |_,_,.nil,a,z,h=>by simp only [mmE,rc] at h;exact ⟨a,h.symm,rfl⟩
 |_,_,.cons y u ys us hy hs,a,z,h=>by
  unfold mmE at h;cases y with
  |int l c=>
   obtain rfl:=hy.gN;dsimp only at h;cases Sp:fO k l with
   |false=>rw [Sp] at h;cases h
   |true=>
    have:=fE.1 Sp;subst this;rw [Sp,ls rfl] at h;obtain ⟨b,hz,ih⟩:=Pa (isMax:=isMax) hs h;refine ⟨b,hz,?_⟩;rw [al5,ww];cases isMax with
    |true=>simp only [if_true] at ih ⊢;simp only [Builtin.max2,AC,ut];exact ih
    |false=>simp only [ad6,if_false] at ih ⊢;simp only [Builtin.min2,AC,ut];exact ih
  |_=>cases h
end
end Go.Vm
/- Operation by operation: all that call nothing. -/
namespace Go.Vm
def SI (P:Program) (ρ:Operand->Value) (o:Oper) (im:Im) (loc:Loc) (aD:cK) (w:World) (r:ov):Prop:=
 ∃nx w' bz,(execOp ρ o).run P w= .ok nx w'/\((nx= .skip/\r.v= .undef)\/ ∃v,nx= .value v/\VR im bz r.v v)/\tY im loc aD w r im bz w'
section
variable {P : Program} {im : Im} {loc : Loc} {aD : cK} {fz : List Nat} {w : World} {e : Env} {ρ : Operand -> Value}
theorem SI.pure {o:Oper} {r:ov} {v:Value} (hk:jG im loc aD w r) (hn:r.news=[]) (hw:r.wr=[]) (h:(execOp ρ o).run P w= .ok (.value v) w) (hv:VR im loc r.v v):
 SI P ρ o im loc aD w r:=⟨_,w,loc,h,.inr ⟨v,rfl,hv⟩,tY.none hk hn hw⟩
theorem Jf {t:TypeId} (h:(P.underlying t matches alO .bool)=alQ):P.underlying t=alO .bool:=by
 split at h
 · assumption
 cases h
theorem wH {x:Option fS} {o:Option Operand} {n:Option Nat} (o9: ∀y∈x.toList,∀o,bH y o=alQ->VR im loc (y.ev e) (ρ o)) (hc:Ja x o=alQ)
 (h:(match (generalizing:=false) x with|none=>some none|some a=>(kA (a.ev e)).map some)=some n):Az (o.map ρ) n:=by
 cases x with
 |none=>
  cases o with
  |none=>injection h with h;subst h;trivial
  |some o=>cases hc
 |some a=>
  cases o with
  |none=>cases hc
  |some o=>simp only [v6] at h;obtain ⟨m,hm,rfl⟩:=h;exact pz (o9 a (by simp) o hc) hm
theorem ug {t el:TypeId} {esz:Nat} {a:Option Addr} {len cap l h m:Nat} {vl vh vm:Option Value} (hu:P.underlying t=alO (.slice el)) (hs:pf P el esz=alQ)
 (hb:(Instr.sliceBounds alQ len cap vl vh vm).run P w= .ok (l,h,m) w):
 (Instr.sliceAt t (.slice a len cap) vl vh vm).run P w= .ok (.slice (if m=l then a else a.map (·.add (l*esz))) (h-l) (m-l)) w:=by
 simp only [Instr.sliceAt,ww,run_underlying hu,ut,Instr.slice,hb,kW hs,AC]
theorem QJ {t el:TypeId} {esz:Nat} {x z:PV} {u:Value} {lo hi mx:Option Nat} {vl vh vm:Option Value} (hx:VR im loc x u) (hu:P.underlying t=alO (.slice el)) (hs:pf P el esz=alQ)
 (h1:Az vl lo) (h2:Az vh hi) (h3:Az vm mx) (hm:mx.isSome=alQ->hi.isSome=alQ) (Ed: ∀e c r,x= .sl e c r->r=[]\/e=esz) (amg: ∀tk e o l c ex,x= .own tk e o l c ex->e=esz)
 (h:ri x lo hi mx=alO z): ∃v,(Instr.sliceAt t u vl vh vm).run P w= .ok v w/\VR im loc z v:=by
 unfold ri at h;cases x with
 |sl e rf rows=>
  obtain ⟨a,cap,rfl,Ho,V7,lQ⟩:=hx.oB;dsimp only at h;have sub: ∀(l h m:Nat) (Pb:Bool),l<=h->h<=alN rows->h<=m->m<=cap->(Pb=alQ->m=h)->
   VR im loc (.sl e Pb ((rows.drop l).take (h-l))) (.slice (if m=l then a else a.map (·.add (l*esz))) (h-l) (m-l)):=by
   intro l h m Pb hlh hhr hhm hmc zV;have c9:((rows.drop l).take (h-l)).length=h-l:=by simp;omega
   have:=VR.sl (im:=im) (loc:=loc) e Pb ((rows.drop l).take (h-l)) (if m=l then a else a.map (·.add (l*esz))) (m-l) (by omega) (fun hc=>by have:=zV hc;omega) (fun dW=>by
    have dV:l<h:=by
     rcases acl l h with h'|h'
     · exact h'
     exfalso;apply dW;rw [show h-l=0 by omega];simp
    have oF:rows≠[]:=by intro e;subst e;simp at hhr;omega
    obtain ⟨b,o,rfl,dm⟩:=lQ oF;have he:e=esz:=(Ed e rf rows rfl).resolve_left oF;subst he;refine ⟨b,o+l*e,?_,(dm.drop l).take _⟩;rw [lw (by omega)];simp [rj])
   rwa [c9] at this
  cases mx with
  |none=>
   dsimp only at h;split at h
   · rename_i hc
     simp only [pp,ae8] at hc;injection h with h;subst h;have hb:=ng (P:=P) (w:=w) (len:=alN rows) (cap:=cap) h1 h2 h3 hm hc.1 (fun _=>by simp;omega) (by simp);simp only [aev] at hb;refine ⟨_,ug hu hs hb,sub _ _ cap _ hc.1 hc.2 (by omega) (Do _) (fun zV=>?_)⟩;simp only [pp,adG] at zV;have:=V7 zV.1;omega
   cases h
  |some m=>
   dsimp only at h;split at h
   · rename_i hc
     simp only [pp,ae8] at hc;injection h with h;subst h;have hb:=ng (P:=P) (w:=w) (len:=alN rows) (cap:=cap) h1 h2 h3 hm hc.1.1 (fun _=>hc.1.2) (by simp;omega);simp only [adz] at hb;refine ⟨_,ug hu hs hb,sub _ _ m _ hc.1.1 (by omega) hc.1.2 (by omega) (fun zV=>?_)⟩;simp only [adG] at zV;exact zV.symm
   cases h
 |own tk e off len cap ex=>
  obtain ⟨li,a,dd,rfl,hl,he,CL,c9,Ho,hex,Bu⟩:=hx.ir;have Nb:=amg tk e off len cap ex rfl;subst Nb;dsimp only at h;have sub: ∀(l h c m m':Nat) (ex':Bool),l<=h->h<=m->m<=cap->m<=m'->m'<=dd->(ex'=alQ->m'=m)->
   VR im loc (.own tk e (off+l) (h-l) (m-l) ex') (.slice (if m'=l then a else a.map (·.add (l*e))) (h-l) (m'-l)):=by
   intro l h c m m' ex' hlh hhm hmc hmm awt aqo;refine .own tk e (off+l) (h-l) (m-l) ex' li _ (m'-l) hl he (by omega) (by omega) (by omega) (fun hx=>by have:=aqo hx;omega) ?_
   by_cases KB:m'=l
   · exact .inl (by omega)
   rw [lw KB]
   rcases Bu with h0|⟨Wp,rfl,rl⟩
   · exact .inl (by omega)
   refine .inr ⟨Wp,?_,?_⟩
   · simp only [ala,rj];congr 2;rw [NE];omega
   have:=PP e (show off+l+(m'-l)<=off+dd by omega)
   omega
  cases mx with
  |none=>
   dsimp only at h;split at h
   · rename_i hc
     simp only [pp,ae8] at hc;injection h with h;subst h;have hb:=ng (P:=P) (w:=w) (len:=len) (cap:=dd) h1 h2 h3 hm hc.1 (fun _=>by simp;omega) (by simp);simp only [aev] at hb;exact ⟨_,ug hu hs hb,sub _ _ 0 cap dd ex hc.1 hc.2 (Do _) Ho (Do _) hex⟩
   cases h
  |some m=>
   dsimp only at h;split at h
   · rename_i hc
     simp only [pp,ae8] at hc;injection h with h;subst h;have hb:=ng (P:=P) (w:=w) (len:=len) (cap:=dd) h1 h2 h3 hm hc.1.1 (fun _=>hc.1.2) (by simp;omega);simp only [adz] at hb;exact ⟨_,ug hu hs hb,sub _ _ 0 m m alQ hc.1.1 hc.1.2 hc.2 (Do _) (by omega) (fun _=>rfl)⟩
   cases h
 |_=>cases h
end
end Go.Vm
/- Two aggregates of plain cells are compared cell by cell. -/
namespace Go.Vm
theorem yk: ∀(a b c d:List PV),alN a=alN b->dK (a++c) (b++d)=match dK a b with|some alQ=>dK c d|x=>x
 | [],[],c,d,_=>by simp [dK]
 |x::xs,y::ys,c,d,h=>by
  simp only [List.cons_append,dK];cases rh x y with
  |none=>rfl
  |some r=>
   cases r with
   |false=>rfl
   |true=>exact yk xs ys c d (by simpa using h)
 | [],_::_,_,_,h=>by simp at h
 |_::_,[],_,_,h=>by simp at h
section
variable {P : Program} {im : Im} {loc : Loc} {w : World}
def whole (P:Program) (t:TypeId) (us:List Value):Value:=if iq P t then .agg ⟨us⟩ else us.getD 0 Go.undef
def ji (P:Program) (d:Nat) (r:Option Nat) (f:Field):Option Nat:=
 match r with
 |some n=>if f.offset==n&&f.name != "_" then (match flat P d f.type with
  |some m=>if pf P f.type m then alO (n+m) else alP
  |none=>alP) else alP
 |none=>alP
theorem pW {d:Nat}: ∀(fs:List Field),fs.foldl (ji P d) alP=alP
 | []=>rfl
 |f::fs=>by rw [aej];exact pW fs
theorem Jg {d:Nat} {t:TypeId} {n:Nat} (h:flat P d t=alO n) (hr:iq P t=alR):n=1:=by
 cases d with
 |zero=>cases h
 |succ d=>
  simp only [flat] at h;split at h
  · split at h
    · injection h with h;exact h.symm
    cases h
  · rename_i fs hu
    unfold iq at hr;rw [hu] at hr;cases hr
  cases h
theorem AF {d:Nat} {t:TypeId} {m k:Nat} {us:List Value} (h:flat P d t=alO m) (hs:pf P t m=alQ) (hk:k+m<=alN us) (Pc:(P.underlying t).isSome=alQ):
 (Go.part t ⟨us⟩ k).run P w= .ok (whole P t ((us.drop k).take m)) w:=by
 unfold whole;cases hr:iq P t with
 |true=>
  simp only [Go.part,ww,CI hr,ut,if_true,kW hs,AC]
  congr 2
  apply adC;simp [aeE]
 |false=>
  have h1:=Jg h hr;subst h1;simp only [Go.part,ww,CJ Pc hr,ut,ad6,if_false];have dV:k<(alN us):=by omega
  have:(⟨us⟩:Array Value)[k]? =alO us[k]:=by simp [dV]
  rw [this];simp [alJ,dV]
theorem HW {d:Nat} {t:TypeId} {n:Nat} (h:flat P d t=alO n):(P.underlying t).isSome=alQ:=by
 cases d with
 |zero=>cases h
 |succ d=>
  simp only [flat] at h;cases hu:P.underlying t with
  |none=>rw [hu] at h;cases h
  |some _=>rfl
theorem EY {d:Nat}: ∀{fs:List Field} {k n:Nat},fs.foldl (ji P d) (alO k)=alO n->k<=n
 | [],k,n,h=>by simp at h;omega
 |f::fs,k,n,h=>by
  rw [aej] at h;cases hs:ji P d (alO k) f with
  |none=>rw [hs,pW] at h;cases h
  |some k'=>
   rw [hs] at h;have:=EY h;unfold ji at hs;dsimp only at hs;split at hs
   · split at hs
     · split at hs
       · injection hs with hs;omega
       cases hs
     cases hs
   cases hs
theorem Jh: ∀(d:Nat) (t:TypeId) (n:Nat),flat P d t=alO n-> ∀(D:Nat),d<=D-> ∀(xs ys:List PV) (us vs:List Value) (b:Bool),fx im loc xs us->fx im loc ys vs->alN xs=n->alN ys=n->
 dK xs ys=alO b->(Op.equalIn D t (whole P t us) (whole P t vs)).run P w= .ok b w
 |0,t,n,h,_,_,_,_,_,_,_,_,_,_,_,_=>by cases h
 |d+1,t,n,h,0,hD,_,_,_,_,_,_,_,_,_,_=>by omega
 |d+1,t,n,h,D+1,hD,xs,ys,us,vs,b,hx,hy,hxn,hyn,he=>by
  have Wq:iq P t=alR->n=1-> ∃x y u v,xs=[x]/\ys=[y]/\us=[u]/\vs=[v]/\VR im loc x u/\VR im loc y v/\rh x y=alO b:=by
   intro hr h1;subst h1
   match xs,us,ys,vs,hx,hy,hxn,hyn,he with
   | [x],[u],[y],[v],.cons _ _ _ _ h1 _,.cons _ _ _ _ h2 _,_,_,he=>
    refine ⟨x,y,u,v,rfl,rfl,rfl,rfl,h1,h2,?_⟩;simp only [dK] at he;cases hc:rh x y with
    |none=>rw [hc] at he;cases he
    |some r=>rw [hc] at he;cases r<;>simpa using he
  simp only [flat] at h;split at h
  · rename_i k hu
    have hr:iq P t=alR:=by unfold iq;rw [hu]
    split at h
    · injection h with h
      obtain ⟨x,y,u,v,rfl,rfl,rfl,rfl,h1,h2,h3⟩:=Wq hr h.symm;simp only [whole,hr,ad6,if_false,alJ,afc,adz];unfold rh at h3;split at h3
      · split at h3
        · rename_i hk
          have:=fE.1 hk;subst this;injection h3 with h3;subst h3;rw [h1.gN,h2.gN];exact run_equalIn_int w D t _ _ _ _ hu
        cases h3
      cases h3
    cases h
  · rename_i fs hu
    have hr:iq P t=alQ:=by unfold iq;rw [hu]
    split at h
    · cases h
    rename_i cy
    have hf:P.fieldsOf t=fs:=by simp [Program.fieldsOf,hu]
    have cy:P.stoodInHeld t=alR:=by simpa using cy
    have hxl:=hx.ny;have hyl:=hy.ny;simp only [whole,hr,if_true];rw [run_equalIn_agg w D t _ _ (by rw [hf];exact hu) cy,hf];change (match fs.toList.foldl (ji P d) (alO 0) with|some n=>if pf P t n then alO n else alP|none=>alP)=alO n at h;cases hfo:fs.toList.foldl (ji P d) (alO 0) with
    |none=>rw [hfo] at h;cases h
    |some n'=>
     rw [hfo] at h;dsimp only at h;split at h
     · injection h with h
       subst h;have key: ∀(l:List Field) (k:Nat),l.foldl (ji P d) (alO k)=alO n'-> ∀(b':Bool),dK (xs.drop k) (ys.drop k)=alO b'->
        (Op.eqFields D ⟨us⟩ ⟨vs⟩ l).run P w= .ok b' w:=by
        intro l
        induction l with
        |nil=>intro k hk b' Bl;simp only [List.foldl_nil,rc] at hk;subst hk;rw [aet (by omega),aet (by omega)] at Bl;simp only [dK,rc] at Bl;subst Bl;simp [Op.eqFields]
        |cons f l ih=>
         intro k hk b' Bl;rw [aej] at hk;cases hs:ji P d (alO k) f with
         |none=>rw [hs,pW] at hk;cases hk
         |some k'=>
          rw [hs] at hk;have V8:=EY hk;unfold ji at hs;dsimp only at hs;split at hs
          · rename_i hc
            simp only [pp,beq_iff_eq,bne_iff_ne,ne_eq] at hc;split at hs
            · rename_i m hm
              split at hs
              · rename_i q9
                injection hs with hs;subst hs;have Pc:=HW hm;have e1:xs.drop k=(xs.drop k).take m++xs.drop (k+m):=by rw [<- alE,ak2]
                have e2:ys.drop k=(ys.drop k).take m++ys.drop (k+m):=by rw [<- alE,ak2]
                rw [e1,e2,yk _ _ _ _ (by simp;omega)] at Bl;have dW:f.name≠ "_" :=hc.2;simp only [Op.eqFields,ww,dW,ne_eq,not_false_eq_true,if_true,hc.1];rw [AF (w:=w) hm q9 (by omega) Pc];simp only [ut];rw [AF (w:=w) hm q9 (by omega) Pc];simp only [ut];cases hq:dK ((xs.drop k).take m) ((ys.drop k).take m) with
                |none=>rw [hq] at Bl;cases Bl
                |some r=>
                 have EZ:=Jh d f.type m hm D (by omega) _ _ _ _ r ((hx.drop k).take m) ((hy.drop k).take m) (by simp;omega) (by simp;omega) hq;rw [EZ];simp only [ut];rw [hq] at Bl;cases r with
                 |false=>simp only [rc] at Bl;subst Bl;simp
                 |true=>dsimp only at Bl;have:=ih (k+m) hk b' Bl;simpa using this
              cases hs
            cases hs
          cases hs
       exact key fs.toList 0 hfo b (by simpa using he)
     cases h
  cases h
end
end Go.Vm
/- Maps; copy and clear. -/
namespace Go.Vm
theorem VR.yl {im:Im} {loc:Loc} {x:PV} {v:Value} (h:valOf x=alO v):VR im loc x v:=by
 cases x with
 |agg cs=>
  simp only [valOf,v6] at h;obtain ⟨vs,Ji,rfl⟩:=h;refine .agg cs vs ?_
  induction cs generalizing vs with
  |nil=>simp at Ji;subst Ji;exact .nil
  |cons c cs ih=>rw [alF] at Ji;simp only [Option.bind_eq_bind,Option.bind_eq_some_iff,Option.pure_def,rc] at Ji;obtain ⟨v,hv,us,x4,rfl⟩:=Ji;exact .cons _ _ _ _ (.EP hv) (ih us x4)
 |_=>exact .EP h
theorem KX {im:Im} {loc:Loc} {x:PV} {v:Value} (h:VR im loc x v) (hp: ∀c∈x.cells,c.plain=alQ):valOf x=alO v:=by
 cases x with
 |agg cs=>
  obtain ⟨vs,rfl,hr⟩:=h.pV;simp only [valOf,v6];refine ⟨vs,?_,rfl⟩;simp only [PV.cells] at hp;clear h
  induction cs generalizing vs with
  |nil=>cases hr;rfl
  |cons c cs ih=>
   cases hr with
   |cons _ v _ us h1 h2=>rw [alF];simp [h1.plain (hp c (by simp)),ih (fun d hd=>hp d (by simp [hd])) us h2]
 |_=>exact h.plain (hp _ (by simp [PV.cells]))
section
variable {P : Program} {im : Im} {loc : Loc} {aD : cK} {fz : List Nat} {w : World}
theorem wI: ∀{xs ys:List PV} {us vs:List Value},dK xs ys=alO alQ->fx im loc xs us->fx im loc ys vs->us=vs/\ ∀u∈us,∃k n,u= .int k n
 | [],[],_,_,_,.nil,.nil=>⟨rfl,by simp⟩
 |x::xs,y::ys,_,_,h,.cons _ u _ us h1 h2,.cons _ v _ vs h3 h4=>by
  simp only [dK] at h;split at h
  · rename_i Wr
    obtain ⟨rfl,rU⟩:=wI h h2 h4;unfold rh at Wr;split at Wr
    · rename_i k a l b
      split at Wr
      · rename_i Sp
        have:=fE.1 Sp;subst this;have QK:a=b:=by simpa using Wr
        subst QK;rw [h1.gN,h3.gN];exact ⟨rfl,by
         intro u hu;rcases aei.1 hu with rfl|hu
         · exact ⟨_,_,rfl⟩
         exact rU u hu⟩
      cases Wr
    cases Wr
  · cases h
  cases h
 | [],_::_,_,_,h,_,_=>by simp [dK] at h
 |_::_,[],_,_,h,_,_=>by simp [dK] at h
theorem zW: ∀(us:List Value) (n:Nat),(∀u∈us,∃k m,u= .int k m)->(us.zip us).all (fun (x,y)=>Instr.sameBits n x y)=alQ
 | [],_,_=>rfl
 |u::us,n,h=>by obtain ⟨k,m,rfl⟩:=h u (by simp);simp only [List.zip_cons_cons,List.all_cons,pp];exact ⟨by cases n<;>simp [Instr.sameBits],zW us n fun u hu=>h u (by simp [hu])⟩
theorem kB {n:Option Nat} {x:PV} {u:Value} (h:jS n x=alQ) (hv:VR im loc x u):(n=alP/\ ∃k m,x= .int k m/\u= .int k m)\/(∃m cs us,n=alO m/\x= .agg cs/\alN cs=m/\u= .agg ⟨us⟩/\fx im loc cs us):=by
 unfold jS at h;split at h
 · exact .inl ⟨rfl,_,_,rfl,hv.gN⟩
 · rename_i m cs
   obtain ⟨us,rfl,hr⟩:=hv.pV;exact .inr ⟨m,cs,us,rfl,rfl,by simpa using h,rfl,hr⟩
 cases h
theorem SJ {n:Option Nat} {x y:PV} {u v:Value} (hx:jS n x=alQ) (hy:jS n y=alQ) (h:dK x.cells y.cells=alO alQ) (hu:VR im loc x u) (hv:VR im loc y v):
 u=v/\Instr.sameBits 10000 u u=alQ:=by
 rcases kB hx hu with ⟨rfl,k,m,rfl,rfl⟩|⟨m,cs,us,rfl,rfl,_,rfl,hr⟩
 · rcases kB hy hv with ⟨_,l,m',rfl,rfl⟩|⟨_,_,_,h',_⟩
   · obtain ⟨h1,_⟩:=wI (im:=im) (loc:=loc) h (.cons _ _ _ _ (.int k m) .nil) (.cons _ _ _ _ (.int l m') .nil)
     injection h1 with h1;exact ⟨h1,by simp [Instr.sameBits]⟩
   cases h'
 rcases kB hy hv with ⟨h',_⟩|⟨_,ds,vs,_,rfl,_,rfl,hs⟩
 · cases h'
 obtain ⟨rfl,h2⟩:=wI h hr hs
 refine ⟨rfl,?_⟩;simp only [Instr.sameBits,beq_self_eq_true,alG];exact zW us 9999 h2
theorem fV.get: ∀{es:List (PV×PV)} {lB:List MapEntry},fV es lB-> ∀{i:Nat} {p:PV×PV},es[i]? =alO p-> ∃e,lB[i]? =alO e/\valOf p.1=alO e.key/\valOf p.2=alO e.val
 |(k,v)::r,e::r',h,0,p,hp=>by simp at hp;subst hp;exact ⟨e,rfl,h.1,h.2.1⟩
 |(k,v)::r,e::r',h,i+1,p,hp=>by obtain ⟨e',h1,h2⟩:=fV.get h.2.2 (i:=i) (p:=p) (by simpa using hp);exact ⟨e',by simpa using h1,h2⟩
 | [],[],h,i,p,hp=>by simp at hp
 | [],_::_,h,_,_,_=>by simp [fV] at h
 |_::_,[],h,_,_,_=>by simp [fV] at h
theorem KY {q:IntKind} {k:PV} {u:Value} (hu:VR im loc k u) (hk:jS alP k=alQ): ∀{es:List (PV×PV)} {lB:List MapEntry} {i:Nat} {r:Option Nat},fV es lB->fN alP k es i=alO r->
 ∃r',Instr.findNow (.int q) u lB i=alO r'/\match r with|none=>r'=alP|some j=>i<=j/\ ∃p e,es[j-i]? =alO p/\lB[j-i]? =alO e/\r'=alO (j,e.val)/\jS alP p.1=alQ/\dK k.cells p.1.cells=alO alQ
 | [],[],i,r,_,h=>by simp only [fN,rc] at h;subst h;exact ⟨alP,rfl,rfl⟩
 |(a,v)::es,e::lB,i,r,hm,h=>by
  simp only [fN] at h;split at h
  case isFalse=>cases h
  rename_i hka;obtain ⟨h1,h2,h3⟩:=hm;obtain ⟨_,kk,kn,rfl,rfl⟩:_/\ ∃kk kn,k= .int kk kn/\u= .int kk kn:=by
   rcases kB hk hu with ⟨_,kk,kn,e1,e2⟩|⟨_,_,_,e1,_⟩
   · exact ⟨trivial,kk,kn,e1,e2⟩
   cases e1
  obtain ⟨ak,an,rfl,hae⟩: ∃ak an,a= .int ak an/\e.key= .int ak an:=by
   rcases kB (im:=im) (loc:=loc) hka (VR.yl h1) with ⟨_,kk,kn,e1,e2⟩|⟨_,_,_,e1,_⟩
   · exact ⟨kk,kn,e1,e2⟩
   cases e1
  simp only [PV.cells,dK,rh] at h;cases vI:fO kk ak with
  |false=>rw [vI] at h;simp at h
  |true=>
   have:=fE.1 vI;subst this;rw [vI] at h;simp only [if_true] at h;simp only [Instr.findNow,hae,Instr.sameNow,if_true];cases hb:(kn==an) with
   |true=>rw [hb] at h;simp only [rc] at h;subst h;refine ⟨_,rfl,Do _,(.int kk an,v),e,by simp,by simp,rfl,hka,?_⟩;simp [PV.cells,dK,rh,vI,hb]
   |false=>
    rw [hb] at h;simp only at h;obtain ⟨r',g1,g2⟩:=KY (q:=q) (k:= .int kk kn) (.int kk kn) hk h3 h;refine ⟨r',g1,?_⟩;cases r with
    |none=>exact g2
    |some j=>
     obtain ⟨q1,p,e',q2,q3,q4,q5,q6⟩:=g2;refine ⟨by omega,p,e',?_,?_,q4,q5,q6⟩
     · rw [show j-i=(j- (i+1))+1 by omega];simpa using q2
     rw [show j-i=(j- (i+1))+1 by omega];simpa using q3
 | [],_::_,i,r,hm,h=>by simp [fV] at hm
 |_::_,[],i,r,hm,h=>by simp [fV] at hm
theorem KZ {n:Nat} {kt:TypeId} (vH:iq P kt=alQ) (SF:flat P 100 kt=alO n) {k:PV} {u:Value} (hu:VR im loc k u) (hk:jS (alO n) k=alQ): ∀{es:List (PV×PV)} {lB:List MapEntry} {i:Nat} {r:Option Nat},fV es lB->fN (alO n) k es i=alO r->
 ∃r',(Instr.findAsking kt u lB i).run P w= .ok r' w/\match r with|none=>r'=alP|some j=>i<=j/\ ∃p e,es[j-i]? =alO p/\lB[j-i]? =alO e/\r'=alO (j,e.val)/\jS (alO n) p.1=alQ/\dK k.cells p.1.cells=alO alQ
 | [],[],i,r,_,h=>by simp only [fN,rc] at h;subst h;exact ⟨alP,rfl,rfl⟩
 |(a,v)::es,e::lB,i,r,hm,h=>by
  simp only [fN] at h;split at h
  case isFalse=>cases h
  rename_i hka;obtain ⟨h1,h2,h3⟩:=hm;have hva:VR im loc a e.key:=VR.yl h1;have heq: ∀b,dK k.cells a.cells=alO b->(Op.equal kt u e.key).run P w= .ok b w:=by
   intro b hb;rcases kB hk hu with ⟨h',_⟩|⟨m,cs,us,h',rfl,hl,rfl,hr⟩
   · cases h'
   injection h' with h';subst h'
   rcases kB hka hva with ⟨h',_⟩|⟨m,ds,vs,h',rfl,mU,he,hs⟩
   · cases h'
   injection h' with h';subst h'
   rw [he];have:=Jh (P:=P) (w:=w) 100 kt n SF Op.maxDepth (by decide) cs ds us vs b hr hs hl mU hb;simp only [whole,vH,if_true] at this;exact this
  cases hb:dK k.cells a.cells with
  |none=>rw [hb] at h;cases h
  |some b=>
   rw [hb] at h;have cB:=heq b hb;cases b with
   |true=>simp only [rc] at h;subst h;refine ⟨alO (i,e.val),by simp [Instr.findAsking,cB],Do _,(a,v),e,by simp,by simp,rfl,hka,hb⟩
   |false=>
    simp only at h;obtain ⟨r',g1,g2⟩:=KZ vH SF hu hk h3 h;refine ⟨r',by simp [Instr.findAsking,cB,g1],?_⟩;cases r with
    |none=>exact g2
    |some j=>
     obtain ⟨q1,p,e',q2,q3,q4,q5,q6⟩:=g2;refine ⟨by omega,p,e',?_,?_,q4,q5,q6⟩
     · rw [show j-i=(j- (i+1))+1 by omega];simpa using q2
     rw [show j-i=(j- (i+1))+1 by omega];simpa using q3
 | [],_::_,i,r,hm,h=>by simp [fV] at hm
 |_::_,[],i,r,hm,h=>by simp [fV] at hm
theorem E0: ∀(d:Nat) (t:TypeId) (n:Nat),flat P d t=alO n-> ∀(D:Nat),d<=D-> ∀(em:Bool) (xs:List PV) (us:List Value),fx im loc xs us->alN us=n->
 (Instr.checkKey em D t (whole P t us)).run P w= .ok () w
 |0,t,n,h,_,_,_,_,_,_,_=>by cases h
 |d+1,t,n,h,0,hD,_,_,_,_,_=>by omega
 |d+1,t,n,h,D+1,hD,em,xs,us,hx,hun=>by
  simp only [flat] at h;split at h
  · rename_i k hu
    have hr:iq P t=alR:=by unfold iq;rw [hu]
    split at h
    · injection h with h;subst h
      match us,xs,hx,hun with
      | [u],[x],.cons _ _ _ _ h1 _,_=>simp only [whole,hr,ad6,if_false,alJ,afc,adz,Instr.checkKey,ww,run_underlying hu,ut];cases u<;>simp
    cases h
  · rename_i fs hu
    have hr:iq P t=alQ:=by unfold iq;rw [hu]
    split at h
    · cases h
    change (match fs.toList.foldl (ji P d) (alO 0) with|some n=>if pf P t n then alO n else alP|none=>alP)=alO n at h
    cases hfo:fs.toList.foldl (ji P d) (alO 0) with
    |none=>rw [hfo] at h;cases h
    |some n'=>
     rw [hfo] at h;dsimp only at h;split at h
     · injection h with h;subst h
       simp only [whole,hr,if_true,Instr.checkKey,ww,run_underlying hu,ut];rw [<- Array.forIn_toList];have hk: ∃k,fs.toList.foldl (ji P d) (alO k)=alO n':=⟨0,hfo⟩;clear hfo;obtain ⟨k,hk⟩:=hk;generalize fs.toList=L at hk
       induction L generalizing k with
       |nil=>simp
       |cons f l ih=>
        rw [aej] at hk;cases hs:ji P d (alO k) f with
        |none=>rw [hs,pW] at hk;cases hk
        |some k'=>
         rw [hs] at hk;have V8:=EY hk;unfold ji at hs;dsimp only at hs;split at hs
         · rename_i hc
           simp only [pp,beq_iff_eq,bne_iff_ne,ne_eq] at hc;split at hs
           · rename_i m hm
             split at hs
             · rename_i q9
               injection hs with hs;subst hs;have p1:=AF (w:=w) (us:=us) hm q9 (k:=k) (by omega) (HW hm);have p2:=E0 d f.type m hm D (by omega) em ((xs.drop k).take m) ((us.drop k).take m) ((hx.drop k).take m) (by simp;omega);simp only [List.forIn_cons,ww,hc.2,ne_eq,not_false_eq_true,if_true,hc.1,p1,p2,ut,AC];exact ih _ hk
             cases hs
           cases hs
         cases hs
     cases h
  cases h
theorem QL {kt:TypeId} {q:IntKind} (hq:P.underlying kt=alO (.int q)) (em:Bool) (n:Nat) (k:IntKind) (m:Int):(Instr.checkKey em (n+1) kt (.int k m)).run P w= .ok () w:=by simp [Instr.checkKey,run_underlying hq]
theorem wJ {r:Nat} {es:Array MapEntry} {clock:Nat} (hb:w.heap[r]? =alO (.map es clock)):(getObj r).run P w= .ok (.map es clock) w:=by simp [getObj,Sem.run,hb]
theorem E2 {r:Nat} {es:Array MapEntry} {clock:Nat} (o:Obj) (hb:w.heap[r]? =alO (.map es clock)):(setObj r o).run P w= .ok () {w with heap:=w.heap.setIfInBounds r o}:=by simp [setObj,Sem.run,hb]
theorem K0 {kt:TypeId} {d:TypeDesc} {k:Value} {l:List MapEntry} {a:Option (Nat×Value)} (hd:P.underlying kt=alO d) (h:Instr.findNow d k l 0=alO a):(Instr.findKey kt k l).run P w= .ok a w:=by simp [Instr.findKey,run_underlying hd,h]
theorem DM {kt:TypeId} {n:Option Nat} (h:yc P kt n=alQ) {k:PV} {u:Value} (hu:VR im loc k u) (hk:jS n k=alQ) (em:Bool):(Instr.checkKey em 10000 kt u).run P w= .ok () w:=by
 rcases kB hk hu with ⟨rfl,kk,m,rfl,rfl⟩|⟨m,cs,us,rfl,rfl,hl,rfl,hr⟩
 · simp only [yc] at h
   split at h
   · rename_i q hq
     exact QL hq em 9999 kk m
   cases h
 simp only [yc,pp,beq_iff_eq] at h
 have:=E0 (P:=P) (w:=w) 100 kt m h.2 10000 (by decide) em cs us hr (by rw [<- hr.ny];exact hl);simp only [whole,h.1,if_true] at this;exact this
theorem E3 {kt:TypeId} {n:Option Nat} (h:yc P kt n=alQ) {k:PV} {u:Value} (hu:VR im loc k u) (hk:jS n k=alQ) {es:List (PV×PV)} {lB:List MapEntry} {r:Option Nat} (hm:fV es lB) (hf:fN n k es 0=alO r):
 ∃r',(Instr.findKey kt u lB).run P w= .ok r' w/\match r with|none=>r'=alP|some j=> ∃p e,es[j]? =alO p/\lB[j]? =alO e/\r'=alO (j,e.val)/\jS n p.1=alQ/\dK k.cells p.1.cells=alO alQ:=by
 cases n with
 |none=>
  simp only [yc] at h;split at h
  · rename_i q hq
    obtain ⟨r',h1,h2⟩:=KY (q:=q) hu hk hm hf;refine ⟨r',K0 hq h1,?_⟩;cases r with
    |none=>exact h2
    |some j=>exact h2.2
  cases h
 |some m=>
  simp only [yc,pp,beq_iff_eq] at h;obtain ⟨r',h1,h2⟩:=KZ (P:=P) (w:=w) h.1 h.2 hu hk hm hf;refine ⟨r',?_,?_⟩
  · rw [run_findKey_eq w ?_ u lB]
    · exact h1
    have:=h.1
    unfold iq at this
    revert this
    cases P.underlying kt with
    |none=>exact id
    |some d=>cases d<;>exact id
  cases r with
  |none=>exact h2
  |some j=>exact h2.2
theorem VR.SK {t:Nat} {v:Value} (h:VR im loc (.mp t) v): ∃li,loc t=alO li/\v= .map (alO li.dw):=by cases h with|mp _ li h=>exact ⟨li,h,rfl⟩
theorem Nn {t kt et:TypeId} {n:Option Nat} {zero m k:PV} {ok:Bool} {um uk:Value} {r:ov} (ht:P.underlying t=alO (.map kt et)) (hkt:yc P kt n=alQ)
 (hz: ∃i z,P.info? et=alO i/\i.zero=alO z/\VR im loc zero z) (hm:VR im loc m um) (hk:VR im loc k uk)
 (h:tV aD n zero ok m k=alO r) (hkn:jG im loc aD w r):
 ∃v,(Instr.lookup t um uk ok).run P w= .ok v w/\VR im loc r.v v/\r.news=[]/\r.wr=[]:=by
 unfold tV at h;cases m with
 |mp tk=>
  dsimp only at h;obtain ⟨li,hl,rfl⟩:=hm.SK;cases hs:aD[tk]? with
  |none=>rw [hs] at h;cases h
  |some b=>
   rw [hs] at h;cases b with
   |map es=>
    dsimp only at h;split at h
    case isFalse=>cases h
    rename_i QM;cases hf:fN n k es 0 with
    |none=>rw [hf] at h;cases h
    |some q=>
     rw [hf] at h;have Hq:tk∈r.rd:=by
      revert h
      cases q with
      |none=>intro h;simp only [rc] at h;subst h;simp
      |some j=>
       dsimp only;cases es[j]? with
       |none=>intro h;cases h
       |some p=>intro h;simp only [rc] at h;subst h;simp
     obtain ⟨b',K1,sS⟩:=hkn.tok tk (.inl Hq) li hl;rw [hs] at K1;injection K1 with K1;subst K1;obtain ⟨lB,clock,hw,vM⟩:=sS;obtain ⟨r',sR,Hu⟩:=E3 (P:=P) (w:=w) hkt hk QM vM hf;have V7:=DM (P:=P) (w:=w) hkt hk QM (lB.isEmpty);obtain ⟨i,z,hi,hiz,hvz⟩:=hz;have O':(zeroValue et).run P w= .ok z w:=by simp [zeroValue,typeInfo,hi,hiz]
     cases q with
     |none=>
      dsimp only at h Hu;subst Hu;injection h with h;subst h;refine ⟨if ok then .tuple #[z,.bool alR] else z,?_,?_,rfl,rfl⟩
      · simp only [Instr.lookup,ww,run_underlying ht,ut,wJ hw,AC,V7,sR,O']
      cases ok with
      |true=>exact .cj _ _ (.cons _ _ _ _ hvz (.cons _ _ _ _ (.bool alR) .nil))
      |false=>exact hvz
     |some j=>
      dsimp only at h Hu;obtain ⟨p,e,h1,h2,rfl,h4,h5⟩:=Hu;rw [h1] at h;simp only [rc] at h;subst h;obtain ⟨e',Cz,M6,hv2⟩:=fV.get vM h1;rw [h2] at Cz;injection Cz with Cz;subst Cz;refine ⟨if ok then .tuple #[e.val,.bool alQ] else e.val,?_,?_,rfl,rfl⟩
      · simp only [Instr.lookup,ww,run_underlying ht,ut,wJ hw,AC,V7,sR]
      cases ok with
      |true=>exact .cj _ _ (.cons _ _ _ _ (.yl hv2) (.cons _ _ _ _ (.bool alQ) .nil))
      |false=>exact .yl hv2
   |_=>cases h
 |_=>cases h
theorem fV.snoc: ∀{es:List (PV×PV)} {lB:List MapEntry} {p:PV×PV} {e:MapEntry},fV es lB->valOf p.1=alO e.key->valOf p.2=alO e.val->fV (es++[p]) (lB++[e])
 | [],[],p,e,_,h1,h2=>⟨h1,h2,trivial⟩
 |(k,v)::r,e::r',p,e',h,h1,h2=>⟨h.1,h.2.1,fV.snoc h.2.2 h1 h2⟩
 | [],_::_,_,_,h,_,_=>by simp [fV] at h
 |_::_,[],_,_,h,_,_=>by simp [fV] at h
theorem fV.set: ∀{es:List (PV×PV)} {lB:List MapEntry} {i:Nat} {p:PV×PV} {f:MapEntry->MapEntry},fV es lB->(∀e,valOf p.1=alO (f e).key/\valOf p.2=alO (f e).val)->fV (es.set i p) (lB.modify i f)
 | [],[],i,p,f,h,_=>by simp [fV]
 |(k,v)::r,e::r',0,p,f,h,h1=>⟨(h1 e).1,(h1 e).2,h.2.2⟩
 |(k,v)::r,e::r',i+1,p,f,h,h1=>by simp only [List.set_cons_succ,List.modify_succ_cons];exact ⟨h.1,h.2.1,fV.set h.2.2 h1⟩
 | [],_::_,_,_,_,h,_=>by simp [fV] at h
 |_::_,[],_,_,_,h,_=>by simp [fV] at h
theorem K2 {t kt et:TypeId} {n:Option Nat} {m k x:PV} {um uk ux:Value} {r:ov} (ht:P.underlying t=alO (.map kt et)) (hkt:yc P kt n=alQ)
 (hm:VR im loc m um) (hk:VR im loc k uk) (hx:VR im loc x ux)
 (h:DG aD fz n m k x=alO r) (hkn:jG im loc aD w r):
 ∃w',(Instr.mapUpdate t um uk ux).run P w= .ok () w'/\tY im loc aD w r im loc w'/\r.v= .undef:=by
 unfold DG at h;cases m with
 |mp tk=>
  dsimp only at h;obtain ⟨li,hl,rfl⟩:=hm.SK;cases hs:aD[tk]? with
  |none=>rw [hs] at h;cases h
  |some b=>
   rw [hs] at h;cases b with
   |map es=>
    dsimp only at h;split at h
    case isFalse=>cases h
    rename_i QM;simp only [pp,adA] at QM;obtain ⟨QM,hnf⟩:=QM;cases hkp:k.cM with
    |none=>rw [hkp] at h;cases h
    |some kc=>
     cases hxp:x.cM with
     |none=>rw [hkp,hxp] at h;cases h
     |some xc=>
      rw [hkp,hxp] at h;dsimp only at h;obtain ⟨_,aqr⟩:=nj hkp;obtain ⟨_,aqs⟩:=nj hxp;have vk:=KX hk aqr;have vx:=KX hx aqs;cases hf:fN n k es 0 with
      |none=>rw [hf] at h;cases h
      |some q=>
       rw [hf] at h;have hwr: ∃bb,r={v:= .undef,wr:=[(tk,bb)]}:=by
        revert h
        cases q with
        |none=>intro h;simp only [rc] at h;exact ⟨_,h.symm⟩
        |some j=>intro h;simp only [rc] at h;exact ⟨_,h.symm⟩
       obtain ⟨bb,hr⟩:=hwr;obtain ⟨b',K1,sS⟩:=hkn.tok tk (.inr ⟨bb,by rw [hr];simp⟩) li hl;rw [hs] at K1;injection K1 with K1;subst K1;obtain ⟨lB,clock,hw,vM⟩:=sS;obtain ⟨r',sR,Hu⟩:=E3 (P:=P) (w:=w) hkt hk QM vM hf;have V7:=DM (P:=P) (w:=w) hkt hk QM alR;have dV:=(If.1 hw).1;cases q with
       |none=>
        dsimp only at h Hu;subst Hu;injection h with h;refine ⟨{w with heap:=w.heap.setIfInBounds li.dw (.map (lB.push {key:=uk,val:=ux,born:=clock}) (clock+1))},?_,tY.write hkn (t:=tk) (k0:= .map es) (o:= .map (lB.push {key:=uk,val:=ux,born:=clock}) (clock+1)) (li:=li) (by rw [<- h]) (by rw [<- h]) hl hs rfl rfl rfl rfl rfl ?_,by rw [<- h]⟩
        · simp only [Instr.mapUpdate,ww,run_underlying ht,ut,wJ hw,V7,sR]
          exact E2 _ hw
        refine ⟨lB.push {key:=uk,val:=ux,born:=clock},clock+1,by simp [dV],?_⟩
        rw [Array.toList_push];exact vM.snoc vk vx
       |some j=>
        dsimp only at h Hu;obtain ⟨p,e,h1,h2,rfl,h4,h5⟩:=Hu;injection h with h;obtain ⟨e',Cz,M6,hv2⟩:=fV.get vM h1;rw [h2] at Cz;injection Cz with Cz;subst Cz;obtain ⟨SL,amk⟩:=SJ (im:=im) (loc:=loc) QM h4 h5 hk (.yl M6);have aml:((lB[j]?).map (·.key)).getD uk=uk:=by
         have:lB[j]? =alO e:=by simpa using h2
         rw [this];exact SL.symm
        refine ⟨{w with heap:=w.heap.setIfInBounds li.dw (.map (lB.modify j fun e=>{e with key:=uk,val:=ux}) clock)},?_,tY.write hkn (t:=tk) (k0:= .map es) (o:= .map (lB.modify j fun e=>{e with key:=uk,val:=ux}) clock) (li:=li) (by rw [<- h]) (by rw [<- h]) hl hs rfl rfl rfl rfl rfl ?_,by rw [<- h]⟩
        · simp only [Instr.mapUpdate,ww,run_underlying ht,ut,wJ hw,V7,sR,aml,Instr.keyThatStays,amk,if_true,AC]
          exact E2 _ hw
        refine ⟨lB.modify j fun e=>{e with key:=uk,val:=ux},clock,by simp [dV],?_⟩
        rw [Array.toList_modify];exact vM.set fun e=>⟨vk,vx⟩
   |_=>cases h
 |_=>cases h
theorem No {esz:Nat} {y:PV} {u:Value} {new:List Row} (hy:VR im loc y u) (hr:rowsOf aD esz y=alO new) (n:Nat) (hn:n<=alN new)
 (bL: ∀b o,im b=alO o->w.heap[b]? =alO o) (tok: ∀t,t∈jg y-> ∀li,loc t=alO li-> ∃k,aD[t]? =alO k/\BR im loc w li k):
 (Builtin.lenOf u).run P w= .ok (alN new) w/\(Builtin.firstCells esz n u).run P w= .ok ((new.take n).flatMap aW).toArray w/\(∀r∈new,alN r=esz)/\(∀r∈new,∀c∈r,c.plain=alQ):=by
 have SM: ∀(a:Option Addr) (l c:Nat),(Builtin.firstCells esz 0 (.slice a l c)).run P w= .ok #[] w:=by
  intro a l c;cases a with
  |none=>simp [Builtin.firstCells]
  |some a=>have:=run_loadCells_list (P:=P) w a [] (by simp);simpa [Builtin.firstCells] using this
 have get: ∀(rows:List Row) (b o l c:Nat) (g:Nat->Option Value),bU g o esz rows->(∀k v,g k=alO v->w.cell? ⟨b,k,alP⟩=alO v)->n<=alN rows->
  (Builtin.firstCells esz n (.slice (alO ⟨b,o,alP⟩) l c)).run P w= .ok ((rows.take n).flatMap aW).toArray w:=by
  intro rows b o l c g dm hg Hs;have h1:=dm.take n;have SF:=dP h1.oC;have:=run_loadCells_list (P:=P) w ⟨b,o,alP⟩ ((rows.take n).flatMap aW) (fun j v hj=>by rw [rj];exact hg _ _ (h1.flat j v hj));simp only [Builtin.firstCells];rw [show n*esz=((rows.take n).flatMap aW).length by rw [SF,afe,alt Hs]];exact this
 unfold rowsOf at hr;cases y with
 |sl e rf rows=>
  obtain ⟨a,cap,rfl,_,_,lQ⟩:=hy.oB;cases rows with
  |nil=>
   simp at hr;subst hr;have:n=0:=by simpa using hn
   subst this;exact ⟨rfl,by simpa using SM a 0 cap,by simp,by simp⟩
  |cons r rs=>
   dsimp only at hr;split at hr
   · rename_i he
     have he:e=esz:=by simpa using he
     subst he;injection hr with hr;subst hr;obtain ⟨b,o,rfl,dm⟩:=lQ (by simp);exact ⟨rfl,get (r::rs) b o _ cap _ dm (fun k v hk=>qz bL hk) hn,dm.oC,dm.plain⟩
   cases hr
 |own t e off len cap ex=>
  dsimp only at hr;split at hr
  · rename_i he
    have he:e=esz:=by simpa using he
    subst he;obtain ⟨li,a,dd,rfl,hl,h2,h3,h4,h5,h6,h7⟩:=hy.ir;obtain ⟨k,ij,hb⟩:=tok t (by simp [jg]) li hl;rw [ij] at hr;cases k with
    |arr e' rows=>
     simp only [rc] at hr;subst hr;obtain ⟨b1,b2,b3⟩:=hb;have c9:((rows.drop off).take len).length=len:=by simp;omega
     have Nb:e'=e:=by rw [<- b1,h2]
     subst Nb;rw [c9] at hn ⊢;cases rows with
     |nil=>
      have:len=0:=by simp at b2;omega
      subst this;have:n=0:=by omega
      subst this;exact ⟨rfl,by simpa using SM a 0 dd,by simp,by simp⟩
     |cons r rs=>
      obtain ⟨arr,el,ua,Jd,Ky,dm⟩:=b3 (by simp);have wG:=(dm.drop off).take len;refine ⟨rfl,?_,wG.oC,wG.plain⟩;rcases al1 n with h0|h0
      · subst h0;simpa using SM a len dd
      rcases h7 with h7|⟨h7,rfl,h9⟩
      · omega
      exact get _ li.dw (li.sh+off*e') len dd _ wG (fun k v hk=>lf ua hk) (by rw [c9];exact hn)
    |_=>cases hr
  cases hr
 |_=>cases hr
theorem K3 {esz:Nat} {t off len cap:Nat} {ex:Bool} {u:Value} {rows new:List Row} {r:ov} {d:List Nat} {v:PV} (hx:VR im loc (.own t esz off len cap ex) u) (hs:aD[t]? =alO (.arr esz rows)) (hn:new≠[]) (hl:(alN new)<=len)
 (KS: ∀r∈new,alN r=esz) (Ws: ∀r∈new,∀c∈r,c.plain=alQ) (hr:r={v:=v,wr:=[(t,.arr esz (lE off new rows))],rd:=d}) (hk:jG im loc aD w r):
 ∃b o c w',u= .slice (alO ⟨b,o,alP⟩) len c/\(storeCells ⟨b,o,alP⟩ (new.flatMap aW)).run P w= .ok () w'/\tY im loc aD w r im loc w':=by
 obtain ⟨li,a,dd,rfl,mU,he,CL,Ho,hex,hxk,Bu⟩:=hx.ir;obtain ⟨k,ij,hb⟩:=hk.tok t (.inr ⟨_,by rw [hr];simp;rfl⟩) li mU;rw [hs] at ij;injection ij with ij;subst ij;obtain ⟨b1,b2,b3⟩:=hb;have Hs:0<(alN new):=List.length_pos_iff.2 hn;have oF:rows≠[]:=by intro e;subst e;simp at b2;omega
 obtain ⟨arr,el,ua,Jd,Ky,dm⟩:=b3 oF;rcases Bu with h0|⟨_,rfl,rl⟩
 · omega
 have Ht:=dP KS
 have Hp:=PP esz (show off+alN new<=(alN rows) by omega);rw [NE] at Hp;have EV:li.sh+off*esz+(new.flatMap aW).length<=arr.size:=by rw [Ht];omega
 have cB:=run_storeCells_at P li.dw (li.sh+off*esz) el (new.flatMap aW) 0 arr w ua (by simpa using EV) (oD Ws);refine ⟨li.dw,li.sh+off*esz,dd,_,rfl,cB,?_⟩;refine tY.write hk (t:=t) (k0:= .arr esz rows) (li:=li) (by rw [hr]) (by rw [hr]) mU hs (by cases rows with|nil=>exact absurd rfl oF|cons _ _=>rfl) (bZ ua) rfl rfl rfl ?_;rw [yh _ _ _ (by omega)];refine ⟨b1,by rw [de _ _ _ (by omega)];exact b2,fun _=>⟨(arr.toList.take (li.sh+off*esz+0)++new.flatMap aW++arr.toList.drop (li.sh+off*esz+0+(new.flatMap aW).length)).toArray,el,?_,?_,?_,?_⟩⟩
 · rw [bZ ua]
   have dV:=(If.1 ua).1;simp [dV]
 · rw [<- Jd]
   have:=de (li.sh+off*esz) (new.flatMap aW) arr.toList (by simpa using EV);simp only [ni] at this;simpa using this
 · rw [de _ _ _ (by omega)];exact Ky
 refine dm.ni (by omega) KS Ws (fun k=>?_)
 have:=iu (li.sh+off*esz) (new.flatMap aW) arr.toList (by simpa using EV) k;simp only [ni] at this;simp only [adH,alK];rw [this,Ht];simp
end
end Go.Vm
/- Operation by operation: the theorem. -/
namespace Go.Vm
section
variable {P : Program} {im : Im} {loc : Loc} {aD : cK} {fz : List Nat} {w : World} {e : Env} {ρ : Operand -> Value}
theorem SN {esz:Nat} {x:PV} (h:vC esz x=alQ):(∀e c r,x= .sl e c r->r=[]\/e=esz)/\(∀tk e o l c ex,x= .own tk e o l c ex->e=esz):=by
 constructor
 · rintro e c r rfl
   simp only [vC,ak0,adG,al4] at h;exact h.symm
 rintro tk e o l c ex rfl
 simpa [vC] using h
theorem fk {x:Sem Value} {v:Value} (h:x.run P w= .ok v w):(do pure (Next.value (<- x)):Sem Next).run P w= .ok (.value v) w:=by simp only [ww,h,ut,AC]
theorem K4 {x y:fS} {l:List Operand} (h:fy [x,y] l=alQ): ∃a b,l=[a,b]/\bH x a=alQ/\bH y b=alQ:=by
 match l,h with
 | [],h=>simp [fy] at h
 | [_],h=>simp [fy] at h
 | [a,b],h=>simp only [fy,pp,alI] at h;exact ⟨a,b,rfl,h.1,h.2⟩
 |_::_::_::_,h=>simp [fy] at h
theorem K5 {x:fS} {l:List Operand} (h:fy [x] l=alQ): ∃a,l=[a]/\bH x a=alQ:=by
 match l,h with
 | [],h=>simp [fy] at h
 | [a],h=>simp only [fy,alI] at h;exact ⟨a,rfl,h⟩
 |_::_::_,h=>simp [fy] at h
theorem SP {prims:FuncId->Bool} {x:lA} {o:Oper} {r:ov} (hc:xJ P prims o.type x o.op=alQ) (o9: ∀y∈x.fH,∀o',bH y o'=alQ->VR im loc (y.ev e) (ρ o'))
 (h:bI e aD fz x=alO r) (hk:jG im loc aD w r):SI P ρ o im loc aD w r:=by
 unfold xJ at hc;split at hc
 case h_1 x o' fP=>injection h with h;subst h;exact .pure hk rfl rfl (by simp [execOp,fP]) (o9 x (by simp [lA.fH]) o' hc)
 case h_2 x o' fP=>injection h with h;subst h;exact .pure hk rfl rfl (by simp [execOp,fP]) (o9 x (by simp [lA.fH]) o' hc)
 case h_3 c a b d e' f fP=>
  simp only [pp] at hc;have h1:=o9 c (by simp [lA.fH]) d hc.1.1;simp only [bI] at h;split at h
  · rename_i hb;rw [hb] at h1;have h1:=h1.jU
    injection h with h;subst h;exact .pure hk rfl rfl (by simp [execOp,fP,h1,asBool]) (o9 a (by simp [lA.fH]) _ hc.1.2)
  · rename_i hb;rw [hb] at h1;have h1:=h1.jU
    injection h with h;subst h;exact .pure hk rfl rfl (by simp [execOp,fP,h1,asBool]) (o9 b (by simp [lA.fH]) _ hc.2)
  cases h
 case h_4 op x y op' t a b u fP=>simp only [pp,beq_iff_eq] at hc;obtain ⟨⟨rfl,h1⟩,h2⟩:=hc;simp only [bI,v6] at h;obtain ⟨z,hz,rfl⟩:=h;obtain ⟨v,cB,hv⟩:=Wl (P:=P) (w:=w) (t:=t) (a:=a) (b:=b) (o9 x (by simp [lA.fH]) a h1) (o9 y (by simp [lA.fH]) b h2) hz;exact .pure hk rfl rfl (by simp only [execOp,fP];exact fk cB) hv
 case h_5 neg x y op t a b u fP=>
  simp only [pp] at hc;obtain ⟨⟨⟨h0,ht⟩,h1⟩,h2⟩:=hc;have hx:=o9 x (by simp [lA.fH]) a h1;have hy:=o9 y (by simp [lA.fH]) b h2;simp only [bI] at h;split at h
  · rename_i p q hp hq
    rw [hp] at hx;rw [hq] at hy;injection h with h;subst h;have ho:op=if neg then .neq else .eql:=by cases neg<;>simpa using h0
    refine .pure (v:= .bool (if neg then !(p==q) else p==q)) hk rfl rfl ?_ (.bool _);simp only [execOp,fP,hx.jU,hy.jU];exact fk (Sy ho (Jf ht))
  cases h
 case h_6 n neg x y op t a b u fP=>
  simp only [pp,adA,beq_iff_eq] at hc;obtain ⟨⟨⟨⟨⟨h0,hr⟩,hn⟩,hg⟩,h1⟩,h2⟩:=hc;have hx:=o9 x (by simp [lA.fH]) a h1;have hy:=o9 y (by simp [lA.fH]) b h2;simp only [bI] at h;split at h
  · rename_i p q hp hq
    rw [hp] at hx;rw [hq] at hy;obtain ⟨us,hu1,hu2⟩:=hx.pV;obtain ⟨vs,M6,hv2⟩:=hy.pV;split at h
    case isFalse=>cases h
    rename_i c9;simp only [pp,adG] at c9;rw [v6] at h;obtain ⟨c,Nc,rfl⟩:=h;have ho:op=if neg then .neq else .eql:=by cases neg<;>simpa using h0
    have hq2:=Jh (P:=P) (w:=w) 100 t n hn 10000 (by omega) p q us vs c hu2 hv2 c9.1 c9.2 Nc;simp only [whole,hr,if_true] at hq2;refine .pure (v:= .bool (if neg then !c else c)) hk rfl rfl ?_ (.bool _);simp only [execOp,fP,hu1,M6];refine fk ?_;simp only [ww,run_eqGuard_agg w op t a b ⟨us⟩ ⟨vs⟩ hg,ut];cases neg with
    |true=>simp only [if_true] at ho ⊢;subst ho;rw [run_neq_struct,hq2];rfl
    |false=>simp only [ad6,if_false] at ho ⊢;subst ho;rw [run_eql_struct,hq2];rfl
  cases h
 case h_7 op x op' t a fP=>simp only [pp,beq_iff_eq] at hc;obtain ⟨rfl,h1⟩:=hc;simp only [bI,v6] at h;obtain ⟨z,hz,rfl⟩:=h;obtain ⟨v,cB,hv⟩:=aeB (P:=P) (w:=w) (o9 x (by simp [lA.fH]) a h1) hz;exact .pure hk rfl rfl (by simp only [execOp,fP];exact fk cB) hv
 case h_8 k x s d a fP=>
  simp only [pp] at hc;obtain ⟨⟨hs,hd⟩,h1⟩:=hc;have hx:=o9 x (by simp [lA.fH]) a h1;obtain ⟨ds,Wt⟩:=adK.1 hs;simp only [bI] at h;split at h
  · rename_i k' n hp
    rw [hp] at hx;injection h with h;subst h;split at hd
    · rename_i l hl
      have:=fE.1 hd;subst this;refine .pure hk rfl rfl ?_ (.int _ _);simp only [execOp,fP,hx.gN];exact fk (Sz Wt hl)
    cases hd
  cases h
 case h_9 x args argTypes fP=>
  simp only [pp] at hc;obtain ⟨ht,h1⟩:=hc;obtain ⟨a,ha,h1a⟩:=K5 h1;have lF:args= #[a]:=adC (by simpa using ha);subst lF;have hx:=o9 x (by simp [lA.fH]) a h1a;split at ht
  · rename_i t ht0
    unfold sP at ht;split at ht
    · rename_i el hu
      have cB: ∀{v:Value},(Builtin.len_ argTypes o.type #[ρ a]).run P w= .ok v w->(execOp ρ o).run P w= .ok (.value v) w:=by intro v hv;simp only [execOp,fP,resolve,ww,AC,ut,invoke,builtin];rw [show ael ρ #[a]= #[ρ a] by simp,hv];rfl
      simp only [bI] at h;split at h
      · rename_i e' c rows hp
        rw [hp] at hx;obtain ⟨ad,cap,hv,_⟩:=hx.oB;injection h with h;subst h;exact .pure hk rfl rfl (cB (by simp [Builtin.len_,ht0,run_underlying hu,hv,goInt])) (.int _ _)
      · rename_i tk e' off len cap ex hp
        rw [hp] at hx;obtain ⟨li,ad,dd,hv,_⟩:=hx.ir;injection h with h;subst h;exact .pure hk rfl rfl (cB (by simp [Builtin.len_,ht0,run_underlying hu,hv,goInt])) (.int _ _)
      cases h
    cases ht
  cases ht
 case h_10 n args argTypes fP=>
  simp only [pp] at hc;obtain ⟨h0,ht⟩:=hc;have dW:args.size≠0:=by intro hz;have:args= #[]:=Array.eq_empty_of_size_eq_zero hz;subst this;simp at h0
  have ha0:(ael ρ args)[0]? =alO (ρ args[0]):=by simp [show 0<args.size by omega]
  simp only [bI,rc] at h;subst h;have cB: ∀{v:Value},(Builtin.len_ argTypes o.type (ael ρ args)).run P w= .ok v w->(execOp ρ o).run P w= .ok (.value v) w:=by intro v hv;simp only [execOp,fP,resolve,ww,AC,ut,invoke,builtin,hv]
  refine .pure hk rfl rfl (cB ?_) (.int _ _);split at ht
  · rename_i t ht0
    split at ht
    · rename_i m el hu
      have hm:m=n:=by simpa using ht
      subst hm;simp only [Builtin.len_,ht0,ha0,ww,run_underlying hu,ut,goInt];cases ρ args[0]<;>rfl
    · rename_i el hu
      split at ht
      · rename_i m el2 hu2
        have hm:m=n:=by simpa using ht
        subst hm;simp only [Builtin.len_,ht0,ha0,ww,run_underlying hu,ut,goInt];cases ρ args[0]<;>simp [run_underlying hu2]
      cases ht
    cases ht
  cases ht
 case h_11 x el a fP=>
  have hx:=o9 x (by simp [lA.fH]) a hc;simp only [bI] at h;cases cy:(x.ev e).stored with
  |none=>rw [cy] at h;cases h
  |some cs=>rw [cy] at h;injection h with h;obtain ⟨rfl,Bs⟩:=AA cy;obtain ⟨bz,hv,he⟩:=ES (el:=el) (hx.cells Bs) h.symm hk;refine ⟨_,_,bz,?_,.inr ⟨_,rfl,hv⟩,he⟩;simp [execOp,fP,Instr.box,newVar,newRow]
 case h_12 cells t fP=>
  simp only [bI,rc] at h;unfold uT at hc;cases hi:P.info? t with
  |none=>rw [hi] at hc;cases hc
  |some i=>
   rw [hi] at hc;cases hz:i.zero with
   |none=>simp [hz] at hc
   |some z=>simp [hz] at hc;obtain ⟨bz,hv,he⟩:=ES (el:=t) (yd (im:=im) (loc:=loc) hc) h.symm hk;refine ⟨_,_,bz,?_,.inr ⟨_,rfl,hv⟩,he⟩;simp [execOp,fP,Instr.alloc,newVar,newRow,zeroValue,typeInfo,hi,hz]
 case h_13 zero parts t ps fP=>simp only [pp] at hc;obtain ⟨⟨⟨hz,_⟩,hp⟩,ot⟩:=hc;simp only [bI,v6] at h;obtain ⟨cs,nA,rfl⟩:=h;have vM:=Bx (im:=im) (loc:=loc) (e:=e) (ρ:=ρ) (fun y hy=>o9 y (by simpa [lA.fH] using hy)) hp;obtain ⟨v,cB,hv⟩:=QI (P:=P) (w:=w) (qs:=ps.map fun (i,x)=>(i,ρ x)) hz ot (by simpa using vM) nA;exact .pure hk rfl rfl (by simp only [execOp,fP];exact fk cB) hv
 case h_14 esz n zero parts t m ps fP=>
  simp only [pp,beq_iff_eq] at hc;obtain ⟨⟨⟨⟨rfl,ot⟩,lP⟩,Ng⟩,hp⟩:=hc;split at ot
  · rename_i el hu
    simp only [pp,beq_iff_eq,adA] at ot;obtain ⟨⟨⟨hs,hz⟩,hzl⟩,hnz⟩:=ot;simp only [bI,v6] at h;obtain ⟨rows,lQ,h⟩:=h;obtain ⟨i,z,hi,Je,c9,K6⟩:=EX hz Ng;have Ed:z.cells.size=esz:=by omega
    have dm:=CQ K6 c9 n;rw [Ed] at dm
    obtain ⟨M5,h1,h2,h3,h4⟩:=Bw (n:=n) (esz:=esz) (xK (im:=im) (loc:=loc) (e:=e) (ρ:=ρ) (fun y hy=>o9 y (by simpa [lA.fH] using hy)) hp) dm (by simp) (by simp) lQ;obtain ⟨bz,hv,he⟩:=DL (el:=el) h.symm hk h2 h3 h4 rfl (Do _);refine ⟨_,_,bz,?_,.inr ⟨_,rfl,hv⟩,he⟩;have O':(zeroValue el).run P w= .ok z w:=by simp [zeroValue,typeInfo,hi,Je]
    have lP:n*esz<=1048576:=by simpa using lP
    have aqu: ¬(n*esz>2^24):=by omega
    simp only [execOp,fP,Instr.buildSlice,ww,run_underlying hu,ut,kW hs,aqu,if_false]
    by_cases h0:n*esz=0
    · have Wp:n=0:=by
       rcases alB.1 h0 with h|h
       · exact h
       rw [h] at hnz;simp at hnz
      subst Wp;simp only [alL] at h1;simp only [alL,if_true,ww,AC,ut,afi];have e0:(ael (fun x=>(#[]:Array Value)[x%(#[]:Array Value).size]!) (aeK 0))=(ael (fun x=>z.cells[x%esz]!) (aeK 0)):=by simp
      rw [e0,h1];simp [newRow]
    simp only [h0,if_false,ww,O',ut,AC]
    simp only [Ed,afi,h1];simp [newRow]
  cases ot
 case h_15 agg p t a fP=>simp only [pp] at hc;have hx:=o9 p (by simp [lA.fH]) a hc.2;simp only [bI] at h;obtain ⟨v,cB,hv,hn,hw⟩:=KQ (P:=P) hx hc.1 h hk;exact .pure hk hn hw (by simp only [execOp,fP];exact fk cB) hv
 case h_16 sz p v t a b fP=>simp only [pp] at hc;simp only [bI] at h;obtain ⟨w',cB,xX,hu⟩:=QF (P:=P) (o9 p (by simp [lA.fH]) a hc.1.2) (o9 v (by simp [lA.fH]) b hc.2) hc.1.1 h hk;exact ⟨.skip,w',loc,by simp only [execOp,fP,ww,cB,ut,AC],.inl ⟨rfl,hu⟩,xX⟩
 case h_17 x a fP=>
  have hx:=o9 x (by simp [lA.fH]) a hc;simp only [bI] at h;split at h
  · rename_i t s r' o' hp
    rw [hp] at hx;injection h with h;subst h;obtain ⟨li,h1,h2,h3,hv⟩:=hx.ze;exact .pure hk rfl rfl (by simp only [execOp,fP,hv];rfl) (by rw [<- hv];exact hx)
  · rename_i c o' hp
    rw [hp] at hx;injection h with h;subst h;obtain ⟨b,o2,vs,h1,h2,hv⟩:=hx.yf;exact .pure hk rfl rfl (by simp only [execOp,fP,hv];rfl) (by rw [<- hv];exact hx)
  · rename_i f a' b' hp
    rw [hp] at hx;injection h with h;subst h;generalize hg:ρ a=g at hx;cases hx with
    |eO fn a b as bs ha hb=>exact .pure hk rfl rfl (by simp only [execOp,fP,hg];rfl) (.eO _ _ _ _ _ ha hb)
  cases h
 case h_18 off p t a f fP=>
  simp only [pp] at hc;obtain ⟨hc,h1⟩:=hc;have hx:=o9 p (by simp [lA.fH]) a h1;split at hc
  · rename_i fs hu
    split at hc
    · rename_i g hg
      simp only [pp,beq_iff_eq] at hc;obtain ⟨CL,hi⟩:=hc;cases aeG:P.info? g.type with
      |none=>rw [aeG] at hi;cases hi
      |some i=>
       rw [aeG] at hi;have hz:i.size≠0:=by simpa using hi
       simp only [bI] at h;have: ∃z,(match p.ev e with| .ptr t s r o=>alO (PV.ptr t s r (o+off))| .bO c o=>alO (PV.bO c (o+off))|_=>alP)=alO z/\r={v:=z}:=by
        revert h
        cases p.ev e<;>intro h<;>first|(injection h with h;exact ⟨_,rfl,h.symm⟩)|cases h
       obtain ⟨z,hz',rfl⟩:=this;obtain ⟨v,cB,hv⟩:=SC (P:=P) (w:=w) hx hu hg CL aeG hz hz';exact .pure hk rfl rfl (by simp only [execOp,fP];exact fk cB) hv
    cases hc
  cases hc
 case h_19 agg off x t a f fP=>
  simp only [pp] at hc;obtain ⟨hc,h1⟩:=hc;have hx:=o9 x (by simp [lA.fH]) a h1;split at hc
  · rename_i fs hu
    split at hc
    · rename_i g hg
      simp only [pp,beq_iff_eq] at hc;obtain ⟨CL,hag⟩:=hc;simp only [bI] at h;split at h
      · rename_i cs hp
        rw [hp] at hx;obtain ⟨vs,hv,pg⟩:=hx.pV;rw [v6] at h;obtain ⟨z,hz,rfl⟩:=h;rw [<- CL] at hz;obtain ⟨v,cB,Nf⟩:=KP (P:=P) (w:=w) hag pg hz;refine .pure hk rfl rfl ?_ Nf;simp only [execOp,fP];exact fk (by simp only [Instr.field,ww,run_underlying hu,ut,hg,hv,asAgg,AC,cB])
      cases h
    cases hc
  cases hc
 case h_20 esz x i t a j fP=>
  simp only [pp] at hc;obtain ⟨⟨hs,h1⟩,h2⟩:=hc;have hx:=o9 x (by simp [lA.fH]) a h1;have hi:=o9 i (by simp [lA.fH]) j h2;simp only [bI] at h;cases hn:kA (i.ev e) with
  |none=>rw [hn] at h;cases h
  |some n=>
   rw [hn] at h;dsimp only at h;obtain ⟨k,CA⟩:=pz hi hn;unfold zc at hs;split at hs
   · rename_i el hu
     have: ∃z,(match x.ev e with
      | .sl s _ rows=>match rows[n]? with
       |some cs=>if EQ s esz then alO (PV.bO cs 0) else alP
       |none=>alP
      | .own t s off len _ _=>if aem n len&&EQ s esz then alO (PV.ptr t s (off+n) 0) else alP
      |_=>alP)=alO z/\r={v:=z}:=by
      revert h
      cases x.ev e with
      |sl s c rows=>
       dsimp only;cases rows[n]? with
       |none=>intro h;cases h
       |some cs=>
        dsimp only;split
        · intro h;injection h with h;exact ⟨_,rfl,h.symm⟩
        intro h;cases h
      |own t s off len cap ex=>
       dsimp only;split
       · intro h;injection h with h;exact ⟨_,rfl,h.symm⟩
       intro h;cases h
      |_=>intro h;cases h
     obtain ⟨z,hz,rfl⟩:=this;obtain ⟨v,cB,hv⟩:=SD (P:=P) (w:=w) (k:=k) hx hu hs hz;exact .pure hk rfl rfl (by simp only [execOp,fP,CA];exact fk cB) hv
   cases hs
 case h_21 n esz p i t a j fP=>
  simp only [pp] at hc;obtain ⟨⟨hs,h1⟩,h2⟩:=hc;have hx:=o9 p (by simp [lA.fH]) a h1;have hi:=o9 i (by simp [lA.fH]) j h2;simp only [bI] at h;cases hn:kA (i.ev e) with
  |none=>rw [hn] at h;cases h
  |some m=>
   rw [hn] at h;dsimp only at h;split at h
   · rename_i dV
     have dV:m<n:=by simpa using dV
     obtain ⟨k,CA⟩:=pz hi hn;unfold O7 at hs;split at hs
     · rename_i m' el hu
       simp only [pp,beq_iff_eq] at hs;obtain ⟨rfl,hs⟩:=hs;have: ∃z,(match p.ev e with| .ptr t s r o=>alO (PV.ptr t s r (o+m*esz))| .bO c o=>alO (PV.bO c (o+m*esz))|_=>alP)=alO z/\r={v:=z}:=by
        revert h
        cases p.ev e<;>intro h<;>first|(injection h with h;exact ⟨_,rfl,h.symm⟩)|cases h
       obtain ⟨z,hz,rfl⟩:=this;obtain ⟨v,cB,hv⟩:=QD (P:=P) (w:=w) (k:=k) hx hu hs dV hz;exact .pure hk rfl rfl (by simp only [execOp,fP,CA];exact fk cB) hv
     cases hs
   cases h
 case h_22 n esz agg x i t a j fP=>
  simp only [pp] at hc;obtain ⟨⟨hs,h1⟩,h2⟩:=hc;have hx:=o9 x (by simp [lA.fH]) a h1;have hi:=o9 i (by simp [lA.fH]) j h2;simp only [bI] at h;cases hn:kA (i.ev e) with
  |none=>rw [hn] at h;cases h
  |some m=>
   rw [hn] at h;dsimp only at h;split at h
   · rename_i dV
     have dV:m<n:=by simpa using dV
     obtain ⟨k,CA⟩:=pz hi hn;split at hs
     · rename_i m' el hu
       simp only [pp,beq_iff_eq] at hs;obtain ⟨⟨rfl,hs⟩,hag⟩:=hs;split at h
       · rename_i cs hp
         rw [hp] at hx;obtain ⟨vs,hv,pg⟩:=hx.pV;rw [v6] at h;obtain ⟨z,hz,rfl⟩:=h;obtain ⟨v,cB,Nf⟩:=KP (P:=P) (w:=w) hag pg hz;refine .pure hk rfl rfl ?_ Nf;have aqw:(0:Int)<=(m:Int)/\(m:Int)<(m':Int):=by omega
         simp only [execOp,fP];exact fk (by simp only [Instr.index,CA,asIntOf,ww,AC,run_underlying hu,ut,hv,aqw,and_self,if_true,kW hs,aeS,cB])
       cases h
     cases hs
   cases h
 case h_23 x i t a j fP=>
  simp only [pp] at hc;obtain ⟨⟨hs,h1⟩,h2⟩:=hc;have hx:=o9 x (by simp [lA.fH]) a h1;have hi:=o9 i (by simp [lA.fH]) j h2;have hu:P.underlying t=alO .string:=by
   split at hs
   · assumption
   cases hs
  simp only [bI] at h;split at h
  · rename_i n s hn hp
    rw [hp] at hx;obtain ⟨k,CA⟩:=pz hi hn;split at h
    · rename_i b hb
      injection h with h;subst h;refine .pure hk rfl rfl ?_ (.int _ _);have h0:(0:Int)<=(n:Int):=by omega
      simp only [execOp,fP];exact fk (by simp only [Instr.index,CA,asIntOf,ww,AC,run_underlying hu,ut,hx.Es,h0,if_true,aeS,hb])
    cases h
  cases h
 case h_24 esz x l hh m t a b c d fP=>
  simp only [pp] at hc;obtain ⟨⟨⟨⟨⟨h0,hs⟩,h1⟩,h2⟩,h3⟩,h4⟩:=hc;have hx:=o9 x (by simp [lA.fH]) a h1;simp only [bI] at h;split at h
  · cases h
  rename_i he
  have he:vC esz (x.ev e)=alQ:=by simpa using he
  obtain ⟨Sn,DJ⟩:=SN he;split at h
  · rename_i lo hi mx QN hhi hmx
    rw [v6] at h;obtain ⟨z,hz,rfl⟩:=h;unfold zc at hs;split at hs
    · rename_i el hu
      have b1:=wH (im:=im) (loc:=loc) (e:=e) (ρ:=ρ) (fun y hy=>o9 y (by simp only [lA.fH,aei,adI];exact .inr (.inl (.inl hy)))) h2 QN;have b2:=wH (im:=im) (loc:=loc) (e:=e) (ρ:=ρ) (fun y hy=>o9 y (by simp only [lA.fH,aei,adI];exact .inr (.inl (.inr hy)))) h3 hhi;have b3:=wH (im:=im) (loc:=loc) (e:=e) (ρ:=ρ) (fun y hy=>o9 y (by simp only [lA.fH,aei,adI];exact .inr (.inr hy))) h4 hmx;have SQ:mx.isSome=alQ->hi.isSome=alQ:=by
       intro hmm;cases m with
       |none=>simp at hmx;subst hmx;cases hmm
       |some mo=>
        cases hh with
        |none=>simp at h0
        |some ho=>simp only [v6] at hhi;obtain ⟨q,_,rfl⟩:=hhi;rfl
      obtain ⟨v,cB,hv⟩:=QJ (P:=P) (w:=w) hx hu hs b1 b2 b3 SQ Sn DJ hz;exact .pure hk rfl rfl (by simp only [execOp,fP];exact fk cB) hv
    cases hs
  cases h
 case h_25 esz zero l c t a b fP=>
  simp only [pp] at hc;obtain ⟨⟨⟨ot,Ng⟩,h1⟩,h2⟩:=hc;have hx:=o9 l (by simp [lA.fH]) a h1;have hy:=o9 c (by simp [lA.fH]) b h2;split at ot
  · rename_i el hu
    simp only [pp,beq_iff_eq,adA] at ot;obtain ⟨⟨⟨⟨hs,hz⟩,hzl⟩,Nj⟩,hnz⟩:=ot;simp only [bI] at h;split at h
    · rename_i n m hn hm
      obtain ⟨k1,ij⟩:=pz hx hn;obtain ⟨k2,CA⟩:=pz hy hm;split at h
      · rename_i lP
        simp only [pp,ae8] at lP;injection h with h;obtain ⟨i,z,hi,Je,c9,K6⟩:=EX hz Ng;have Ed:z.cells.size=esz:=by omega
        have dm:=CQ K6 c9 m;rw [Ed] at dm
        have iM:m<=1048576:=by simpa [fa] using lP.2
        obtain ⟨bz,hv,he⟩:=DL (el:=el) h.symm hk dm (by simp) (by simp) rfl lP.1;refine ⟨_,_,bz,?_,.inr ⟨_,rfl,hv⟩,he⟩;have O':(zeroValue el).run P w= .ok z w:=by simp [zeroValue,typeInfo,hi,Je]
        have hti:(typeInfo el).run P w= .ok i w:=by simp [typeInfo,hi]
        have Sq:i.bytes<=1048576:=by unfold Ep at Nj;rw [hi] at Nj;simpa using Nj
        have hw1:IntKind.i64.wrap (n:Int)=n:=Er (by omega) (by omega);have Wu:IntKind.i64.wrap (m:Int)=m:=Er (by omega) (by omega);have au':i.bytes*m<=1099511627776:=by have:=alD Sq iM;omega
        have DK: ¬((i.bytes:Int)*(m:Int)>2^48):=by
         have:((i.bytes*m:Nat):Int)=(i.bytes:Int)*(m:Int):=by simp
         omega
        have Np:(sizeOf el).run P w= .ok esz w:=kW hs;simp only [execOp,fP,ij,CA,Instr.makeSlice,asInt,asIntOf,ww,run_underlying hu,ut,AC,hti,hw1,Wu];have Pd:((alS ((m:Int)<0)||alS ((i.bytes:Int)*(m:Int)>2^48))||alS ((n:Int)<0)||alS ((n:Int)>(m:Int)))=alR:=by simp only [Bool.or_eq_false_iff,decide_eq_false_iff_not];refine ⟨⟨⟨by omega,DK⟩,by omega⟩,by omega⟩
        rw [Pd];simp only [ad6,if_false,ww,run_askRoom,ut,Np,aeS]
        by_cases h0:m*esz=0
        · have hm0:m=0:=by
           rcases alB.1 h0 with h|h
           · exact h
           rw [h] at hnz;simp at hnz
          subst hm0;simp [newRow]
          congr 2
          apply Array.ext<;>simp
        simp only [h0,if_false,ww,O',ut,AC,Ed]
        simp [newRow]
      cases h
    cases h
  cases ot
 case h_26 fn a b g c d fP=>
  simp only [pp,beq_iff_eq] at hc;obtain ⟨⟨rfl,h1⟩,h2⟩:=hc;simp only [bI,rc] at h;subst h;have r1:=nR (im:=im) (loc:=loc) (e:=e) (ρ:=ρ) (fun y hy=>o9 y (by simp [lA.fH,hy])) h1;have r2:=nR (im:=im) (loc:=loc) (e:=e) (ρ:=ρ) (fun y hy=>o9 y (by simp [lA.fH,hy])) h2;refine .pure (v:= .func (.func fn) (c.map ρ) (d.map ρ)) hk rfl rfl (by simp only [execOp,fP];exact fk rfl) ?_;have:=VR.eO (im:=im) (loc:=loc) fn _ _ _ _ r1 r2;have e1:(⟨c.toList.map ρ⟩:Array Value)=c.map ρ:=adC (by simp);have e2:(⟨d.toList.map ρ⟩:Array Value)=d.map ρ:=adC (by simp);rw [e1,e2] at this;exact this
 case h_27 t fP=>
  simp only [bI,rc] at h
  let li:LI:=⟨w.heap.size,0,0,0,0⟩
  refine ⟨.value (.map (alO w.heap.size)),{w with heap:=w.heap.push (.map #[] 0)},loc.set (alN aD) li,?_,.inr ⟨_,rfl,?_⟩,?_⟩
  · simp [execOp,fP,Instr.makeMap]
  · subst h;exact .mp (alN aD) li (Loc.fo _ _ _)
  refine tY.new hk (k:= .map []) (o:= .map #[] 0) li (by rw [<- h]) (by rw [<- h]) rfl rfl rfl rfl rfl ⟨#[],0,by simp [li],trivial⟩
 case h_28 i x a j fP=>
  simp only [pp,beq_iff_eq] at hc;obtain ⟨rfl,h1⟩:=hc;have hx:=o9 x (by simp [lA.fH]) a h1;simp only [bI] at h;split at h
  · rename_i vs hp
    rw [hp] at hx;obtain ⟨us,hv,pg⟩:=hx.Br;rw [v6] at h;obtain ⟨z,hz,rfl⟩:=h;obtain ⟨u,hu,hur⟩:=pg.get i z hz;have CB:(⟨us⟩:Array Value)[i]? =alO u:=by simpa using hu
    exact .pure hk rfl rfl (by simp only [execOp,fP];exact fk (by simp [Instr.extract,hv,CB])) hur
  cases h
 case h_29 esz x y args argTypes fP=>
  simp only [pp] at hc;obtain ⟨ot,h1⟩:=hc;obtain ⟨a,b,QK,h1a,h1b⟩:=K4 h1;have lF:args= #[a,b]:=adC (by simpa using QK);subst lF;have hx:=o9 x (by simp [lA.fH]) a h1a;have hy:=o9 y (by simp [lA.fH]) b h1b;split at ot
  · rename_i t tx dm
    have E4:argTypes= #[t,tx]:=adC (by simpa using dm);subst E4;simp only [pp] at ot;obtain ⟨ot,V9⟩:=ot;unfold sP at V9;split at V9
    · rename_i e' htx
      split at ot
      · rename_i el hu
        simp only [pp] at ot;obtain ⟨⟨⟨hs,Nj⟩,hnz⟩,hz⟩:=ot;cases hi:P.info? el with
        |none=>rw [hi] at hz;cases hz
        |some i=>
         rw [hi] at hz;cases Je:i.zero with
         |none=>simp [Je] at hz
         |some z=>
          have KV:z.cells.size=esz:=by rw [alC,Je,alC] at hz;simpa using hz
          have q9:i.size=esz:=by unfold pf at hs;rw [hi] at hs;simpa using hs
          have Sq:i.bytes<=1048576:=by unfold Ep at Nj;rw [hi] at Nj;simpa using Nj
          simp only [bI] at h;obtain ⟨v',w',bz,cB,hv,xX⟩:=EU (P:=P) (ty:=o.type) hu htx hi q9 Je KV Sq hx hy h hk;refine ⟨.value v',w',bz,?_,.inr ⟨v',rfl,hv⟩,xX⟩;simp only [execOp,fP,resolve,ww,AC,ut,invoke,builtin];rw [show ael ρ #[a,b]= #[ρ a,ρ b] by simp,cB];rfl
      cases ot
    cases V9
  cases ot
 case h_30 n zero ok m k t a b ok' fP=>
  simp only [pp,beq_iff_eq] at hc;obtain ⟨⟨⟨rfl,ot⟩,h1⟩,h2⟩:=hc;have hm:=o9 m (by simp [lA.fH]) a h1;have vI:=o9 k (by simp [lA.fH]) b h2;split at ot
  · rename_i kt et ht
    simp only [pp] at ot;obtain ⟨hkt,hz⟩:=ot;have hz': ∃i z,P.info? et=alO i/\i.zero=alO z/\VR im loc zero z:=by
     cases hi:P.info? et with
     |none=>rw [hi] at hz;cases hz
     |some i=>
      cases Je:i.zero with
      |none=>rw [hi] at hz;simp [Je] at hz
      |some z=>rw [hi] at hz;simp [Je] at hz;exact ⟨i,z,rfl,Je,Jc hz⟩
    simp only [bI] at h;obtain ⟨v,cB,hv,hn,hw⟩:=Nn (P:=P) ht hkt hz' hm vI h hk;exact .pure hk hn hw (by simp only [execOp,fP];exact fk cB) hv
  cases ot
 case h_31 n m k v t a b c fP=>
  simp only [pp] at hc;obtain ⟨⟨⟨ot,h1⟩,h2⟩,h3⟩:=hc;split at ot
  · rename_i kt et ht
    simp only [bI] at h;obtain ⟨w',cB,xX,hu⟩:=K2 (P:=P) ht ot (o9 m (by simp [lA.fH]) a h1) (o9 k (by simp [lA.fH]) b h2) (o9 v (by simp [lA.fH]) c h3) h hk;exact ⟨.skip,w',loc,by simp only [execOp,fP,ww,cB,ut,AC],.inl ⟨rfl,hu⟩,xX⟩
  cases ot
 case h_32 esz x y args argTypes fP=>
  simp only [pp] at hc;obtain ⟨ot,h1⟩:=hc;obtain ⟨a,b,QK,h1a,h1b⟩:=K4 h1;have lF:args= #[a,b]:=adC (by simpa using QK);subst lF;have hx:=o9 x (by simp [lA.fH]) a h1a;have hy:=o9 y (by simp [lA.fH]) b h1b;split at ot
  · rename_i t tx dm
    have E4:argTypes= #[t,tx]:=adC (by simpa using dm);subst E4;simp only [pp] at ot;obtain ⟨V9,_⟩:=ot;unfold zc at V9;split at V9
    · rename_i el hu
      have QO: ∀{v:Value} {w':World},(Builtin.copy_ #[t,tx] o.type #[ρ a,ρ b]).run P w= .ok v w'->(execOp ρ o).run P w= .ok (.value v) w':=by intro v w' hv;simp only [execOp,fP,resolve,ww,AC,ut,invoke,builtin];rw [show ael ρ #[a,b]= #[ρ a,ρ b] by simp,hv];rfl
      simp only [bI] at h;split at h
      · rename_i src tk s off len cap ex Bm V'
        rw [V'] at hx;have aeH:Nat.min (alN src) len=min (alN src) len:=rfl;have Hq:r.rd=jg (y.ev e):=by
         split at h
         · injection h with h;rw [<- h]
         split at h
         · split at h
           · injection h with h;rw [<- h]
           cases h
         cases h
        obtain ⟨g1,g2,g3,g4⟩:=No (P:=P) (w:=w) hy Bm (min (alN src) len) (Nat.min_le_left _ _) hk.bL (fun t ht=>hk.tok t (.inl (by rw [Hq];exact ht)));have CR:(src.take (min (alN src) len))=src.take len:=by
         rcases Nat.le_total (alN src) len with h'|h'
         · rw [alt h',ajh (Do _),ajh h']
         rw [Nat.min_eq_right h']
        rw [CR] at g2;have Np:(sizeOf el).run P w= .ok esz w:=kW V9;split at h
        · rename_i Hv
          injection h with h;subst h;rw [Hv] at g2;have h0:min (alN src) len=0:=by have:=congrArg alM Hv;simp only [afe,ajj] at this;omega
          obtain ⟨li,ad,dd,hv,_⟩:=hx.ir;refine .pure (v:= .int .i64 0) hk rfl rfl (QO ?_) (.int _ _);have g2':(Builtin.firstCells esz 0 (ρ b)).run P w= .ok #[] w:=by rw [h0] at g2;simpa using g2
          simp only [Builtin.copy_,hv];cases ad with
          |none=>simp [run_underlying hu,g1,aeH,h0,Np,g2',goInt]
          |some ad=>simp [run_underlying hu,g1,aeH,h0,Np,g2',goInt,storeCells]
        rename_i r1 rs SS
        split at h
        · rename_i s' rows cy
          split at h
          · rename_i Nc
            simp only [pp,adG,adA] at Nc;obtain ⟨rfl,hnf⟩:=Nc;injection h with h;have Wm:s'=s:=by obtain ⟨li,ad,dd,hv,hl,he,_⟩:=hx.ir;obtain ⟨k,ij,hb⟩:=hk.tok tk (.inr ⟨_,by rw [<- h];simp;rfl⟩) li hl;rw [cy] at ij;injection ij with ij;subst ij;rw [<- hb.1,he]
            subst Wm;have wG: ∀q,q∈r1::rs->q∈src:=fun q hq=>by rw [<- SS] at hq;exact List.mem_of_mem_take hq
            have adM:min (alN src) len=alN rs+1:=by have:=congrArg alM SS;simp only [afe,adP] at this;omega
            rw [SS] at g2;obtain ⟨b',o',c',w',hv,cB,xX⟩:=K3 (P:=P) (new:=r1::rs) hx cy (by simp) (by simp;omega) (fun q hq=>g3 q (wG q hq)) (fun q hq=>g4 q (wG q hq)) h.symm hk;refine ⟨.value (.int .i64 (Int.ofNat (alN rs+1))),w',loc,QO ?_,.inr ⟨_,rfl,by rw [<- h];exact .int _ _⟩,xX⟩;rw [adM] at g2;simp only [Builtin.copy_,hv];simp [run_underlying hu,g1,aeH,adM,Np,g2,goInt,-adJ];rw [cB];rfl
          cases h
        cases h
      cases h
    cases V9
  cases ot
 case h_33 esz zero x args argTypes fP=>
  simp only [pp] at hc;obtain ⟨ot,h1⟩:=hc;obtain ⟨a,ha,h1a⟩:=K5 h1;have lF:args= #[a]:=adC (by simpa using ha);subst lF;have hx:=o9 x (by simp [lA.fH]) a h1a;split at ot
  · rename_i t dm
    have E4:argTypes= #[t]:=adC (by simpa using dm);subst E4;split at ot
    · rename_i el hu
      simp only [pp,beq_iff_eq] at ot;obtain ⟨⟨⟨hs,hz⟩,hzl⟩,Ng⟩:=ot;have QO: ∀{v:Value} {w':World},(Builtin.clear_ #[t] o.type #[ρ a]).run P w= .ok v w'->(execOp ρ o).run P w= .ok (.value v) w':=by intro v w' hv;simp only [execOp,fP,resolve,ww,AC,ut,invoke,builtin];rw [show ael ρ #[a]= #[ρ a] by simp,hv];rfl
      simp only [bI] at h;split at h
      · rename_i tk s off len cap ex V'
        rw [V'] at hx;split at h
        · injection h with h;subst h
          obtain ⟨li,ad,dd,hv,_⟩:=hx.ir;refine .pure (v:= .tuple #[]) hk rfl rfl (QO ?_) (.undef _);simp only [Builtin.clear_,hv];cases ad<;>simp [run_underlying hu]
        rename_i len
        split at h
        · rename_i s' rows cy
          split at h
          · rename_i Nc
            simp only [pp,adG,adA] at Nc;obtain ⟨rfl,hnf⟩:=Nc;injection h with h;have Wm:s'=s:=by obtain ⟨li,ad,dd,hv,hl,he,_⟩:=hx.ir;obtain ⟨k,ij,hb⟩:=hk.tok tk (.inr ⟨_,by rw [<- h];simp;rfl⟩) li hl;rw [cy] at ij;injection ij with ij;subst ij;rw [<- hb.1,he]
            subst Wm;obtain ⟨i,z,hi,Je,c9,K6⟩:=EX hz Ng;have KS: ∀q∈adF (len+1) zero,alN q=s':=fun q hq=>by rw [(al2.1 hq).2];exact hzl
            have Ws: ∀q∈adF (len+1) zero,∀c∈q,c.plain=alQ:=fun q hq c hc=>by rw [(al2.1 hq).2] at hc;exact al9.1 Ng c hc
            obtain ⟨b',o',c',w',hv,cB,xX⟩:=K3 (P:=P) (new:=adF (len+1) zero) hx cy (by simp) (by simp) KS Ws h.symm hk;refine ⟨.value (.tuple #[]),w',loc,QO ?_,.inr ⟨_,rfl,by rw [<- h];exact .undef _⟩,xX⟩;have O':(zeroValue el).run P w= .ok z w:=by simp [zeroValue,typeInfo,hi,Je]
            have hzc:(Builtin.zeroCells z.cells (len+1)).toList=(adF (len+1) zero).flatMap aW:=by
             have dm:=CQ K6 c9 (len+1);have SF:=dP KS;have q9:=yi z.cells (len+1);apply aeF;intro j;rcases acl j ((adF (len+1) zero).flatMap aW).length with hj|hj
             · have hfj:=dm.flat j _ (M2 hj)
               rw [M2 hj,<- hfj];simp only [Builtin.zeroCells,ajg,Array.getElem?_toList]
             rw [IR hj,IR]
             simp only [adN,q9];rw [SF] at hj;simp only [List.length_replicate] at hj;rw [<- c9,hzl];exact hj
            simp only [Builtin.clear_,hv];simp [run_underlying hu,O',hzc,-adJ];rw [cB];rfl
          cases h
        cases h
      · rename_i e1 c1 V'
        rw [V'] at hx;injection h with h;subst h;obtain ⟨ad,dd,hv,_⟩:=hx.oB;refine .pure (v:= .tuple #[]) hk rfl rfl (QO ?_) (.undef _);simp only [Builtin.clear_,hv];cases ad<;>simp [run_underlying hu]
      cases h
    cases ot
  cases ot
 case h_34 isMax x xs b args Wa fP=>
  simp only [pp] at hc;obtain ⟨hb,h1⟩:=hc;simp only [bI] at h;have vM:=nR (im:=im) (loc:=loc) (e:=e) (ρ:=ρ) (fun y hy=>o9 y (by simpa [lA.fH] using hy)) h1;split at h
  · rename_i k a hp
    rw [v6] at h;obtain ⟨z,hz,rfl⟩:=h;have hU:EH e (x::xs)= .int k a::EH e xs:=by simp [EH,hp]
    rw [hU] at vM;generalize hl:args.toList.map ρ=l at vM;cases vM with
    |cons _ u _ us h1 h2=>
     obtain rfl:=h1.gN;obtain ⟨c,rfl,cB⟩:=Pa (P:=P) (w:=w) (isMax:=isMax) h2 hz;refine .pure hk rfl rfl ?_ (.int k c);have mU:(args.map ρ).toList= .int k a::us:=by simpa using hl
     have Sq:b=if isMax then .max else .min:=by cases isMax<;>simpa using hb
     subst Sq;cases isMax with
     |true=>simp only [if_true] at fP cB;simp only [execOp,fP,resolve,ww,AC,ut,invoke,builtin,Builtin.max_,mU,cB]
     |false=>simp only [ad6,if_false] at fP cB;simp only [execOp,fP,resolve,ww,AC,ut,invoke,builtin,Builtin.min_,mU,cB]
  cases h
 case h_37 x y t m ps fP=>
  simp only [pp,beq_iff_eq] at hc;obtain ⟨⟨rfl,ot⟩,hp⟩:=hc;split at ot
  · rename_i el hu
    simp only [pp] at ot;obtain ⟨hs,hz⟩:=ot;split at hp
    · rename_i i a j b hps
      simp only [pp,beq_iff_eq] at hp;obtain ⟨⟨⟨rfl,rfl⟩,h1⟩,h2⟩:=hp;simp only [bI] at h;split at h
      · rename_i Bs
        simp only [pp] at Bs;injection h with h;have hx:=o9 x (by simp [lA.fH]) a h1;have hy:=o9 y (by simp [lA.fH]) b h2;obtain ⟨bz,hv,he⟩:=KR (el:=el) hx hy h.symm hk;refine ⟨_,_,bz,?_,.inr ⟨_,rfl,hv⟩,he⟩;have Je: ∃i z,P.info? el=alO i/\i.zero=alO z/\z.cells.size=1:=by
         cases hi:P.info? el with
         |none=>rw [hi] at hz;cases hz
         |some i=>
          cases hq:i.zero with
          |none=>rw [hi] at hz;simp [hq] at hz
          |some z=>rw [hi] at hz;simp [hq] at hz;exact ⟨i,z,rfl,hq,hz⟩
        obtain ⟨i,z,hi,hq,q9⟩:=Je;have O':(zeroValue el).run P w= .ok z w:=by simp [zeroValue,typeInfo,hi,hq]
        have c1:(ρ a).cells= #[ρ a]:=by obtain ⟨q1,q2⟩:=hx.Jb Bs.1;cases M6:ρ a<;>first|rfl|exact absurd M6 (q1 _)|exact absurd M6 (q2 _)
        have c2:(ρ b).cells= #[ρ b]:=by obtain ⟨q1,q2⟩:=hy.Jb Bs.2;cases M6:ρ b<;>first|rfl|exact absurd M6 (q1 _)|exact absurd M6 (q2 _)
        have fl: ∀q:Value,Instr.fill (fun i=>alO (i*1,1)) #[q,q] [(0,ρ a),(1,ρ b)]=alO #[ρ a,ρ b]:=fun q=>by
         have s1:(⟨ni (0*1) (ρ a).cells.toList (#[q,q]:Array Value).toList⟩:Array Value)= #[ρ a,q]:=by rw [c1];rfl
         have s2:(⟨ni (1*1) (ρ b).cells.toList (#[ρ a,q]:Array Value).toList⟩:Array Value)= #[ρ a,ρ b]:=by rw [c2];rfl
         rw [zf (place:=fun i=>alO (i*1,1)) rfl (by rw [c1];rfl) (by simp),s1,zf (place:=fun i=>alO (i*1,1)) rfl (by rw [c2];rfl) (by simp),s2];rfl
        simp only [execOp,fP,Instr.buildSlice,ww,run_underlying hu,ut,kW hs];have e0:(ael (fun x=>z.cells[x%z.cells.size]!) (aeK (2*1)))= #[z.cells[0]!,z.cells[0]!]:=by rw [q9,show aeK (2*1)= #[0,1] from by decide];simp [Nat.mod_one]
        have big: ¬(2*1>2^24):=by decide
        have nz: ¬(2*1=0):=by decide
        have ml:(ps.map fun (i,x)=>(i,ρ x)).toList=[(0,ρ a),(1,ρ b)]:=by rw [afi,hps];rfl
        simp only [big,nz,if_false,ww,O',ut,AC];rw [e0,ml,fl];simp [newRow]
      cases h
    cases hp
  cases ot
 case h_38 n m k v t a b c fP=>
  simp only [pp] at hc;obtain ⟨⟨⟨ot,h1⟩,h2⟩,h3⟩:=hc;split at ot
  · rename_i kt et ht
    simp only [bI] at h;obtain ⟨w',cB,xX,hu⟩:=K2 (P:=P) ht ot (o9 m (by simp [lA.fH]) a h1) (o9 k (by simp [lA.fH]) b h2) (o9 v (by simp [lA.fH]) c h3) h hk;exact ⟨.skip,w',loc,by simp only [execOp,fP,ww,cB,ut,AC],.inl ⟨rfl,hu⟩,xX⟩
  cases ot
 all_goals first|(simp only [bI] at h;cases h;done)|(simp at hc;done)
end
end Go.Vm
/- What goes over the border of a pure call, and what comes back. -/
namespace Go.Vm
def gz:Loc:=fun _=>alP
def grow (im:Im) (w:World) (bs:List Nat):Im:=fun b=>match im b with
 |some o=>alO o
 |none=>if bs.contains b then w.heap[b]? else alP
theorem Jj (im:Im) (w:World) (bs:List Nat):oA im (grow im w bs):=fun b o h=>by unfold grow;rw [h]
theorem Pe {im:Im} {w:World} {bs:List Nat} (h: ∀b o,im b=alO o->w.heap[b]? =alO o): ∀b o,grow im w bs b=alO o->w.heap[b]? =alO o:=by
 intro b o hb;unfold grow at hb;split at hb
 · rename_i o' ho;injection hb with hb;subst hb;exact h b _ ho
 split at hb
 · exact hb
 cases hb
theorem Wv {im:Im} {w:World} {bs:List Nat} (h: ∀b o,im b=alO o->w.heap[b]? =alO o) {b:Nat} (hb:b∈bs):grow im w bs b=w.heap[b]?:=by
 unfold grow;split
 · rename_i o ho;exact (h b o ho).symm
 rw [ls (by simpa using hb)]
theorem SU {im:Im} {w:World} {bs:List Nat} {b:Nat} {o:Obj} (h:grow im w bs b=alO o):im b=alO o\/b∈bs:=by
 unfold grow at h;split at h
 · rename_i o' ho;injection h with h;subst h;exact .inl ho
 split at h
 · rename_i hc;exact .inr (by simpa using hc)
 cases h
def AG (loc:Loc) (aD:cK) (tk:List Nat):List Nat:=tk.filterMap fun t=>if (aD[t]?).any ky.bS then (loc t).map (·.dw) else alP
theorem AH {loc:Loc} {aD:cK} {tk:List Nat} {b:Nat}:b∈AG loc aD tk↔ ∃t li k,t∈tk/\loc t=alO li/\aD[t]? =alO k/\k.bS=alQ/\li.dw=b:=by
 unfold AG;rw [List.mem_filterMap];constructor
 · rintro ⟨t,ht,h⟩
   split at h
   · rename_i hs
     rw [v6] at h;obtain ⟨li,hl,rfl⟩:=h;cases hk:aD[t]? with
     |none=>rw [hk] at hs;cases hs
     |some k=>rw [hk] at hs;exact ⟨t,li,k,ht,hl,hk,hs,rfl⟩
   cases h
 rintro ⟨t,li,k,ht,hl,hk,hs,rfl⟩
 exact ⟨t,ht,by rw [hk,hl];simp [hs]⟩
theorem nS {e:Nat} {rows:List Row} (h:rows≠[]):(ky.arr e rows).bS=alQ:=by
 cases rows with
 |nil=>exact absurd rfl h
 |cons _ _=>rfl
section
variable {im eN : Im} {loc : Loc} {aD : cK} {w : World}
def Over (im eN:Im) (loc:Loc) (aD:cK) (w:World) (t:Nat):Prop:=
 ∀li,loc t=alO li-> ∃k,aD[t]? =alO k/\BR im loc w li k/\(k.bS=alQ->eN li.dw=w.heap[li.dw]?)
def aeI (eN:Im) (loc:Loc) (bx:Nat->Option (List PV)) (t:Nat):Prop:=
 ∀li cs,loc t=alO li->bx t=alO cs-> ∃vs,fx eN gz cs vs/\ ∀(j:Nat) (v:Value),vs[j]? =alO v->oz eN li.dw (li.sh+j)=alO v
theorem zg {b o:Nat} {cs:Array Value} {el:TypeId} {fr:Nat×Nat} (h:im b=alO (.cells cs el fr)):oz im b o=cs[o]?:=by unfold oz;rw [h]
theorem bU.K7 {get:Nat->Option Value} {sh esz off len:Nat} {rows:List Row} (h:bU get sh esz rows):bU get (sh+off*esz) esz ((rows.drop off).take len):=(h.drop off).take len
mutual
theorem aeJ (hi:oA im eN) {bx:Nat->Option (List PV)} {tb:Nat->List Nat} (hb: ∀t,(∀u,u∈tb t->Over im eN loc aD w u)->Over im eN loc aD w t->aeI eN loc bx t):
 ∀{x y:PV} {v:Value},(∀t,t∈jv tb x->Over im eN loc aD w t)->VR im loc x v->CE aD bx x=alO y->VR eN gz y v
 | .undef,y,v,_,_,h=>by simp [CE] at h
 | .jR,y,v,_,_,h=>by simp [CE] at h
 | .int k n,y,v,_,hv,h=>by simp only [CE,rc] at h;subst h;rw [hv.gN];exact .int _ _
 | .bool b,y,v,_,hv,h=>by simp only [CE,rc] at h;subst h;rw [hv.jU];exact .bool _
 | .str b,y,v,_,hv,h=>by simp only [CE,rc] at h;subst h;rw [hv.Es];exact .str _
 | .agg cs,y,v,ht,hv,h=>by simp only [CE,v6] at h;obtain ⟨ys,SW,rfl⟩:=h;obtain ⟨vs,rfl,pg⟩:=hv.pV;exact .agg _ _ (ym hi hb (fun t h=>ht t (by simpa [jv] using h)) pg SW)
 | .cj cs,y,v,ht,hv,h=>by simp only [CE,v6] at h;obtain ⟨ys,SW,rfl⟩:=h;obtain ⟨vs,rfl,pg⟩:=hv.Br;exact .cj _ _ (ym hi hb (fun t h=>ht t (by simpa [jv] using h)) pg SW)
 | .sl e c rows,y,v,_,hv,h=>by simp only [CE,rc] at h;subst h;obtain ⟨a,cap,rfl,h1,h2,h3⟩:=hv.oB;exact .sl e alR rows a cap h1 (by simp) fun dW=>let ⟨b,o,ha,hr⟩:=h3 dW;⟨b,o,ha,hr.mono fun _ _ e=>hi.cell e⟩
 | .own t e off len cap ex,y,v,ht,hv,h=>by
  obtain ⟨li,a,dd,rfl,hl,h2,h3,h4,h5,h6,h7⟩:=hv.ir;obtain ⟨k,hk,sS,Ww⟩:=ht t (by simp [jv]) li hl;simp only [CE,hk] at h;cases k with
  |arr e' rows=>
   simp only [rc] at h;subst h;obtain ⟨b1,b2,b3⟩:=sS;have c9:((rows.drop off).take len).length=len:=by simp;omega
   have he:e'=e:=by rw [<- b1,h2]
   subst he;have:=VR.sl (im:=eN) (loc:=gz) e' alR ((rows.drop off).take len) a dd (by omega) (by simp) (fun dW=>by
    have oF:rows≠[]:=by intro e;subst e;simp at dW
    obtain ⟨arr,el,ua,Jd,Ky,dm⟩:=b3 oF;rcases h7 with h7|⟨_,rfl,_⟩
    · exfalso;apply dW;apply afn.1;omega
    refine ⟨_,_,rfl,dm.K7.mono fun k v hkv=>?_⟩
    rw [zg (by rw [Ww (nS oF)];exact ua)];exact hkv)
   rwa [c9] at this
  |_=>cases h
 | .ptr t e row off,y,v,ht,hv,h=>by
  obtain ⟨li,hl,he,hn,rfl⟩:=hv.ze;obtain ⟨k,hk,sS,Ww⟩:=ht t (by simp [jv]) li hl;simp only [CE,hk] at h;cases k with
  |arr e' rows=>
   simp only [v6] at h;obtain ⟨r,hr,rfl⟩:=h;obtain ⟨b1,b2,b3⟩:=sS;have oF:rows≠[]:=by intro e;subst e;simp at hr
   obtain ⟨arr,el,ua,Jd,Ky,dm⟩:=b3 oF;have Nb:e'=e:=by rw [<- b1,he]
   subst Nb;obtain ⟨h1,h2⟩:=tZ (im:=eN) (loc:=gz) dm hr;exact .bO r off li.dw (li.sh+row*e') _ h1 fun j v hj=>by rw [zg (by rw [Ww (nS oF)];exact ua)];exact h2 j v hj
  |box cs=>
   dsimp only at h;split at h
   · rename_i vH
     have vH:row=0:=by simpa using vH
     subst vH;rw [v6] at h;obtain ⟨ys,SW,rfl⟩:=h;obtain ⟨vs,h1,h2⟩:=hb t (fun u hu=>ht u (by simp [jv,hu])) (ht t (by simp [jv])) li ys hl SW;exact .bO ys off li.dw (li.sh+0*e) vs h1 fun j v hj=>by simpa using h2 j v hj
   cases h
  |_=>cases h
 | .bO cs off,y,v,ht,hv,h=>by simp only [CE,v6] at h;obtain ⟨ys,SW,rfl⟩:=h;obtain ⟨b,o,vs,h1,h2,rfl⟩:=hv.yf;exact .bO ys off b o vs (ym hi hb (fun t h=>ht t (by simpa [jv] using h)) h1 SW) fun j v hj=>hi.cell (h2 j v hj)
 | .mp t,y,v,_,_,h=>by simp [CE] at h
 | .eO fn a b,y,v,ht,hv,h=>by
  simp only [CE] at h;cases ha:CF aD bx a with
  |none=>rw [ha] at h;cases h
  |some a'=>
   cases Bl:CF aD bx b with
   |none=>rw [ha,Bl] at h;cases h
   |some b'=>
    rw [ha,Bl] at h;simp only [rc] at h;subst h;cases hv with
    |eO _ _ _ as bs h1 h2=>exact .eO fn a' b' as bs (ym hi hb (fun t h=>ht t (by simp [jv,h])) h1 ha) (ym hi hb (fun t h=>ht t (by simp [jv,h])) h2 Bl)
 | .eg,y,v,_,hv,h=>by simp only [CE,rc] at h;subst h;cases hv;exact .eg
theorem ym (hi:oA im eN) {bx:Nat->Option (List PV)} {tb:Nat->List Nat} (hb: ∀t,(∀u,u∈tb t->Over im eN loc aD w u)->Over im eN loc aD w t->aeI eN loc bx t):
 ∀{x y:List PV} {v:List Value},(∀t,t∈dL tb x->Over im eN loc aD w t)->fx im loc x v->CF aD bx x=alO y->fx eN gz y v
 | [],y,v,_,hv,h=>by simp only [CF,rc] at h;subst h;cases hv;exact .nil
 |x::xs,y,v,ht,hv,h=>by
  simp only [CF] at h;cases hx:CE aD bx x with
  |none=>rw [hx] at h;cases h
  |some x'=>
   cases QG:CF aD bx xs with
   |none=>rw [hx,QG] at h;cases h
   |some xs'=>
    rw [hx,QG] at h;simp only [rc] at h;subst h;cases hv with
    |cons _ u _ us h1 h2=>exact .cons _ _ _ _ (aeJ hi hb (fun t h=>ht t (by simp [dL,h])) h1 hx) (ym hi hb (fun t h=>ht t (by simp [dL,h])) h2 QG)
end
theorem Pf (hi:oA im eN): ∀(n:Nat) (t:Nat),(∀u,u∈dA aD n t->Over im eN loc aD w u)->Over im eN loc aD w t->aeI eN loc (x9 aD n) t
 |0,t,_,_=>by intro li cs _ h;cases h
 |n+1,t,ht,hto=>by
  intro li cs hl h;obtain ⟨k,hk,sS,Ww⟩:=hto li hl;simp only [x9,hk] at h;cases k with
  |box cells=>dsimp only at h;obtain ⟨b1,b2,b3,vs,el,h4,h5,h6⟩:=sS;refine ⟨vs,ym hi (fun t'=>Pf hi n t') (tb:=dA aD n) (fun u hu=>ht u (by simp [dA,hk,hu])) h6 h,fun j v hj=>?_⟩;rw [zg (by rw [Ww rfl];exact h4),b3];simpa using hj
  |_=>cases h
end
end Go.Vm
/- A pure call: what comes back. -/
namespace Go.Vm
section
variable {im eN : Im} {loc bz : Loc} {aD : cK} {w : World}
mutual
theorem K8: ∀{x:PV} {v:Value},x.kU=alQ->VR im loc x v->VR eN bz x v
 | .int k n,v,_,h=>by rw [h.gN];exact .int _ _
 | .bool b,v,_,h=>by rw [h.jU];exact .bool _
 | .str s,v,_,h=>by rw [h.Es];exact .str _
 | .agg cs,v,hn,h=>by obtain ⟨vs,rfl,hr⟩:=h.pV;exact .agg _ _ (CS (by simpa [PV.kU] using hn) hr)
 | .cj cs,v,hn,h=>by obtain ⟨vs,rfl,hr⟩:=h.Br;exact .cj _ _ (CS (by simpa [PV.kU] using hn) hr)
 | .undef,_,hn,_=>by simp [PV.kU] at hn
 | .jR,_,hn,_=>by simp [PV.kU] at hn
 | .sl ..,_,hn,_=>by simp [PV.kU] at hn
 | .own ..,_,hn,_=>by simp [PV.kU] at hn
 | .ptr ..,_,hn,_=>by simp [PV.kU] at hn
 | .bO ..,_,hn,_=>by simp [PV.kU] at hn
 | .mp ..,_,hn,_=>by simp [PV.kU] at hn
 | .eO ..,_,hn,_=>by simp [PV.kU] at hn
 | .eg,_,hn,_=>by simp [PV.kU] at hn
theorem CS: ∀{x:List PV} {v:List Value},wB x=alQ->fx im loc x v->fx eN bz x v
 | [],_,_,h=>by cases h;exact .nil
 |x::xs,_,hn,h=>by
  simp only [wB,pp] at hn;cases h with
  |cons _ u _ us h1 h2=>exact .cons _ _ _ _ (K8 hn.1 h1) (CS hn.2 h2)
end
mutual
theorem SX (hi:oA im eN): ∀{x y:PV} {v:Value},(∀t,t∈jv tM x->Over im eN loc aD w t)->VR im loc x v->zb aD x=alO y->VR eN bz y v
 | .int k n,y,v,_,hv,h=>by simp only [zb,rc] at h;subst h;rw [hv.gN];exact .int _ _
 | .bool b,y,v,_,hv,h=>by simp only [zb,rc] at h;subst h;rw [hv.jU];exact .bool _
 | .str b,y,v,_,hv,h=>by simp only [zb,rc] at h;subst h;rw [hv.Es];exact .str _
 | .agg cs,y,v,ht,hv,h=>by simp only [zb,v6] at h;obtain ⟨ys,SW,rfl⟩:=h;obtain ⟨vs,rfl,pg⟩:=hv.pV;exact .agg _ _ (Jk hi (fun t h=>ht t (by simpa [jv] using h)) pg SW)
 | .cj cs,y,v,ht,hv,h=>by simp only [zb,v6] at h;obtain ⟨ys,SW,rfl⟩:=h;obtain ⟨vs,rfl,pg⟩:=hv.Br;exact .cj _ _ (Jk hi (fun t h=>ht t (by simpa [jv] using h)) pg SW)
 | .sl e c rows,y,v,_,hv,h=>by simp only [zb,rc] at h;subst h;obtain ⟨a,cap,rfl,h1,h2,h3⟩:=hv.oB;exact .sl e alR rows a cap h1 (by simp) fun dW=>let ⟨b,o,ha,hr⟩:=h3 dW;⟨b,o,ha,hr.mono fun _ _ e=>hi.cell e⟩
 | .own t e off len cap ex,y,v,ht,hv,h=>by
  obtain ⟨li,a,dd,rfl,hl,h2,h3,h4,h5,h6,h7⟩:=hv.ir;obtain ⟨k,hk,sS,Ww⟩:=ht t (by simp [jv]) li hl;simp only [zb,hk] at h;cases k with
  |arr e' rows=>
   simp only [rc] at h;subst h;obtain ⟨b1,b2,b3⟩:=sS;have c9:((rows.drop off).take len).length=len:=by simp;omega
   have he:e'=e:=by rw [<- b1,h2]
   subst he;have:=VR.sl (im:=eN) (loc:=bz) e' alR ((rows.drop off).take len) a dd (by omega) (by simp) (fun dW=>by
    have oF:rows≠[]:=by intro e;subst e;simp at dW
    obtain ⟨arr,el,ua,Jd,Ky,dm⟩:=b3 oF;rcases h7 with h7|⟨_,rfl,_⟩
    · exfalso;apply dW;apply afn.1;omega
    refine ⟨_,_,rfl,dm.K7.mono fun k v hkv=>?_⟩
    rw [zg (by rw [Ww (nS oF)];exact ua)];exact hkv)
   rwa [c9] at this
  |_=>cases h
 | .undef,_,_,_,_,h=>by simp [zb] at h
 | .jR,_,_,_,_,h=>by simp [zb] at h
 | .ptr ..,_,_,_,_,h=>by simp [zb] at h
 | .bO ..,_,_,_,_,h=>by simp [zb] at h
 | .mp ..,_,_,_,_,h=>by simp [zb] at h
 | .eO ..,_,_,_,_,h=>by simp [zb] at h
 | .eg,_,_,_,_,h=>by simp [zb] at h
theorem Jk (hi:oA im eN): ∀{x y:List PV} {v:List Value},(∀t,t∈dL tM x->Over im eN loc aD w t)->fx im loc x v->I5 aD x=alO y->fx eN bz y v
 | [],y,v,_,hv,h=>by simp only [I5,rc] at h;subst h;cases hv;exact .nil
 |x::xs,y,v,ht,hv,h=>by
  simp only [I5] at h;cases hx:zb aD x with
  |none=>rw [hx] at h;cases h
  |some x'=>
   cases QG:I5 aD xs with
   |none=>rw [hx,QG] at h;cases h
   |some xs'=>
    rw [hx,QG] at h;simp only [rc] at h;subst h;cases hv with
    |cons _ u _ us h1 h2=>exact .cons _ _ _ _ (SX hi (fun t h=>ht t (by simp [dL,h])) h1 hx) (Jk hi (fun t h=>ht t (by simp [dL,h])) h2 QG)
end
theorem pX {l:List Nat} {t:Nat}:has l t=alQ↔t∈l:=by
 unfold has;rw [List.any_eq_true];constructor
 · rintro ⟨x,hx,h⟩
   have:t=x:=by simpa using h
   subst this;exact hx
 intro h;exact ⟨t,h,by simp⟩
theorem jV {l:List Nat} {t:Nat}:has l t=alR↔t∉l:=by rw [<- pX];simp
def aqz:Im:=fun _=>alP
structure ImO (dB:Loc) (oG:cK) (Hj:List Nat) (w:World) (seen seen':List Nat) (news:cK) (K9:List LI) (ts:List (Option Nat)):Prop where
 Jl:(alN K9)=alN news
 KM:(alN ts)=alN news
 br: ∀(j:Nat) (k:ky) (li:LI),news[j]? =alO k->K9[j]? =alO li->(∃e rows,k= .arr e rows)/\BR aqz gz w li k
 own: ∀(j:Nat) (k:ky) (li:LI) (t:Nat),news[j]? =alO k->K9[j]? =alO li->ts[j]? =alO (alO t)->dB t=alO li/\oG[t]? =alO k/\t∉Hj/\t∈seen'/\t∉seen
 dum: ∀(j:Nat) (k:ky),news[j]? =alO k->ts[j]? =alO alP->k.bS=alR
 inj: ∀(i j t:Nat),ts[i]? =alO (alO t)->ts[j]? =alO (alO t)->i=j
 sub: ∀t,t∈seen->t∈seen'
theorem ImO.none {dB:Loc} {oG:cK} {Hj:List Nat} {seen:List Nat}:ImO dB oG Hj w seen seen [] [] [] where
 Jl:=rfl
 KM:=rfl
 br:=fun j k li h=>by simp at h
 own:=fun j k li t h=>by simp at h
 dum:=fun j k h=>by simp at h
 inj:=fun i j t h=>by simp at h
 sub:=fun _ h=>h
theorem gO {α:Type} {a b:List α} {j:Nat} {x:α} (h:(a++b)[j]? =alO x):(j<alN a/\a[j]? =alO x)\/(alN a<=j/\b[j-(alN a)]? =alO x):=by
 rcases acl j (alN a) with hj|hj
 · rw [ad5 hj] at h;exact .inl ⟨hj,h⟩
 rw [UV hj] at h;exact .inr ⟨hj,h⟩
theorem ImO.append {dB:Loc} {oG:cK} {Hj s0 s1 s2:List Nat} {n1 n2:cK} {l1 l2:List LI} {t1 t2:List (Option Nat)} (h:ImO dB oG Hj w s0 s1 n1 l1 t1) (k:ImO dB oG Hj w s1 s2 n2 l2 t2):
 ImO dB oG Hj w s0 s2 (n1++n2) (l1++l2) (t1++t2):=by
 have e1:=h.Jl;have e2:=h.KM;have SY: ∀(j t:Nat),t1[j]? =alO (alO t)->t∈s1:=by intro j t ht;have hj:=(adB.1 ht).1;exact (h.own j n1[j] l1[j] t (M2 (by omega)) (M2 (by omega)) ht).2.2.2.1
 have Pg: ∀(j t:Nat),t2[j]? =alO (alO t)->t∉s1:=by intro j t ht;have hj:=(adB.1 ht).1;have:=k.Jl;have:=k.KM;exact (k.own j n2[j] l2[j] t (M2 (by omega)) (M2 (by omega)) ht).2.2.2.2
 refine ⟨by simp [e1,k.Jl],by simp [e2,k.KM],fun j b li hb hl=>?_,fun j b li t hb hl ht=>?_,fun j b hb ht=>?_,fun i j t hi hj=>?_,fun t ht=>k.sub t (h.sub t ht)⟩
 · rcases gO hb with ⟨h1,hb⟩|⟨h1,hb⟩
   · rcases gO hl with ⟨h2,hl⟩|⟨h2,hl⟩
     · exact h.br j b li hb hl
     omega
   rcases gO hl with ⟨h2,hl⟩|⟨h2,hl⟩
   · omega
   rw [e1] at hl;exact k.br _ b li hb hl
 · rcases gO hb with ⟨h1,hb⟩|⟨h1,hb⟩
   · rcases gO hl with ⟨h2,hl⟩|⟨h2,hl⟩
     · rcases gO ht with ⟨h3,ht⟩|⟨h3,ht⟩
       · obtain ⟨a1,a2,a3,a4,a5⟩:=h.own j b li t hb hl ht
         exact ⟨a1,a2,a3,k.sub t a4,a5⟩
       omega
     omega
   rcases gO hl with ⟨h2,hl⟩|⟨h2,hl⟩
   · omega
   rcases gO ht with ⟨h3,ht⟩|⟨h3,ht⟩
   · omega
   rw [e1] at hl;rw [e2] at ht
   obtain ⟨a1,a2,a3,a4,a5⟩:=k.own _ b li t hb hl ht;exact ⟨a1,a2,a3,a4,fun hs=>a5 (h.sub t hs)⟩
 · rcases gO hb with ⟨h1,hb⟩|⟨h1,hb⟩
   · rcases gO ht with ⟨h3,ht⟩|⟨h3,ht⟩
     · exact h.dum j b hb ht
     omega
   rcases gO ht with ⟨h3,ht⟩|⟨h3,ht⟩
   · omega
   rw [e2] at ht;exact k.dum _ b hb ht
 rcases gO hi with ⟨h1,hi⟩|⟨h1,hi⟩
 · rcases gO hj with ⟨h2,hj⟩|⟨h2,hj⟩
   · exact h.inj i j t hi hj
   exact absurd (SY i t hi) (Pg _ t hj)
 rcases gO hj with ⟨h2,hj⟩|⟨h2,hj⟩
 · exact absurd (SY j t hj) (Pg _ t hi)
 have:=k.inj _ _ t hi hj;omega
def adO (dB:Loc) (oG:cK) (Et:Im) (w:World):Prop:= ∀t li,dB t=alO li-> ∃k,oG[t]? =alO k/\BR Et dB w li k
mutual
theorem SZ {Et:Im} {dB:Loc} {oG:cK} {Hj:List Nat} (hk:adO dB oG Et w): ∀{x y:PV} {v:Value} {nx:Nat} {seen seen':List Nat} {news:cK},
 VR Et dB x v->zT oG Hj nx seen x=alO (y,news,seen')->
 ∃K9 ts,ImO dB oG Hj w seen seen' news K9 ts/\ ∀(Eu:Im) (rq:Loc),(∀(j:Nat) (li:LI),K9[j]? =alO li->rq (nx+j)=alO li)->VR Eu rq y v
 | .int k n,y,v,nx,seen,seen',news,hv,h=>by simp only [zT,rc,adL] at h;obtain ⟨rfl,rfl,rfl⟩:=h;exact ⟨[],[],.none,fun _ _ _=>by rw [hv.gN];exact .int _ _⟩
 | .bool k,y,v,nx,seen,seen',news,hv,h=>by simp only [zT,rc,adL] at h;obtain ⟨rfl,rfl,rfl⟩:=h;exact ⟨[],[],.none,fun _ _ _=>by rw [hv.jU];exact .bool _⟩
 | .agg cs,y,v,nx,seen,seen',news,hv,h=>by simp only [zT,v6,adL] at h;obtain ⟨⟨ys,n2,s2⟩,hr,rfl,rfl,rfl⟩:=h;obtain ⟨vs,rfl,pg⟩:=hv.pV;obtain ⟨K9,ts,h1,h2⟩:=Jm hk pg hr;exact ⟨K9,ts,h1,fun Eu rq hl=> .agg _ _ (h2 Eu rq hl)⟩
 | .cj cs,y,v,nx,seen,seen',news,hv,h=>by simp only [zT,v6,adL] at h;obtain ⟨⟨ys,n2,s2⟩,hr,rfl,rfl,rfl⟩:=h;obtain ⟨vs,rfl,pg⟩:=hv.Br;obtain ⟨K9,ts,h1,h2⟩:=Jm hk pg hr;exact ⟨K9,ts,h1,fun Eu rq hl=> .cj _ _ (h2 Eu rq hl)⟩
 | .sl e c rows,y,v,nx,seen,seen',news,hv,h=>by
  obtain ⟨a,cap,rfl,h1,h2,h3⟩:=hv.oB;cases c with
  |false=>simp [zT] at h
  |true=>
   cases rows with
   |cons r rs=>simp [zT] at h
   |nil=>
    simp only [zT,rc,adL] at h;obtain ⟨rfl,rfl,rfl⟩:=h;have Ho:cap=0:=h2 rfl;subst Ho;refine ⟨[⟨0,0,e,0,0⟩],[alP],⟨rfl,rfl,fun j k li hj hl=>?_,fun j k li t hj hl ht=>?_,fun j k hj ht=>?_,fun i j t hi hj=>?_,fun _ h=>h⟩,fun Eu rq hl=>?_⟩
    · cases j with
      |zero=>simp at hj hl;subst hj hl;exact ⟨⟨_,_,rfl⟩,rfl,rfl,fun dW=>absurd rfl dW⟩
      |succ j=>simp at hj
    · cases j<;>simp at ht
    · cases j with
      |zero=>simp at hj;subst hj;rfl
      |succ j=>simp at hj
    · cases i<;>simp at hi
    exact .own nx e 0 0 0 alR ⟨0,0,e,0,0⟩ a 0 (hl 0 _ rfl) rfl (Do _) (Do _) (Do _) (by simp) (.inl rfl)
 | .own t e off len cap ex,y,v,nx,seen,seen',news,hv,h=>by
  obtain ⟨li,a,dd,rfl,hl,h2,h3,h4,h5,h6,h7⟩:=hv.ir;obtain ⟨k,vI,sS⟩:=hk t li hl;simp only [zT,vI] at h;cases k with
  |arr e' rows=>
   dsimp only at h;split at h
   · cases h
   rename_i hs
   simp only [ak0,not_or,Bool.not_eq_true] at hs;simp only [rc,adL] at h;obtain ⟨rfl,rfl,rfl⟩:=h;refine ⟨[li],[alO t],⟨rfl,rfl,fun j k li' hj mU=>?_,fun j k li' t' hj mU ht=>?_,fun j k hj ht=>?_,fun i j t hi hj=>?_,fun _ h=>aez _ h⟩,fun Eu rq KU=>?_⟩
   · cases j with
     |zero=>simp at hj mU;subst hj mU;exact ⟨⟨_,_,rfl⟩,sS⟩
     |succ j=>simp at hj
   · cases j with
     |zero=>simp at hj mU ht;subst hj mU ht;exact ⟨hl,vI,jV.1 hs.2,by simp,jV.1 hs.1⟩
     |succ j=>simp at hj
   · cases j<;>simp at ht
   · cases i with
     |zero=>
      cases j with
      |zero=>rfl
      |succ j=>simp at hj
     |succ i=>simp at hi
   exact .own nx e off len cap alR li a dd (KU 0 _ rfl) h2 h3 h4 h5 (fun h=>by cases h) h7
  |_=>cases h
 | .str s,y,v,nx,seen,seen',news,hv,h=>by simp [zT] at h
 | .undef,y,v,nx,seen,seen',news,hv,h=>by simp [zT] at h
 | .jR,y,v,nx,seen,seen',news,hv,h=>by simp [zT] at h
 | .ptr ..,y,v,nx,seen,seen',news,hv,h=>by simp [zT] at h
 | .bO ..,y,v,nx,seen,seen',news,hv,h=>by simp [zT] at h
 | .mp ..,y,v,nx,seen,seen',news,hv,h=>by simp [zT] at h
 | .eO ..,y,v,nx,seen,seen',news,hv,h=>by simp [zT] at h
 | .eg,y,v,nx,seen,seen',news,hv,h=>by simp [zT] at h
theorem Jm {Et:Im} {dB:Loc} {oG:cK} {Hj:List Nat} (hk:adO dB oG Et w): ∀{x y:List PV} {v:List Value} {nx:Nat} {seen seen':List Nat} {news:cK},
 fx Et dB x v->I6 oG Hj nx seen x=alO (y,news,seen')->
 ∃K9 ts,ImO dB oG Hj w seen seen' news K9 ts/\ ∀(Eu:Im) (rq:Loc),(∀(j:Nat) (li:LI),K9[j]? =alO li->rq (nx+j)=alO li)->fx Eu rq y v
 | [],y,v,nx,seen,seen',news,hv,h=>by simp only [I6,rc,adL] at h;obtain ⟨rfl,rfl,rfl⟩:=h;cases hv;exact ⟨[],[],.none,fun _ _ _=> .nil⟩
 |x::xs,y,v,nx,seen,seen',news,hv,h=>by
  simp only [I6] at h;cases h1:zT oG Hj nx seen x with
  |none=>rw [h1] at h;cases h
  |some r1=>
   obtain ⟨y1,n1,s1⟩:=r1;rw [h1] at h;dsimp only at h;cases h2:I6 oG Hj (nx+alN n1) s1 xs with
   |none=>rw [h2] at h;cases h
   |some r2=>
    obtain ⟨y2,n2,s2⟩:=r2;rw [h2] at h;simp only [rc,adL] at h;obtain ⟨rfl,rfl,rfl⟩:=h;cases hv with
    |cons _ u _ us hx QG=>
     obtain ⟨l1,t1,a1,b1⟩:=SZ hk hx h1;obtain ⟨l2,t2,a2,b2⟩:=Jm hk QG h2;refine ⟨l1++l2,t1++t2,a1.append a2,fun Eu rq hl=> .cons _ _ _ _ (b1 Eu rq fun j li hj=>?_) (b2 Eu rq fun j li hj=>?_)⟩
     · have:=(adB.1 hj).1
       exact hl j li (by rw [ad5 this];exact hj)
     have:=hl (alN n1+j) li (by rw [UV (by rw [a1.Jl];omega),a1.Jl,show (alN n1)+j-(alN n1)=j by omega];exact hj)
     rwa [<- aeh] at this
end
end
end Go.Vm
