/- The logical machine, part 1: VmDef, VmWp, VmChk, VmRel, VmRen, VmOps1, VmEff, VmOps2, VmOps3, VmOps4, VmOps5, VmOps6, VmOps7, VmOps8, VmOps9, VmEq, VmMap, VmOpsA, VmCall, VmCall2, VmCall3. -/
import GoSem.Dispatch
import Derived.Laws.StructEq
import Derived.Calls
import Derived.Below
import Derived.Laws.CopyRow
import Derived.Deep.AppendSrc
import Derived.Deep.Upon
import Derived.WideKeyRuns
open Option renaming map_eq_some_iff->EQ,isSome_iff_exists->abC,getD_none->ado,getD_some->adu,any_some->ae6,some->aef,none->aeg
open Option.some renaming injEq->If
open Bool renaming and_eq_true->IR,not_eq_true'->ac3,or_eq_true->ae1,true->aei,false->aej
open Go.Result renaming andThen_ok->NE
open Nat renaming beq->PP,le_refl->UV,mul_le_mul_right->aaP,add_mul->ab0,ble->abq,lt_or_ge->abA,add_assoc->abE,blt->abM,ble_eq->abV,le_max_right->ac6,beq_eq->acF,le_max_left->acI,mul_eq_zero->ae2,mul_le_mul->ae7,zero_add->aeb
open List renaming getElem?_eq_getElem->WF,getElem?_eq_some_iff->aaQ,mem_singleton->abt,getElem?_append_right->abu,getElem?_append_left->abv,replicate->abw,length_append->abx,getElem?_eq_none->abz,getElem?_toArray->abF,size_toArray->abK,flatMap_cons->abL,mem_iff_getElem->abN,mem_cons_of_mem->abP,mem_append->abS,foldl_cons->abU,ext_getElem?->abX,length_cons->aci,flatMap_nil->ack,length_eq_zero_iff->acm,drop_eq_nil_of_le->acG,take_append_drop->ad3,mem_of_getElem?->ad4,map_cons->ad6,mem_replicate->ad7,length_nil->ae0,drop_drop->aea,length->aec,length->aed
open Go.Sem renaming run_bind->aai,run_pure->abr
open Array renaming getElem?_eq_some_iff->aby,ext'->abB,range->abQ,getElem?_setIfInBounds->abT,map->acl,length_toList->ad5,toList_map->adw
open Prod.mk renaming injEq->abD
open Int renaming toNat_natCast->adc
open Decidable renaming decide->aek
/- Definitions of a logical machine over pure values: what it computes is tied to the model's runs in VmSound. -/
namespace Go.Vm
universe u
theorem v6{α:Sort u}{a b:α}:cond aei a b=a:=rfl
theorem ww{α:Sort u}{a b:α}:cond aej a b=b:=rfl
theorem AC{c:Prop}{h:Decidable c}(p:c){α:Sort u}{t e:α}:ite c t e=t:=if_pos p
theorem Do{c:Prop}{h:Decidable c}(p:¬c){α:Sort u}{t e:α}:ite c t e=e:=if_neg p
inductive PV where
 |undef
 |nD
 |int(k:IntKind)(n:Int)
 |bool(b:Bool)
 |str(s:ByteArray)
 |agg(cs:List PV)
 |cV(cs:List PV)
 |sl(aO:Nat)(vX:Bool)(rows:List (List PV))
 |own(t aO off len cap:Nat)(ex:Bool)
 |ptr(t aO row off:Nat)
 |bZ(cells:List PV)(off:Nat)
 |mp(t:Nat)
 |fE(fn:FuncId)(fst cap:List PV)
 |fv
instance:Inhabited PV:=⟨.undef⟩
abbrev Row:=List PV
inductive ox where
 |arr(aO:Nat)(rows:List Row)
 |box(cells:List PV)
 |map(es:List (PV×PV))
 |dead
abbrev di:=List ox
abbrev Env:=List (Nat×PV)
inductive ib where
 |t(n:Nat)
 |c(v:PV)
inductive CM where
 |pur|own|shr|fp
inductive oK where
 |XL(x:ib)
 |pick(c a b:ib)
 |bin(op:BinOp)(x y:ib)
 |Pu(neg:Bool)(x y:ib)
 |eqc(n:Nat)(neg:Bool)(x y:ib)
 |un(op:UnOp)(x:ib)
 |conv(k:IntKind)(x:ib)
 |len(x:ib)
 |Sa(n:Nat)
 |box(x:ib)
 |alloc(cells:List PV)
 |build(zero:List PV)(parts:List (Nat×Nat×ib))
 |Fh(aO n:Nat)(zero:Row)(parts:List (Nat×ib))
 |HL(x y:ib)
 |B8(aO:Nat)(xs:List ib)
 |load(agg:Option Nat)(p:ib)
 |store(sz:Nat)(p v:ib)
 |Pv(x:ib)
 |Pw(off:Nat)(p:ib)
 |dI(agg:Option Nat)(off:Nat)(x:ib)
 |Px(aO:Nat)(x i:ib)
 |HM(n aO:Nat)(p i:ib)
 |idx(n aO:Nat)(agg:Option Nat)(x i:ib)
 |Py(x i:ib)
 |VL(aO:Nat)(x:ib)(lo hi mx:Option ib)
 |mks(aO:Nat)(zero:Row)(len cap:ib)
 |mkf(fn:FuncId)(fst cap:List ib)
 |mkm(z:Option PV)
 |lookup(n:Option Nat)(zero:PV)(ok:Bool)(m k:ib)
 |Nx(n:Option Nat)(m k v:ib)
 |ext(i:Nat)(x:ib)
 |append(aO:Nat)(x y:ib)
 |copy(aO:Nat)(x y:ib)
 |clear(aO:Nat)(zero:Row)(x:ib)
 |mm(rO:Bool)(x:ib)(xs:List ib)
 |call(m:CM)(f:FuncId)(args:List ib)
 |BJ(x:ib)(args:List ib)
 |bad
structure cI where
 dst:Option Nat
 op:oK
 guard:Option (Nat×Bool)
inductive mu where
 |skip
 |region(draw:Option (List Nat))(ops:List cI)(ig:List Nat)
 |seq(a b:mu)
 |cond(c:ib)(a b:mu)
 |block(id:Nat)(b:mu)
 |loop(live:List (Nat×Option Nat))(b:mu)
 |exit(id:Nat)
 |ret
inductive RV where
 |tmp(t:Nat)
 |cell(t:Nat)(agg:Option Nat)
structure ax where
 Jh:Nat
 code:mu
 res:List RV
inductive XM where
 |code(x:ax)
 |nT(Uu:Bool)(f:List PV->Option (PV×di))
 |LD(f:List PV->di->List Nat->Option (PV×di×List Nat))
abbrev qo:=FuncId->Option XM
structure St where
 env:Env
 aB:di
 fz:List Nat
 kn:Nat
inductive j7 where
 |normal
 |exit(id:Nat)
 |ret
def lk(t:Nat):Env->PV
 | []=> .undef
 |(s,v)::r=>if PP s t then v else lk t r
def ib.ev(e:Env):ib->PV
 | .t n=>lk n e
 | .c v=>v
def PV.wz:PV->Bool
 | .undef| .nD| .agg _| .cV _=>aej
 |_=>aei
def PV.plain:PV->Bool
 | .int _ _| .bool _| .str _=>aei
 |_=>aej
def PV.cells:PV->List PV
 | .agg cs=>cs
 |v=>[v]
def PV.stored(v:PV):Option (List PV):=if v.cells.all PV.wz then aef v.cells else aeg
def PV.dj(v:PV):Option (List PV):=if v.cells.all PV.plain then aef v.cells else aeg
def part(agg:Option Nat)(off:Nat)(cs:List PV):Option PV:=
 match agg with
 |some s=>if off+s<=(aed cs)then aef (.agg ((cs.drop off).take s))else aeg
 |none=>cs[off]?
def vY(off:Nat)(new old:List PV):List PV:=old.take off++new++old.drop (off+aed new)
def aa(k:IntKind)(n:Int):Int:=
 match k,n with
 | .i64,.ofNat m=>if abM m 9223372036854775808 then .ofNat m else IntKind.wrap .i64 n
 | .i64,.negSucc m=>if abM m 9223372036854775808 then .negSucc m else IntKind.wrap .i64 n
 | .u64,.ofNat m=> .ofNat (Nat.mod m 18446744073709551616)
 |k,n=>IntKind.wrap k n
def arith(op:BinOp)(k:IntKind)(a b:Int):Option PV:=
 match op with
 | .add=>aef (.int k (aa k (a+b)))
 | .sub=>aef (.int k (aa k (a-b)))
 | .mul=>aef (.int k (aa k (a*b)))
 | .quo=>if b=0 then aeg else aef (.int k (aa k (a.tdiv b)))
 | .rem=>if b=0 then aeg else aef (.int k (a.tmod b))
 | .and=>aef (.int k (k.wrap (BitVec.ofInt k.bits a&&&BitVec.ofInt k.bits b).toNat))
 | .or=>aef (.int k (k.wrap (BitVec.ofInt k.bits a|||BitVec.ofInt k.bits b).toNat))
 | .xor=>aef (.int k (k.wrap (BitVec.ofInt k.bits a^^^BitVec.ofInt k.bits b).toNat))
 | .andNot=>aef (.int k (k.wrap (BitVec.ofInt k.bits a&&& ~~~ BitVec.ofInt k.bits b).toNat))
 | .eql=>aef (.bool (a==b))
 | .neq=>aef (.bool (a !=b))
 | .lss=>aef (.bool (aek (a<b)))
 | .leq=>aef (.bool (aek (a<=b)))
 | .gtr=>aef (.bool (aek (a>b)))
 | .geq=>aef (.bool (aek (a>=b)))
 | .shl| .shr=>aeg
def GC(op:BinOp)(k:IntKind)(a b:Int):Option PV:=
 if b<0 then aeg else
 let n:=min b.toNat k.bits
 match op with
 | .shl=>aef (.int k (k.wrap (a*2^n)))
 | .shr=>aef (.int k (a.fdiv (2^n)))
 |_=>aeg
def hO:IntKind->IntKind->Bool
 | .i8,.i8| .i16,.i16| .i32,.i32| .i64,.i64| .u8,.u8| .u16,.u16| .u32,.u32| .u64,.u64=>aei
 |_,_=>aej
def VM(op:BinOp)(x y:PV):Option PV:=
 match x,y with
 | .int k a,.int l b=>
  match op with
  | .shl=>GC .shl k a b
  | .shr=>GC .shr k a b
  |op=>if hO k l then arith op k a b else aeg
 |_,_=>aeg
def xu:PV->PV->Option Bool
 | .int k a,.int l b=>if hO k l then aef (a==b)else aeg
 |_,_=>aeg
def dZ:List PV->List PV->Option Bool
 | [],[]=>aef aei
 |x::xs,y::ys=>
  match xu x y with
  |some aei=>dZ xs ys
  |some aej=>aef aej
  |none=>aeg
 |_,_=>aeg
def unE(op:UnOp)(x:PV):Option PV:=
 match op,x with
 | .neg,.int k n=>aef (.int k (aa k (0-n)))
 | .not,.bool b=>aef (.bool !b)
 |_,_=>aeg
def rowsOf(aB:di)(aO:Nat):PV->Option (List Row)
 | .sl e _ rows=>match rows with
  | []=>aef []
  |_=>if PP e aO then aef rows else aeg
 | .own t e off len _ _=>if PP e aO then(match aB[t]? with
  |some (.arr _ rows)=>aef ((rows.drop off).take len)
  |_=>aeg)else aeg
 |_=>aeg
def mw:PV->List Nat
 | .own t _ _ _ _ _=>[t]
 |_=>[]
structure rQ where
 v:PV
 news:di:=[]
 wr:List (Nat×ox):=[]
 rd:List Nat:=[]
 fr:List Nat:=[]
def qS:List (Nat×Nat×PV)->List PV->Option (List PV)
 | [],cs=>aef cs
 |(off,sz,v)::r,cs=>
  match v.stored with
  |some w=>if PP (aed w) sz&&abq (off+sz) (aed cs)then qS r (vY off w cs)else aeg
  |none=>aeg
def vw:List (Nat×PV)->List Row->Nat->Option (List Row)
 | [],rows,_=>aef rows
 |(i,v)::r,rows,aO=>
  match v.dj with
  |some w=>if PP (aed w) aO&&abM i (aed rows)then vw r (rows.set i w) aO else aeg
  |none=>aeg
def tT(aO:Nat):List PV->Option (List PV)
 | []=>aef []
 |v::r=>match v.stored with
  |some w=>if PP (aed w) aO then(tT aO r).map (w++ ·)else aeg
  |none=>aeg
def lD:PV->Option Nat
 | .int _ n=>match n with
  | .ofNat m=>aef m
  | .negSucc _=>aeg
 |_=>aeg
def mN(n:Option Nat)(k:PV):Bool:=
 match n,k with
 |none,.int _ _=>aei
 |some n,.agg cs=>PP (aed cs) n
 |_,_=>aej
def ij(n:Option Nat)(k:PV):List (PV×PV)->Nat->Option (Option Nat)
 | [],_=>aef aeg
 |(a,_)::r,i=>
  if mN n a then
   match dZ k.cells a.cells with
   |some aei=>aef (aef i)
   |some aej=>ij n k r (i+1)
   |none=>aeg
  else aeg
def iq:Nat:=1048576
def p6(aB:di)(agg:Option Nat):PV->Option rQ
 | .ptr t s row off=>match aB[t]? with
  |some (.arr _ rows)=>match rows[row]? with
   |some cs=>(part agg off cs).map λv=>{v,rd:=[t]}
   |none=>aeg
  |some (.box cs)=>if PP row 0 then(part agg off cs).map λv=>{v,rd:=[t]}else(part agg (row*s+off) cs).map λv=>{v,rd:=[t]}
  |_=>aeg
 | .bZ cs off=>(part agg off cs).map λv=>{v}
 |_=>aeg
def has(l:List Nat)(t:Nat):Bool:=l.any (PP t)
def xw(aB:di)(fz:List Nat)(sz:Nat)(v:PV):PV->Option rQ
 | .ptr t _ row off=>match aB[t]? with
  |some (.arr e rows)=>match rows[row]?,v.dj with
   |some cs,aef w=>if PP (aed w) sz&&abq (off+sz) (aed cs)&&!has fz t then
    aef {v:= .undef,wr:=[(t,.arr e (rows.set row (vY off w cs)))]}else aeg
   |_,_=>aeg
  |some (.box cs)=>match v.stored with
   |some w=>if PP row 0&&PP (aed w) sz&&abq (off+sz) (aed cs)&&!has fz t then
    aef {v:= .undef,wr:=[(t,.box (vY off w cs))]}else aeg
   |none=>aeg
  |_=>aeg
 |_=>aeg
def zD(aO:Nat):PV->Bool
 | .sl e _ rows=>PP e aO||rows.isEmpty
 | .own _ e _ _ _ _=>PP e aO
 |_=>aej
def vZ(x:PV)(lo hi mx:Option Nat):Option PV:=
 match x with
 | .sl e vX rows=>
  let l:=lo.getD 0
  let h:=hi.getD (aed rows)
  match mx with
  |none=>if abq l h&&abq h (aed rows)then aef (.sl e (vX&&PP h (aed rows)) ((rows.drop l).take (h-l)))else aeg
  |some m=>if abq l h&&abq h m&&abq m (aed rows)then aef (.sl e (PP h m) ((rows.drop l).take (h-l)))else aeg
 | .own t e off len cap ex=>
  let l:=lo.getD 0
  let h:=hi.getD len
  match mx with
  |none=>if abq l h&&abq h cap then aef (.own t e (off+l) (h-l) (cap-l) ex)else aeg
  |some m=>if abq l h&&abq h m&&abq m cap then aef (.own t e (off+l) (h-l) (m-l) aei)else aeg
 |_=>aeg
def oB:Nat->List Row->List Row->List Row
 |_,[],rows=>rows
 |i,w::r,rows=>oB (i+1) r (rows.set i w)
def lF(aB:di)(fz:List Nat)(aO:Nat)(x y:PV):Option rQ:=
 match rowsOf aB aO y with
 |none=>aeg
 |some new=>
  match new with
  | []=>match x with
   | .sl _ vX rows=>if vX&&rows.isEmpty then aef {v:= .own (aed aB) aO 0 0 0 aej,news:=[.arr aO []],rd:=mw y}else aef {v:=x,rd:=mw y}
   | .own t _ _ len cap ex=>if PP len 0&&PP cap 0&&ex then aef {v:= .own (aed aB) aO 0 0 0 aej,news:=[.arr aO []],rd:=t::mw y}else aef {v:=x,rd:=mw y}
   |_=>aeg
  |_=>
   let m:=aed new
   match x with
   | .sl e vX rows=>
    if vX&&(PP e aO||PP (aed rows) 0)&&abq (aed rows+m) iq then
     aef {v:= .own (aed aB) aO 0 (aed rows+m) (aed rows+m) aej,news:=[.arr aO (rows++new)],rd:=mw y}
    else aeg
   | .own t e off len cap ex=>
    match aB[t]? with
    |some (.arr _ rows)=>
     if !Nat.beq e aO then aeg
     else if abq (len+m) cap then
      if has fz t then aeg else aef {v:= .own t e off (len+m) cap ex,wr:=[(t,.arr e (oB (off+len) new rows))],rd:=mw y}
     else if !Nat.ble (len+m) iq then aeg
     else if ex then
      aef {v:= .own (aed aB) e 0 (len+m) (len+m) aej,news:=[.arr e ((rows.drop off).take len++new)],rd:=t::mw y}
     else if has fz t then aeg
     else aef {v:= .own (aed aB) e 0 (len+m) (len+m) aej,news:=[.arr e ((rows.drop off).take len++new)],wr:=[(t,.dead)],rd:=mw y}
    |_=>aeg
   |_=>aeg
def mmE(rO:Bool)(k:IntKind):Int->List PV->Option PV
 |a,[]=>aef (.int k a)
 |a,x::r=>match x with
  | .int l b=>if hO k l then mmE rO k (if rO then(if b>a then b else a)else(if b<a then b else a)) r else aeg
  |_=>aeg
def LF(e:Env)(l:List ib):List PV:=l.map (ib.ev e)
def yl(aB:di)(n:Option Nat)(zero:PV)(ok:Bool)(m k:PV):Option rQ:=
 match m with
 | .mp t=>match aB[t]? with
  |some (.map es)=>if mN n k then(match ij n k es 0 with
   |some (aef i)=>match es[i]? with
    |some p=>aef {v:=if ok then .cV [p.2,.bool aei]else p.2,rd:=[t]}
    |none=>aeg
   |some aeg=>aef {v:=if ok then .cV [zero,.bool aej]else zero,rd:=[t]}
   |none=>aeg)else aeg
  |_=>aeg
 |_=>aeg
def HN(aB:di)(fz:List Nat)(n:Option Nat)(m k v:PV):Option rQ:=
 match m with
 | .mp t=>match aB[t]? with
  |some (.map es)=>if mN n k&&!has fz t then(match k.dj,v.dj with
   |some _,aef _=>match ij n k es 0 with
    |some (aef i)=>aef {v:= .undef,wr:=[(t,.map (es.set i (k,v)))]}
    |some aeg=>aef {v:= .undef,wr:=[(t,.map (es++[(k,v)]))]}
    |none=>aeg
   |_,_=>aeg)else aeg
  |_=>aeg
 |_=>aeg
def bO(e:Env)(aB:di)(fz:List Nat):oK->Option rQ
 | .XL x=>aef {v:=x.ev e}
 | .pick c a b=>match c.ev e with
  | .bool aei=>aef {v:=a.ev e}
  | .bool aej=>aef {v:=b.ev e}
  |_=>aeg
 | .bin op x y=>(VM op (x.ev e) (y.ev e)).map λv=>{v}
 | .Pu neg x y=>match x.ev e,y.ev e with
  | .bool a,.bool b=>aef {v:= .bool (if neg then !(a==b)else a==b)}
  |_,_=>aeg
 | .eqc n neg x y=>match x.ev e,y.ev e with
  | .agg xs,.agg ys=>if PP (aed xs) n&&PP (aed ys) n then(dZ xs ys).map λb=>{v:= .bool (if neg then !b else b)}else aeg
  |_,_=>aeg
 | .un op x=>(unE op (x.ev e)).map λv=>{v}
 | .conv k x=>match x.ev e with
  | .int _ n=>aef {v:= .int k (aa k n)}
  |_=>aeg
 | .len x=>match x.ev e with
  | .sl _ _ rows=>aef {v:= .int .i64 (.ofNat (aed rows))}
  | .own _ _ _ len _ _=>aef {v:= .int .i64 (.ofNat len)}
  |_=>aeg
 | .Sa n=>aef {v:= .int .i64 (.ofNat n)}
 | .box x=>match(x.ev e).stored with
  |some cs=>aef {v:= .ptr (aed aB) (aed cs) 0 0,news:=[.box cs]}
  |none=>aeg
 | .alloc cells=>aef {v:= .ptr (aed aB) (aed cells) 0 0,news:=[.box cells]}
 | .build zero parts=>(qS (parts.map λp=>(p.1,p.2.1,p.2.2.ev e)) zero).map λcs=>{v:= .agg cs}
 | .Fh aO n zero parts=>(vw (parts.map λp=>(p.1,p.2.ev e)) (abw n zero) aO).map λrows=>
  {v:= .own (aed aB) aO 0 n n aei,news:=[.arr aO rows]}
 | .HL x y=>if(x.ev e).wz&&(y.ev e).wz then aef {v:= .own (aed aB) 1 0 2 2 aei,news:=[.box [x.ev e,y.ev e]]}else aeg
 | .B8 aO xs=>(tT aO (xs.map λx=>x.ev e)).map λcs=>{v:= .own (aed aB) aO 0 (aed xs) (aed xs) aei,news:=[.box cs]}
 | .load agg p=>p6 aB agg (p.ev e)
 | .store sz p v=>xw aB fz sz (v.ev e) (p.ev e)
 | .Pv x=>match x.ev e with
  | .ptr t s r o=>aef {v:= .ptr t s r o}
  | .bZ c o=>aef {v:= .bZ c o}
  | .fE f a b=>aef {v:= .fE f a b}
  |_=>aeg
 | .Pw off p=>match p.ev e with
  | .ptr t s r o=>aef {v:= .ptr t s r (o+off)}
  | .bZ c o=>aef {v:= .bZ c (o+off)}
  |_=>aeg
 | .dI agg off x=>match x.ev e with
  | .agg cs=>(part agg off cs).map λv=>{v}
  |_=>aeg
 | .Px aO x i=>match lD (i.ev e)with
  |none=>aeg
  |some n=>match x.ev e with
   | .sl s _ rows=>match rows[n]? with
    |some cs=>if PP s aO then aef {v:= .bZ cs 0}else aeg
    |none=>aeg
   | .own t s off len _ _=>if abM n len&&PP s aO then aef {v:= .ptr t s (off+n) 0}else aeg
   |_=>aeg
 | .HM n aO p i=>match lD (i.ev e)with
  |none=>aeg
  |some j=>if abM j n then(match p.ev e with
   | .ptr t s r o=>aef {v:= .ptr t s r (o+j*aO)}
   | .bZ c o=>aef {v:= .bZ c (o+j*aO)}
   |_=>aeg)else aeg
 | .idx n aO agg x i=>match lD (i.ev e)with
  |none=>aeg
  |some j=>if abM j n then(match x.ev e with
   | .agg cs=>(part agg (j*aO) cs).map λv=>{v}
   |_=>aeg)else aeg
 | .Py x i=>match lD (i.ev e),x.ev e with
  |some j,.str s=>match s[j]? with
   |some b=>aef {v:= .int .u8 b.toNat}
   |none=>aeg
  |_,_=>aeg
 | .VL aO x lo hi mx=>
  if !zD aO (x.ev e)then aeg else
  match(match lo with|none=>aef aeg|some a=>(lD (a.ev e)).map aef),
   (match hi with|none=>aef aeg|some a=>(lD (a.ev e)).map aef),
   (match mx with|none=>aef aeg|some a=>(lD (a.ev e)).map aef)with
  |some l,aef h,aef m=>(vZ (x.ev e) l h m).map λv=>{v}
  |_,_,_=>aeg
 | .mks aO zero l c=>match lD (l.ev e),lD (c.ev e)with
  |some n,aef m=>if abq n m&&abq m iq then
   aef {v:= .own (aed aB) aO 0 n m aei,news:=[.arr aO (abw m zero)]}else aeg
  |_,_=>aeg
 | .mkf fn a b=>aef {v:= .fE fn (LF e a) (LF e b)}
 | .mkm _=>aef {v:= .mp (aed aB),news:=[.map []]}
 | .lookup n zero ok m k=>yl aB n zero ok (m.ev e) (k.ev e)
 | .Nx n m k v=>HN aB fz n (m.ev e) (k.ev e) (v.ev e)
 | .ext i x=>match x.ev e with
  | .cV vs=>vs[i]?.map λv=>{v}
  |_=>aeg
 | .append aO x y=>lF aB fz aO (x.ev e) (y.ev e)
 | .copy aO x y=>match rowsOf aB aO (y.ev e),x.ev e with
  |some src,.own t s off len _ _=>match src.take len with
   | []=>aef {v:= .int .i64 0,rd:=mw (y.ev e)}
   |r::rs=>match aB[t]? with
    |some (.arr s' rows)=>
     if PP s aO&&!has fz t then
      aef {v:= .int .i64 (.ofNat (aed rs+1)),wr:=[(t,.arr s' (oB off (r::rs) rows))],rd:=mw (y.ev e)}
     else aeg
    |_=>aeg
  |_,_=>aeg
 | .clear aO zero x=>match x.ev e with
  | .own t s off len _ _=>match len with
   |0=>aef {v:= .undef}
   |len+1=>match aB[t]? with
    |some (.arr s' rows)=>
     if PP s aO&&!has fz t then
      aef {v:= .undef,wr:=[(t,.arr s' (oB off (abw (len+1) zero) rows))]}
     else aeg
    |_=>aeg
  | .sl _ _ []=>aef {v:= .undef}
  |_=>aeg
 | .mm rO x xs=>match x.ev e with
  | .int k a=>(mmE rO k a (LF e xs)).map λv=>{v}
  |_=>aeg
 | .call .. =>aeg
 | .BJ .. =>aeg
 | .bad=>aeg
mutual
def GD(aB:di)(bx:Nat->Option (List PV)):PV->Option PV
 | .undef=>aeg
 | .nD=>aeg
 | .int k n=>aef (.int k n)
 | .bool b=>aef (.bool b)
 | .str s=>aef (.str s)
 | .agg cs=>(GF aB bx cs).map .agg
 | .cV cs=>(GF aB bx cs).map .cV
 | .sl e _ rows=>aef (.sl e aej rows)
 | .own t e off len _ _=>match aB[t]? with
  |some (.arr _ rows)=>aef (.sl e aej ((rows.drop off).take len))
  |_=>aeg
 | .ptr t _ row off=>match aB[t]? with
  |some (.box _)=>if PP row 0 then(bx t).map (.bZ · off)else aeg
  |some (.arr _ rows)=>rows[row]?.map (.bZ · off)
  |_=>aeg
 | .bZ cs off=>(GF aB bx cs).map (.bZ · off)
 | .mp _=>aeg
 | .fE f a b=>match GF aB bx a,GF aB bx b with
  |some a',aef b'=>aef (.fE f a' b')
  |_,_=>aeg
 | .fv=>aef .fv
def GF(aB:di)(bx:Nat->Option (List PV)):List PV->Option (List PV)
 | []=>aef []
 |x::xs=>match GD aB bx x,GF aB bx xs with
  |some y,aef ys=>aef (y::ys)
  |_,_=>aeg
end
def B9(aB:di):Nat->Nat->Option (List PV)
 |0,_=>aeg
 |n+1,t=>match aB[t]? with
  |some (.box cs)=>GF aB (B9 aB n) cs
  |_=>aeg
mutual
def lG(bx:Nat->List Nat):PV->List Nat
 | .agg cs=>fb bx cs
 | .cV cs=>fb bx cs
 | .own t _ _ _ _ _=>[t]
 | .ptr t _ _ _=>t::bx t
 | .bZ cs _=>fb bx cs
 | .mp t=>[t]
 | .fE _ a b=>fb bx a++fb bx b
 | .undef| .nD| .int _ _| .bool _| .str _| .sl .. | .fv=>[]
def fb(bx:Nat->List Nat):List PV->List Nat
 | []=>[]
 |x::xs=>lG bx x++fb bx xs
end
def zE(_:Nat):List Nat:=[]
def gN(aB:di):Nat->Nat->List Nat
 |0,_=>[]
 |n+1,t=>match aB[t]? with
  |some (.box cs)=>fb (gN aB n) cs
  |_=>[]
mutual
def PV.oC:PV->Bool
 | .int _ _| .bool _| .str _=>aei
 | .agg cs=>AB cs
 | .cV cs=>AB cs
 |_=>aej
def AB:List PV->Bool
 | []=>aei
 |x::xs=>x.oC&&AB xs
end
mutual
def D3(aB:di):PV->Option PV
 | .int k n=>aef (.int k n)
 | .bool b=>aef (.bool b)
 | .str s=>aef (.str s)
 | .agg cs=>(Ny aB cs).map .agg
 | .cV cs=>(Ny aB cs).map .cV
 | .sl e _ rows=>aef (.sl e aej rows)
 | .own t e off len _ _=>match aB[t]? with
  |some (.arr _ rows)=>aef (.sl e aej ((rows.drop off).take len))
  |_=>aeg
 |_=>aeg
def Ny(aB:di):List PV->Option (List PV)
 | []=>aef []
 |x::xs=>match D3 aB x,Ny aB xs with
  |some y,aef ys=>aef (y::ys)
  |_,_=>aeg
end
mutual
def Ff(aB:di)(fz:List Nat):Nat->List Nat->PV->Option (PV×di×List Nat)
 |_,seen,.int k n=>aef (.int k n,[],seen)
 |_,seen,.bool b=>aef (.bool b,[],seen)
 |nx,seen,.agg cs=>(Nz aB fz nx seen cs).map λr=>(.agg r.1,r.2)
 |nx,seen,.cV cs=>(Nz aB fz nx seen cs).map λr=>(.cV r.1,r.2)
 |nx,seen,.sl e aei []=>aef (.own nx e 0 0 0 aej,[.arr e []],seen)
 |nx,seen,.own t e off len cap _=>match aB[t]? with
  |some (.arr e' rows)=>if has seen t||has fz t then aeg else aef (.own nx e off len cap aej,[.arr e' rows],t::seen)
  |_=>aeg
 |_,_,_=>aeg
def Nz(aB:di)(fz:List Nat):Nat->List Nat->List PV->Option (List PV×di×List Nat)
 |_,seen,[]=>aef ([],[],seen)
 |nx,seen,x::xs=>match Ff aB fz nx seen x with
  |some (y,n1,aif)=>match Nz aB fz (nx+aed n1) aif xs with
   |some (ys,n2,aih)=>aef (y::ys,n1++n2,aih)
   |none=>aeg
  |none=>aeg
end
def wH:ox->List Nat
 | .box cs=>fb zE cs
 |_=>[]
def reach(aB:di):Nat->List Nat->List Nat->Option (List Nat)
 |_,[],seen=>aef seen
 |0,_::_,_=>aeg
 |n+1,t::ts,seen=>
  if has seen t then reach aB n ts seen
  else match aB[t]? with
   |some b=>reach aB n (wH b++ts) (seen++[t])
   |none=>aeg
def idxOf(t:Nat):List Nat->Option Nat
 | []=>aeg
 |s::r=>if PP s t then aef 0 else(idxOf t r).map (· +1)
mutual
def zF(m:List Nat):PV->Option PV
 | .agg cs=>(DZ m cs).map .agg
 | .cV cs=>(DZ m cs).map .cV
 | .own t e off len cap ex=>(idxOf t m).map λu=> .own u e off len cap ex
 | .ptr t e row off=>(idxOf t m).map λu=> .ptr u e row off
 | .bZ cs off=>(DZ m cs).map (.bZ · off)
 | .mp t=>(idxOf t m).map .mp
 | .fE f a b=>match DZ m a,DZ m b with
  |some a',aef b'=>aef (.fE f a' b')
  |_,_=>aeg
 | .undef=>aef .undef
 | .nD=>aef .nD
 | .int k n=>aef (.int k n)
 | .bool b=>aef (.bool b)
 | .str s=>aef (.str s)
 | .sl e c rows=>aef (.sl e c rows)
 | .fv=>aef .fv
def DZ(m:List Nat):List PV->Option (List PV)
 | []=>aef []
 |x::xs=>match zF m x,DZ m xs with
  |some y,aef ys=>aef (y::ys)
  |_,_=>aeg
end
def rR(m:List Nat):ox->Option ox
 | .box cs=>(DZ m cs).map .box
 | .arr e rows=>aef (.arr e rows)
 | .map es=>aef (.map es)
 | .dead=>aef .dead
def B'(aB:di)(m:List Nat):List Nat->Option di
 | []=>aef []
 |t::ts=>match aB[t]? with
  |some b=>match rR m b,B' aB m ts with
   |some b',aef r=>aef (b'::r)
   |_,_=>aeg
  |none=>aeg
def Ca(fz:List Nat):Nat->List Nat->List Nat
 |_,[]=>[]
 |i,t::ts=>if has fz t then i::Ca fz (i+1) ts else Ca fz (i+1) ts
def Mj:Option Nat->PV->PV
 |some _,.own t e off len cap _=> .own t e off len cap aej
 |_,v=>v
def yn(e:Env)(m:List Nat):Nat->List (Nat×Option Nat)->Option (Env×di)
 |_,[]=>aef ([],[])
 |nx,(s,k)::r=>
  match k,lk s e with
  |some aO,.sl _ aei []=>(yn e m (nx+1) r).map λp=>((s,.own nx aO 0 0 0 aej)::p.1,.arr aO []::p.2)
  |_,v=>match zF m v,yn e m nx r with
   |some v',aef p=>aef ((s,Mj k v')::p.1,p.2)
   |_,_=>aeg
def zG:Nat->List Nat
 |0=>[]
 |n+1=>zG n++[n]
def wI(st:St)(t c aO:Nat):St:=
 match st.aB[t]? with
 |some (.box cs)=>match cs[c]? with
  |some (.sl _ aei [])=>{st with aB:=st.aB.set t (.box (cs.set c (.own (aed st.aB) aO 0 0 0 aej)))++[.arr aO []]}
  |_=>st
 |_=>st
def Ji:PV->Option Nat
 | .ptr t _ 0 0=>aef t
 |_=>aeg
def Pz:PV->Option Nat
 | .fE _ _ (x::_)=>Ji x
 |x=>Ji x
def oM:List (Nat×Option Nat)->St->St
 | [],st=>st
 |(s,k)::r,st=>match k with
  |some n=>if abq 1000 n then(match Pz (lk s st.env)with
   |some t=>oM r (wI st t (n / 1000-1) (n%1000))
   |none=>oM r st)else oM r st
  |none=>oM r st
def Mk(live:List (Nat×Option Nat))(st:St):Option St:=
 match reach st.aB 4096 ((st.aB.take st.kn).flatMap wH++live.flatMap λp=>lG zE (lk p.1 st.env)) (zG st.kn)with
 |none=>aeg
 |some m=>match B' st.aB m m,yn st.env m (aed m) live with
  |some s1,aef (e1,s2)=>aef (oM live {env:=e1,aB:=s1++s2,fz:=Ca st.fz 0 m,kn:=st.kn})
  |_,_=>aeg
def norm(live:List (Nat×Option Nat))(st:St):Option St:=
 match Mk live st with
 |some s=>if live.any λp=>p.2.isSome then Mk live s else aef s
 |none=>aeg
inductive Task where
 |func(f:FuncId)(args:List PV)(aB:di)(fz:List Nat)
 |loop(live:List (Nat×Option Nat))(b:mu)(st:St)
inductive Out where
 |func(v:PV)(aB:di)(fz:List Nat)
 |code(e:j7)(st:St)
structure Tr where
 rd:List Nat
 wr:List Nat
 al:Bool
 PA:Bool
 cl:Bool
 lo:Nat
 hi:Nat
inductive XR where
 |loc(r:rQ)
 |shr(v:PV)(aB:di)(fz:List Nat)
def lH:List (Nat×ox)->di->di
 | [],s=>s
 |(t,b)::r,s=>lH r (s.set t b)
def Jj:PV->Bool
 | .ptr .. =>aei
 | .own .. =>aei
 | .mp _=>aei
 |_=>aej
def deep:Nat:=8
def eK(F:qo)(rec:Task->Option Out)(own:Bool)(f:FuncId)(args:List PV)(aB:di)(fz:List Nat):Option rQ:=
 match GF aB (B9 aB deep) args with
 |none=>aeg
 |some tR=>
  let tk:=fb (gN aB deep) args
  match F f with
  |some (.nT Uu p)=>match p tR with
   |some (v,news)=>match Ff news [] (aed aB) [] v with
    |some (v',n2,_)=>
     if Uu then match args with
      | .own t _ _ _ _ _::r=>
       let tr:=fb (gN aB deep) r
       if has fz t||has tr t then aeg
       else aef {v:=v',news:=n2,wr:=[(t,.dead)],rd:=tr}
      |_=>aeg
     else aef {v:=v',news:=n2,rd:=tk}
    |none=>aeg
   |none=>aeg
  |_=>match rec (.func f tR [] [])with
   |some (.func v s1 z1)=>
    if own then match Ff s1 z1 (aed aB) [] v with
     |some (v',n2,_)=>aef {v:=v',news:=n2,rd:=tk}
     |none=>aeg
    else if v.oC then aef {v,rd:=tk}
    else match D3 s1 v with
     |some v'=>aef {v:=v',rd:=tk,fr:=tk}
     |none=>aeg
   |_=>aeg
def ox.cu:ox->Bool
 | .dead=>aej
 | .arr _ []=>aej
 |_=>aei
def vz:List Nat->List Nat
 | []=>[]
 |t::r=>if has r t then vz r else t::vz r
mutual
def GG(g:Nat->Nat):PV->PV
 | .agg cs=> .agg (BK g cs)
 | .cV cs=> .cV (BK g cs)
 | .own t e off len cap ex=> .own (g t) e off len cap ex
 | .ptr t e row off=> .ptr (g t) e row off
 | .bZ cs off=> .bZ (BK g cs) off
 | .mp t=> .mp (g t)
 | .fE f a b=> .fE f (BK g a) (BK g b)
 | .undef=> .undef
 | .nD=> .nD
 | .int k n=> .int k n
 | .bool b=> .bool b
 | .str s=> .str s
 | .sl e c rows=> .sl e c rows
 | .fv=> .fv
def BK(g:Nat->Nat):List PV->List PV
 | []=>[]
 |x::xs=>GG g x::BK g xs
end
def D4(g:Nat->Nat):ox->ox
 | .box cs=> .box (BK g cs)
 |b=>b
def Fi(g:Nat->Nat):di->di
 | []=>[]
 |b::r=>D4 g b::Fi g r
def nK(tk:List Nat)(n u:Nat):Nat:=
 match tk[u]? with
 |some t=>t
 |none=>n+(u-(aed tk))
def tU(g:Nat->Nat):List Nat->di->List (Nat×ox)
 |t::r,b::s=>(t,D4 g b)::tU g r s
 |_,_=>[]
def AD:di->di->Bool
 | [],_=>aei
 |b::r,c::q=>(match b.cu,c.cu with|true,aei=>aei|false,aej=>aei|_,_=>aej)&&AD r q
 |_::_,[]=>aej
def abG(args:List PV)(aB:di)(fz:List Nat)(tk:List Nat):Option (List PV×di):=
 if tk.all λt=>!has fz t then
  match DZ tk args,B' aB tk tk with
  |some a,aef s=>aef (a,s)
  |_,_=>aeg
 else aeg
def ky(k:Nat)(v:PV)(s:di):Bool:=(lG zE v++(s.take k).flatMap wH).all λt=>abM t k
def Jk(tk:List Nat)(n:Nat)(s0:di)(v:PV)(s:di):Option rQ:=
 if AD s0 s then aef {v:=GG (nK tk n) v,news:=if ky (aed tk) v s then []else Fi (nK tk n) (s.drop (aed tk)),wr:=tU (nK tk n) tk s}else aeg
def y9(rec:Task->Option Out)(f:FuncId)(args:List PV)(aB:di)(fz:List Nat):Option rQ:=
 match abG args aB fz (vz (fb (gN aB deep) args))with
 |none=>aeg
 |some (a,s0)=>match rec (.func f a s0 [])with
  |some (.func v s [])=>Jk (vz (fb (gN aB deep) args)) (aed aB) s0 v s
  |_=>aeg
def iQ(rec:Task->Option Out)(f:FuncId)(args:List PV)(aB:di)(fz:List Nat):Option XR:=
 match rec (.func f args aB fz)with
 |some (.func v s z)=>if abq (aed aB) (aed s)&&fz.all (has z)then aef (.shr v s z)else aeg
 |_=>aeg
def BV(F:qo)(rec:Task->Option Out)(e:Env)(aB:di)(fz:List Nat):oK->Option XR
 | .call m f args=>match m with
  | .pur=>(eK F rec aej f (LF e args) aB fz).map .loc
  | .own=>(eK F rec aei f (LF e args) aB fz).map .loc
  | .shr=>iQ rec f (LF e args) aB fz
  | .fp=>(y9 rec f (LF e args) aB fz).map .loc
 | .BJ x args=>match x.ev e with
  | .fE f a b=>
   if(LF e args++b).any Jj then iQ rec f (a++LF e args++b) aB fz
   else(eK F rec aej f (a++LF e args++b) aB fz).map .loc
  |_=>aeg
 |op=>(bO e aB fz op).map .loc
def lf(d:Option Nat)(v:PV)(e:Env):Env:=
 match d with
 |some t=>(t,v)::e
 |none=>e
def zH(s:di):List ox->di
 | []=>s
 |b::r=>s++b::r
theorem yo(s:di)(l:List ox):zH s l=s++l:=by
 cases l
 ·exact(List.append_nil s).symm
 rfl
def XR.next(d:Option Nat)(st:St):XR->St
 | .loc r=>{env:=lf d r.v st.env,aB:=zH (lH r.wr st.aB) r.news,fz:=r.fr++st.fz,kn:=st.kn}
 | .shr v s z=>{env:=lf d v st.env,aB:=s,fz:=z,kn:=st.kn}
def XR.tr(nx:Nat):XR->Tr
 | .loc r=>⟨r.rd++r.fr,r.wr.map (·.1),!r.news.isEmpty,aej,(r.rd++r.fr).all (abM · nx)&&r.wr.all (λp=>abM p.1 nx),nx,nx+aed r.news⟩
 | .shr .. =>⟨[],[],aei,aei,aei,0,0⟩
def AE:List (Nat×ox)->Bool
 | []=>aei
 |p::r=>(r.all λq=>!Nat.beq q.1 p.1)&&AE r
def XR.ok(fz:List Nat):XR->Bool
 | .loc r=>(r.wr.all λp=>!has fz p.1)&&AE r.wr
 | .shr .. =>aei
def Tr.idle:Tr:=⟨[],[],aej,aej,aei,0,0⟩
def wanted(g:Option (Nat×Bool))(e:Env):Option Bool:=
 match g with
 |none=>aef aei
 |some (s,want)=>match lk s e with
  | .bool b=>aef (b==want)
  | .nD=>aef aej
  |_=>aeg
def rS(F:qo)(rec:Task->Option Out):List cI->St->List Tr->Option (St×List Tr)
 | [],st,tr=>aef (st,tr)
 |o::r,st,tr=>
  match wanted o.guard st.env with
  |some aei=>match BV F rec st.env st.aB st.fz o.op with
   |some x=>if x.ok st.fz then rS F rec r (x.next o.dst st) (x.tr (aed st.aB)::tr)else aeg
   |none=>aeg
  |some aej=>rS F rec r {st with env:=lf o.dst .nD st.env} (Tr.idle::tr)
  |none=>aeg
def meets(a b:List Nat):Bool:=a.any (has b)
def Tr.jU(a:Tr):Bool:=!a.rd.isEmpty||!a.wr.isEmpty||a.al||a.PA
def Tr.zI(a b:Tr):Bool:=
 (a.PA&&b.jU)||(b.PA&&a.jU)||meets a.wr b.rd||meets a.wr b.wr||meets a.rd b.wr||
  b.wr.any λt=>abq a.lo t&&abM t a.hi
def AF(rows:List Row):Bool:=rows.all λr=>PP (aed r) 1&&r.all PV.plain
def NA(args:List PV)(aB:di)(fz:List Nat):Option (PV×di×List Nat):=
 match args with
 | [.own t e off len _ _]=>match aB[t]? with
  |some (.box [.sl e1 _ x,.sl e2 _ y])=>if PP e 1&&PP off 0&&PP len 2&&!has fz t&&AF x&&AF y&&abq 1 (aed x+aed y)&&abq (aed x+aed y) iq&&(PP e1 1||x.isEmpty)&&(PP e2 1||y.isEmpty)then
   aef (.own (aed aB) 1 0 (x++y).length (x++y).length aej,aB.set t .dead++[.arr 1 (x++y)],fz)
   else aeg
  |_=>aeg
 |_=>aeg
def NB(i:Nat)(a:Tr):List (Tr×Nat)->Bool
 | []=>aei
 |(b,bf)::r=>(!a.zI b||bf.testBit i)&&NB i a r
def wJ:Nat->List (Tr×Nat)->Bool
 |_,[]=>aei
 |i,(a,_)::r=>a.cl&&NB i a r&&wJ (i+1) r
def oN(F:qo)(rec:Task->Option Out)(draw:Option (List Nat))(ops:List cI)(ig:List Nat)(st:St):Option St:=
 match rS F rec ops st []with
 |none=>aeg
 |some (oh,tr)=>
  let BW:St:={oh with env:=ig.map λs=>(s,lk s oh.env)}
  match draw with
  |none=>aef BW
  |some bf=>if wJ 0 (tr.reverse.zip bf)then aef BW else aeg
def zC(F:qo)(rec:Task->Option Out):mu->St->Option (j7×St)
 | .skip,st=>aef (.normal,st)
 | .region d ops ig,st=>(oN F rec d ops ig st).map λs=>(.normal,s)
 | .seq a b,st=>match zC F rec a st with
  |some (.normal,oh)=>zC F rec b oh
  |r=>r
 | .cond c a b,st=>match c.ev st.env with
  | .bool aei=>zC F rec a st
  | .bool aej=>zC F rec b st
  |_=>aeg
 | .block id b,st=>match zC F rec b st with
  |some (.exit j,oh)=>if PP j id then aef (.normal,oh)else aef (.exit j,oh)
  |r=>r
 | .loop live b,st=>match rec (.loop live b st)with
  |some (.code e oh)=>aef (e,oh)
  |_=>aeg
 | .exit id,st=>aef (.exit id,st)
 | .ret,st=>aef (.ret,st)
def Jl(st:St):RV->Option PV
 | .tmp t=>aef (lk t st.env)
 | .cell t agg=>(p6 st.aB agg (lk t st.env)).map (·.v)
def rT(st:St):List RV->Option (List PV)
 | []=>aef []
 |r::rs=>match Jl st r,rT st rs with
  |some v,aef vs=>aef (v::vs)
  |_,_=>aeg
def results1:List PV->PV
 | [v]=>v
 |vs=> .cV vs
def zJ:Nat->List PV->Env
 |_,[]=>[]
 |i,v::r=>(i,v)::zJ (i+1) r
def step(F:qo)(rec:Task->Option Out):Task->Option Out
 | .func f args aB fz=>match F f with
  |some (.code x)=>
   if PP (aed args) x.Jh then
    match zC F rec x.code {env:=zJ 0 args,aB,fz,kn:=aed aB}with
    |some (.normal,st)=>(rT st x.res).map λvs=> .func (results1 vs) st.aB st.fz
    |some (.ret,st)=>(rT st x.res).map λvs=> .func (results1 vs) st.aB st.fz
    |_=>aeg
   else aeg
  |some (.LD p)=>(p args aB fz).map λr=> .func r.1 r.2.1 r.2.2
  |_=>aeg
 | .loop live b st=>match norm live st with
  |none=>aeg
  |some rU=>match zC F rec b rU with
   |some (.normal,BW)=>rec (.loop live b BW)
   |some (e,BW)=>aef (.code e BW)
   |none=>aeg
def ir(aO:Nat):List PV->Option (PV×di)
 | [.sl e _ rows]=>match rows with
  | []=>aef (.own 1 aO 0 0 0 aej,[.arr aO [],.arr aO []])
  |r::rs=>if PP e aO&&abq (aed rs+1) iq then aef (.own 1 aO 0 (0+(aed rs+1)) (0+(aed rs+1)) aej,[.arr aO [],.arr aO (r::rs)])else aeg
 |_=>aeg
def NC(aO:Nat)(args:List PV)(aB:di)(fz:List Nat):Option (PV×di×List Nat):=
 match args with
 | [.own t e off len _ _,.int .i64 i,.own u e2 aii PB _ _]=>
  match aB[t]?,aB[u]? with
  |some (.arr _ rows),aef (.arr _ new)=>
   if PP e aO&&PP e2 aO&&PP off 0&&PP aii 0&&PP len (aed rows)&&PP PB 1&&PP (aed new) 1&&!Nat.beq t u&&!has fz t&&aek (0<=i)&&abq i.toNat len&&abq (len+1) iq then
    aef (.own (aed aB) aO 0 (len+1) (len+1) aej,aB.set t .dead++[.arr aO (rows.take i.toNat++new++rows.drop i.toNat)],fz)
   else aeg
  |_,_=>aeg
 |_=>aeg
def Eo:List PV->Option (PV×di)
 | [.int .u64 (.ofNat a),.int .u64 (.ofNat b),.int .u64 (.ofNat c)]=>
  if abq c 1 then
   let s:=a+b+c
   aef (.cV [.int .u64 (.ofNat (s%18446744073709551616)),.int .u64 (.ofNat (s / 18446744073709551616))],[])
  else aeg
 |_=>aeg
noncomputable def run(F:qo)(n:Nat):Task->Option Out:=Nat.rec (λ_=>aeg) (λ_ ih=>step F ih) n
end Go.Vm
/- Rules for the logical machine: what more fuel keeps, and a calculus of its runs. -/
namespace Go.Vm
def Le(r s:Task->Option Out):Prop:= ∀t o,r t=aef o->s t=aef o
structure Ext(F G:qo)(r:Task->Option Out):Prop where
 yes: ∀f e,F f=aef e->G f=aef e
 no: ∀f,F f=aeg->G f=aeg\/ ∀a,r (.func f a [] [])=aeg
theorem Ext.refl(F:qo)(r:Task->Option Out):Ext F F r:=⟨λ_ _ h=>h,λ_ h=> .inl h⟩
theorem za{F G:qo}{r s:Task->Option Out}(g:Ext F G r)(h:Le r s){own:Bool}{f:FuncId}{args:List PV}{aB:di}{fz:List Nat}{x:rQ}
 (hx:eK F r own f args aB fz=aef x):eK G s own f args aB fz=aef x:=by
 cases ha:GF aB (B9 aB deep) args with
 |none=>simp[eK,ha]at hx
 |some a=>
  simp[eK,ha]at hx ⊢;cases hp:F f with
  |none=>
   rw[hp]at hx;cases hr:r (.func f a [] [])with
   |none=>grind
   |some o=>
    rw[hr]at hx;rcases g.no f hp with hq|hq
    ·rw[hq];dsimp only;rw[h _ _ hr];exact hx
    grind
  |some en=>
   rw[hp]at hx;rw[g.yes f _ hp];cases en with
   |nT k p=>exact hx
   |code x=>
    cases hr:r (.func f a [] [])with
    |none=>grind
    |some o=>rw[hr]at hx;rw[h _ _ hr];exact hx
   |LD x=>
    cases hr:r (.func f a [] [])with
    |none=>grind
    |some o=>rw[hr]at hx;rw[h _ _ hr];exact hx
theorem BL{r s:Task->Option Out}(h:Le r s){f:FuncId}{args:List PV}{aB:di}{fz:List Nat}{x:XR}
 (hx:iQ r f args aB fz=aef x):iQ s f args aB fz=aef x:=by
 unfold iQ at hx ⊢;cases hr:r (.func f args aB fz)with
 |none=>grind
 |some o=>rw[hr]at hx;rw[h _ _ hr];exact hx
theorem PC{r s:Task->Option Out}(h:Le r s){f:FuncId}{args:List PV}{aB:di}{fz:List Nat}{x:rQ}
 (hx:y9 r f args aB fz=aef x):y9 s f args aB fz=aef x:=by
 unfold y9 at hx ⊢;cases hl:abG args aB fz _ with
 |none=>grind
 |some p=>
  rw[hl]at hx;dsimp only at hx ⊢;cases hr:r (.func f p.1 p.2 [])with
  |none=>grind
  |some o=>rw[hr]at hx;rw[h _ _ hr];exact hx
theorem PD{F G:qo}{r s:Task->Option Out}(g:Ext F G r)(h:Le r s){e:Env}{aB:di}{fz:List Nat}{op:oK}{x:XR}
 (hx:BV F r e aB fz op=aef x):BV G s e aB fz op=aef x:=by
 cases op with
 |call m f args=>
  cases m with
  |pur=>
   simp[BV,]at hx ⊢
   grind[za]
  |own=>
   simp[BV,]at hx ⊢
   grind[za]
  |shr=>exact BL h hx
  |fp=>
   simp[BV,]at hx ⊢
   grind[PC]
 |BJ c args=>
  simp[BV]at hx ⊢;split at hx
  ·split at hx
   ·grind[BL]
   rename_i hc
   rw[Do hc]
   grind[EQ,za]
  cases hx
 |_=>exact hx
theorem Jm{F G:qo}{r s:Task->Option Out}(g:Ext F G r)(h:Le r s)(ops:List cI):
 ∀(st:St) (tr:List Tr) (x:St×List Tr),rS F r ops st tr=aef x->rS G s ops st tr=aef x:=by
 induction ops with
 |nil=>intro st tr x hx;exact hx
 |cons o l ih=>
  intro st tr x hx;simp[rS]at hx ⊢
  grind[PD]
theorem LG{F G:qo}{r s:Task->Option Out}(g:Ext F G r)(h:Le r s){d:Option _}{ops:List cI}{ig:List Nat}{st oh:St}
 (hx:oN F r d ops ig st=aef oh):oN G s d ops ig st=aef oh:=by
 unfold oN at hx ⊢
 grind[Jm]
theorem xx{F G:qo}{r s:Task->Option Out}(g:Ext F G r)(h:Le r s)(c:mu):
 ∀(st:St) (x:j7×St),zC F r c st=aef x->zC G s c st=aef x:=by
 induction c with
 |skip=>intro st x hx;exact hx
 |region d ops ig=>
  intro st x hx;simp[zC,]at hx ⊢
  grind[LG]
 |seq a b iha ihb=>
  intro st x hx;simp[zC]at hx ⊢
  grind
 |cond c a b iha ihb=>
  intro st x hx;simp[zC]at hx ⊢
  grind
 |block id b ih=>
  intro st x hx;simp[zC]at hx ⊢
  grind
 |loop live b _=>
  intro st x hx;simp[zC]at hx ⊢;split at hx
  ·rename_i e rU hr;rw[h _ _ hr];exact hx
  cases hx
 |exit id=>intro st x hx;exact hx
 |ret=>intro st x hx;exact hx
theorem VN{F G:qo}{r s:Task->Option Out}(g:Ext F G r)(h:Le r s):Le (step F r) (step G s):=by
 intro t o ho;cases t with
 |func f args aB fz=>
  simp[step]at ho ⊢;split at ho
  ·rename_i x hx
   rw[g.yes f _ hx]
   grind[xx]
  ·rename_i p hx
   rw[g.yes f _ hx];exact ho
  cases ho
 |loop live b st=>
  simp[step]at ho ⊢;split at ho
  ·cases ho
  split at ho
  ·rename_i BW hc;rw[xx g h _ _ _ hc];exact h _ _ ho
  ·grind[xx]
  cases ho
theorem oO(F:qo)(n:Nat):run F (n+1)=step F (run F n):=rfl
theorem ae8(F:qo)(n:Nat):Le (run F n) (run F (n+1)):=by
 induction n with
 |zero=>intro t o h;cases h
 |succ n ih=>exact VN (.refl _ _) ih
theorem vA(F:qo){n m:Nat}(h:n<=m):Le (run F n) (run F m):=by
 induction h with
 |refl=>intro t o h;exact h
 |step _ ih=>intro t o h;exact ae8 F _ _ _ (ih _ _ h)
def Fin(F:qo)(t:Task)(Q:Out->Prop):Prop:= ∃n o,run F n t=aef o/\Q o
def WP(F:qo)(c:mu)(st:St)(Q:j7->St->Prop):Prop:= ∃n e s,zC F (run F n) c st=aef (e,s)/\Q e s
def WO(F:qo)(ops:List cI)(st:St)(tr:List Tr)(Q:St->List Tr->Prop):Prop:=
 ∃n s t,rS F (run F n) ops st tr=aef (s,t)/\Q s t
variable {F : qo}
theorem Fin.mono{t:Task}{Q R:Out->Prop}(h:Fin F t Q)(hr: ∀o,Q o->R o):Fin F t R:=
 let ⟨n,o,e,q⟩:=h;⟨n,o,e,hr _ q⟩
theorem WP.mono{c:mu}{st:St}{Q R:j7->St->Prop}(h:WP F c st Q)(hr: ∀e s,Q e s->R e s):WP F c st R:=
 let ⟨n,e,s,x,q⟩:=h;⟨n,e,s,x,hr _ _ q⟩
theorem WP.skip{st:St}{Q:j7->St->Prop}(h:Q .normal st):WP F .skip st Q:=⟨0,_,_,rfl,h⟩
theorem WP.ret{st:St}{Q:j7->St->Prop}(h:Q .ret st):WP F .ret st Q:=⟨0,_,_,rfl,h⟩
theorem WP.exit{id:Nat}{st:St}{Q:j7->St->Prop}(h:Q (.exit id) st):WP F (.exit id) st Q:=⟨0,_,_,rfl,h⟩
def andThen(k:St->Prop)(Q:j7->St->Prop):j7->St->Prop
 | .normal,s=>k s
 |e,s=>Q e s
theorem WP.seq{a b:mu}{st:St}{Q:j7->St->Prop}(h:WP F a st (andThen (λs=>WP F b s Q) Q)):WP F (.seq a b) st Q:=by
 obtain⟨n,e,s,he,hq⟩:=h;cases e with
 |normal=>obtain⟨m,e',s',Po,X1⟩:=hq;refine⟨max n m,e',s',?_,X1⟩;simp[zC];rw[xx (.refl _ _) (vA F (acI n m)) _ _ _ he];exact xx (.refl _ _) (vA F (ac6 n m)) _ _ _ Po
 |exit i=>exact⟨n,_,s,by simp[zC,he],hq⟩
 |ret=>exact⟨n,_,s,by simp[zC,he],hq⟩
theorem WP.ad8{c:ib}{a b:mu}{st:St}{Q:j7->St->Prop}(hc:c.ev st.env= .bool aei)(h:WP F a st Q):WP F (.cond c a b) st Q:=by obtain⟨n,e,s,he,hq⟩:=h;exact⟨n,e,s,by simp[zC,hc,he],hq⟩
theorem WP.ad9{c:ib}{a b:mu}{st:St}{Q:j7->St->Prop}(hc:c.ev st.env= .bool aej)(h:WP F b st Q):WP F (.cond c a b) st Q:=by obtain⟨n,e,s,he,hq⟩:=h;exact⟨n,e,s,by simp[zC,hc,he],hq⟩
theorem WP.cond{c:ib}{a b:mu}{st:St}{Q:j7->St->Prop}(t:Bool)(hc:c.ev st.env= .bool t)
 (ha:t=aei->WP F a st Q) (hb:t=aej->WP F b st Q):WP F (.cond c a b) st Q:=by
 cases t
 ·exact WP.ad9 hc (hb rfl)
 grind[WP.ad8]
def inBlock(id:Nat)(Q:j7->St->Prop):j7->St->Prop
 | .exit j,s=>if j=id then Q .normal s else Q (.exit j) s
 |e,s=>Q e s
theorem WP.block{id:Nat}{b:mu}{st:St}{Q:j7->St->Prop}(h:WP F b st (inBlock id Q)):WP F (.block id b) st Q:=by
 obtain⟨n,e,s,he,hq⟩:=h;cases e with
 |normal=>exact⟨n,_,s,by simp[zC,he],hq⟩
 |ret=>exact⟨n,_,s,by simp[zC,he],hq⟩
 |exit j=>
  by_cases hj:j=id
  ·subst hj
   have X1:Q .normal s:=by simpa[inBlock]using hq
   exact⟨n,.normal,s,by simp[zC,he],X1⟩
  have X1:Q (.exit j) s:=by simpa[inBlock,hj]using hq
  exact⟨n,.exit j,s,by simp[zC,he,hj],X1⟩
def xy(ig:List Nat)(s:St):St:={s with env:=ig.map λt=>(t,lk t s.env)}
theorem WP.region{ops:List cI}{ig:List Nat}{st:St}{Q:j7->St->Prop}
 (h:WO F ops st [] (λs _=>Q .normal (xy ig s))):WP F (.region aeg ops ig) st Q:=by
 obtain⟨n,s,t,he,hq⟩:=h;exact⟨n,.normal,_,by simp[zC,oN,he];rfl,hq⟩
theorem WP.abH{bf:List Nat}{ops:List cI}{ig:List Nat}{st:St}{Q:j7->St->Prop}
 (h:WO F ops st [] (λs t=>wJ 0 (t.reverse.zip bf)=aei/\Q .normal (xy ig s))):WP F (.region (aef bf) ops ig) st Q:=by
 obtain⟨n,s,t,he,ho,hq⟩:=h;exact⟨n,.normal,xy ig s,by simp[zC,oN,he,ho,xy],hq⟩
theorem WO.nil{st:St}{tr:List Tr}{Q:St->List Tr->Prop}(h:Q st tr):WO F [] st tr Q:=⟨0,_,_,rfl,h⟩
theorem WO.op{o:cI}{r:List cI}{st:St}{tr:List Tr}{Q:St->List Tr->Prop}(x:rQ)
 (hw:wanted o.guard st.env=aef aei) (hx: ∀rec,BV F rec st.env st.aB st.fz o.op=aef (.loc x)) (nE:(XR.loc x).ok st.fz=aei)
 (h:WO F r ((XR.loc x).next o.dst st) ((XR.loc x).tr (aed st.aB)::tr) Q):WO F (o::r) st tr Q:=by
 obtain⟨n,s,t,he,hq⟩:=h;exact⟨n,s,t,by simp[rS,hw,hx,nE,he],hq⟩
theorem WO.skip{o:cI}{r:List cI}{st:St}{tr:List Tr}{Q:St->List Tr->Prop}
 (hw:wanted o.guard st.env=aef aej)
 (h:WO F r {st with env:=lf o.dst .nD st.env} (Tr.idle::tr) Q):WO F (o::r) st tr Q:=by
 obtain⟨n,s,t,he,hq⟩:=h;exact⟨n,s,t,by simp[rS,hw,he],hq⟩
theorem WO.call{o:cI}{r:List cI}{st:St}{tr:List Tr}{Q:St->List Tr->Prop}(x:XR)
 (hw:wanted o.guard st.env=aef aei) (hx: ∃n,BV F (run F n) st.env st.aB st.fz o.op=aef x) (nE:x.ok st.fz=aei)
 (h:WO F r (x.next o.dst st) (x.tr (aed st.aB)::tr) Q):WO F (o::r) st tr Q:=by
 obtain⟨n,s,t,he,hq⟩:=h;obtain⟨m,hx⟩:=hx;refine⟨max n m,s,t,?_,hq⟩;simp[rS,hw];rw[PD (.refl _ _) (vA F (ac6 n m)) hx];dsimp only;rw[AC nE];exact Jm (.refl _ _) (vA F (acI n m)) _ _ _ _ he
theorem WP.loop{α:Type}{live:List _}{b:mu}{st:St}{Q:j7->St->Prop}(S:α->St)(I:α->Prop)(μ:α->Nat)
 (x:α) (h0:norm live st=aef (S x)) (hI:I x)
 (round: ∀x,I x->WP F b (S x) (andThen (λs=> ∃y,norm live s=aef (S y)/\I y/\μ y<μ x) Q)):WP F (.loop live b) st Q:=by
 have key: ∀k x st,μ x=k->I x->norm live st=aef (S x)-> ∃n e s,run F n (.loop live b st)=aef (.code e s)/\Q e s:=by
  intro k
  induction k using Nat.strongRecOn with
  |_ k ih=>
   intro x st hk hI h0;obtain⟨n,e,s,he,hq⟩:=round x hI;cases e with
   |normal=>obtain⟨y,hy,hIy,iL⟩:=hq;obtain⟨m,e',s',hr,X1⟩:=ih _ (hk▸iL) y s rfl hIy hy;refine⟨max n m+1,e',s',?_,X1⟩;rw[oO];simp[step,h0];rw[xx (.refl _ _) (vA F (acI n m)) _ _ _ he];exact vA F (ac6 n m) _ _ hr
   |exit i=>exact⟨n+1,_,s,by rw[oO];simp[step,h0,he],hq⟩
   |ret=>exact⟨n+1,_,s,by rw[oO];simp[step,h0,he],hq⟩
 obtain⟨n,e,s,hr,hq⟩:=key _ x st rfl hI h0;exact⟨n,e,s,by simp[zC,hr],hq⟩
def ND(x:ax)(R:PV->di->List Nat->Prop):j7->St->Prop
 | .normal,s=> ∃vs,rT s x.res=aef vs/\R (results1 vs) s.aB s.fz
 | .ret,s=> ∃vs,rT s x.res=aef vs/\R (results1 vs) s.aB s.fz
 | .exit _,_=>False
def Ep(F:qo)(f:FuncId)(args:List PV)(aB:di)(fz:List Nat)(R:PV->di->List Nat->Prop):Prop:=
 ∃n v s z,run F n (.func f args aB fz)=aef (.func v s z)/\R v s z
theorem Ep.of{f:FuncId}{x:ax}{args:List PV}{aB:di}{fz:List Nat}{R:PV->di->List Nat->Prop}
 (hf:F f=aef (.code x)) (hn:PP (aed args) x.Jh=aei)
 (h:WP F x.code {env:=zJ 0 args,aB,fz,kn:=aed aB} (ND x R)):Ep F f args aB fz R:=by
 obtain⟨n,e,s,he,hq⟩:=h;cases e with
 |normal=>obtain⟨vs,hv,hr⟩:=hq;exact⟨n+1,_,_,_,by rw[oO];simp only[step,hf,hn,he,hv,];rfl,hr⟩
 |ret=>obtain⟨vs,hv,hr⟩:=hq;exact⟨n+1,_,_,_,by rw[oO];simp only[step,hf,hn,he,hv,];rfl,hr⟩
 |exit i=>exact hq.elim
def Pure(F:qo)(f:FuncId)(args:List PV)(v:PV):Prop:=
 (∀k p,F f≠aef (.nT k p))/\Ep F f args [] [] λu _ _=>u.oC=aei/\u=v
def Uv(F:qo)(f:FuncId)(args:List PV)(v:PV):Prop:=
 (∀k p,F f≠aef (.nT k p))/\Ep F f args [] [] λu s _=>u.oC=aej/\D3 s u=aef v
theorem Pure.of{f:FuncId}{x:ax}{args:List PV}{v:PV}
 (hf:F f=aef (.code x)) (hn:PP (aed args) x.Jh=aei)
 (h:WP F x.code {env:=zJ 0 args,aB:=[],fz:=[],kn:=0} (ND x λu _ _=>u.oC=aei/\u=v)):
 Pure F f args v:=⟨λk p e=>by grind,Ep.of hf hn h⟩
theorem Uv.of{f:FuncId}{x:ax}{args:List PV}{v:PV}
 (hf:F f=aef (.code x)) (hn:PP (aed args) x.Jh=aei)
 (h:WP F x.code {env:=zJ 0 args,aB:=[],fz:=[],kn:=0} (ND x λu s _=>u.oC=aej/\D3 s u=aef v)):
 Uv F f args v:=⟨λk p e=>by grind,Ep.of hf hn h⟩
theorem Pure.eK{f:FuncId}{as args:List PV}{aB:di}{fz:List Nat}{v:PV}(h:Pure F f args v)
 (ha:GF aB (B9 aB deep) as=aef args):
 ∃n,Vm.eK F (run F n) aej f as aB fz=aef {v,rd:=fb (gN aB deep) as}:=by
 obtain⟨hp,n,u,s,z,hr,h1,h2⟩:=h;refine⟨n,?_⟩;simp[Vm.eK,]
 grind
theorem Uv.eK{f:FuncId}{as args:List PV}{aB:di}{fz:List Nat}{v:PV}(h:Uv F f args v)
 (ha:GF aB (B9 aB deep) as=aef args):
 ∃n,Vm.eK F (run F n) aej f as aB fz=aef {v,rd:=fb (gN aB deep) as,fr:=fb (gN aB deep) as}:=by
 obtain⟨hp,n,u,s,z,hr,h1,h2⟩:=h;refine⟨n,?_⟩;simp[Vm.eK,]
 grind
theorem WO.pure{d:Option Nat}{g:Option _}{f:FuncId}{as:List ib}{r:List cI}{st:St}{tr:List Tr}{Q:St->List Tr->Prop}
 {args:List PV} {v:PV} (h:Pure F f args v)
 (hw:wanted g st.env=aef aei) (ha:GF st.aB (B9 st.aB deep) (LF st.env as)=aef args)
 (k:WO F r ((XR.loc {v,rd:=fb (gN st.aB deep) (LF st.env as)}).next d st) ((XR.loc {v,rd:=fb (gN st.aB deep) (LF st.env as)}).tr (aed st.aB)::tr) Q):
 WO F (⟨d,.call .pur f as,g⟩::r) st tr Q:=by
 obtain⟨n,hn⟩:=h.eK (fz:=st.fz) ha;exact WO.call _ hw ⟨n,by simp only[BV,hn];rfl⟩ rfl k
end Go.Vm
/- The look at an operation of the model: is the logical machine's operation its own? -/
namespace Go.Vm
mutual
def zb:PV->Value->Bool
 | .int k n,.int l m=>hO k l&&n==m
 | .bool a,.bool b=>a==b
 | .sl _ _ [],.slice aeg 0 0=>aei
 | .agg cs,.agg vs=>Jn cs vs.toList
 | .fv,.nilFunc=>aei
 | .str s,.string t=>s.data.toList==t.data.toList
 | .undef,_=>aei
 |_,_=>aej
def Jn:List PV->List Value->Bool
 | [],[]=>aei
 |x::xs,v::vs=>zb x v&&Jn xs vs
 |_,_=>aej
end
def bM:ib->Operand->Bool
 | .t n,.tmp m=>n==m
 | .c v,.const u=>zb v u
 | .c (.fE f [] []),.func g=>f==g
 | .c .undef,_=>aei
 |_,_=>aej
def gH:List ib->List Operand->Bool
 | [],[]=>aei
 |x::xs,o::os=>bM x o&&gH xs os
 |_,_=>aej
def yp:Nat->List ib->List (Nat×Operand)->Bool
 |_,[],[]=>aei
 |k,x::xs,(i,a)::r=>i==k&&bM x a&&yp (k+1) xs r
 |_,_,_=>aej
def NF:Option ib->Option Operand->Bool
 |none,aeg=>aei
 |some x,aef o=>bM x o
 |_,_=>aej
section
variable (P : Program)
def jC(t:TypeId):Bool:=
 match P.underlying t with
 |some (.struct _)|some (.array _ _)=>aei
 |_=>aej
def rV(t:TypeId)(n:Nat):Bool:=(P.info? t).any λi=>i.size==n
def IT(t:TypeId):Bool:=(P.info? t).any λi=>abq i.bytes 1048576
def Fj(t:TypeId)(agg:Option Nat):Bool:=
 (P.underlying t).isSome&&match agg with
 |some n=>jC P t&&rV P t n
 |none=>!jC P t&&rV P t 1
def Dg(t:TypeId)(aO:Nat):Bool:=
 match P.underlying t with
 |some (.slice e)=>rV P e aO
 |_=>aej
def xz(t:TypeId):Bool:=
 match P.underlying t with
 |some (.slice _)=>aei
 |_=>aej
def Uw(t:TypeId)(n aO:Nat):Bool:=
 match P.underlying t with
 |some (.array m e)=>m==n&&rV P e aO
 |_=>aej
def zc(t:TypeId)(cells:List PV):Bool:=
 match(P.info? t).bind (·.zero)with
 |some v=>Jn cells v.cells.toList
 |none=>aej
def flat:Nat->TypeId->Option Nat
 |0,_=>aeg
 |d+1,t=>
  match P.underlying t with
  |some (.int _)=>if rV P t 1 then aef 1 else aeg
  |some (.struct fs)=>
   if P.stoodInHeld t then aeg else
   match fs.toList.foldl (λr f=>match r with
    |some n=>if f.offset==n&&f.name != "_" then(match flat d f.type with
     |some m=>if rV P f.type m then aef (n+m)else aeg
     |none=>aeg)else aeg
    |none=>aeg) (aef 0)with
   |some n=>if rV P t n then aef n else aeg
   |none=>aeg
  |_=>aeg
def Sb(t:TypeId)(n:Nat):Bool:=flat P 100 t==aef n
def zK(place:Nat->Option (Nat×Nat)):List (Nat×Nat×ib)->List (Nat×Operand)->Bool
 | [],[]=>aei
 |(off,sz,x)::r,(i,o)::s=>(match place i with|some (a,b)=>a==off&&b==sz|none=>aej)&&bM x o&&zK place r s
 |_,_=>aej
def qT:List (Nat×ib)->List (Nat×Operand)->Bool
 | [],[]=>aei
 |(i,x)::r,(j,o)::s=>i==j&&bM x o&&qT r s
 |_,_=>aej
def placeOf(t:TypeId):Nat->Option (Nat×Nat):=
 match P.underlying t with
 |some (.struct fs)=>λi=>(fs[i]?).bind λf=>(P.info? f.type).map λj=>(f.offset,j.size)
 |some (.array _ e)=>λi=>(P.info? e).map λj=>(i*j.size,j.size)
 |_=>λ_=>aeg
def Cb(t:TypeId)(n:Option Nat):Bool:=
 match n with
 |none=>(match P.underlying t with|some (.int _)=>aei|_=>aej)
 |some n=>jC P t&&flat P 100 t==aef n
def abI(f:FuncId):Bool:=(P.funcs[f]?).any λfn=>fn.body.isSome&&!(fn.name== "runtime.NumGoroutine")
def BM(prims:FuncId->Bool)(ty:TypeId):oK->Op->Bool
 | .XL x,.move o=>bM x o
 | .XL x,.assign o=>bM x o
 | .pick c a b,.pick d e f=>bM c d&&bM a e&&bM b f
 | .bin op x y,.binOp op' _ a b _=>op==op'&&bM x a&&bM y b
 | .Pu neg x y,.binOp op t a b _=>(if neg then op== .neq else op== .eql)&&P.underlying t matches aef .bool&&bM x a&&bM y b
 | .eqc n neg x y,.binOp op t a b _=>(if neg then op== .neq else op== .eql)&&jC P t&&Sb P t n&&!P.eqGuardType P.depth t&&bM x a&&bM y b
 | .un op x,.unOp op' _ a=>op==op'&&bM x a
 | .conv k x,.convert s d a=>(P.underlying s).isSome&&(match P.underlying d with|some (.int l)=>hO k l|_=>aej)&&bM x a
 | .len x,.call {callee:= .builtin .len,args,argTypes}=>(match argTypes[0]? with|some t=>xz P t|none=>aej)&&gH [x] args.toList
 | .Sa n,.call {callee:= .builtin .len,args,argTypes}=>!args.isEmpty&&(match argTypes[0]? with
  |some t=>(match P.underlying t with
   |some (.array m _)=>m==n
   |some (.pointer e)=>(match P.underlying e with|some (.array m _)=>m==n|_=>aej)
   |_=>aej)
  |none=>aej)
 | .box x,.box _ a=>bM x a
 | .alloc cells,.alloc t=>zc P t cells
 | .build zero parts,.build t ps=>zc P t zero&&jC P t&&zK (placeOf P t) parts ps.toList
  &&(match P.underlying t with|some (.struct fs)=>fs.all λf=>(P.info? f.type).isSome|some (.array _ e)=>(P.info? e).isSome|_=>aej)
 | .Fh aO n zero parts,.buildSlice t m ps=>n==m&&(match P.underlying t with|some (.slice e)=>rV P e aO&&zc P e zero&&(aed zero)==aO&&!(aO==0)|_=>aej)&&abq (n*aO) 1048576&&zero.all PV.plain&&qT parts ps.toList
 | .load agg p,.load t a=>Fj P t agg&&bM p a
 | .store sz p v,.store t a b=>rV P t sz&&bM p a&&bM v b
 | .Pv x,.nilCheck a=>bM x a
 | .Pw off p,.fieldAddr t a f=>(match P.underlying t with
  |some (.struct fs)=>(match fs[f]? with|some g=>g.offset==off&&(P.info? g.type).any λi=>!(i.size==0)|none=>aej)
  |_=>aej)&&bM p a
 | .dI agg off x,.field t a f=>(match P.underlying t with
  |some (.struct fs)=>(match fs[f]? with|some g=>g.offset==off&&Fj P g.type agg|none=>aej)
  |_=>aej)&&bM x a
 | .Px aO x i,.indexAddr t a j=>Dg P t aO&&bM x a&&bM i j
 | .HM n aO p i,.indexAddr t a j=>Uw P t n aO&&bM p a&&bM i j
 | .idx n aO agg x i,.index t a j=>(match P.underlying t with|some (.array m e)=>m==n&&rV P e aO&&Fj P e agg|_=>aej)&&bM x a&&bM i j
 | .Py x i,.index t a j=>P.underlying t matches aef .string&&bM x a&&bM i j
 | .VL aO x l h m,.slice t a b c d=>(m.isNone||h.isSome)&&Dg P t aO&&bM x a&&NF l b&&NF h c&&NF m d
 | .mks aO zero l c,.makeSlice t a b=>(match P.underlying t with|some (.slice e)=>rV P e aO&&zc P e zero&&(aed zero)==aO&&IT P e&&!(aO==0)|_=>aej)&&zero.all PV.plain&&bM l a&&bM c b
 | .mkf fn a b,.makeFunc (.func g) c d=>fn==g&&gH a c.toList&&gH b d.toList
 | .mkm _,.makeMap _ aeg=>aei
 | .ext i x,.extract a j=>i==j&&bM x a
 | .append aO x y,.call {callee:= .builtin .append,args,argTypes}=>(match argTypes.toList with
  | [t,u]=>(match P.underlying t with|some (.slice e)=>rV P e aO&&IT P e&&!(aO==0)&&(P.info? e).any (λi=>i.zero.any λz=>z.cells.size==aO)|_=>aej)&&xz P u
  |_=>aej)&&gH [x,y] args.toList
 | .lookup n zero ok m k,.lookup t a b ok'=>ok==ok'&&(match P.underlying t with|some (.map kt et)=>Cb P kt n&&(match(P.info? et).bind (·.zero)with|some v=>zb zero v|none=>aej)|_=>aej)&&bM m a&&bM k b
 | .Nx n m k v,.mapUpdate t a b c=>(match P.underlying t with|some (.map kt _)=>Cb P kt n|_=>aej)&&bM m a&&bM k b&&bM v c
 | .copy aO x y,.call {callee:= .builtin .copy,args,argTypes}=>(match argTypes.toList with| [t,u]=>Dg P t aO&&xz P u|_=>aej)&&gH [x,y] args.toList
 | .clear aO zero x,.call {callee:= .builtin .clear,args,argTypes}=>(match argTypes.toList with
  | [t]=>(match P.underlying t with|some (.slice e)=>rV P e aO&&zc P e zero&&(aed zero)==aO&&zero.all PV.plain|_=>aej)
  |_=>aej)&&gH [x] args.toList
 | .mm rO x xs,.call {callee:= .builtin b,args,argTypes:=_}=>(if rO then b== .max else b== .min)&&gH (x::xs) args.toList
 | .call _ f args,.call {callee:= .value (.func g),args:=as,argTypes:=_}=>f==g&&(prims f||abI P f)&&gH args as.toList
 | .BJ x args,.call {callee:= .value (.tmp t),args:=as,argTypes:=_}=>bM x (.tmp t)&&gH args as.toList
 | .HL x y,.buildSlice t m ps=>m==2&&(match P.underlying t with|some (.slice e)=>rV P e 1&&(P.info? e).any (λi=>i.zero.any λz=>z.cells.size==1)|_=>aej)&&(match ps.toList with| [(i,a),(j,b)]=>i==0&&j==1&&bM x a&&bM y b|_=>aej)
 | .B8 aO xs,.buildSlice t m ps=>m==(aed xs)&&!(m*aO==0)&&abq (m*aO) 1048576&&(match P.underlying t with|some (.slice e)=>rV P e aO&&(P.info? e).any (λi=>i.zero.any λz=>z.cells.size==aO)|_=>aej)&&yp 0 xs ps.toList
 | .Nx n m k v,.insert t a b c=>(match P.underlying t with|some (.map kt _)=>Cb P kt n|_=>aej)&&bM m a&&bM k b&&bM v c
 | .bad,_=>aei
 |_,_=>ty==0&&aej
end
end Go.Vm
/- What a pure value says of a value of the model, a block of the call's own of the memory. -/
namespace Go.Vm
structure Tape(w w':World):Prop where
 eq:w'.tape=w.tape
 dr:w.drawn<=w'.drawn
theorem Tape.refl(w:World):Tape w w:=⟨rfl,UV _⟩
theorem Tape.trans{a b c:World}(h2:Tape b c)(h1:Tape a b):Tape a c:=⟨h2.eq.trans h1.eq,Nat.le_trans h1.dr h2.dr⟩
theorem Tape.same{w w':World}(h:w'.tape=w.tape)(k:w'.drawn=w.drawn):Tape w w':=⟨h,by omega⟩
structure LI where
 eB:Nat
 sh:Nat
 aO:Nat
 n:Nat
 sz:Nat
abbrev Im:=Nat->Option Obj
abbrev Loc:=Nat->Option LI
def tV(im:Im)(b o:Nat):Option Value:=
 match im b with
 |some (.cells c _ _)=>c[o]?
 |_=>aeg
def mO:PV->Option Value
 | .int k n=>aef (.int k n)
 | .bool b=>aef (.bool b)
 | .str s=>aef (.string s)
 |_=>aeg
def cA(get:Nat->Option Value)(sh aO:Nat)(rows:List Row):Prop:=
 ∀(i:Nat) (r:Row),rows[i]? =aef r->aed r=aO/\ ∀(j:Nat) (c:PV),r[j]? =aef c-> ∃v,mO c=aef v/\get (sh+i*aO+j)=aef v
mutual
inductive VR(im:Im)(loc:Loc):PV->Value->Prop
 |undef(v:Value):VR im loc .undef v
 |nD:VR im loc .nD Go.undef
 |int(k:IntKind)(n:Int):VR im loc (.int k n) (.int k n)
 |bool(b:Bool):VR im loc (.bool b) (.bool b)
 |str(s:ByteArray):VR im loc (.str s) (.string s)
 |agg(cs:List PV)(vs:List Value)(h:gz im loc cs vs):VR im loc (.agg cs) (.agg ⟨vs⟩)
 |cV(cs:List PV)(vs:List Value)(h:gz im loc cs vs):VR im loc (.cV cs) (.tuple ⟨vs⟩)
 |sl(aO:Nat)(vX:Bool)(rows:List Row)(a:Option Addr)(cap:Nat)(hc:(aed rows)<=cap)(hk:vX=aei->cap=aed rows)
  (h:rows≠[]-> ∃b o,a=aef ⟨b,o,aeg⟩/\cA (tV im b) o aO rows):VR im loc (.sl aO vX rows) (.slice a (aed rows) cap)
 |own(t aO off len cap:Nat)(ex:Bool)(li:LI)(a:Option Addr)(eC:Nat)(hl:loc t=aef li)(he:li.aO=aO)(hn:off+cap<=li.n)(hc:len<=cap)
  (hx:cap<=eC) (hk:ex=aei->eC=cap)
  (h:eC=0\/(li.n≠0/\a=aef ⟨li.eB,li.sh+off*aO,aeg⟩/\li.sh+(off+eC)*aO<=li.sz)):VR im loc (.own t aO off len cap ex) (.slice a len eC)
 |ptr(t aO row off:Nat)(li:LI)(hl:loc t=aef li)(he:li.aO=aO)(hn:row<li.n):
  VR im loc (.ptr t aO row off) (.pointer (aef ⟨li.eB,li.sh+row*aO+off,aeg⟩))
 |bZ(cs:List PV)(off b o:Nat)(vs:List Value)(h:gz im loc cs vs)(hv: ∀(j:Nat) (v:Value),vs[j]? =aef v->tV im b (o+j)=aef v):
  VR im loc (.bZ cs off) (.pointer (aef ⟨b,o+off,aeg⟩))
 |mp(t:Nat)(li:LI)(hl:loc t=aef li):VR im loc (.mp t) (.map (aef li.eB))
 |fE(fn:FuncId)(a b:List PV)(as bs:List Value)(ha:gz im loc a as)(hb:gz im loc b bs):VR im loc (.fE fn a b) (.func (.func fn) ⟨as⟩ ⟨bs⟩)
 |fv:VR im loc .fv .nilFunc
inductive gz(im:Im)(loc:Loc):List PV->List Value->Prop
 |nil:gz im loc [] []
 |cons(x:PV)(v:Value)(xs:List PV)(vs:List Value)(h:VR im loc x v)(hs:gz im loc xs vs):gz im loc (x::xs) (v::vs)
end
def rW(im fP:Im):Prop:= ∀b o,im b=aef o->fP b=aef o
def p7(loc bE:Loc):Prop:= ∀t li,loc t=aef li->bE t=aef li
theorem rW.refl(im:Im):rW im im:=λ_ _ h=>h
theorem rW.trans{a b c:Im}(h:rW a b)(k:rW b c):rW a c:=λx o e=>k x o (h x o e)
theorem p7.refl(loc:Loc):p7 loc loc:=λ_ _ h=>h
theorem p7.trans{a b c:Loc}(h:p7 a b)(k:p7 b c):p7 a c:=λx o e=>k x o (h x o e)
theorem rW.cell{im fP:Im}(h:rW im fP){b o:Nat}{v:Value}(hc:tV im b o=aef v):tV fP b o=aef v:=by
 unfold tV at hc ⊢;cases hb:im b with
 |none=>grind
 |some x=>rw[hb]at hc;rw[h b x hb];exact hc
theorem cA.mono{g g':Nat->Option Value}{sh aO:Nat}{rows:List Row}(h:cA g sh aO rows)(hg: ∀k v,g k=aef v->g' k=aef v):
 cA g' sh aO rows:=by
 intro i r hr;obtain⟨h1,h2⟩:=h i r hr
 grind
mutual
theorem VR.mono{im fP:Im}{loc bE:Loc}(hi:rW im fP)(hl:p7 loc bE): ∀{x:PV} {v:Value},VR im loc x v->VR fP bE x v
 |_,_,.undef v=> .undef v
 |_,_,.nD=> .nD
 |_,_,.int k n=> .int k n
 |_,_,.bool b=> .bool b
 |_,_,.str s=> .str s
 |_,_,.agg cs vs h=> .agg cs vs (gz.mono hi hl h)
 |_,_,.cV cs vs h=> .cV cs vs (gz.mono hi hl h)
 |_,_,.sl aO vX rows a cap hc hk h=> .sl aO vX rows a cap hc hk λfo=>let ⟨b,o,ha,hr⟩:=h fo;⟨b,o,ha,hr.mono λ_ _ e=>hi.cell e⟩
 |_,_,.own t aO off len cap ex li a eC h1 h2 h3 h4 h5 h6 h7=> .own t aO off len cap ex li a eC (hl _ _ h1) h2 h3 h4 h5 h6 h7
 |_,_,.ptr t aO row off li h1 h2 h3=> .ptr t aO row off li (hl _ _ h1) h2 h3
 |_,_,.bZ cs off b o vs h hv=> .bZ cs off b o vs (gz.mono hi hl h) λj v e=>hi.cell (hv j v e)
 |_,_,.mp t li h=> .mp t li (hl _ _ h)
 |_,_,.fE fn a b as bs ha hb=> .fE fn a b as bs (gz.mono hi hl ha) (gz.mono hi hl hb)
 |_,_,.fv=> .fv
theorem gz.mono{im fP:Im}{loc bE:Loc}(hi:rW im fP)(hl:p7 loc bE): ∀{x:List PV} {v:List Value},gz im loc x v->gz fP bE x v
 |_,_,.nil=> .nil
 |_,_,.cons x v xs vs h hs=> .cons x v xs vs (VR.mono hi hl h) (gz.mono hi hl hs)
end
theorem gz.pN{im:Im}{loc:Loc}: ∀{x:List PV} {v:List Value},gz im loc x v->aed x=aed v
 |_,_,.nil=>rfl
 |_,_,.cons _ _ _ _ _ hs=>by simp[hs.pN]
theorem gz.get{im:Im}{loc:Loc}: ∀{xs:List PV} {vs:List Value},gz im loc xs vs-> ∀(i:Nat) (x:PV),xs[i]? =aef x-> ∃v,vs[i]? =aef v/\VR im loc x v
 |_,_,.nil,i,x,h=>by simp at h
 |_,_,.cons y v xs vs h hs,0,x,e=>by grind
 |_,_,.cons y v xs vs h hs,i+1,x,e=>by
  obtain⟨u,hu,hr⟩:=hs.get i x (by simpa using e)
  grind
theorem gz.append{im:Im}{loc:Loc}: ∀{xs:List PV} {vs:List Value},gz im loc xs vs-> ∀{ys:List PV} {us:List Value},gz im loc ys us->gz im loc (xs++ys) (vs++us)
 |_,_,.nil,_,_,k=>k
 |_,_,.cons y v xs vs h hs,_,_,k=> .cons _ _ _ _ h (hs.append k)
theorem gz.take{im:Im}{loc:Loc}: ∀{xs:List PV} {vs:List Value},gz im loc xs vs-> ∀n,gz im loc (xs.take n) (vs.take n)
 |_,_,.nil,n=>by simp;exact .nil
 |_,_,.cons y v xs vs h hs,0=> .nil
 |_,_,.cons y v xs vs h hs,n+1=> .cons _ _ _ _ h (hs.take n)
theorem gz.drop{im:Im}{loc:Loc}: ∀{xs:List PV} {vs:List Value},gz im loc xs vs-> ∀n,gz im loc (xs.drop n) (vs.drop n)
 |_,_,.nil,n=>by simp;exact .nil
 |_,_,.cons y v xs vs h hs,0=> .cons _ _ _ _ h hs
 |_,_,.cons y v xs vs h hs,n+1=>hs.drop n
theorem gz.of{im:Im}{loc:Loc}: ∀(xs:List PV) (vs:List Value),aed xs=aed vs->(∀(i:Nat) (x:PV) (v:Value),xs[i]? =aef x->vs[i]? =aef v->VR im loc x v)->gz im loc xs vs
 | [],[],_,_=> .nil
 |x::xs,v::vs,hl,h=> .cons x v xs vs (h 0 x v rfl rfl) (gz.of xs vs (by simpa using hl) λi a b ha hb=>h (i+1) a b (by simpa using ha) (by simpa using hb))
theorem VR.plain{im:Im}{loc:Loc}{x:PV}{v:Value}(h:VR im loc x v)(hp:x.plain=aei):mO x=aef v:=by cases h<;>first|rfl|cases hp
theorem VR.Jo{im:Im}{loc:Loc}{x:PV}{v:Value}(h:mO x=aef v):VR im loc x v:=by cases x<;>simp[mO,]at h<;>first|(subst h;constructor)|cases h
theorem VR.cells{im:Im}{loc:Loc}{x:PV}{v:Value}(h:VR im loc x v)(hs: ∀c∈x.cells,c.wz=aei):gz im loc x.cells v.cells.toList:=by
 cases h with
 |agg cs vs h=>exact h
 |undef v=>have:=hs .undef (by simp[PV.cells]);cases this
 |nD=>have:=hs .nD (by simp[PV.cells]);cases this
 |cV cs vs h=>have:=hs (.cV cs) (by simp[PV.cells]);cases this
 |int k n=>exact .cons _ _ _ _ (.int k n) .nil
 |bool b=>exact .cons _ _ _ _ (.bool b) .nil
 |str s=>exact .cons _ _ _ _ (.str s) .nil
 |sl aO vX rows a cap hc hk h=>exact .cons _ _ _ _ (.sl aO vX rows a cap hc hk h) .nil
 |own t aO off len cap ex li a eC h1 h2 h3 h4 h5 h6 h7=>exact .cons _ _ _ _ (.own t aO off len cap ex li a eC h1 h2 h3 h4 h5 h6 h7) .nil
 |ptr t aO row off li h1 h2 h3=>exact .cons _ _ _ _ (.ptr t aO row off li h1 h2 h3) .nil
 |bZ cs off b o vs h hv=>exact .cons _ _ _ _ (.bZ cs off b o vs h hv) .nil
 |mp t li h=>exact .cons _ _ _ _ (.mp t li h) .nil
 |fE fn a b as bs ha hb=>exact .cons _ _ _ _ (.fE fn a b as bs ha hb) .nil
 |fv=>exact .cons _ _ _ _ .fv .nil
theorem VR.NG{im:Im}{loc:Loc}{x:PV}{v:Value}(h:VR im loc x v)(hs:x.wz=aei):(∀us,v≠ .agg us)/\ ∀us,v≠ .tuple us:=by cases h<;>first|(simp[PV.wz]at hs;done)|simp
def valOf:PV->Option Value
 | .agg cs=>(cs.mapM mO).map λvs=> .agg ⟨vs⟩
 |x=>mO x
def iK:List (PV×PV)->List MapEntry->Prop
 | [],[]=>True
 |(k,v)::r,e::r'=>valOf k=aef e.key/\valOf v=aef e.val/\iK r r'
 |_,_=>False
def BR(im:Im)(loc:Loc)(w:World)(li:LI):ox->Prop
 | .arr e rows=>li.aO=e/\li.n=aed rows/\(rows≠[]-> ∃cs el,w.heap[li.eB]? =aef (.cells cs el (0,0))/\cs.size=li.sz/\li.sh+aed rows*e<=li.sz/\cA (λk=>cs[k]?) li.sh e rows)
 | .box cells=>(li.n*li.aO=aed cells)/\True/\li.sh=0/\ ∃vs el,w.heap[li.eB]? =aef (.cells ⟨vs⟩ el (0,0))/\aed vs=li.sz/\gz im loc cells vs
 | .map es=> ∃nU clock,w.heap[li.eB]? =aef (.map nU clock)/\iK es nU.toList
 | .dead=>True
theorem BR.mono{im fP:Im}{loc bE:Loc}{w w':World}{li:LI}{k:ox}(h:BR im loc w li k)(hi:rW im fP)(hl:p7 loc bE)
 (hw:w'.heap[li.eB]? =w.heap[li.eB]?):BR fP bE w' li k:=by
 cases k with
 |arr e rows=>exact⟨h.1,h.2.1,λfo=>let ⟨cs,el,h1,h2,h3⟩:=h.2.2 fo;⟨cs,el,by grind,h2,h3⟩⟩
 |box cells=>obtain⟨h1,h2,h3,vs,el,h4,h5,h6⟩:=h;exact⟨h1,h2,h3,vs,el,by grind,h5,h6.mono hi hl⟩
 |map es=>obtain⟨en,cl,h1,h2⟩:=h;exact⟨en,cl,by grind,h2⟩
 |dead=>trivial
theorem BR.lt{im:Im}{loc:Loc}{w:World}{li:LI}{k:ox}(h:BR im loc w li k)(hs:k.cu=aei):li.eB<w.heap.size:=by
 have get: ∀{o:Obj},w.heap[li.eB]? =aef o->li.eB<w.heap.size:=λe=>by
  grind
 cases k with
 |arr e rows=>
  cases rows with
  |nil=>cases hs
  |cons r rs=>obtain⟨cs,el,h1,_⟩:=h.2.2 (by simp);exact get h1
 |box cells=>obtain⟨_,_,_,vs,el,h4,_⟩:=h;exact get h4
 |map es=>obtain⟨en,cl,h1,h2⟩:=h;exact get h1
 |dead=>cases hs
structure SR(im:Im)(loc:Loc)(aB:di)(fz:List Nat)(w:World):Prop where
 bW: ∀b o,im b=aef o->w.heap[b]? =aef o
 eB: ∀t li,loc t=aef li-> ∃k,aB[t]? =aef k/\BR im loc w li k
 lh: ∀t u li lj k k',loc t=aef li->loc u=aef lj->aB[t]? =aef k->aB[u]? =aef k'->k.cu=aei->k'.cu=aei->li.eB=lj.eB->t=u
 free: ∀t li k,loc t=aef li->aB[t]? =aef k->k.cu=aei->has fz t=aej->im li.eB=aeg
def ER(im:Im)(loc:Loc)(e:Env)(tmps:Array Value):Prop:= ∀t,VR im loc (lk t e) (tmps.getD t Go.undef)
theorem ER.mono{im fP:Im}{loc bE:Loc}(hi:rW im fP)(hl:p7 loc bE){e:Env}{tmps:Array Value}(h:ER im loc e tmps):ER fP bE e tmps:=
 λt=>(h t).mono hi hl
theorem wK(t s:Nat)(v:PV)(e:Env):lk t ((s,v)::e)=if s=t then v else lk t e:=by simp only[lk];simp
theorem ER.put{im:Im}{loc:Loc}{e:Env}{tmps:Array Value}(h:ER im loc e tmps){d:Nat}{x:PV}{v:Value}(hd:d<tmps.size)(hv:VR im loc x v):
 ER im loc ((d,x)::e) (tmps.setIfInBounds d v):=by
 intro t;rw[wK]
 by_cases hdt:d=t
 ·simp_all
 have:=h t
 simp_all
end Go.Vm
/- Renaming the blocks. -/
namespace Go.Vm
theorem Dh{t:Nat}: ∀{m:List Nat} {u:Nat},idxOf t m=aef u->m[u]? =aef t
 | [],u,h=>by simp[idxOf]at h
 |s::r,u,h=>by
  simp[idxOf]at h;split at h
  ·rename_i e
   injection h with h;subst h;simp_all
  rw[EQ]at h
  obtain⟨v,hv,rfl⟩:=h;simpa using Dh hv
section
variable {im : Im} {loc eL : Loc} {m : List Nat}
def Ren(m:List Nat)(loc eL:Loc):Prop:= ∀(u t:Nat),m[u]? =aef t->eL u=loc t
mutual
theorem X2(hm:Ren m loc eL): ∀{x y:PV} {v:Value},VR im loc x v->zF m x=aef y->VR im eL y v
 | .undef,y,v,h,hr=>by simp[zF,If]at hr;subst hr;exact .undef _
 | .nD,y,v,h,hr=>by simp[zF,If]at hr;subst hr;cases h;exact .nD
 | .int k n,y,v,h,hr=>by simp[zF,If]at hr;subst hr;cases h;exact .int _ _
 | .bool b,y,v,h,hr=>by simp[zF,If]at hr;subst hr;cases h;exact .bool _
 | .str b,y,v,h,hr=>by simp[zF,If]at hr;subst hr;cases h;exact .str _
 | .fv,y,v,h,hr=>by simp[zF,If]at hr;subst hr;cases h;exact .fv
 | .agg cs,y,v,h,hr=>by simp[zF,EQ]at hr;obtain⟨Lz,h1,rfl⟩:=hr;cases h with|agg _ vs h=>exact .agg _ _ (yq hm h h1)
 | .cV cs,y,v,h,hr=>by simp[zF,EQ]at hr;obtain⟨Lz,h1,rfl⟩:=hr;cases h with|cV _ vs h=>exact .cV _ _ (yq hm h h1)
 | .sl e c rows,y,v,h,hr=>by simp[zF,If]at hr;subst hr;cases h with|sl _ _ _ a cap h1 h2 h3=>exact .sl _ _ _ a cap h1 h2 h3
 | .own t e off len cap ex,y,v,h,hr=>by simp[zF,EQ]at hr;obtain⟨u,h1,rfl⟩:=hr;cases h with|own _ _ _ _ _ _ li a eC g1 g2 g3 g4 g5 g6 g7=>exact .own _ _ _ _ _ _ li a eC (by rw[hm u t (Dh h1)];exact g1) g2 g3 g4 g5 g6 g7
 | .ptr t e row off,y,v,h,hr=>by simp[zF,EQ]at hr;obtain⟨u,h1,rfl⟩:=hr;cases h with|ptr _ _ _ _ li g1 g2 g3=>exact .ptr _ _ _ _ li (by rw[hm u t (Dh h1)];exact g1) g2 g3
 | .bZ cs off,y,v,h,hr=>by simp[zF,EQ]at hr;obtain⟨Lz,h1,rfl⟩:=hr;cases h with|bZ _ _ b o vs h hv=>exact .bZ _ _ b o vs (yq hm h h1) hv
 | .mp t,y,v,h,hr=>by simp[zF,EQ]at hr;obtain⟨u,h1,rfl⟩:=hr;cases h with|mp _ li g1=>exact .mp _ li (by rw[hm u t (Dh h1)];exact g1)
 | .fE f a b,y,v,h,hr=>by
  simp[zF]at hr;split at hr
  ·rename_i a' b' ha hb
   injection hr with hr;subst hr;cases h with|fE _ _ _ as bs h1 h2=>exact .fE _ _ _ _ _ (yq hm h1 ha) (yq hm h2 hb)
  cases hr
theorem yq(hm:Ren m loc eL): ∀{x y:List PV} {v:List Value},gz im loc x v->DZ m x=aef y->gz im eL y v
 | [],y,v,h,hr=>by simp[DZ,If]at hr;subst hr;cases h;exact .nil
 |x::xs,y,v,h,hr=>by
  simp[DZ]at hr;split at hr
  ·rename_i x' xs' h1 h2
   injection hr with hr;subst hr;cases h with|cons _ u _ us g1 g2=>exact .cons _ _ _ _ (X2 hm g1 h1) (yq hm g2 h2)
  cases hr
end
theorem HO: ∀{x y:List PV},DZ m x=aef y->aed y=aed x
 | [],y,h=>by simp[DZ,If]at h;subst h;rfl
 |x::xs,y,h=>by
  simp[DZ]at h;split at h
  ·rename_i x' xs' h1 h2
   injection h with h;subst h;simp[HO h2]
  cases h
theorem Ml{w:World}{li:LI}{k k':ox}(hm:Ren m loc eL)(hr:rR m k=aef k')(h:BR im loc w li k):BR im eL w li k':=by
 cases k with
 |arr e rows=>simp[rR,If]at hr;subst hr;exact h
 |map es=>simp[rR,If]at hr;subst hr;exact h
 |dead=>simp[rR,If]at hr;subst hr;trivial
 |box cs=>simp[rR,EQ]at hr;obtain⟨Lz,h1,rfl⟩:=hr;obtain⟨g1,g2,g3,vs,el,g4,g5,g6⟩:=h;exact⟨by rw[HO h1];exact g1,g2,g3,vs,el,g4,g5,yq hm g6 h1⟩
theorem Fk{k k':ox}(hr:rR m k=aef k'):k'.cu=k.cu:=by
 cases k with
 |arr e rows=>simp[rR,If]at hr;subst hr;rfl
 |map es=>simp[rR,If]at hr;subst hr;rfl
 |dead=>simp[rR,If]at hr;subst hr;rfl
 |box cs=>simp[rR,EQ]at hr;obtain⟨Lz,h1,rfl⟩:=hr;rfl
theorem GH{aB:di}: ∀{l:List Nat} {s1:di},B' aB m l=aef s1->aed s1=aed l/\ ∀(u t:Nat),l[u]? =aef t-> ∃k k',aB[t]? =aef k/\rR m k=aef k'/\s1[u]? =aef k'
 | [],s1,h=>by simp[B',]at h;grind
 |t::ts,s1,h=>by
  simp[B']at h;split at h
  ·rename_i b hb
   split at h
   ·rename_i b' r h1 h2
    injection h with h;subst h;obtain⟨g1,g2⟩:=GH h2
    grind
   cases h
  cases h
end
end Go.Vm
/- Operation by operation: the model's run gives what the logical machine says. First part: what reads no memory. -/
namespace Go.Vm
theorem gO{k l:IntKind}:hO k l=aei↔k=l:=by cases k<;>cases l<;>simp[hO]
theorem IU{n:Int}(h1: -9223372036854775808<=n)(h2:n<9223372036854775808):IntKind.wrap .i64 n=n:=by
 simp[IntKind.wrap,IntKind.bits,IntKind.signed,]
 grind
theorem xA(k:IntKind)(n:Int):aa k n=k.wrap n:=by
 unfold aa;split
 ·rename_i m
  split
  ·rename_i h
   have h:m<9223372036854775808:=by simpa using h
   grind[IU]
  rfl
 ·rename_i m
  split
  ·rename_i h
   have h:m<9223372036854775808:=by simpa using h
   grind[IU]
  rfl
 ·rfl
 rfl
section
variable {P : Program} {im : Im} {loc : Loc} {w : World}
theorem VR.jt{k:IntKind}{n:Int}{v:Value}(h:VR im loc (.int k n) v):v= .int k n:=by cases h;rfl
theorem VR.mP{b:Bool}{v:Value}(h:VR im loc (.bool b) v):v= .bool b:=by cases h;rfl
theorem VR.IV{b:ByteArray}{v:Value}(h:VR im loc (.str b) v):v= .string b:=by cases h;rfl
theorem VR.uP{cs:List PV}{v:Value}(h:VR im loc (.agg cs) v): ∃vs,v= .agg ⟨vs⟩/\gz im loc cs vs:=by cases h with|agg _ vs h=>grind
theorem VR.Fl{cs:List PV}{v:Value}(h:VR im loc (.cV cs) v): ∃vs,v= .tuple ⟨vs⟩/\gz im loc cs vs:=by cases h with|cV _ vs h=>grind
mutual
theorem NH: ∀{x:PV} {v:Value},zb x v=aei->VR im loc x v
 | .int k n,v,h=>by
  cases v<;>simp only[zb]at h<;>first|cases h|skip
  simp only[IR,beq_iff_eq,gO]at h;obtain⟨rfl,rfl⟩:=h;exact .int _ _
 | .bool a,v,h=>by
  cases v<;>simp only[zb]at h<;>first|cases h|skip
  rename_i b;have:a=b:=by simpa using h
  subst this;exact .bool _
 | .str a,v,h=>by
  cases v<;>simp only[zb]at h<;>first|cases h|skip
  rename_i b;have h1:a.data.toList=b.data.toList:=by simpa using h
  obtain⟨⟨x⟩⟩:=a;obtain⟨⟨y⟩⟩:=b;have h2:x=y:=h1;subst h2;exact .str _
 | .sl e c [],v,h=>by
  cases v with
  |slice a n cap=>
   cases a with
   |none=>
    cases n with
    |zero=>
     cases cap with
     |zero=>exact .sl e c [] aeg 0 (Nat.zero_le _) (λ_=>rfl) (λfo=>absurd rfl fo)
     |succ c=>simp[zb]at h
    |succ n=>simp[zb]at h
   |some a=>simp[zb]at h
  |_=>simp[zb]at h
 | .sl e c (_::_),v,h=>by simp[zb]at h
 | .agg cs,v,h=>by
  cases v<;>simp only[zb]at h<;>first|cases h|skip
  rename_i vs;exact .agg cs vs.toList (Cc h)
 | .fv,v,h=>by
  cases v<;>simp only[zb]at h<;>first|cases h|skip
  exact .fv
 | .undef,v,_=> .undef v
 | .nD,v,h=>by simp[zb]at h
 | .cV _,v,h=>by simp[zb]at h
 | .own ..,v,h=>by simp[zb]at h
 | .ptr ..,v,h=>by simp[zb]at h
 | .bZ ..,v,h=>by simp[zb]at h
 | .mp _,v,h=>by simp[zb]at h
 | .fE ..,v,h=>by simp[zb]at h
theorem Cc: ∀{x:List PV} {v:List Value},Jn x v=aei->gz im loc x v
 | [],[],_=> .nil
 |x::xs,v::vs,h=>by simp only[Jn,IR]at h;exact .cons _ _ _ _ (NH h.1) (Cc h.2)
 | [],_::_,h=>by simp[Jn]at h
 |_::_,[],h=>by simp[Jn]at h
end
theorem abJ{op : BinOp}{t : TypeId}{a b : Operand}{x y : PV}{u v : Value}{z : PV}(hx : VR im loc x u)(hy : VR im loc y v)(h : VM op x y = aef z) :
    ∃ r, (do eqGuard op t a b u v; binOp op t u v : Sem Value).run P w = .ok r w /\ VR im loc z r := by
  unfold VM at h
  split at h
  ·obtain rfl := hx.jt
   obtain rfl := hy.jt
   split at h
   ·simp only[GC]at h
    split at h
    ·cases h
    rename_i hb
    injection h with h; subst h
    refine⟨_, ?_, .int _ _⟩
    simp only[binOp, Op.shift, hb, ]
    rfl
   ·simp only[GC]at h
    split at h
    ·cases h
    rename_i hb
    injection h with h; subst h
    refine⟨_, ?_, .int _ _⟩
    simp only[binOp, Op.shift, hb, ]
    rfl
   split at h
   ·rename_i auD auE hk
    have := gO.1 hk; subst this
    unfold arith at h
    split at h
    all_goals first
      | (injection h with h; subst h
         first
           | (refine⟨_, ?_, .int _ _⟩
              simp only[binOp, xA, ne_eq, ]
              rfl)
           | (refine⟨_, ?_, .bool _⟩
              simp only[binOp, ne_eq, ]
              rfl))
      | (split at h
         ·cases h
         rename_i hb
         injection h with h; subst h
         refine⟨_, ?_, .int _ _⟩
         simp only[binOp, Op.intDiv, xA, ne_eq, hb]
         rfl)
      | cases h
   cases h
  cases h
theorem X3{neg:Bool}{op:BinOp}{t:TypeId}{p q:Operand}{a b:Bool}(ho:op=if neg then .neq else .eql)(ht:P.underlying t=aef .bool):
 (do eqGuard op t p q (.bool a) (.bool b);binOp op t (.bool a) (.bool b):Sem Value).run P w= .ok (.bool (if neg then !(a==b)else a==b)) w:=by
 have h1:(Op.equal t _ _).run P w= .ok _ w:=run_equalIn_bool' w 9999 t a b ht;cases neg<;>simp[]at ho<;>subst ho<;>simp[eqGuard,binOp,h1]
theorem ae9{op:UnOp}{x z:PV}{u:Value}(hx:VR im loc x u)(h:unE op x=aef z): ∃r,(Op.unary op u).run P w= .ok r w/\VR im loc z r:=by
 unfold unE at h;split at h
 ·injection h with h;subst h
  obtain rfl:=hx.jt;exact⟨_,rfl,by rw[xA];exact .int _ _⟩
 ·injection h with h;subst h
  obtain rfl:=hx.mP;exact⟨_,rfl,.bool _⟩
 cases h
theorem X4{s d:TypeId}{k k':IntKind}{n:Int}{ds:TypeDesc}(hs:P.underlying s=aef ds)(hd:P.underlying d=aef (.int k)):
 (convert s d (.int k' n)).run P w= .ok (.int k (aa k n)) w:=by
 simp[convert,run_underlying hs,run_underlying hd,xA];cases ds<;>rfl
theorem GI{t:TypeId}(h:jC P t=aei):(isAgg t).run P w= .ok aei w:=by
 unfold jC at h;split at h
 ·rename_i f hu;simp[isAgg,run_underlying hu]
 ·rename_i n f hu;simp[isAgg,run_underlying hu]
 cases h
theorem GJ{t:TypeId}(hs:(P.underlying t).isSome=aei)(h:jC P t=aej):(isAgg t).run P w= .ok aej w:=by
 cases hu:P.underlying t with
 |none=>grind
 |some d=>unfold jC at h;rw[hu]at h;cases d<;>first|(simp[isAgg,run_underlying hu];done)|cases h
theorem mQ{t:TypeId}{n:Nat}(h:rV P t n=aei):(sizeOf t).run P w= .ok n w:=by
 unfold rV at h;cases hi:P.info? t with
 |none=>grind
 |some i=>
  rw[hi]at h;have:i.size=n:=by simpa using h
  simp[sizeOf,typeInfo,hi,this]
theorem PE{agg:Option Nat}{t:TypeId}{off:Nat}{cs:List PV}{vs:List Value}{x:PV}(ha:Fj P t agg=aei)(h:gz im loc cs vs)
 (hp:part agg off cs=aef x): ∃v,(Go.part t ⟨vs⟩ off).run P w= .ok v w/\VR im loc x v:=by
 unfold Fj at ha;simp[]at ha;obtain⟨hs,ha⟩:=ha;cases agg with
 |some n=>
  simp[]at ha;simp only[part]at hp;split at hp
  ·rename_i qf
   injection hp with hp;subst hp;refine⟨.agg ⟨(vs.drop off).take n⟩,?_,.agg _ _ ((h.drop off).take n)⟩;simp only[Go.part,aai,GI ha.1,NE,if_true,mQ ha.2,];simp
  cases hp
 |none=>simp[]at ha;obtain⟨v,hv,hr⟩:=h.get off x hp;simp[Go.part,GJ hs ha.1,];simp_all
theorem wL{agg:Option Nat}{t:TypeId}{b o off:Nat}{cs:List PV}{vs:List Value}{x:PV}(ha:Fj P t agg=aei)(h:gz im loc cs vs)
 (hm: ∀(j:Nat) (v:Value),vs[j]? =aef v->w.cell? ⟨b,o+j,aeg⟩=aef v)
 (hp:part agg off cs=aef x): ∃v,(loadVar t ⟨b,o+off,aeg⟩).run P w= .ok v w/\VR im loc x v:=by
 unfold Fj at ha;simp[]at ha;obtain⟨hs,ha⟩:=ha;have auF: ∀k j:Nat,(⟨b,k,aeg⟩:Addr).add j=⟨b,k+j,aeg⟩:=by intro k j;unfold Addr.add;simp
 cases agg with
 |some n=>
  simp[]at ha;simp only[part]at hp;split at hp
  ·injection hp with hp;subst hp
   refine⟨.agg ⟨(vs.drop off).take n⟩,?_,.agg _ _ ((h.drop off).take n)⟩;have hl:((vs.drop off).take n).length=n:=by have:=h.pN;simp;omega
   have:=run_loadCells_list (P:=P) w ⟨b,o+off,aeg⟩ ((vs.drop off).take n) (by
    grind)
   rw[hl]at this;simp[loadVar,GI ha.1,mQ ha.2,this,]
  cases hp
 |none=>simp[]at ha;obtain⟨v,hv,hr⟩:=h.get off x hp;simp[loadVar,GJ hs ha.1,];simp_all
end
end Go.Vm
/- What an operation does to the memory, and the shapes in which it does it. -/
namespace Go.Vm
structure yh(im:Im)(loc:Loc)(aB:di)(w:World)(r:rQ)(fP:Im)(bE:Loc)(w':World):Prop where
 jD:rW im fP
 fq:p7 loc bE
 bW: ∀b o,fP b=aef o->w'.heap[b]? =aef o
 fA: ∀b o,fP b=aef o->im b=aef o\/w.heap.size<=b\/ ∃t li k,has r.fr t=aei/\loc t=aef li/\aB[t]? =aef k/\k.cu=aei/\li.eB=b
 os:w'.os=w.os
 tape:Tape w w'
 output:w'.output=w.output
 size:w.heap.size<=w'.heap.size
 frame: ∀b,b<w.heap.size->(∀t k li k0,(t,k)∈r.wr->loc t=aef li->aB[t]? =aef k0->k0.cu=aei->li.eB≠b)->w'.heap[b]? =w.heap[b]?
 VO: ∀t k,(t,k)∈r.wr->k.cu=aei-> ∃k0,aB[t]? =aef k0/\k0.cu=aei
 wr: ∀t k li,(t,k)∈r.wr->loc t=aef li->BR fP bE w' li k
 oy: ∀t li,bE t=aef li->loc t=aef li\/(aed aB<=t/\t<aed aB+aed r.news)
 news: ∀(j:Nat) (k:ox) (li:LI),r.news[j]? =aef k->bE (aed aB+j)=aef li->BR fP bE w' li k/\
  (k.cu=aei->fP li.eB=aeg/\(w.heap.size<=li.eB\/ ∃t lt k0,(t,ox.dead)∈r.wr/\loc t=aef lt/\aB[t]? =aef k0/\k0.cu=aei/\lt.eB=li.eB))
 distinct: ∀(i j:Nat) (ki kj:ox) (li lj:LI),r.news[i]? =aef ki->r.news[j]? =aef kj->ki.cu=aei->kj.cu=aei->
  bE (aed aB+i)=aef li->bE (aed aB+j)=aef lj->li.eB=lj.eB->i=j
theorem GK{α:Type}{n:Nat}{l:List α}{loc:Loc}{A:LI->α->Prop}(h: ∀(j:Nat) (k:α),l[j]? =aef k-> ∃li,loc (n+j)=aef li/\A li k):
 ∀(j:Nat) (k:α) (li:LI),l[j]? =aef k->loc (n+j)=aef li->A li k:=λj k li hj hl=>by
 grind
structure lI(im:Im)(loc:Loc)(aB:di)(w:World)(r:rQ):Prop where
 bW: ∀b o,im b=aef o->w.heap[b]? =aef o
 tok: ∀t,t∈r.rd\/(∃k,(t,k)∈r.wr)-> ∀li,loc t=aef li-> ∃k,aB[t]? =aef k/\BR im loc w li k
 free: ∀t k,(t,k)∈r.wr-> ∀li k',loc t=aef li->aB[t]? =aef k'->k'.cu=aei->im li.eB=aeg
 fresh: ∀j,j<aed r.news->loc (aed aB+j)=aeg
 lh: ∀t u li lj k k',(t∈r.rd\/ ∃b,(t,b)∈r.wr)->(u∈r.rd\/ ∃b,(u,b)∈r.wr)->loc t=aef li->loc u=aef lj->aB[t]? =aef k->aB[u]? =aef k'->k.cu=aei->k'.cu=aei->li.eB=lj.eB->t=u
section
variable {im : Im} {loc : Loc} {aB : di} {w : World} {r : rQ}
theorem yh.none(hk:lI im loc aB w r)(hn:r.news=[])(hw:r.wr=[]):yh im loc aB w r im loc w where
 jD:= .refl _
 fq:= .refl _
 bW:=hk.bW
 fA:=λ_ _ h=> .inl h
 os:=rfl
 tape:= .refl _
 output:=rfl
 size:=UV _
 frame:=λ_ _ _=>rfl
 VO:=λt k h=>by grind
 wr:=λt k li h=>by grind
 oy:=λ_ _ h=> .inl h
 news:=λj k li h=>by grind
 distinct:=λi j ki kj li lj h=>by grind
def Loc.set(loc:Loc)(t:Nat)(li:LI):Loc:=λu=>if u=t then aef li else loc u
theorem Loc.jd(loc:Loc)(t:Nat)(li:LI):loc.set t li t=aef li:=by simp[Loc.set]
theorem Loc.AG{loc:Loc}{t:Nat}(li:LI)(h:loc t=Option.none):p7 loc (loc.set t li):=by
 intro u l hu;unfold Loc.set
 grind
theorem yh.new(hk:lI im loc aB w r){k:ox}{o:Obj}{w':World}(li:LI)(hn:r.news=[k])(hw:r.wr=[])
 (hh:w'.heap=w.heap.push o) (ho:w'.os=w.os) (ht:w'.tape=w.tape) (hp:w'.output=w.output) (hl:li.eB=w.heap.size)
 (hb:BR im (loc.set (aed aB) li) w' li k) (hd:w.drawn<=w'.drawn:=by first|exact UV _|exact Nat.le_succ _):yh im loc aB w r im (loc.set (aed aB) li) w' where
 jD:= .refl _
 fq:=Loc.AG li (by have:=hk.fresh 0 (by simp[hn]);simpa using this)
 bW:=λb o h=>by
  have h1:=hk.bW b o h
  grind
 fA:=λ_ _ h=> .inl h
 os:=ho
 tape:=⟨ht,hd⟩
 output:=hp
 size:=by rw[hh];simp
 frame:=λb HP _=>by grind
 VO:=λt k h=>by grind
 wr:=λt k li h=>by grind
 oy:=λt l h=>by
  unfold Loc.set at h
  grind
 news:=GK λj k' h=>by
  rw[hn]at h;cases j with
  |zero=>
   simp at h;subst h;refine⟨li,Loc.jd _ _ _,hb,λ_=>⟨?_,.inl (by omega)⟩⟩;cases hi:im li.eB with
   |none=>rfl
   |some o=>have:=hk.bW _ _ hi;grind
  |succ j=>simp at h
 distinct:=λi j ki kj li lj h1 h2 _ _ _ _ _=>by
  grind
theorem yh.X5(hk:lI im loc aB w r){aO:Nat}(hn:r.news=[.arr aO []])(hw:r.wr=[]):yh im loc aB w r im (loc.set (aed aB) ⟨0,0,aO,0,0⟩) w where
 jD:= .refl _
 fq:=Loc.AG _ (by have:=hk.fresh 0 (by simp[hn]);simpa using this)
 bW:=hk.bW
 fA:=λ_ _ h=> .inl h
 os:=rfl
 tape:= .refl _
 output:=rfl
 size:=UV _
 frame:=λ_ _ _=>rfl
 VO:=λt k h=>by grind
 wr:=λt k li h=>by grind
 oy:=λt l h=>by
  unfold Loc.set at h
  grind
 news:=GK λj k' h=>by
  rw[hn]at h;cases j with
  |zero=>simp at h;subst h;exact⟨_,Loc.jd _ _ _,⟨rfl,rfl,λfo=>absurd rfl fo⟩,λhs=>by cases hs⟩
  |succ j=>simp at h
 distinct:=λi j ki kj li lj h1 h2 _ _ _ _ _=>by
  grind
theorem yh.write(hk:lI im loc aB w r){t:Nat}{k k0:ox}{o:Obj}{w':World}{li:LI}(hn:r.news=[])(hw:r.wr=[(t,k)])
 (hl:loc t=aef li) (h0:aB[t]? =aef k0) (hs:k0.cu=aei)
 (hh:w'.heap=w.heap.setIfInBounds li.eB o) (ho:w'.os=w.os) (ht:w'.tape=w.tape) (hp:w'.output=w.output)
 (hb:BR im loc w' li k) (hd:w.drawn<=w'.drawn:=by first|exact UV _|exact Nat.le_succ _):yh im loc aB w r im loc w' where
 jD:= .refl _
 fq:= .refl _
 bW:=λb o' h=>by
  have h1:=hk.bW b o' h;have zd:=hk.free t k (by simp[hw]) li k0 hl h0 hs
  grind
 fA:=λ_ _ h=> .inl h
 os:=ho
 tape:=⟨ht,hd⟩
 output:=hp
 size:=by rw[hh];simp
 frame:=λb _ h=>by
  grind
 VO:=λt' k' hm _=>by
  grind
 wr:=λt' k' li' h h'=>by
  grind
 oy:=λ_ _ h=> .inl h
 news:=λj k li h=>by grind
 distinct:=λi j ki kj li lj h=>by grind
end
end Go.Vm
/- Operation by operation, second part: addresses, reads, new blocks. -/
namespace Go.Vm
section
variable {P : Program} {im : Im} {loc : Loc} {aB : di} {w : World}
theorem v7(b o n:Nat):(⟨b,o,aeg⟩:Addr).add n=⟨b,o+n,aeg⟩:=by unfold Addr.add;simp
theorem VR.Di{t e r o:Nat}{v:Value}(h:VR im loc (.ptr t e r o) v):
 ∃li,loc t=aef li/\li.aO=e/\r<li.n/\v= .pointer (aef ⟨li.eB,li.sh+r*e+o,aeg⟩):=by
 cases h with|ptr _ _ _ _ li h1 h2 h3=>grind
theorem VR.Cf{cs:List PV}{off:Nat}{v:Value}(h:VR im loc (.bZ cs off) v):
 ∃b o vs,gz im loc cs vs/\(∀(j:Nat) (v:Value),vs[j]? =aef v->tV im b (o+j)=aef v)/\v= .pointer (aef ⟨b,o+off,aeg⟩):=by
 cases h with|bZ _ _ b o vs h1 h2=>grind
theorem mc{b o:Nat}{cs:Array Value}{el:TypeId}{fr:Nat×Nat}{v:Value}(h:w.heap[b]? =aef (.cells cs el fr))(hc:cs[o]? =aef v):
 w.cell? ⟨b,o,aeg⟩=aef v:=by simp[World.cell?,h,hc]
theorem vB(hk: ∀b o,im b=aef o->w.heap[b]? =aef o){b o:Nat}{v:Value}(h:tV im b o=aef v):w.cell? ⟨b,o,aeg⟩=aef v:=by
 unfold tV at h
 grind[mc]
def bn(r:Row):List Value:=r.map λc=>(mO c).getD Go.undef
theorem yr{get:Nat->Option Value}{sh aO:Nat}{rows:List Row}(h:cA get sh aO rows){i:Nat}{r:Row}(hr:rows[i]? =aef r):
 gz im loc r (bn r)/\ ∀(j:Nat) (v:Value),(bn r)[j]? =aef v->get (sh+i*aO+j)=aef v:=by
 obtain⟨_,hc⟩:=h i r hr;constructor
 ·refine gz.of _ _ (by simp[bn]) λj x v hx hv=>?_
  obtain⟨u,hu,_⟩:=hc j x hx;simp[bn,]at hv
  grind[VR.Jo]
 intro j v hv
 cases hx:r[j]? with
 |none=>simp[bn,hx]at hv
 |some x=>
  simp[bn,]at hv
  grind
theorem PF{agg:Option Nat}{t:TypeId}{p:PV}{u:Value}{r:rQ}(hp:VR im loc p u)(ha:Fj P t agg=aei)(h:p6 aB agg p=aef r)
 (hk:lI im loc aB w r): ∃v,(Instr.loadAt t u).run P w= .ok v w/\VR im loc r.v v/\r.news=[]/\r.wr=[]:=by
 unfold p6 at h;split at h
 ·rename_i tk e row off
  obtain⟨li,hl,he,hn,rfl⟩:=hp.Di;split at h
  ·rename_i e' rows hs
   split at h
   ·rename_i cs v8
    rw[EQ]at h;obtain⟨x,hx,rfl⟩:=h;obtain⟨k,jI,hb⟩:=hk.tok tk (.inl (by simp)) li hl;rw[hs]at jI;injection jI with jI;subst jI;have fo:rows≠[]:=by grind
    obtain⟨h1,h2,h3⟩:=hb;obtain⟨arr,el,D0,_,_,oP⟩:=h3 fo;obtain⟨hv,hg⟩:=yr oP v8;have Sc:e'=e:=by rw[<-h1,he]
    subst Sc;obtain⟨v,dy,tL⟩:=wL ha hv
     (λj v hj=>mc D0 (hg j v hj)) hx
    exact⟨v,by assumption,tL,rfl,rfl⟩
   cases h
  ·rename_i cs hs
   split at h
   ·rename_i BX
    have BX:row=0:=by simpa using BX
    subst BX;rw[EQ]at h;obtain⟨x,hx,rfl⟩:=h;obtain⟨k,jI,hb⟩:=hk.tok tk (.inl (by simp)) li hl;rw[hs]at jI;injection jI with jI;subst jI;obtain⟨h1,h2,h3,vs,el,h4,h5,h6⟩:=hb;obtain⟨v,dy,tL⟩:=wL (o:=li.sh+0*e) ha h6
     (λj v hj=>mc h4 (by grind)) hx
    exact⟨v,by assumption,tL,rfl,rfl⟩
   rw[EQ]at h
   obtain⟨x,hx,rfl⟩:=h;obtain⟨k,jI,hb⟩:=hk.tok tk (.inl (by simp)) li hl;rw[hs]at jI;injection jI with jI;subst jI;obtain⟨h1,h2,h3,vs,el,h4,h5,h6⟩:=hb;obtain⟨v,dy,tL⟩:=wL (o:=li.sh) ha h6 (λj v hj=>mc h4 (by grind)) hx;refine⟨v,?_,tL,rfl,rfl⟩;rw[abE];exact dy
  cases h
 ·rename_i cs off
  obtain⟨b,o,vs,h1,h2,rfl⟩:=hp.Cf;rw[EQ]at h;obtain⟨x,hx,rfl⟩:=h;obtain⟨v,dy,tL⟩:=wL ha h1 (λj v hj=>vB hk.bW (h2 j v hj)) hx;exact⟨v,by assumption,tL,rfl,rfl⟩
 cases h
theorem Jp{cs:List PV}{vs:List Value}{el:TypeId}{r:rQ}(h:gz im loc cs vs)(hr:r={v:= .ptr (aed aB) (aed cs) 0 0,news:=[.box cs]})(hk:lI im loc aB w r):
 ∃bE,VR im bE r.v (.pointer (aef ⟨w.heap.size,0,aeg⟩))/\yh im loc aB w r im bE {w with heap:=w.heap.push (.cells ⟨vs⟩ el)}:=by
 subst hr
 let li:LI:=⟨w.heap.size,0,aed cs,1,aed vs⟩
 refine⟨loc.set (aed aB) li,?_,?_⟩
 ·have:=VR.ptr (im:=im) (loc:=loc.set (aed aB) li) (aed aB) (aed cs) 0 0 li (Loc.jd _ _ _) rfl (Nat.zero_lt_one)
  grind
 refine yh.new hk li rfl rfl rfl rfl rfl rfl rfl ⟨by simp[li],trivial,rfl,vs,el,?_,rfl,h.mono (.refl _) (Loc.AG li (by have:=hk.fresh 0 (by simp);simpa using this))⟩
 simp[li]
theorem PG{x y:PV}{u v:Value}{el:TypeId}{r:rQ}(hx:VR im loc x u)(hy:VR im loc y v)(hr:r={v:= .own (aed aB) 1 0 2 2 aei,news:=[.box [x,y]]})(hk:lI im loc aB w r):
 ∃bE,VR im bE r.v (.slice (aef ⟨w.heap.size,0,aeg⟩) 2 2)/\yh im loc aB w r im bE {w with heap:=w.heap.push (.cells #[u,v] el)}:=by
 subst hr
 let li:LI:=⟨w.heap.size,0,1,2,2⟩
 refine⟨loc.set (aed aB) li,?_,?_⟩
 ·exact .own (aed aB) 1 0 2 2 aei li _ 2 (Loc.jd _ _ _) rfl (UV _) (UV _) (UV _) (λ_=>rfl) (.inr ⟨by simp[],by simp[li],by simp[li]⟩)
 refine yh.new hk li rfl rfl rfl rfl rfl rfl rfl ⟨by simp[li],trivial,rfl,[u,v],el,?_,rfl,(gz.cons _ _ _ _ hx (.cons _ _ _ _ hy .nil)).mono (.refl _) (Loc.AG li (by have:=hk.fresh 0 (by simp);simpa using this))⟩
 simp[li]
theorem NI{cs:List PV}{vs:List Value}{n aO:Nat}{el:TypeId}{r:rQ}(h:gz im loc cs vs)(hl:(aed cs)=n*aO)(h0:n≠0)(hr:r={v:= .own (aed aB) aO 0 n n aei,news:=[.box cs]})(hk:lI im loc aB w r):
 ∃bE,VR im bE r.v (.slice (aef ⟨w.heap.size,0,aeg⟩) n n)/\yh im loc aB w r im bE {w with heap:=w.heap.push (.cells ⟨vs⟩ el)}:=by
 subst hr
 let li:LI:=⟨w.heap.size,0,aO,n,aed vs⟩
 have lv:(aed vs)=n*aO:=h.pN.symm.trans hl;refine⟨loc.set (aed aB) li,?_,?_⟩
 ·exact .own (aed aB) aO 0 n n aei li _ n (Loc.jd _ _ _) rfl (by simp[li]) (UV _) (UV _) (λ_=>rfl) (.inr ⟨h0,by simp[li],by simp[li,lv]⟩)
 refine yh.new hk li rfl rfl rfl rfl rfl rfl rfl ⟨hl.symm,trivial,rfl,vs,el,?_,rfl,h.mono (.refl _) (Loc.AG li (by have:=hk.fresh 0 (by simp);simpa using this))⟩
 simp[li]
theorem X6{off:Nat}{t:TypeId}{f:Nat}{fs:Array Field}{g:Field}{i:TypeInfo}{p z:PV}{u:Value}(hp:VR im loc p u)
 (hu:P.underlying t=aef (.struct fs)) (hf:fs[f]? =aef g) (ho:g.offset=off) (hi:P.info? g.type=aef i) (hz:i.size≠0)
 (h:(match(generalizing:=false) p with| .ptr t s r o=>some (PV.ptr t s r (o+off))| .bZ c o=>some (PV.bZ c (o+off))|_=>none)=some z):
 ∃v,(Instr.fieldAt t u f).run P w= .ok v w/\VR im loc z v:=by
 have vW:(sizeOf g.type).run P w= .ok i.size w:=by simp[sizeOf,typeInfo,hi]
 cases p with
 |ptr tk s r o=>injection h with h;subst h;obtain⟨li,hl,he,hn,rfl⟩:=hp.Di;refine⟨_,?_,.ptr tk s r _ li hl he hn⟩;simp[Instr.fieldAt,run_underlying hu,hf,Instr.sureAddr,fieldPlace,vW,hz,v7,ho,abE]
 |bZ cs o=>injection h with h;subst h;obtain⟨b,o',vs,h1,h2,rfl⟩:=hp.Cf;refine⟨_,?_,.bZ cs _ b o' vs h1 h2⟩;simp[Instr.fieldAt,run_underlying hu,hf,Instr.sureAddr,fieldPlace,vW,hz,v7,ho,abE]
 |_=>cases h
theorem tX{x:PV}{n:Nat}{u:Value}(hx:VR im loc x u)(h:lD x=aef n): ∃k,u= .int k (n:Int):=by
 unfold lD at h;split at h
 ·rename_i k m
  obtain rfl:=hx.jt;split at h
  ·grind
  cases h
 cases h
theorem VP{n aO j:Nat}{t e:TypeId}{p z:PV}{u:Value}{k:IntKind}(hp:VR im loc p u)
 (hu:P.underlying t=aef (.array n e)) (hs:rV P e aO=aei) (hj:j<n)
 (h:(match(generalizing:=false) p with| .ptr t s r o=>some (PV.ptr t s r (o+j*aO))| .bZ c o=>some (PV.bZ c (o+j*aO))|_=>none)=some z):
 ∃v,(Instr.indexAt t u (.int k j)).run P w= .ok v w/\VR im loc z v:=by
 have vW:=mQ (w:=w) hs;cases p with
 |ptr tk s r o=>injection h with h;subst h;obtain⟨li,hl,he,hn,rfl⟩:=hp.Di;refine⟨_,?_,.ptr tk s r _ li hl he hn⟩;simp[Instr.indexAt,asIntOf,run_underlying hu,Instr.sureAddr,vW,v7,abE];intro h;omega
 |bZ cs o=>injection h with h;subst h;obtain⟨b,o',vs,h1,h2,rfl⟩:=hp.Cf;refine⟨_,?_,.bZ cs _ b o' vs h1 h2⟩;simp[Instr.indexAt,asIntOf,run_underlying hu,Instr.sureAddr,vW,v7,abE];intro h;omega
 |_=>cases h
theorem VR.rX{aO:Nat}{vX:Bool}{rows:List Row}{v:Value}(h:VR im loc (.sl aO vX rows) v):
 ∃a cap,v= .slice a (aed rows) cap/\aed rows<=cap/\(vX=aei->cap=aed rows)/\(rows≠[]-> ∃b o,a=aef ⟨b,o,aeg⟩/\cA (tV im b) o aO rows):=by
 cases h with|sl _ _ _ a cap hc hk h=>grind
theorem VR.jV{t aO off len cap:Nat}{ex:Bool}{v:Value}(h:VR im loc (.own t aO off len cap ex) v):
 ∃li a eC,v= .slice a len eC/\loc t=aef li/\li.aO=aO/\off+cap<=li.n/\len<=cap/\cap<=eC/\(ex=aei->eC=cap)/\
  (eC=0\/(li.n≠0/\a=aef ⟨li.eB,li.sh+off*aO,aeg⟩/\li.sh+(off+eC)*aO<=li.sz)):=by
 cases h with|own _ _ _ _ _ _ li a eC h1 h2 h3 h4 h5 h6 h7=>grind
theorem run_indexAt_slice{t e:TypeId}{aO j len cap b o:Nat}{k:IntKind}(hu:P.underlying t=aef (.slice e))(hs:rV P e aO=aei)(hj:j<len):
 (Instr.indexAt t (.slice (aef ⟨b,o,aeg⟩) len cap) (.int k j)).run P w= .ok (.pointer (aef ⟨b,o+j*aO,aeg⟩)) w:=by
 have vW:=mQ (w:=w) hs;simp[Instr.indexAt,asIntOf,run_underlying hu,vW,v7];omega
theorem X7{aO n:Nat}{t e:TypeId}{x z:PV}{u:Value}{k:IntKind}(hx:VR im loc x u)
 (hu:P.underlying t=aef (.slice e)) (hs:rV P e aO=aei)
 (h:(match(generalizing:=false) x with
  | .sl s _ rows=>match rows[n]? with
   |some cs=>if PP s aO then aef (PV.bZ cs 0)else aeg
   |none=>aeg
  | .own t s off len _ _=>if abM n len&&PP s aO then aef (PV.ptr t s (off+n) 0)else aeg
  |_=>aeg)=aef z):
 ∃v,(Instr.indexAt t u (.int k n)).run P w= .ok v w/\VR im loc z v:=by
 cases x with
 |sl s vX rows=>
  dsimp only at h;cases v8:rows[n]? with
  |none=>grind
  |some cs=>
   rw[v8]at h;dsimp only at h;split at h
   ·rename_i hse
    have hse:s=aO:=by simpa using hse
    subst hse;injection h with h;subst h;obtain⟨a,cap,rfl,_,_,hr⟩:=hx.rX;have fo:rows≠[]:=by grind
    obtain⟨b,o,rfl,oP⟩:=hr fo;have hn:n<(aed rows):=by
     grind
    refine⟨_,run_indexAt_slice hu hs hn,?_⟩;obtain⟨hv,hg⟩:=yr oP v8;have:=VR.bZ cs 0 b _ _ hv hg;simpa using this
   cases h
 |own tk s off len cap ex=>
  dsimp only at h;split at h
  ·rename_i hc
   simp[]at hc;have hn:n<len:=by simpa using hc.1
   have hse:s=aO:=by simpa using hc.2
   injection h with h;obtain⟨li,a,eC,rfl,hl,he,GL,eX,LH,_,hd⟩:=hx.jV;rcases hd with hd|⟨fo,rfl,_⟩
   ·omega
   refine⟨_,run_indexAt_slice hu hs hn,?_⟩
   have:=VR.ptr (im:=im) tk s (off+n) 0 li hl he (by omega)
   grind
  cases h
 |_=>cases h
theorem run_sliceBound{x k:Nat}{kd:IntKind}{code:BoundsCode}(h:x<=k):(Instr.sliceBound (.int kd x) k code).run P w= .ok x w:=by
 have:(0:Int)<=(x:Int)/\(x:Int)<=(k:Int):=by omega
 simp[Instr.sliceBound,asIntOf,this]
def Er(v:Option Value)(n:Option Nat):Prop:=
 match v,n with
 |none,aeg=>True
 |some v,aef n=> ∃k,v= .int k (n:Int)
 |_,_=>False
theorem qA{len cap:Nat}{lo hi mx:Option Nat}{vl vh vm:Option Value}(h1:Er vl lo)(h2:Er vh hi)(h3:Er vm mx)
 (hm:mx.isSome=aei->hi.isSome=aei) (qf:lo.getD 0<=hi.getD len) (hhm:hi.isSome=aei->hi.getD len<=mx.getD cap) (hmc:mx.getD cap<=cap):
 (Instr.sliceBounds aei len cap vl vh vm).run P w= .ok (lo.getD 0,hi.getD len,mx.getD cap) w:=by
 cases mx with
 |none=>
  cases vm with
  |some v=>exact h3.elim
  |none=>
   cases hi with
   |none=>
    cases vh with
    |some v=>exact h2.elim
    |none=>
     cases lo with
     |none=>
      cases vl with
      |some v=>exact h1.elim
      |none=>rfl
     |some l=>
      cases vl with
      |none=>exact h1.elim
      |some v=>obtain⟨k,rfl⟩:=h1;simp[]at qf;simp[Instr.sliceBounds,run_sliceBound qf]
   |some hh=>
    cases vh with
    |none=>exact h2.elim
    |some v=>
     obtain⟨k,rfl⟩:=h2;simp[]at qf hhm;cases lo with
     |none=>
      cases vl with
      |some v=>exact h1.elim
      |none=>simp[Instr.sliceBounds,run_sliceBound hhm]
     |some l=>
      cases vl with
      |none=>exact h1.elim
      |some v=>obtain⟨k,rfl⟩:=h1;simp[]at qf;simp[Instr.sliceBounds,run_sliceBound hhm,run_sliceBound qf]
 |some m=>
  cases vm with
  |none=>exact h3.elim
  |some v=>
   obtain⟨k,rfl⟩:=h3;cases hi with
   |none=>simp at hm
   |some hh=>
    cases vh with
    |none=>exact h2.elim
    |some v=>
     obtain⟨k,rfl⟩:=h2;simp[]at qf hhm hmc;cases lo with
     |none=>
      cases vl with
      |some v=>exact h1.elim
      |none=>simp[Instr.sliceBounds,run_sliceBound hhm,run_sliceBound hmc]
     |some l=>
      cases vl with
      |none=>exact h1.elim
      |some v=>obtain⟨k,rfl⟩:=h1;simp[]at qf;simp[Instr.sliceBounds,run_sliceBound hhm,run_sliceBound qf,run_sliceBound hmc]
end
end Go.Vm
/- Operation by operation, third part: stores, aggregates. -/
namespace Go.Vm
def qB{α:Type}(off:Nat)(new old:List α):List α:=old.take off++new++old.drop (off+aed new)
theorem jW{α:Type}(off:Nat)(new old:List α)(h:off+aed new<=aed old)(j:Nat):
 (qB off new old)[j]? =if off<=j/\j<off+(aed new)then new[j-off]? else old[j]?:=by
 unfold qB;have hl:(old.take off).length=off:=by simp;omega
 grind
theorem dQ{α:Type}(off:Nat)(new old:List α)(h:off+aed new<=aed old):(qB off new old).length=(aed old):=by unfold qB;simp;omega
theorem gz.qB{im:Im}{loc:Loc}{off:Nat}{xs ys:List PV}{vs us:List Value}(h:gz im loc xs vs)(k:gz im loc ys us):
 gz im loc (Vm.qB off xs ys) (Vm.qB off vs us):=by
 unfold Vm.qB;rw[<-h.pN];exact((k.take off).append h).append (k.drop _)
theorem gz.Mm{im:Im}{loc:Loc}: ∀{xs:List PV} {vs:List Value},gz im loc xs vs->(∀c∈xs,c.plain=aei)->
 ∀(j:Nat) (c:PV),xs[j]? =aef c-> ∃v,mO c=aef v/\vs[j]? =aef v:=by
 intro xs vs h hp j c hc;obtain⟨v,hv,hr⟩:=h.get j c hc;exact⟨v,hr.plain (hp c (ad4 hc)),hv⟩
theorem VQ{i row aO j off n sh:Nat}(fo:i≠row)(hj:j<aO)(hn:off+n<=aO):
 ¬(sh+row*aO+off<=sh+i*aO+j/\sh+i*aO+j<sh+row*aO+off+n):=by
 rcases Nat.lt_or_gt_of_ne fo with h|h
 ·have:=aaP aO (h)
  grind
 have:=aaP aO (h)
 grind
theorem cA.store{get get':Nat->Option Value}{sh aO row off:Nat}{rows:List Row}{cs ws:List PV}{vs:List Value}
 (h:cA get sh aO rows) (hr:rows[row]? =aef cs) (qf:off+aed ws<=aed cs)
 (hw: ∀(j:Nat) (c:PV),ws[j]? =aef c-> ∃v,mO c=aef v/\vs[j]? =aef v) (hl:(aed vs)=aed ws)
 (hg: ∀k,get' k=if sh+row*aO+off<=k/\k<sh+row*aO+off+(aed vs)then vs[k- (sh+row*aO+off)]? else get k):
 cA get' sh aO (rows.set row (qB off ws cs)):=by
 intro i r hi;rw[List.getElem?_set]at hi;have BX:row<(aed rows):=by
  grind
 obtain⟨IW,Ux⟩:=h row cs hr;split at hi
 ·rename_i e
  subst e;injection hi with hi;subst hi;refine⟨by rw[dQ _ _ _ qf];exact IW,λj c hc=>?_⟩;rw[jW _ _ _ qf]at hc
  grind
 rename_i fo
 obtain⟨XN,hrc⟩:=h i r hi;refine⟨XN,λj c hc=>?_⟩;obtain⟨v,hv,X8⟩:=hrc j c hc;refine⟨v,hv,?_⟩;have hj:j<aO:=by
  grind
 rw[hg,Do (VQ (λe=>fo e.symm) hj (by omega))];exact X8
section
variable {P : Program} {im : Im} {loc : Loc} {aB : di} {fz : List Nat} {w : World}
theorem cJ{g:Nat}{cur cs:Array Value}{t:TypeId}(hg:w.heap[g]? =aef (.cells cur t (0,0))):
 (w.setRow g cs).heap=w.heap.setIfInBounds g (.cells cs t (0,0)):=by
 unfold World.setRow
 grind
theorem PH{v:Value}(h:(∀us,v≠ .agg us)/\ ∀us,v≠ .tuple us):v.oneCell'=aei:=by cases v<;>first|rfl|grind|grind
theorem gz.one: ∀{xs:List PV} {vs:List Value},gz im loc xs vs->(∀c∈xs,c.wz=aei)-> ∀v∈vs,v.oneCell'=aei
 |_,_,.nil,_,_,hv=>by cases hv
 |_,_,.cons x u xs vs h hs,ho,v,hv=>by
  cases hv with
  |head=>exact PH (h.NG (ho x (by simp)))
  |tail _ hm=>exact gz.one hs (λc hc=>ho c (by simp[hc])) v hm
theorem Cg{c:PV}(h:c.plain=aei):c.wz=aei:=by cases c<;>first|rfl|cases h
theorem AH{v:PV}{ws:List PV}(h:v.stored=aef ws):ws=v.cells/\ ∀c∈v.cells,c.wz=aei:=by
 unfold PV.stored at h
 grind
theorem qC{v:PV}{ws:List PV}(h:v.dj=aef ws):ws=v.cells/\ ∀c∈v.cells,c.plain=aei:=by
 unfold PV.dj at h
 grind
theorem HQ{t el:TypeId}{sz b o:Nat}{x:Value}{cur:Array Value}(hs:rV P t sz=aei)(hb:w.heap[b]? =aef (.cells cur el (0,0)))
 (hx:x.cells.size=sz) (qf:o+sz<=cur.size) (h1: ∀v∈x.cells.toList,v.oneCell'=aei):
 (Instr.storeAt t (.pointer (aef ⟨b,o,aeg⟩)) x).run P w= .ok () (w.setRow b (qB o x.cells.toList cur.toList).toArray):=by
 have:=run_storeCells_at P b o el x.cells.toList 0 cur w hb (by simp;omega) h1;simp[Instr.storeAt,storeVar,mQ hs,hx,]
 assumption
theorem VS{t:TypeId}{sz:Nat}{p v:PV}{u x:Value}{r:rQ}(hp:VR im loc p u)(hv:VR im loc v x)(hs:rV P t sz=aei)
 (h:xw aB fz sz v p=aef r) (hk:lI im loc aB w r):
 ∃w',(Instr.storeAt t u x).run P w= .ok () w'/\yh im loc aB w r im loc w'/\r.v= .undef:=by
 unfold xw at h;cases p with
 |ptr tk e row off=>
  dsimp only at h;obtain⟨li,hl,he,hn,rfl⟩:=hp.Di;cases AI:aB[tk]? with
  |none=>grind
  |some eB=>
   rw[AI]at h;cases eB with
   |arr e' rows=>
    dsimp only at h;cases v8:rows[row]? with
    |none=>grind
    |some cs=>
     cases hw:v.dj with
     |none=>grind
     |some ws=>
      rw[v8,hw]at h;dsimp only at h;split at h
      ·rename_i hc
       simp[]at hc;obtain⟨rfl,Sd⟩:=qC hw;injection h with h;subst h;obtain⟨k,jI,hb⟩:=hk.tok tk (.inr ⟨_,abt.2 rfl⟩) li hl;rw[AI]at jI;injection jI with jI;subst jI;have fo:rows≠[]:=by grind
       obtain⟨h1,h2,h3⟩:=hb;obtain⟨arr,el,D0,RX,PI,oP⟩:=h3 fo;have Sc:e'=e:=by rw[<-h1,he]
       subst Sc;have IW:=(oP row cs v8).1;have Uy:=hv.cells (λc hc=>Cg (Sd c hc));have XO:x.cells.size=sz:=by have:=Uy.pN;grind
       have XN:row<(aed rows):=by omega
       have LJ:=aaP e' (show row+1<=(aed rows)from XN);rw[ab0]at LJ;have wM:li.sh+row*e'+off+sz<=arr.size:=by omega
       have dy:=HQ hs D0 XO wM (Uy.one (λc hc=>Cg (Sd c hc)));refine⟨_,dy,?_,rfl⟩;refine yh.write hk rfl rfl hl AI (by cases rows with|nil=>grind|cons _ _=>rfl) (cJ D0) rfl rfl rfl ?_;refine⟨h1,by simpa using h2,λ_=>⟨(qB (li.sh+row*e'+off) x.cells.toList arr.toList).toArray,el,?_,?_,by simpa using PI,?_⟩⟩
       ·grind[cJ]
       ·grind[abK,dQ]
       refine oP.store v8 (by omega) (Uy.Mm Sd) Uy.pN.symm (λk=>?_)
       grind[jW]
      cases h
   |box cs=>
    dsimp only at h;cases hw:v.stored with
    |none=>grind
    |some ws=>
     rw[hw]at h;dsimp only at h;split at h
     ·rename_i hc
      simp[]at hc;obtain⟨⟨⟨BX,eX⟩,qf⟩,X9⟩:=hc;subst BX;obtain⟨rfl,Es⟩:=AH hw;injection h with h;subst h;obtain⟨k,jI,hb⟩:=hk.tok tk (.inr ⟨_,abt.2 rfl⟩) li hl;rw[AI]at jI;injection jI with jI;subst jI;obtain⟨h1,h2,h3,vs,el,h4,h5,h6⟩:=hb;have Uy:=hv.cells Es;have XO:x.cells.size=sz:=by have:=Uy.pN;grind
      have hcv:=h6.pN;have dy:=HQ (o:=li.sh+0*e+off) hs h4 XO (by simp[];omega) (Uy.one Es);refine⟨_,dy,?_,rfl⟩;refine yh.write hk rfl rfl hl AI rfl (cJ h4) rfl rfl rfl ?_;refine⟨by rw[show(vY off v.cells cs).length=(aed cs) by have:=dQ off v.cells cs (by omega);assumption];exact h1,h2,h3,qB off x.cells.toList vs,el,?_,?_,?_⟩
      ·grind[cJ]
      ·grind[dQ]
      exact gz.qB Uy h6
     cases h
   |_=>cases h
 |_=>cases h
end
end Go.Vm
/- Operation by operation, fourth part: aggregates, rows, slices. -/
namespace Go.Vm
theorem cA.tail{get:Nat->Option Value}{sh aO:Nat}{r:Row}{rs:List Row}(h:cA get sh aO (r::rs)):cA get (sh+aO) aO rs:=by
 intro i x hx;obtain⟨h1,h2⟩:=h (i+1) x (by simpa using hx)
 grind
theorem cA.drop{get:Nat->Option Value}{sh aO:Nat}{rows:List Row}(h:cA get sh aO rows)(n:Nat):cA get (sh+n*aO) aO (rows.drop n):=by
 intro i x hx;rw[List.getElem?_drop]at hx;obtain⟨h1,h2⟩:=h (n+i) x hx
 grind
theorem cA.take{get:Nat->Option Value}{sh aO:Nat}{rows:List Row}(h:cA get sh aO rows)(n:Nat):cA get sh aO (rows.take n):=by
 intro i x hx;have hi:i<n:=by
  grind
 rw[List.getElem?_take_of_lt hi]at hx;exact h i x hx
theorem cA.append{get:Nat->Option Value}{sh aO:Nat}{xs ys:List Row}(h:cA get sh aO xs)(k:cA get (sh+aed xs*aO) aO ys):cA get sh aO (xs++ys):=by
 intro i r hr;rcases abA i (aed xs)with hi|hi
 ·rw[abv hi]at hr;exact h i r hr
 rw[abu hi]at hr
 obtain⟨h1,h2⟩:=k _ r hr;refine⟨h1,λj c hc=>?_⟩;obtain⟨v,hv,hg⟩:=h2 j c hc;refine⟨v,hv,?_⟩;rw[<-hg];congr 1;have:i*aO=aed xs*aO+(i-(aed xs))*aO:=by rw[<-ab0];congr 1;omega
 omega
theorem cA.rY{get:Nat->Option Value}{sh aO:Nat}{rows:List Row}(h:cA get sh aO rows): ∀r∈rows,aed r=aO:=by intro r hr;obtain⟨i,hi,rfl⟩:=abN.1 hr;exact(h i _ (WF hi)).1
theorem oQ(r:Row):(bn r).length=(aed r):=by simp[bn]
theorem eM{aO:Nat}: ∀{rows:List Row},(∀r∈rows,aed r=aO)->(rows.flatMap bn).length=aed rows*aO
 | [],_=>by simp
 |r::rs,h=>by
  have ih:=eM (rows:=rs) (λx hx=>h x (by simp[hx]))
  grind[abx,oQ,aci,ab0]
theorem cA.flat{get:Nat->Option Value}{aO:Nat}: ∀{rows:List Row} {sh:Nat},cA get sh aO rows-> ∀(j:Nat) (v:Value),(rows.flatMap bn)[j]? =aef v->get (sh+j)=aef v
 | [],_,_,j,v,h=>by simp at h
 |r::rs,sh,hr,j,v,h=>by
  rw[abL]at h;have hl:(bn r).length=aO:=by rw[oQ];exact hr.rY r (by simp)
  rcases abA j aO with hj|hj
  ·rw[abv (by omega)]at h
   have:=(yr (im:=λ_=>aeg) (loc:=λ_=>aeg) hr (i:=0) rfl).2 j v h;simpa using this
  rw[abu (by omega),hl]at h
  have:=cA.flat hr.tail (j-aO) v h
  grind
theorem cA.Et{aO:Nat}: ∀{rows:List Row} {get:Nat->Option Value} {sh:Nat},(∀r∈rows,aed r=aO)->(∀r∈rows,∀c∈r,c.plain=aei)->
 (∀(j:Nat) (v:Value),(rows.flatMap bn)[j]? =aef v->get (sh+j)=aef v)->cA get sh aO rows
 | [],_,_,_,_,_=>by intro i r h;simp at h
 |r::rs,get,sh,hl,hp,hg=>by
  have XN:(bn r).length=aO:=by grind[oQ]
  have h1:cA get sh aO [r]:=by
   intro i x hx;cases i with
   |succ i=>simp at hx
   |zero=>
    simp at hx;subst hx;refine⟨hl r (by simp),λj c hc=>?_⟩;have hcp:=hp r (by simp) c (ad4 hc);obtain⟨v,hv⟩: ∃v,mO c=aef v:=by cases c<;>first|exact⟨_,rfl⟩|cases hcp
    refine⟨v,hv,?_⟩;have hj:j<aO:=by
     grind
    have:=hg j v (by rw[abL,abv (by omega)];simp[bn,hc,hv]);simpa using this
  have h2:cA get (sh+aO) aO rs:=cA.Et (λx hx=>hl x (by simp[hx])) (λx hx=>hp x (by simp[hx])) (λj v hj=>by simp_all[abu,abE]);have:=h1.append (by simpa using h2);simpa using this
theorem cA.plain{get:Nat->Option Value}{sh aO:Nat}{rows:List Row}(h:cA get sh aO rows): ∀r∈rows,∀c∈r,c.plain=aei:=by intro r hr c hc;obtain⟨i,hi,rfl⟩:=abN.1 hr;obtain⟨j,hj,rfl⟩:=abN.1 hc;obtain⟨v,hv,_⟩:=(h i _ (WF hi)).2 j _ (WF hj);cases hh:rows[i][j]<;>rw[hh]at hv<;>first|rfl|cases hv
theorem rZ{rows:List Row}(hp: ∀r∈rows,∀c∈r,c.plain=aei): ∀u∈rows.flatMap bn,u.oneCell'=aei:=by intro u hu;obtain⟨r,hr,hu⟩:=List.mem_flatMap.1 hu;obtain⟨c,hc,rfl⟩:=List.mem_map.1 hu;have:=hp r hr c hc;cases c<;>first|rfl|cases this
section
variable {P : Program} {im : Im} {loc : Loc} {aB : di} {fz : List Nat} {w : World}
theorem GM{aO:Nat}{y:PV}{u:Value}{new:List Row}{tx e':TypeId}(hy:VR im loc y u)(hr:rowsOf aB aO y=aef new)(hx:P.underlying tx=aef (.slice e'))
 (bW: ∀b o,im b=aef o->w.heap[b]? =aef o) (tok: ∀t,t∈mw y-> ∀li,loc t=aef li-> ∃k,aB[t]? =aef k/\BR im loc w li k):
 Src P aO tx u (aed new) (new.flatMap bn) w/\(∀r∈new,aed r=aO)/\(∀r∈new,∀c∈r,c.plain=aei):=by
 unfold rowsOf at hr;cases y with
 |sl e vX rows=>
  obtain⟨a,cap,rfl,_,_,oP⟩:=hy.rX;cases rows with
  |nil=>
   simp at hr;subst hr;refine⟨?_,by simp,by simp⟩;cases a with
   |none=>exact Src.ofNil w hx cap
   |some a=>grind[Src.ofSlice]
  |cons r rs=>
   dsimp only at hr;split at hr
   ·rename_i he
    have he:e=aO:=by simpa using he
    subst he;injection hr with hr;subst hr;obtain⟨b,o,rfl,dO⟩:=oP (by simp);refine⟨Src.ofSlice w hx ⟨b,o,aeg⟩ _ cap _ (eM dO.rY) (λj v hj=>?_) (rZ dO.plain),dO.rY,dO.plain⟩;rw[v7];exact vB bW (dO.flat j v hj)
   cases hr
 |own t e off len cap ex=>
  dsimp only at hr;split at hr
  ·rename_i he
   have he:e=aO:=by simpa using he
   subst he;obtain⟨li,a,eC,rfl,hl,h2,h3,h4,h5,h6,h7⟩:=hy.jV;obtain⟨k,jI,hb⟩:=tok t (by simp[mw]) li hl;rw[jI]at hr;cases k with
   |arr e' rows=>
    simp[If]at hr;subst hr;obtain⟨b1,b2,b3⟩:=hb;have eX:((rows.drop off).take len).length=len:=by simp;omega
    have Sc:e'=e:=by rw[<-b1,h2]
    subst Sc;cases rows with
    |nil=>
     have:len=0:=by grind
     subst this;simp;cases a with
     |none=>exact Src.ofNil w hx eC
     |some a=>grind[Src.ofSlice]
    |cons r rs=>
     obtain⟨arr,el,D0,RX,PI,dO⟩:=b3 (by simp);have BY:=(dO.drop off).take len;rcases h7 with h7|⟨h7,rfl,h9⟩
     ·have:len=0:=by omega
      subst this;refine⟨?_,by simp,by simp⟩;simp;cases a with
      |none=>exact Src.ofNil w hx eC
      |some a=>grind[Src.ofSlice]
     rw[eX]
     refine⟨Src.ofSlice w hx ⟨li.eB,li.sh+off*e',aeg⟩ len eC _ (by rw[eM BY.rY,eX]) (λj v hj=>?_) (rZ BY.plain),BY.rY,BY.plain⟩;rw[v7];exact mc D0 (BY.flat j v hj)
   |_=>cases hr
  cases hr
 |_=>cases hr
end
end Go.Vm
/- Operation by operation, fifth part: append. -/
namespace Go.Vm
theorem Ch: ∀(new:List Row) (i:Nat) (rows:List Row),i+aed new<=aed rows->oB i new rows=qB i new rows
 | [],i,rows,h=>by simp[oB,qB]
 |r::rs,i,rows,h=>by
  simp[aci]at h;rw[oB,Ch rs (i+1) (rows.set i r) (by simp;omega)];apply abX;intro j;rw[jW _ _ _ (by simp;omega),jW _ _ _ (by simp;omega)]
  grind
theorem cA.qB{get get':Nat->Option Value}{sh aO i:Nat}{new rows:List Row}(h:cA get sh aO rows)(qf:i+aed new<=aed rows)
 (hl: ∀r∈new,aed r=aO) (hp: ∀r∈new,∀c∈r,c.plain=aei)
 (hg: ∀k,get' k=if sh+i*aO<=k/\k<sh+i*aO+aed new*aO then(new.flatMap bn)[k- (sh+i*aO)]? else get k):
 cA get' sh aO (qB i new rows):=by
 have hfl:=eM hl;have old: ∀k r,rows[k]? =aef r->(k<i\/i+aed new<=k)->aed r=aO/\ ∀(j:Nat) (c:PV),r[j]? =aef c-> ∃v,mO c=aef v/\get' (sh+k*aO+j)=aef v:=by
  intro k r hk hor;obtain⟨h1,h2⟩:=h k r hk;refine⟨h1,λj c hc=>?_⟩;obtain⟨v,hv,X8⟩:=h2 j c hc;refine⟨v,hv,?_⟩;have hj:j<aO:=by
   rcases abA j (aed r)with h|h
   ·omega
   rw[abz h]at hc;cases hc
  rw[hg,Do]
  ·exact X8
  rcases hor with hor|hor
  ·have:=aaP aO (show k+1<=i from hor)
   rw[ab0]at this;omega
  have:=aaP aO hor
  rw[ab0]at this;omega
 have NJ:cA get' (sh+i*aO) aO new:=cA.Et hl hp λj v hj=>by
  have Se:j<aed new*aO:=by
   rcases abA j (aed new*aO)with h|h
   ·exact h
   rw[abz (by omega)]at hj;cases hj
  rw[hg,AC ⟨by omega,by omega⟩,<-hj];congr 1;omega
 intro k r hk;rw[jW _ _ _ qf]at hk;split at hk
 ·rename_i hc
  obtain⟨h1,h2⟩:=NJ _ r hk;refine⟨h1,λj c IB=>?_⟩;obtain⟨v,hv,X8⟩:=h2 j c IB;refine⟨v,hv,?_⟩;rw[<-X8];congr 1;have:k*aO=i*aO+(k-i)*aO:=by rw[<-ab0];congr 1;omega
  omega
 grind
theorem grownCap_ge(w:World)(Sf old:Nat)(e:TypeId):Sf<=grownCap w Sf old e:=by unfold grownCap;simp[Question.cut]
theorem X'{Sf old bytes:Nat}(h:old<Sf)(hn:Sf<=1048576)(hb:bytes<=1048576):Builtin.nextslicecap Sf old*bytes<=281474976710656:=by
 have h1:=nextslicecap_le h;have h2:Builtin.nextslicecap Sf old<=2097152:=by omega
 have:=ae7 h2 hb;omega
theorem Ci(z:Array Value)(n:Nat):(Builtin.zeroCells z n).size=n*z.size:=by simp[Builtin.zeroCells]
section
variable {P : Program} {im : Im} {loc : Loc} {aB : di} {fz : List Nat} {w : World}
theorem mH(t tx ty e:TypeId)(i:TypeInfo)(ht:P.underlying t=aef (.slice e))(hi:P.info? e=aef i)(b off zL sCap:Nat)(x:Value)(n:Nat)(news:List Value)(hs:Src P i.size tx x n news w)
 (yt:zL+n<=sCap) {cur:Array Value} {el:TypeId} (hb:w.heap[b]? =aef (.cells cur el (0,0))) (qf:off+zL*i.size+aed news<=cur.size):
 (Builtin.append_ #[t,tx] ty #[.slice (aef ⟨b,off,aeg⟩) zL sCap,x]).run P w=
  .ok (.slice (aef ⟨b,off,aeg⟩) (zL+n) sCap) (w.setRow b (qB (off+zL*i.size) news cur.toList).toArray):=by
 have dd:=run_storeCells_at P b (off+zL*i.size) el news 0 cur w hb (by simpa using qf) hs.one;rcases hs.kind with⟨e',hk⟩|hk<;>simp[Builtin.append_,run_underlying ht,run_underlying hk,sizeOf,typeInfo,hi,hs.len,yt,hs.cells,Addr.add_lit,dd,qB]
theorem GN{aO:Nat}{olds new:List Row}{rest:Array Value}{el:TypeId}{r:rQ}{w':World}{nc:Nat}(hr:r.v= .own (aed aB) aO 0 (aed olds+aed new) (aed olds+aed new) aej)
 (hn:r.news=[.arr aO (olds++new)]) (hk:lI im loc aB w r) (fo:new≠[])
 (hh:w'.heap=w.heap.push (.cells (((olds.flatMap bn)++(new.flatMap bn)).toArray++rest) el))
 (LK: ∀r∈olds,aed r=aO) (hp1: ∀r∈olds,∀c∈r,c.plain=aei) (PJ: ∀r∈new,aed r=aO) (hp2: ∀r∈new,∀c∈r,c.plain=aei)
 (hnc:(aed olds)+aed new<=nc) (hrs:rest.size=(nc- (aed olds+aed new))*aO):
 ∃li:LI,li.eB=w.heap.size/\VR im (loc.set (aed aB) li) r.v (.slice (aef ⟨w.heap.size,0,aeg⟩) (aed olds+aed new) nc)/\
  BR im (loc.set (aed aB) li) w' li (.arr aO (olds++new))/\p7 loc (loc.set (aed aB) li):=by
 have amR:=eM LK;have amS:=eM PJ;have vW:(((olds.flatMap bn)++(new.flatMap bn)).toArray++rest).size=nc*aO:=by simp[Array.size_append,abK,abx,amR,amS,hrs];rw[<-ab0,<-ab0];congr 1;omega
 let li:LI:=⟨w.heap.size,0,aO,(olds++new).length,nc*aO⟩
 refine⟨li,rfl,?_,⟨rfl,rfl,λ_=>⟨_,el,by grind,vW,?_,?_⟩⟩,Loc.AG li (by have:=hk.fresh 0 (by simp[hn]);simpa using this)⟩
 ·rw[hr]
  have:=VR.own (im:=im) (loc:=loc.set (aed aB) li) (aed aB) aO 0 (aed olds+aed new) (aed olds+aed new) aej li (aef ⟨w.heap.size,0,aeg⟩) nc
   (Loc.jd _ _ _) rfl (by simp[li]) (UV _) hnc (by simp)
   (.inr ⟨by simp[li];grind,by simp[li],by simp[li]⟩)
  exact this
 ·simp[li]
  simp_all[aaP,]
 refine cA.Et (λr hr=>?_) (λr hr=>?_) (λj v hj=>?_)
 ·rcases abS.1 hr with h|h
  ·exact LK r h
  exact PJ r h
 ·rcases abS.1 hr with h|h
  ·exact hp1 r h
  exact hp2 r h
 grind
end
end Go.Vm
/- Operation by operation, sixth part: append, whole. -/
namespace Go.Vm
section
variable {P : Program} {im : Im} {loc : Loc} {aB : di} {fz : List Nat} {w : World}
theorem Jq{t tx ty e:TypeId}{i:TypeInfo}{z:Value}{aO:Nat}(ht:P.underlying t=aef (.slice e))(hi:P.info? e=aef i)(hz:i.zero=aef z)(PK:z.cells.size=aO)
 (VT:i.bytes<=1048576) {r8:Option Addr} {zL sCap:Nat} {olds:List Row} {new:List Row} {x:Value}
 (ze:(Builtin.firstCells i.size zL (.slice r8 zL sCap)).run P w.drew= .ok (olds.flatMap bn).toArray w.drew)
 (hs:Src P i.size tx x (aed new) (new.flatMap bn) w) (hg:sCap<zL+aed new) (hm:zL+aed new<=1048576):
 ∃(nc:Nat) (rest:Array Value),zL+aed new<=nc/\rest.size=(nc- (zL+aed new))*aO/\
  (Builtin.append_ #[t,tx] ty #[.slice r8 zL sCap,x]).run P w= .ok (.slice (aef ⟨w.heap.size,0,aeg⟩) (zL+aed new) nc)
   (w.drew.alloc (.cells (((olds.flatMap bn)++(new.flatMap bn)).toArray++rest) e)):=by
 refine⟨_,_,grownCap_ge w _ sCap e,by rw[Ci,PK],
  run_append_grow_src w t tx ty e i z ht hi hz r8 zL sCap _ ze x _ _ hs hg (by omega) (X' hg hm VT)⟩
theorem Jr{t tx ty e e' : TypeId}{i : TypeInfo}{z : Value}{aO : Nat}(ht : P.underlying t = aef (.slice e))(htx : P.underlying tx = aef (.slice e'))(hi : P.info? e = aef i)(vW : i.size = aO)
    (hz : i.zero = aef z) (PK : z.cells.size = aO) (VT : i.bytes <= 1048576)
    {x y : PV} {u v : Value} {r : rQ} (hx : VR im loc x u) (hy : VR im loc y v) (h : lF aB fz aO x y = aef r) (hk : lI im loc aB w r) :
    ∃ v' w' bE, (Builtin.append_ #[t, tx] ty #[u, v]).run P w = .ok v' w' /\ VR im bE r.v v' /\ yh im loc aB w r im bE w' := by
  unfold lF at h
  cases HR : rowsOf aB aO y with
  | none => grind
  | some new =>
    rw[HR]at h
    dsimp only at h
    cases new with
    | nil =>
      dsimp only at h
      have key : ∀ (a : Option Addr) (n cap : Nat), u = .slice a n cap -> n <= cap -> aef ({ v := x, rd := mw y } : rQ) = aef r ->
          ∃ v' w' bE, (Builtin.append_ #[t, tx] ty #[u, v]).run P w = .ok v' w' /\ VR im bE r.v v' /\ yh im loc aB w r im bE w' := by
        intro a n cap hu qf hr
        injection hr with hr; subst hr
        obtain⟨hs, _, _⟩ := GM hy HR htx hk.bW (λt ht => hk.tok t (.inl ht))
        simp only[ack, ae0]at hs
        subst hu
        rw[<-vW]at hs
        exact⟨_, _, loc, run_append_nothing w t tx ty e i ht hi a n cap qf _ hs, hx, yh.none hk rfl rfl⟩
      have fresh : ∀ (a : Option Addr) (rd : List Nat), u = .slice a 0 0 -> (∀ t ∈ mw y, t ∈ rd) -> aef ({ v := .own (aed aB) aO 0 0 0 aej, news := [.arr aO []], rd := rd } : rQ) = aef r ->
          ∃ v' w' bE, (Builtin.append_ #[t, tx] ty #[u, v]).run P w = .ok v' w' /\ VR im bE r.v v' /\ yh im loc aB w r im bE w' := by
        intro a rd hu XP hr
        injection hr with hr; subst hr
        obtain⟨hs, _, _⟩ := GM hy HR htx hk.bW (λt ht => hk.tok t (.inl (XP t ht)))
        simp only[ack, ae0]at hs
        subst hu
        rw[<-vW]at hs
        exact⟨_, _, _, run_append_nothing w t tx ty e i ht hi a 0 0 (UV _) _ hs, .own _ aO 0 0 0 aej ⟨0, 0, aO, 0, 0⟩ a 0 (Loc.jd _ _ _) rfl (UV _) (UV _) (UV _) (by simp) (.inl rfl), yh.X5 hk rfl rfl⟩
      cases x with
      | sl e vX rows =>
        obtain⟨a, cap, hu, qf, IW, _⟩ := hx.rX
        grind
      | own tk e off len cap ex =>
        obtain⟨li, a, eC, hu, h1, h2, h3, h4, h5, h6, _⟩ := hx.jV
        dsimp only at h
        split at h
        ·rename_i hc
         simp only[IR, acF]at hc
         obtain⟨⟨rfl, rfl⟩, hc⟩ := hc
         have := h6 hc
         subst this
         exact fresh a _ hu (λ_ h => abP _ h) h
        grind
      | _ => cases h
    | cons n0 ns =>
      dsimp only at h
      generalize NJ : n0 :: ns = new at h HR
      have fo : new ≠ [] := by grind
      have PL : 0 < (aed new) := by grind
      cases x with
      | sl e1 vX rows =>
        dsimp only at h
        split at h
        ·rename_i hc
         simp only[IR, ae1, acF, abV]at hc
         obtain⟨⟨ail, Js⟩, lJ⟩ := hc
         injection h with h
         obtain⟨a, cap, rfl, LH, hck, oP⟩ := hx.rX
         have amT := hck ail
         have Ax : lI im loc aB w { v := .own (aed aB) aO 0 ((aed rows) + (aed new)) ((aed rows) + (aed new)) aej, news := [.arr aO (rows ++ new)], rd := mw y } := by rw[h]; exact hk
         obtain⟨hs, NK, Ya⟩ := GM hy HR htx Ax.bW (λt ht => Ax.tok t (.inl ht))
         rw[<-vW]at hs
         have ze : (Builtin.firstCells i.size (aed rows) (.slice a (aed rows) cap)).run P w.drew = .ok (rows.flatMap bn).toArray w.drew /\ (∀ r ∈ rows, (aed r) = aO) /\ (∀ r ∈ rows, ∀ c ∈ r, c.plain = aei) := by
           cases hrw : rows with
           | nil =>
             refine⟨?_, by simp, by simp⟩
             cases a with
             | none => rfl
             | some a => grind[run_firstCells_some]
           | cons r0 rs =>
             rw[<-hrw]
             have afa : rows ≠ [] := by rw[hrw]; simp
             obtain⟨b, o, rfl, dO⟩ := oP afa
             have he1 : e1 = aO := by
               grind
             subst he1
             refine⟨run_firstCells_some w.drew i.size (aed rows) ⟨b, o, aeg⟩ (aed rows) cap _ (by rw[vW]; exact eM dO.rY) (λj v hj => ?_), dO.rY, dO.plain⟩
             rw[v7]
             exact vB Ax.bW (dO.flat j v hj)
         obtain⟨ze, hol, iM⟩ := ze
         obtain⟨nc, rest, hnc, hrs, dy⟩ := Jq ht hi hz PK VT ze hs (by omega) (by assumption)
         obtain⟨li, hlb, tL, yu, qf⟩ := GN
           (w' := w.drew.alloc (.cells (((rows.flatMap bn) ++ (new.flatMap bn)).toArray ++ rest) e)) rfl rfl Ax fo rfl hol iM NK Ya hnc hrs
         subst h
         exact⟨_, _, _, dy, tL, yh.new Ax li rfl rfl rfl rfl rfl rfl hlb yu⟩
        cases h
      | own tk e1 off len cap ex =>
        dsimp only at h
        obtain⟨li, a, eC, rfl, hl, he, GL, eX, LH, hex, IC⟩ := hx.jV
        cases dd : aB[tk]? with
        | none => grind
        | some eB =>
          rw[dd]at h
          cases eB with
          | arr e2 rows =>
            dsimp only at h
            split at h
            ·cases h
            rename_i Sc
            have Sc : e1 = aO := by simpa using Sc
            subst Sc
            split at h
            ·
              rename_i yt
              have yt : len + (aed new) <= cap := by simpa using yt
              split at h
              ·cases h
              rename_i X9
              injection h with h
              subst h
              obtain⟨hs, NK, Ya⟩ := GM hy HR htx hk.bW (λt ht => hk.tok t (.inl ht))
              rw[<-vW]at hs
              obtain⟨k, jI, hb⟩ := hk.tok tk (.inr ⟨_, abt.2 rfl⟩) li hl
              rw[dd]at jI; injection jI with jI; subst jI
              obtain⟨b1, b2, b3⟩ := hb
              have vC : rows ≠ [] := by grind
              have BN : e2 = e1 := by rw[<-b1, he]
              subst BN
              obtain⟨arr, el, D0, RX, PI, dO⟩ := b3 vC
              rcases IC with h0 | ⟨_, rfl, wM⟩
              ·omega
              have PM := eM NK
              have LJ := aaP e2 (show off + (len + (aed new)) <= (aed rows) by omega)
              have Sg : (off + (len + (aed new))) * e2 = off * e2 + len * e2 + (aed new) * e2 := by grind
              have NL : li.sh + off * e2 + len * i.size + (new.flatMap bn).length <= arr.size := by grind
              have dy := mH t tx ty e i ht hi li.eB (li.sh + off * e2) len eC v (aed new) (new.flatMap bn) hs (by omega) D0 NL
              refine⟨_, _, loc, dy, ?_, ?_⟩
              ·exact .own tk e2 off (len + (aed new)) cap ex li _ eC hl he GL yt LH hex (.inr ⟨by omega, rfl, wM⟩)
              refine yh.write hk rfl rfl hl dd (by cases rows with | nil => grind | cons _ _ => rfl) (cJ D0) rfl rfl rfl ?_
              rw[Ch _ _ _ (by omega)]
              refine⟨b1, by grind[dQ], λ_ => ⟨(qB (li.sh + off * e2 + len * i.size) (new.flatMap bn) arr.toList).toArray, el, ?_, ?_, ?_, ?_⟩⟩
              ·grind[cJ]
              ·grind[abK, dQ]
              ·rw[dQ _ _ _ (by omega)]; exact PI
              refine dO.qB (by omega) NK Ya (λk => ?_)
              simp only[abF]
              rw[jW _ _ _ (by simpa using NL), PM]
              have : li.sh + off * e2 + len * i.size = li.sh + (off + len) * e2 := by rw[vW, ab0]; omega
              rw[this]
              simp
            rename_i yt
            have yt : ¬ (len + (aed new) <= cap) := by simpa using yt
            split at h
            ·cases h
            rename_i lJ
            have lJ : len + (aed new) <= 1048576 := by simpa[iq]using lJ
            have old : ∀ (rd : List Nat) (wr : List (Nat × ox)), (tk ∈ rd \/ ∃ k, (tk, k) ∈ wr) ->
                lI im loc aB w { v := .own (aed aB) e1 0 (len + (aed new)) (len + (aed new)) aej, news := [.arr e1 ((rows.drop off).take len ++ new)], wr := wr, rd := rd } ->
                (Builtin.firstCells i.size len (.slice a len eC)).run P w.drew = .ok (((rows.drop off).take len).flatMap bn).toArray w.drew /\ ((rows.drop off).take len).length = len /\
                  (∀ r ∈ (rows.drop off).take len, (aed r) = e1) /\ (∀ r ∈ (rows.drop off).take len, ∀ c ∈ r, c.plain = aei) := by
              intro rd wr ID Ax
              obtain⟨k, jI, hb⟩ := Ax.tok tk ID li hl
              rw[dd]at jI; injection jI with jI; subst jI
              obtain⟨b1, b2, b3⟩ := hb
              have BN : e2 = e1 := by rw[<-b1, he]
              subst BN
              have Fg : ((rows.drop off).take len).length = len := by simp; omega
              by_cases RY : len = 0
              ·subst RY
               refine⟨?_, Fg, by simp, by simp⟩
               simp only[List.take_zero, ack]
               cases a with
               | none => exact run_firstCells_none w.drew i.size 0 0 eC
               | some a => exact run_firstCells_some w.drew i.size 0 a 0 eC [] (by simp) (by simp)
              have vC : rows ≠ [] := by intro e; subst e; simp at Fg; omega
              obtain⟨arr, el, D0, RX, PI, dO⟩ := b3 vC
              have BY := (dO.drop off).take len
              rcases IC with h0 | ⟨_, rfl, _⟩
              ·omega
              refine⟨run_firstCells_some w.drew i.size len _ len eC _ (by rw[vW, eM BY.rY, Fg]) (λj v hj => ?_), Fg, BY.rY, BY.plain⟩
              rw[v7]
              exact mc D0 (BY.flat j v hj)
            split at h
            ·
              rename_i ain
              injection h with h
              have Ax : lI im loc aB w { v := .own (aed aB) e1 0 (len + (aed new)) (len + (aed new)) aej, news := [.arr e1 ((rows.drop off).take len ++ new)], wr := [], rd := tk :: mw y } := by rw[h]; exact hk
              obtain⟨ze, Fg, hol, iM⟩ := old (tk :: mw y) [] (.inl (by simp)) Ax
              obtain⟨hs, NK, Ya⟩ := GM hy HR htx Ax.bW (λt ht => Ax.tok t (.inl (abP _ ht)))
              rw[<-vW]at hs
              have hce := hex ain
              obtain⟨nc, rest, hnc, hrs, dy⟩ := Jq ht hi hz PK VT ze hs (by omega) lJ
              obtain⟨lj, hlb, tL, yu, qf⟩ := GN (im := im) (loc := loc) (olds := (rows.drop off).take len) (new := new) (r := { v := .own (aed aB) e1 0 (len + (aed new)) (len + (aed new)) aej, news := [.arr e1 ((rows.drop off).take len ++ new)], wr := [], rd := tk :: mw y })
                (w' := w.drew.alloc (.cells (((((rows.drop off).take len).flatMap bn) ++ (new.flatMap bn)).toArray ++ rest) e)) (by rw[Fg]) rfl Ax fo rfl hol iM NK Ya (by rw[Fg]; exact hnc) (by rw[Fg]; exact hrs)
              subst h
              rw[Fg]at tL
              exact⟨_, _, _, dy, tL, yh.new Ax lj rfl rfl rfl rfl rfl rfl hlb yu⟩
            rename_i ain
            split at h
            ·cases h
            rename_i X9
            injection h with h
            have Ax : lI im loc aB w { v := .own (aed aB) e1 0 (len + (aed new)) (len + (aed new)) aej, news := [.arr e1 ((rows.drop off).take len ++ new)], wr := [(tk, .dead)], rd := mw y } := by rw[h]; exact hk
            obtain⟨ze, Fg, hol, iM⟩ := old (mw y) [(tk, .dead)] (.inr ⟨_, abt.2 rfl⟩) Ax
            obtain⟨hs, NK, Ya⟩ := GM (P := P) (w := w) hy HR htx Ax.bW (λt ht => Ax.tok t (.inl ht))
            have BZ := hs
            rw[<-vW]at hs
            subst h
            rcases abA eC (len + (aed new))with hg | hg
            ·
              obtain⟨nc, rest, hnc, hrs, dy⟩ := Jq (P := P) (w := w) (tx := tx) (ty := ty) ht hi hz PK VT (sCap := eC) ze hs hg lJ
              obtain⟨lj, hlb, tL, yu, qf⟩ := GN (im := im) (loc := loc) (olds := (rows.drop off).take len) (new := new) (r := { v := .own (aed aB) e1 0 (len + (aed new)) (len + (aed new)) aej, news := [.arr e1 ((rows.drop off).take len ++ new)], wr := [(tk, .dead)], rd := mw y })
                (w' := w.drew.alloc (.cells (((((rows.drop off).take len).flatMap bn) ++ (new.flatMap bn)).toArray ++ rest) e)) (by rw[Fg]) rfl Ax fo rfl hol iM NK Ya (by rw[Fg]; exact hnc) (by rw[Fg]; exact hrs)
              rw[Fg]at tL
              refine⟨_, _, _, dy, tL, ?_⟩
              have r8 := yh.new (r := { v := .own (aed aB) e1 0 (len + (aed new)) (len + (aed new)) aej, news := [.arr e1 ((rows.drop off).take len ++ new)], wr := [], rd := mw y })
                (w' := w.drew.alloc (.cells (((((rows.drop off).take len).flatMap bn) ++ (new.flatMap bn)).toArray ++ rest) e))
                ⟨Ax.bW, λt ht => Ax.tok t (by rcases ht with ht | ⟨k, ht⟩; exact .inl ht; cases ht), λt k h => absurd h (by simp), Ax.fresh, λt u li lj k k' h1 h2 => Ax.lh t u li lj k k' (by rcases h1 with h | ⟨k, h⟩; exact .inl h; cases h) (by rcases h2 with h | ⟨k, h⟩; exact .inl h; cases h)⟩ lj rfl rfl rfl rfl rfl rfl hlb yu
              exact { jD := r8.jD, fq := r8.fq, bW := r8.bW, fA := r8.fA, os := r8.os, tape := r8.tape, output := r8.output, size := r8.size,
                      frame := λb hb _ => r8.frame b hb (λt k li k0 h => absurd h (by simp)),
                      VO := (λt k hm hs => by
                        obtain⟨rfl, rfl⟩ : t = tk /\ k = .dead := by simpa using hm
                        cases hs),
                      wr := λt k li hm qH => by
                        obtain⟨rfl, rfl⟩ : t = tk /\ k = .dead := by simpa using hm
                        trivial,
                      oy := r8.oy,
                      news := λj k li hj hl => by
                        obtain⟨h2, h3⟩ := r8.news j k li hj hl
                        refine⟨h2, λhs => ⟨(h3 hs).1, ?_⟩⟩
                        rcases(h3 hs).2 with h | ⟨t, lt, k0, hm, _⟩
                        ·exact .inl h
                        exact absurd hm (by simp),
                      distinct := r8.distinct }
            ·
              obtain⟨k, jI, hb⟩ := Ax.tok tk (.inr ⟨_, abt.2 rfl⟩) li hl
              rw[dd]at jI; injection jI with jI; subst jI
              obtain⟨b1, b2, b3⟩ := hb
              have BN : e2 = e1 := by rw[<-b1, he]
              subst BN
              rcases IC with h0 | ⟨hn0, rfl, wM⟩
              ·omega
              have vC : rows ≠ [] := by intro e; subst e; simp at b2; omega
              obtain⟨arr, el, D0, RX, PI, dO⟩ := b3 vC
              have BY := (dO.drop off).take len
              have PM := eM NK
              have aio := eM hol
              rw[Fg]at aio
              have LJ := aaP e2 (show off + (len + (aed new)) <= off + eC by omega)
              have Sg : (off + (len + (aed new))) * e2 = off * e2 + len * e2 + (aed new) * e2 := by rw[ab0, ab0]; omega
              have NL : li.sh + off * e2 + len * i.size + (new.flatMap bn).length <= arr.size := by rw[vW, PM]; omega
              have dy := mH (P := P) (w := w) t tx ty e i ht hi li.eB (li.sh + off * e2) len eC v (aed new) (new.flatMap bn) hs hg D0 NL
              have Uz := cJ (cs := (qB (li.sh + off * e2 + len * i.size) (new.flatMap bn) arr.toList).toArray) D0
              have iL := (aby.1 D0).1
              have GO : (ox.arr e2 rows).cu = aei := by cases rows with | nil => exact absurd rfl vC | cons _ _ => rfl
              have Jt := Ax.free tk .dead (abt.2 rfl) li (.arr e2 rows) hl dd GO
              let lj : LI := ⟨li.eB, li.sh + off * e2, e2, ((rows.drop off).take len ++ new).length, li.sz⟩
              have Yb : loc (aed aB) = aeg := by have := Ax.fresh 0 (by simp); simpa using this
              have hlj : lj.n = len + (aed new) := by simp only[lj, abx, Fg]
              refine⟨_, _, loc.set (aed aB) lj, dy, ?_, ?_⟩
              ·exact .own (aed aB) e2 0 (len + (aed new)) (len + (aed new)) aej lj _ eC (Loc.jd _ _ _) rfl (by omega) (UV _) hg (by simp)
                 (.inr ⟨by omega, by simp[lj], by simp only[lj, aeb]; rw[ab0]at wM; omega⟩)
              have yu : BR im (loc.set (aed aB) lj) (w.setRow li.eB (qB (li.sh + off * e2 + len * i.size) (new.flatMap bn) arr.toList).toArray) lj (.arr e2 ((rows.drop off).take len ++ new)) := by
                refine⟨rfl, rfl, λ_ => ⟨(qB (li.sh + off * e2 + len * i.size) (new.flatMap bn) arr.toList).toArray, el, by rw[Uz]; simp[lj, iL], ?_, ?_, ?_⟩⟩
                ·simp only[lj, abK]
                 rw[dQ _ _ _ (by simpa using NL)]; simpa using RX
                ·simp only[lj, abx, Fg]
                 rw[ab0]; rw[Sg]at LJ; omega
                refine cA.Et (λr hr => ?_) (λr hr => ?_) (λj u hj => ?_)
                ·rcases abS.1 hr with h | h
                 ·exact hol r h
                 exact NK r h
                ·rcases abS.1 hr with h | h
                 ·exact iM r h
                 exact Ya r h
                rw[List.flatMap_append]at hj
                simp only[lj, abF]
                rw[jW _ _ _ (by simpa using NL), PM, vW]
                rcases abA j (len * e2)with Se | Se
                ·rw[abv (by omega)]at hj
                 rw[Do (by omega)]
                 have := BY.flat j u hj
                 simpa using this
                rw[abu (by omega), aio]at hj
                have hjb := (aaQ.1 hj).1
                rw[AC ⟨by omega, by omega⟩, <-hj]
                congr 1
                omega
              exact { jD := .refl _, fq := Loc.AG lj Yb,
                      bW := λb o hb => by
                        have h1 := Ax.bW b o hb
                        have afc : li.eB ≠ b := λe => by rw[e, hb]at Jt; cases Jt
                        rw[Uz, abT, Do afc]; exact h1,
                      fA := λ_ _ h => .inl h, os := rfl, tape := ⟨rfl, UV _⟩, output := rfl,
                      size := by rw[Uz]; simp,
                      VO := (λt k hm hs => by
                        obtain⟨rfl, rfl⟩ : t = tk /\ k = .dead := by simpa using hm
                        cases hs),
                      frame := λb _ hb => by
                        have afc := hb tk .dead li _ (abt.2 rfl) hl dd GO
                        rw[Uz, abT, Do afc],
                      wr := λt k li hm qH => by
                        obtain⟨rfl, rfl⟩ : t = tk /\ k = .dead := by simpa using hm
                        trivial,
                      oy := λt l h => by
                        unfold Loc.set at h
                        split at h
                        ·rename_i e; subst e; exact .inr ⟨UV _, by simp⟩
                        exact .inl h,
                      news := GK (λj k hj => by
                        cases j with
                        | zero =>
                          simp at hj; subst hj
                          exact⟨lj, Loc.jd _ _ _, yu, λ_ => ⟨Jt, .inr ⟨tk, li, _, abt.2 rfl, hl, dd, GO, rfl⟩⟩⟩
                        | succ j => simp at hj),
                      distinct := λi j ki kj li lj h1 h2 _ _ _ _ _ => by
                        cases i <;> cases j <;> simp at h1 h2 <;> rfl }
          | _ => cases h
      | _ => cases h
end
end Go.Vm
/- Operation by operation, seventh part: aggregates and rows that are built, slices that are cut. -/
namespace Go.Vm
section
variable {P : Program} {im : Im} {loc : Loc} {aB : di} {fz : List Nat} {w : World}
theorem zM{α β:Type}(f:α->Sem β)(g:α->β):
 ∀(xs:List α),(∀a∈xs,(f a).run P w= .ok (g a) w)-> ∀(acc:Array β),(xs.foldlM (λbs a=>bs.push<$>f a) acc).run P w= .ok (acc++(xs.map g).toArray) w
 | [],_,acc=>by simp
 |x::xs,h,acc=>by simp only[List.foldlM_cons,aai,Sem.run_map,h x (by simp),NE,zM f g xs (λa ha=>h a (by simp[ha]))];simp
theorem VU{α β:Type}(f:α->Sem β)(g:α->β)(xs:Array α)(h: ∀a∈xs,(f a).run P w= .ok (g a) w):(xs.mapM f).run P w= .ok (xs.map g) w:=by
 rw[Array.mapM_eq_foldlM,<-Array.foldlM_toList,zM f g xs.toList (λa ha=>h a (by simpa using ha))]
 congr 1
 grind
theorem Mn(off:Nat): ∀(xs:List Value) (k:Nat) (cells:Array Value),off+k+aed xs<=cells.size->
 ((xs.zipIdx k).foldl (λ(cs:Array Value) (p:Value×Nat)=>cs.setIfInBounds (off+p.2) p.1) cells).toList=qB (off+k) xs cells.toList
 | [],k,cells,_=>by simp[qB]
 |x::xs,k,cells,h=>by
  simp[]at h;rw[List.zipIdx_cons,abU,Mn off xs _ _ (by simp;omega)];apply abX;intro j;rw[jW _ _ _ (by simp;omega),jW _ _ _ (by simp;omega)]
  grind
theorem zN{place:Nat->Option _}{i off size:Nat}{v:Value}{rest:List _}{cells:Array Value}(hp:place i=aef (off,size))(hs:v.cells.size=size)
 (hf:off+size<=cells.size):Instr.fill place cells ((i,v)::rest)=Instr.fill place ⟨qB off v.cells.toList cells.toList⟩ rest:=by
 have he:(v.cells.zipIdx.foldl (λcs (c,j)=>cs.setIfInBounds (off+j) c) cells)=⟨qB off v.cells.toList cells.toList⟩:=by apply abB;rw[<-Array.foldl_toList,Array.toList_zipIdx];have:=Mn off v.cells.toList 0 cells (by simp;omega);simpa using this
 simp[Instr.fill,]
 grind
inductive zO(im:Im)(loc:Loc)(place:Nat->Option (Nat×Nat)):List (Nat×Nat×PV)->List (Nat×Value)->Prop
 |nil:zO im loc place [] []
 |cons(off sz i:Nat)(x:PV)(v:Value)(r:List (Nat×Nat×PV))(s:List (Nat×Value))(hp:place i=aef (off,sz))(hv:VR im loc x v)(h:zO im loc place r s):
  zO im loc place ((off,sz,x)::r) ((i,v)::s)
theorem PN{place:Nat->Option _}: ∀{ps:List _} {qs:List _},zO im loc place ps qs-> ∀{cs Lz:List PV} {vs:Array Value},
 gz im loc cs vs.toList->qS ps cs=aef Lz-> ∃RZ,Instr.fill place vs qs=aef RZ/\gz im loc Lz RZ.toList
 |_,_,.nil,cs,Lz,vs,h,hf=>by simp[qS,]at hf;subst hf;exact⟨vs,rfl,h⟩
 |_,_,.cons off sz i x v r s hp hv hr,cs,Lz,vs,h,hf=>by
  simp only[qS]at hf;cases dd:x.stored with
  |none=>grind
  |some ws=>
   rw[dd]at hf;dsimp only at hf;split at hf
   ·rename_i hc
    simp[]at hc;obtain⟨rfl,Es⟩:=AH dd;have Uy:=hv.cells Es;have hl:=Uy.pN;have IW:=h.pN;simp[]at hl IW;rw[zN hp (by omega) (by omega)];exact PN hr (gz.qB Uy h) hf
   cases hf
theorem Ju{t:TypeId}{fs:Array Field}(hu:P.underlying t=aef (.struct fs))(hf: ∀f∈fs,(P.info? f.type).isSome=aei):
 (fs.mapM λf=>do pure (f.offset,<-sizeOf f.type):Sem _).run P w= .ok (fs.map λf=>(f.offset,P.cellsOf f.type)) w/\
 (λi=>(fs.map λf=>(f.offset,P.cellsOf f.type))[i]?)=placeOf P t:=by
 constructor
 ·refine VU _ _ _ λf hm=>?_
  obtain⟨i,hi⟩:=abC.1 (hf f hm);simp[sizeOf,typeInfo,hi,Program.cellsOf]
 funext i
 unfold placeOf;rw[hu];cases hfi:fs[i]? with
 |none=>simp[hfi]
 |some f=>obtain⟨j,hj⟩:=abC.1 (hf f (Array.mem_of_getElem? hfi));simp[hfi,hj,Program.cellsOf]
theorem VV{t:TypeId}{zero cs:List PV}{ps:List _}{qs:Array _}(hz:zc P t zero=aei)
 (qI:(match P.underlying t with|some (.struct fs)=>fs.all λf=>(P.info? f.type).isSome|some (.array _ e)=>(P.info? e).isSome|_=>aej)=aei)
 (hr:zO im loc (placeOf P t) ps qs.toList) (hf:qS ps zero=aef cs): ∃v,(Instr.build t qs).run P w= .ok v w/\VR im loc (.agg cs) v:=by
 unfold zc at hz;cases hi:P.info? t with
 |none=>grind
 |some i=>
  rw[hi]at hz;cases PO:i.zero with
  |none=>simp[PO]at hz
  |some z=>
   simp[PO]at hz;have R0:(zeroValue t).run P w= .ok z w:=by simp[zeroValue,typeInfo,hi,PO]
   obtain⟨RZ,h1,h2⟩:=PN hr (Cc hz) hf;refine⟨.agg RZ,?_,.agg cs RZ.toList h2⟩;cases hu:P.underlying t with
   |none=>grind
   |some d=>
    rw[hu]at qI;cases d<;>first|cases qI|skip
    case array n e=>
     obtain⟨j,hj⟩:=abC.1 qI;have hp:(λi=>aef (i*j.size,j.size))=placeOf P t:=by funext i;unfold placeOf;grind
     have vW:(sizeOf e).run P w= .ok j.size w:=by simp[sizeOf,typeInfo,hj]
     simp[Instr.build,R0,run_underlying hu,vW,hp,h1,]
    case struct fs=>
     have wN: ∀f∈fs,(P.info? f.type).isSome=aei:=by intro f hf;have:=Array.all_eq_true.1 qI;obtain⟨k,hk,rfl⟩:=Array.mem_iff_getElem.1 hf;exact this k hk
     obtain⟨hm,hp⟩:=Ju (w:=w) hu wN;simp only[Instr.build,aai,R0,run_underlying hu,NE,hm,hp,h1,abr]
theorem GP{zero:Row}{zs:Array Value}(h: ∀(j:Nat) (c:PV),zero[j]? =aef c-> ∃v,mO c=aef v/\zs[j]? =aef v)(hl:(aed zero)=zs.size)(n:Nat):
 cA (λk=>((abQ (n*zs.size)).map (zs[· %zs.size]!))[k]?) 0 zs.size (abw n zero):=by
 intro i r hr;have hi:i<n:=by
  rcases abA i n with h|h
  ·exact h
  rw[abz (by simpa using h)]at hr;cases hr
 rw[List.getElem?_replicate,AC hi]at hr;injection hr with hr;subst hr;refine⟨hl,λj c hc=>?_⟩;obtain⟨v,hv,hz⟩:=h j c hc;have hj:=(aby.1 hz).1;have iL:i*zs.size+j<n*zs.size:=by have:=aaP zs.size (show i+1<=n from hi);rw[ab0]at this;omega
 have auH:(i*zs.size+j)%zs.size=j:=by rw[Nat.mul_comm,Nat.mul_add_mod];exact Nat.mod_eq_of_lt hj
 grind
inductive Cj(im:Im)(loc:Loc):List (Nat×PV)->List (Nat×Value)->Prop
 |nil:Cj im loc [] []
 |cons(i:Nat)(x:PV)(v:Value)(r:List (Nat×PV))(s:List (Nat×Value))(hv:VR im loc x v)(h:Cj im loc r s):Cj im loc ((i,x)::r) ((i,v)::s)
theorem Fm{aO n : Nat} : ∀ {ps : List _} {qs : List _}, Cj im loc ps qs -> ∀ {rows wB : List Row} {vs : Array Value},
    cA (λk => vs[k]?) 0 aO rows -> vs.size = n * aO -> (aed rows) = n -> vw ps rows aO = aef wB ->
    ∃ RZ, Instr.fill (λi => aef (i * aO, aO)) vs qs = aef RZ /\ cA (λk => RZ[k]?) 0 aO wB /\ RZ.size = n * aO /\ (aed wB) = n
  | _, _, .nil, rows, wB, vs, h, hs, hn, hf => by
    simp[vw, ]at hf
    subst hf
    exact⟨vs, rfl, h, hs, hn⟩
  | _, _, .cons i x v r s hv hr, rows, wB, vs, h, hs, hn, hf => by
    simp[vw]at hf
    cases dd : x.dj with
    | none => grind
    | some ws =>
      rw[dd]at hf
      dsimp only at hf
      split at hf
      ·have Pp : i < (aed rows) := by simp_all
       obtain⟨rfl, Sd⟩ := qC dd
       have Uy := hv.cells (λc hc => Cg (Sd c hc))
       have hl := Uy.pN
       simp[]at hl
       have LJ := aaP aO (show i + 1 <= n by omega)
       rw[ab0]at LJ
       rw[zN rfl (by omega) (by omega)]
       have hgi := WF Pp
       have hil := (h i _ hgi).1
       have aip := h.store (get' := λk => (⟨qB (i * aO) v.cells.toList vs.toList⟩ : Array Value)[k]?) (off := 0) hgi (by omega) (Uy.Mm Sd) (by simp; omega) (λk => by
         grind[jW])
       have amV : qB 0 x.cells rows[i] = x.cells := by
         unfold qB; grind
       rw[amV]at aip
       exact Fm hr aip (by grind[abK, dQ]) (by simpa using hn) hf
      cases hf
end
end Go.Vm
/- Operation by operation, last part: all of them. -/
namespace Go.Vm
def oK.iu:oK->List ib
 | .XL x| .un _ x| .conv _ x| .len x| .box x| .load _ x| .Pv x| .Pw _ x| .dI _ _ x| .ext _ x=>[x]
 | .pick a b c=>[a,b,c]
 | .bin _ x y| .Pu _ x y| .eqc _ _ x y| .store _ x y| .Px _ x y| .HM _ _ x y| .idx _ _ _ x y| .Py x y| .mks _ _ x y| .append _ x y| .copy _ x y=>[x,y]
 | .build _ ps=>ps.map (·.2.2)
 | .Fh _ _ _ ps=>ps.map (·.2)
 | .HL x y=>[x,y]
 | .B8 _ xs=>xs
 | .VL _ x a b c=>x::(a.toList++b.toList++c.toList)
 | .mkf _ a b=>a++b
 | .lookup _ _ _ m k=>[m,k]
 | .Nx _ m k v=>[m,k,v]
 | .clear _ _ x=>[x]
 | .mm _ x xs=>x::xs
 | .call _ _ as=>as
 | .BJ x as=>x::as
 | .Sa _| .alloc _| .mkm _| .bad=>[]
section
variable {P : Program} {im : Im} {loc : Loc} {aB : di} {fz : List Nat} {w : World} {e : Env} {ρ : Operand -> Value}
theorem qU: ∀{xs:List ib} {os:List Operand},(∀x∈xs,∀o,bM x o=aei->VR im loc (x.ev e) (ρ o))->gH xs os=aei->gz im loc (LF e xs) (os.map ρ)
 | [],[],_,_=> .nil
 |x::xs,o::os,h,hc=>by simp[gH,IR]at hc;exact .cons _ _ _ _ (h x (by simp) o hc.1) (qU (λy hy=>h y (by simp[hy])) hc.2)
 | [],_::_,_,hc=>by simp[gH]at hc
 |_::_,[],_,hc=>by simp[gH]at hc
theorem Fo{place:Nat->Option (Nat×Nat)}: ∀{ps:List (Nat×Nat×ib)} {qs:List (Nat×Operand)},(∀x∈ps.map (·.2.2),∀o,bM x o=aei->VR im loc (x.ev e) (ρ o))->zK place ps qs=aei->
 zO im loc place (ps.map λp=>(p.1,p.2.1,p.2.2.ev e)) (qs.map λ(i,x)=>(i,ρ x))
 | [],[],_,_=> .nil
 |(off,sz,x)::r,(i,o)::s,h,hc=>by
  simp[zK,IR]at hc;obtain⟨⟨h1,h2⟩,h3⟩:=hc;refine .cons off sz i _ _ _ _ ?_ (h x (by simp) o h2) (Fo (λy hy=>h y (by simp only[ad6,List.mem_cons];exact .inr hy)) h3)
  grind
 | [],_::_,_,hc=>by simp[zK]at hc
 |_::_,[],_,hc=>by simp[zK]at hc
theorem BO: ∀{ps:List (Nat×ib)} {qs:List (Nat×Operand)},(∀x∈ps.map (·.2),∀o,bM x o=aei->VR im loc (x.ev e) (ρ o))->qT ps qs=aei->
 Cj im loc (ps.map λp=>(p.1,p.2.ev e)) (qs.map λ(i,x)=>(i,ρ x))
 | [],[],_,_=> .nil
 |(i,x)::r,(j,o)::s,h,hc=>by simp[qT,IR,beq_iff_eq]at hc;obtain⟨⟨rfl,h2⟩,h3⟩:=hc;exact .cons i _ _ _ _ (h x (by simp) o h2) (BO (λy hy=>h y (by grind)) h3)
 | [],_::_,_,hc=>by simp[qT]at hc
 |_::_,[],_,hc=>by simp[qT]at hc
theorem Jv{t:TypeId}{zero:Row}(h:zc P t zero=aei)(hp:zero.all PV.plain=aei):
 ∃i z,P.info? t=aef i/\i.zero=aef z/\aed zero=z.cells.size/\ ∀(j:Nat) (c:PV),zero[j]? =aef c-> ∃v,mO c=aef v/\z.cells[j]? =aef v:=by
 unfold zc at h;cases hi:P.info? t with
 |none=>grind
 |some i=>
  rw[hi]at h;cases hz:i.zero with
  |none=>simp[hz]at h
  |some z=>
   simp[hz]at h;have hr:gz (λ_=>aeg) (λ_=>aeg) zero z.cells.toList:=Cc h;refine⟨i,z,rfl,hz,by simpa using hr.pN,λj c hc=>?_⟩;obtain⟨v,hv,X8⟩:=hr.get j c hc;refine⟨v,X8.plain ?_,by simpa using hv⟩
   grind
theorem HS{aO n len cap:Nat}{rows:List Row}{vs:Array Value}{el:TypeId}{r:rQ}(hr:r={v:= .own (aed aB) aO 0 len cap aei,news:=[.arr aO rows]})(hk:lI im loc aB w r)
 (dO:cA (λk=>vs[k]?) 0 aO rows) (hs:vs.size=n*aO) (hn:(aed rows)=n) (hc:cap=n) (hl:len<=cap):
 ∃bE,VR im bE r.v (.slice (aef ⟨w.heap.size,0,aeg⟩) len cap)/\yh im loc aB w r im bE {w with heap:=w.heap.push (.cells vs el)}:=by
 subst hr hc
 let li:LI:=⟨w.heap.size,0,aO,cap,vs.size⟩
 refine⟨loc.set (aed aB) li,?_,?_⟩
 ·refine .own (aed aB) aO 0 len cap aei li _ cap (Loc.jd _ _ _) rfl (by simp[li]) hl (UV _) (λ_=>rfl) ?_
  grind
 exact yh.new hk li rfl rfl rfl rfl rfl rfl rfl ⟨rfl,hn.symm,λ_=>⟨vs,el,by simp[li],rfl,by grind,dO⟩⟩
theorem UA{rO:Bool}{k:IntKind}: ∀{ys:List PV} {us:List Value},gz im loc ys us-> ∀{a:Int} {z:PV},mmE rO k a ys=aef z->
 ∃b,z= .int k b/\(us.foldlM (if rO then Builtin.max2 else Builtin.min2) (.int k a)).run P w= .ok (.int k b) w
 |_,_,.nil,a,z,h=>by simp[mmE,]at h;simp_all
 |_,_,.cons y u ys us hy hs,a,z,h=>by
  unfold mmE at h;cases y with
  |int l c=>
   obtain rfl:=hy.jt;dsimp only at h;cases Yc:hO k l with
   |false=>grind
   |true=>
    have:=gO.1 Yc;rw[Yc,AC rfl]at h;obtain⟨b,hz,ih⟩:=UA hs h;refine⟨b,hz,?_⟩;cases rO with
    |true=>assumption
    |false=>assumption
  |_=>cases h
end
end Go.Vm
/- Operation by operation: all that call nothing. -/
namespace Go.Vm
def Yd(P:Program)(ρ:Operand->Value)(o:Oper)(im:Im)(loc:Loc)(aB:di)(w:World)(r:rQ):Prop:=
 ∃nx w' bE,(execOp ρ o).run P w= .ok nx w'/\((nx= .skip/\r.v= .undef)\/ ∃v,nx= .value v/\VR im bE r.v v)/\yh im loc aB w r im bE w'
section
variable {P : Program} {im : Im} {loc : Loc} {aB : di} {fz : List Nat} {w : World} {e : Env} {ρ : Operand -> Value}
theorem Yd.pure{o:Oper}{r:rQ}{v:Value}(hk:lI im loc aB w r)(hn:r.news=[])(hw:r.wr=[])(h:(execOp ρ o).run P w= .ok (.value v) w)(hv:VR im loc r.v v):
 Yd P ρ o im loc aB w r:=⟨_,w,loc,h,.inr ⟨v,rfl,hv⟩,yh.none hk hn hw⟩
theorem NM{t:TypeId}(h:(P.underlying t matches aef .bool)=aei):P.underlying t=aef .bool:=by
 grind
theorem AJ{x:Option ib}{o:Option Operand}{n:Option Nat}(qV: ∀y∈x.toList,∀o,bM y o=aei->VR im loc (y.ev e) (ρ o))(hc:NF x o=aei)
 (h:(match(generalizing:=false) x with|none=>some none|some a=>(lD (a.ev e)).map some)=some n):Er (o.map ρ) n:=by
 cases x with
 |none=>
  cases o with
  |none=>injection h with h;subst h;trivial
  |some o=>cases hc
 |some a=>
  cases o with
  |none=>cases hc
  |some o=>simp[EQ]at h;obtain⟨m,hm,rfl⟩:=h;exact tX (qV a (by simp) o hc) hm
theorem yv{t el:TypeId}{aO:Nat}{a:Option Addr}{len cap l h m:Nat}{vl vh vm:Option Value}(hu:P.underlying t=aef (.slice el))(hs:rV P el aO=aei)
 (hb:(Instr.sliceBounds aei len cap vl vh vm).run P w= .ok (l,h,m) w):
 (Instr.sliceAt t (.slice a len cap) vl vh vm).run P w= .ok (.slice (if m=l then a else a.map (·.add (l*aO))) (h-l) (m-l)) w:=by
 simp[Instr.sliceAt,aai,run_underlying hu,NE,Instr.slice,hb,mQ hs,abr]
theorem VW{t el:TypeId}{aO:Nat}{x z:PV}{u:Value}{lo hi mx:Option Nat}{vl vh vm:Option Value}(hx:VR im loc x u)(hu:P.underlying t=aef (.slice el))(hs:rV P el aO=aei)
 (h1:Er vl lo) (h2:Er vh hi) (h3:Er vm mx) (hm:mx.isSome=aei->hi.isSome=aei) (Js: ∀e c r,x= .sl e c r->r=[]\/e=aO) (aiq: ∀tk e o l c ex,x= .own tk e o l c ex->e=aO)
 (h:vZ x lo hi mx=aef z): ∃v,(Instr.sliceAt t u vl vh vm).run P w= .ok v w/\VR im loc z v:=by
 unfold vZ at h;cases x with
 |sl e vX rows=>
  obtain⟨a,cap,rfl,LH,hck,oP⟩:=hx.rX;have sub: ∀(l h m:Nat) (UB:Bool),l<=h->h<=aed rows->h<=m->m<=cap->(UB=aei->m=h)->
   VR im loc (.sl e UB ((rows.drop l).take (h-l))) (.slice (if m=l then a else a.map (·.add (l*aO))) (h-l) (m-l)):=by
   intro l h m UB hlh hhr hhm hmc IW;have eX:((rows.drop l).take (h-l)).length=h-l:=by simp;omega
   have:=VR.sl (loc:=loc) e UB ((rows.drop l).take (h-l)) (if m=l then a else a.map (·.add (l*aO))) (m-l) (by omega) (λhc=>by have:=IW hc;omega) (λfo=>by
    have iL:l<h:=by
     rcases abA l h with h'|h'
     ·exact h'
     exfalso;apply fo;rw[show h-l=0 by omega];simp
    have vC:rows≠[]:=by intro e;subst e;simp at hhr;omega
    obtain⟨b,o,rfl,dO⟩:=oP vC;have he:=(Js e vX rows rfl).resolve_left vC;subst he;refine⟨b,o+l*e,?_,(dO.drop l).take _⟩;rw[Do (by omega)];simp[v7])
   grind
  cases mx with
  |none=>
   dsimp only at h;split at h
   ·rename_i hc
    simp[IR,abV]at hc;injection h with h;subst h;have hb:=qA (P:=P) (w:=w) (cap:=cap) h1 h2 h3 hm hc.1 (λ_=>by simp;omega) (by simp);simp[ado]at hb;refine⟨_,yv hu hs hb,sub _ _ cap _ hc.1 hc.2 (by omega) (UV _) (λIW=>?_)⟩;simp_all
   cases h
  |some m=>
   dsimp only at h;split at h
   ·rename_i hc
    simp[IR,abV]at hc;injection h with h;subst h;have hb:=qA (P:=P) (w:=w) (cap:=cap) h1 h2 h3 hm hc.1.1 (λ_=>hc.1.2) (by simp;omega)
    grind[yv,acF]
   cases h
 |own tk e off len cap ex=>
  obtain⟨li,a,eC,rfl,hl,he,GL,eX,LH,hex,IC⟩:=hx.jV;have Sc:=aiq tk e off len cap ex rfl;subst Sc;have sub: ∀(l h c m m':Nat) (ex':Bool),l<=h->h<=m->m<=cap->m<=m'->m'<=eC->(ex'=aei->m'=m)->
   VR im loc (.own tk e (off+l) (h-l) (m-l) ex') (.slice (if m'=l then a else a.map (·.add (l*e))) (h-l) (m'-l)):=by
   intro l h c m m' ex' hlh hhm hmc hmm auK auL;refine .own tk e (off+l) (h-l) (m-l) ex' li _ (m'-l) hl he (by omega) (by omega) (by omega) (λhx=>by grind) ?_
   by_cases R5:m'=l
   ·omega
   rcases IC with h0|⟨hn0,rfl,wM⟩
   ·omega
   refine .inr ⟨hn0,?_,?_⟩
   ·simp[Option.map_some,v7];grind
   have:=aaP e (show off+l+(m'-l)<=off+eC by omega)
   omega
  cases mx with
  |none=>
   dsimp only at h;split at h
   ·rename_i hc
    simp[IR,abV]at hc;injection h with h;subst h;have hb:=qA (P:=P) (w:=w) (cap:=eC) h1 h2 h3 hm hc.1 (λ_=>by simp;omega) (by simp);simp[ado]at hb;exact⟨_,yv hu hs hb,sub _ _ 0 cap eC ex hc.1 hc.2 (UV _) LH (UV _) hex⟩
   cases h
  |some m=>
   dsimp only at h;split at h
   ·rename_i hc
    simp[IR,abV]at hc;injection h with h;subst h;have hb:=qA (P:=P) (w:=w) (cap:=eC) h1 h2 h3 hm hc.1.1 (λ_=>hc.1.2) (by simp;omega);simp[adu]at hb;exact⟨_,yv hu hs hb,sub _ _ 0 m m aei hc.1.1 hc.1.2 hc.2 (UV _) (by omega) (λ_=>rfl)⟩
   cases h
 |_=>cases h
end
end Go.Vm
/- Two aggregates of plain cells are compared cell by cell. -/
namespace Go.Vm
theorem Ck: ∀(a b c d:List PV),aed a=aed b->dZ (a++c) (b++d)=match dZ a b with|some aei=>dZ c d|x=>x
 | [],[],c,d,_=>by simp[dZ]
 |x::xs,y::ys,c,d,h=>by
  simp[dZ];cases xu x y with
  |none=>rfl
  |some r=>
   cases r with
   |false=>rfl
   |true=>exact Ck xs ys c d (by simpa using h)
 | [],_::_,_,_,h=>by simp at h
 |_::_,[],_,_,h=>by simp at h
section
variable {P : Program} {im : Im} {loc : Loc} {w : World}
def whole(P:Program)(t:TypeId)(us:List Value):Value:=if jC P t then .agg ⟨us⟩else us.getD 0 Go.undef
def mR(P:Program)(d:Nat)(r:Option Nat)(f:Field):Option Nat:=
 match r with
 |some n=>if f.offset==n&&f.name != "_" then(match flat P d f.type with
  |some m=>if rV P f.type m then aef (n+m)else aeg
  |none=>aeg)else aeg
 |none=>aeg
theorem uQ{d:Nat}: ∀(fs:List Field),fs.foldl (mR P d) aeg=aeg
 | []=>rfl
 |f::fs=>by exact uQ fs
theorem NN{d:Nat}{t:TypeId}{n:Nat}(h:flat P d t=aef n)(hr:jC P t=aej):n=1:=by
 cases d with
 |zero=>cases h
 |succ d=>
  simp[flat]at h;split at h
  ·grind
  ·rename_i fs hu
   unfold jC at hr;grind
  cases h
theorem Eu{d:Nat}{t:TypeId}{m k:Nat}{us:List Value}(h:flat P d t=aef m)(hs:rV P t m=aei)(hk:k+m<=aed us)(UC:(P.underlying t).isSome=aei):
 (Go.part t ⟨us⟩ k).run P w= .ok (whole P t ((us.drop k).take m)) w:=by
 unfold whole;cases hr:jC P t with
 |true=>simp only[Go.part,aai,GI hr,NE,if_true,mQ hs,];simp
 |false=>
  have h1:=NN h hr;simp[Go.part,GJ UC hr,];have iL:k<(aed us):=by omega
  simp_all
theorem Mo{d:Nat}{t:TypeId}{n:Nat}(h:flat P d t=aef n):(P.underlying t).isSome=aei:=by
 cases d with
 |zero=>cases h
 |succ d=>
  simp[flat]at h
  grind
theorem Jw{d:Nat}: ∀{fs:List Field} {k n:Nat},fs.foldl (mR P d) (aef k)=aef n->k<=n
 | [],k,n,h=>by simp at h;omega
 |f::fs,k,n,h=>by
  rw[abU]at h;cases hs:mR P d (aef k) f with
  |none=>grind[uQ]
  |some k'=>
   rw[hs]at h;have:=Jw h;unfold mR at hs
   grind
theorem NO: ∀(d:Nat) (t:TypeId) (n:Nat),flat P d t=aef n-> ∀(D:Nat),d<=D-> ∀(xs ys:List PV) (us vs:List Value) (b:Bool),gz im loc xs us->gz im loc ys vs->aed xs=n->aed ys=n->
 dZ xs ys=aef b->(Op.equalIn D t (whole P t us) (whole P t vs)).run P w= .ok b w
 |0,t,n,h,_,_,_,_,_,_,_,_,_,_,_,_=>by cases h
 |d+1,t,n,h,0,hD,_,_,_,_,_,_,_,_,_,_=>by omega
 |d+1,t,n,h,D+1,hD,xs,ys,us,vs,b,hx,hy,hxn,hyn,he=>by
  have abO:jC P t=aej->n=1-> ∃x y u v,xs=[x]/\ys=[y]/\us=[u]/\vs=[v]/\VR im loc x u/\VR im loc y v/\xu x y=aef b:=by
   intro hr h1;subst h1
   match xs,us,ys,vs,hx,hy,hxn,hyn,he with
   | [x],[u],[y],[v],.cons _ _ _ _ h1 _,.cons _ _ _ _ h2 _,_,_,he=>
    refine⟨x,y,u,v,rfl,rfl,rfl,rfl,h1,h2,?_⟩;simp[dZ]at he
    grind
  simp only[flat]at h;split at h
  ·rename_i k hu
   have hr:jC P t=aej:=by unfold jC;rw[hu]
   split at h
   ·injection h with h
    obtain⟨x,y,u,v,rfl,rfl,rfl,rfl,h1,h2,h3⟩:=abO hr h.symm;simp[whole,];unfold xu at h3;split at h3
    ·split at h3
     ·rename_i hk
      have:=gO.1 hk;subst this;injection h3 with h3;subst h3;rw[h1.jt,h2.jt]
      grind[run_equalIn_int]
     cases h3
    cases h3
   cases h
  ·rename_i fs hu
   have hr:jC P t=aei:=by unfold jC;rw[hu]
   split at h
   ·cases h
   rename_i dd
   have hf:P.fieldsOf t=fs:=by simp[Program.fieldsOf,hu]
   have dd:P.stoodInHeld t=aej:=by simpa using dd
   have hxl:=hx.pN;have hyl:=hy.pN;simp[whole,hr,];rw[run_equalIn_agg w D t _ _ (by grind) dd,hf];change (match fs.toList.foldl (mR P d) (aef 0)with|some n=>if rV P t n then aef n else aeg|none=>aeg)=aef n at h;cases hfo:fs.toList.foldl (mR P d) (aef 0)with
   |none=>grind
   |some n'=>
    rw[hfo]at h;dsimp only at h;split at h
    ·injection h with h
     subst h;have key: ∀(l:List Field) (k:Nat),l.foldl (mR P d) (aef k)=aef n'-> ∀(b':Bool),dZ (xs.drop k) (ys.drop k)=aef b'->
      (Op.eqFields D ⟨us⟩ ⟨vs⟩ l).run P w= .ok b' w:=by
      intro l
      induction l with
      |nil=>intro k hk b' HP;simp[]at hk;subst hk;rw[acG (by omega),acG (by omega)]at HP;simp[dZ,]at HP;subst HP;simp[Op.eqFields]
      |cons f l ih=>
       intro k hk b' HP;rw[abU]at hk;cases hs:mR P d (aef k) f with
       |none=>rw[hs,uQ]at hk;cases hk
       |some k'=>
        rw[hs]at hk;have hge:=Jw hk;unfold mR at hs;dsimp only at hs;split at hs
        ·rename_i hc
         simp[]at hc;split at hs
         ·rename_i m hm
          split at hs
          ·rename_i vW
           injection hs with hs;subst hs;have UC:=Mo hm;have e1:xs.drop k=(xs.drop k).take m++xs.drop (k+m):=by rw[<-aea,ad3]
           have e2:ys.drop k=(ys.drop k).take m++ys.drop (k+m):=by rw[<-aea,ad3]
           rw[e1,e2,Ck _ _ _ _ (by simp;omega)]at HP;have fo:=hc.2;simp[Op.eqFields,aai,fo,ne_eq,not_false_eq_true,if_true,hc.1];rw[Eu hm vW (by omega) UC];simp;rw[Eu hm vW (by omega) UC];simp;cases hq:dZ ((xs.drop k).take m) ((ys.drop k).take m)with
           |none=>rw[hq]at HP;cases HP
           |some r=>
            have Jx:=NO d f.type m hm D (by omega) _ _ _ _ r ((hx.drop k).take m) ((hy.drop k).take m) (by simp;omega) (by simp;omega) hq;rw[Jx];simp;rw[hq]at HP;cases r with
            |false=>simp[If]at HP;subst HP;simp
            |true=>dsimp only at HP;have:=ih (k+m) hk b' HP;simpa using this
          cases hs
         cases hs
        cases hs
     grind
    cases h
  cases h
theorem VX{t:TypeId}{n:Nat}(h:Sb P t n=aei)(hr:jC P t=aei)(xs ys:List PV)(us vs:List Value)(b:Bool)(hx:gz im loc xs us)(hy:gz im loc ys vs)(h1:(aed xs)=n)(h2:(aed ys)=n)
 (he:dZ xs ys=aef b):(Op.equalIn 10000 t (.agg ⟨us⟩) (.agg ⟨vs⟩)).run P w= .ok b w:=by
 unfold Sb at h;rw[beq_iff_eq]at h;have:=NO (w:=w) 100 t n h 10000 (by omega) xs ys us vs b hx hy h1 h2 he;simpa only[whole,hr,if_true]using this
end
end Go.Vm
/- Maps; copy and clear. -/
namespace Go.Vm
theorem VR.Cl{im:Im}{loc:Loc}{x:PV}{v:Value}(h:valOf x=aef v):VR im loc x v:=by
 cases x with
 |agg cs=>
  simp only[valOf,EQ]at h;obtain⟨vs,NP,rfl⟩:=h;refine .agg cs vs ?_
  induction cs generalizing vs with
  |nil=>simp at NP;subst NP;exact .nil
  |cons c cs ih=>rw[List.mapM_cons]at NP;simp only[Option.bind_eq_bind,Option.bind_eq_some_iff,Option.pure_def,If]at NP;obtain⟨v,hv,us,Dj,rfl⟩:=NP;exact .cons _ _ _ _ (.Jo hv) (ih us Dj)
 |_=>exact .Jo h
theorem PQ{im:Im}{loc:Loc}{x:PV}{v:Value}(h:VR im loc x v)(hp: ∀c∈x.cells,c.plain=aei):valOf x=aef v:=by
 cases x with
 |agg cs=>
  obtain⟨vs,rfl,hr⟩:=h.uP;simp only[valOf,EQ];refine⟨vs,?_,rfl⟩;simp[PV.cells]at hp;clear h
  induction cs generalizing vs with
  |nil=>cases hr;rfl
  |cons c cs ih=>
   cases hr with
   |cons _ v _ us h1 h2=>simp[h1.plain (hp c (by simp)),ih (λd hd=>hp d (by simp[hd])) us h2]
 |_=>exact h.plain (hp _ (by simp[PV.cells]))
section
variable {P : Program} {im : Im} {loc : Loc} {aB : di} {fz : List Nat} {w : World}
theorem AL: ∀{xs ys:List PV} {us vs:List Value},dZ xs ys=aef aei->gz im loc xs us->gz im loc ys vs->us=vs/\ ∀u∈us,∃k n,u= .int k n
 | [],[],_,_,_,.nil,.nil=>⟨rfl,by simp⟩
 |x::xs,y::ys,_,_,h,.cons _ u _ us h1 h2,.cons _ v _ vs h3 h4=>by
  simp[dZ]at h;split at h
  ·rename_i hxy
   obtain⟨rfl,wN⟩:=AL h h2 h4;unfold xu at hxy;split at hxy
   ·rename_i k a l b
    split at hxy
    ·rename_i Yc
     have:=gO.1 Yc;subst this;have Mp:a=b:=by simpa using hxy
     subst Mp;rw[h1.jt,h3.jt]
     grind
    cases hxy
   cases hxy
  ·cases h
  cases h
 | [],_::_,_,_,h,_,_=>by simp[dZ]at h
 |_::_,[],_,_,h,_,_=>by simp[dZ]at h
theorem D5: ∀(us:List Value) (n:Nat),(∀u∈us,∃k m,u= .int k m)->(us.zip us).all (λ(x,y)=>Instr.sameBits n x y)=aei
 | [],_,_=>rfl
 |u::us,n,h=>by obtain⟨k,m,rfl⟩:=h u (by simp);simp only[List.zip_cons_cons,List.all_cons,IR];exact⟨by cases n<;>simp[Instr.sameBits],D5 us n λu hu=>h u (by simp[hu])⟩
theorem nF{n:Option Nat}{x:PV}{u:Value}(h:mN n x=aei)(hv:VR im loc x u):(n=aeg/\ ∃k m,x= .int k m/\u= .int k m)\/(∃m cs us,n=aef m/\x= .agg cs/\aed cs=m/\u= .agg ⟨us⟩/\gz im loc cs us):=by
 unfold mN at h;split at h
 ·exact .inl ⟨rfl,_,_,rfl,hv.jt⟩
 ·rename_i m cs
  obtain⟨us,rfl,hr⟩:=hv.uP;simp_all
 cases h
theorem Ye{n:Option Nat}{x y:PV}{u v:Value}(hx:mN n x=aei)(hy:mN n y=aei)(h:dZ x.cells y.cells=aef aei)(hu:VR im loc x u)(hv:VR im loc y v):
 u=v/\Instr.sameBits 10000 u u=aei:=by
 rcases nF hx hu with⟨rfl,k,m,rfl,rfl⟩|⟨m,cs,us,rfl,rfl,_,rfl,hr⟩
 ·rcases nF hy hv with⟨_,l,m',rfl,rfl⟩|⟨_,_,_,h',_⟩
  ·obtain⟨h1,_⟩:=AL (im:=im) (loc:=loc) h (.cons _ _ _ _ (.int k m) .nil) (.cons _ _ _ _ (.int l m') .nil)
   injection h1 with h1;exact⟨h1,by simp[Instr.sameBits]⟩
  cases h'
 rcases nF hy hv with⟨h',_⟩|⟨_,ds,vs,_,rfl,_,rfl,hs⟩
 ·cases h'
 obtain⟨rfl,h2⟩:=AL h hr hs
 refine⟨rfl,?_⟩;simp only[Instr.sameBits,beq_self_eq_true,];exact D5 us 9999 h2
theorem iK.get: ∀{es:List _} {nU:List MapEntry},iK es nU-> ∀{i:Nat} {p:PV×PV},es[i]? =aef p-> ∃e,nU[i]? =aef e/\valOf p.1=aef e.key/\valOf p.2=aef e.val
 |(k,v)::r,e::r',h,0,p,hp=>by simp at hp;subst hp;exact⟨e,rfl,h.1,h.2.1⟩
 |(k,v)::r,e::r',h,i+1,p,hp=>by
  obtain⟨e',h1,h2⟩:=iK.get h.2.2 (by simpa using hp)
  grind
 | [],[],h,i,p,hp=>by simp at hp
 | [],_::_,h,_,_,_=>by grind
 |_::_,[],h,_,_,_=>by simp[iK]at h
theorem PR{q:IntKind}{k:PV}{u:Value}(hu:VR im loc k u)(hk:mN aeg k=aei): ∀{es:List _} {nU:List MapEntry} {i:Nat} {r:Option Nat},iK es nU->ij aeg k es i=aef r->
 ∃r',Instr.findNow (.int q) u nU i=aef r'/\match r with|none=>r'=aeg|some j=>i<=j/\ ∃p e,es[j-i]? =aef p/\nU[j-i]? =aef e/\r'=aef (j,e.val)/\mN aeg p.1=aei/\dZ k.cells p.1.cells=aef aei
 | [],[],i,r,_,h=>by simp[ij,]at h;subst h;exact⟨aeg,rfl,rfl⟩
 |(a,v)::es,e::nU,i,r,hm,h=>by
  simp only[ij]at h;split at h
  case isFalse=>cases h
  rename_i hka;obtain⟨h1,h2,h3⟩:=hm;obtain⟨_,kk,kn,rfl,rfl⟩:_/\ ∃kk kn,k= .int kk kn/\u= .int kk kn:=by
   rcases nF hk hu with⟨_,kk,kn,e1,e2⟩|⟨_,_,_,e1,_⟩
   ·exact⟨trivial,kk,kn,e1,e2⟩
   cases e1
  obtain⟨ak,an,rfl,hae⟩: ∃ak an,a= .int ak an/\e.key= .int ak an:=by
   rcases nF (im:=im) (loc:=loc) hka (VR.Cl h1)with⟨_,kk,kn,e1,e2⟩|⟨_,_,_,e1,_⟩
   ·grind
   cases e1
  simp[PV.cells,dZ,xu]at h;cases Ax:hO kk ak with
  |false=>grind
  |true=>
   have:=gO.1 Ax;subst this;rw[Ax]at h;simp only[Instr.findNow,hae,Instr.sameNow,];cases hb:(kn==an)with
   |true=>rw[hb]at h;simp[]at h;subst h;refine⟨_,rfl,UV _,(.int kk an,v),e,by simp,by simp,rfl,hka,?_⟩;simp[PV.cells,dZ,xu,Ax,hb]
   |false=>
    rw[hb]at h;obtain⟨r',g1,g2⟩:=PR (q:=q) (.int kk kn) hk h3 h
    grind
 | [],_::_,i,r,hm,h=>by simp[iK]at hm
 |_::_,[],i,r,hm,h=>by simp[iK]at hm
theorem PS{n:Nat}{kt:TypeId}(BX:jC P kt=aei)(hfl:flat P 100 kt=aef n){k:PV}{u:Value}(hu:VR im loc k u)(hk:mN (aef n) k=aei): ∀{es:List _} {nU:List MapEntry} {i:Nat} {r:Option Nat},iK es nU->ij (aef n) k es i=aef r->
 ∃r',(Instr.findAsking kt u nU i).run P w= .ok r' w/\match r with|none=>r'=aeg|some j=>i<=j/\ ∃p e,es[j-i]? =aef p/\nU[j-i]? =aef e/\r'=aef (j,e.val)/\mN (aef n) p.1=aei/\dZ k.cells p.1.cells=aef aei
 | [],[],i,r,_,h=>by simp[ij,]at h;subst h;exact⟨aeg,rfl,rfl⟩
 |(a,v)::es,e::nU,i,r,hm,h=>by
  simp only[ij]at h;split at h
  case isFalse=>cases h
  rename_i hka;obtain⟨h1,h2,h3⟩:=hm;have hva:VR im loc a e.key:=VR.Cl h1;have heq: ∀b,dZ k.cells a.cells=aef b->(Op.equal kt u e.key).run P w= .ok b w:=by
   intro b hb;rcases nF hk hu with⟨h',_⟩|⟨m,cs,us,h',rfl,hl,rfl,hr⟩
   ·cases h'
   injection h' with h';subst h'
   rcases nF hka hva with⟨h',_⟩|⟨m,ds,vs,h',rfl,qH,he,hs⟩
   ·cases h'
   injection h' with h';subst h'
   rw[he];have:=NO (w:=w) 100 kt n hfl Op.maxDepth (by decide) cs ds us vs b hr hs hl qH hb;simp[whole,BX,]at this;exact this
  cases hb:dZ k.cells a.cells with
  |none=>grind
  |some b=>
   rw[hb]at h;have dy:=heq b hb;cases b with
   |true=>simp[]at h;subst h;refine⟨aef _,by simp[Instr.findAsking,dy],UV _,(a,v),e,by simp,by simp,rfl,hka,hb⟩
   |false=>
    obtain⟨r',g1,g2⟩:=PS BX hfl hu hk h3 h;refine⟨r',by simp[Instr.findAsking,dy,g1],?_⟩
    grind
 | [],_::_,i,r,hm,h=>by simp[iK]at hm
 |_::_,[],i,r,hm,h=>by simp[iK]at hm
theorem Jy: ∀(d:Nat) (t:TypeId) (n:Nat),flat P d t=aef n-> ∀(D:Nat),d<=D-> ∀(em:Bool) (xs:List PV) (us:List Value),gz im loc xs us->aed us=n->
 (Instr.checkKey em D t (whole P t us)).run P w= .ok () w
 |0,t,n,h,_,_,_,_,_,_,_=>by cases h
 |d+1,t,n,h,0,hD,_,_,_,_,_=>by omega
 |d+1,t,n,h,D+1,hD,em,xs,us,hx,hun=>by
  simp only[flat]at h;split at h
  ·rename_i k hu
   have hr:jC P t=aej:=by unfold jC;rw[hu]
   split at h
   ·injection h with h;subst h
    match us,xs,hx,hun with
    | [u],[x],.cons _ _ _ _ h1 _,_=>simp only[Instr.checkKey,aai,run_underlying hu,NE];cases u<;>simp
   cases h
  ·rename_i fs hu
   have hr:jC P t=aei:=by unfold jC;rw[hu]
   split at h
   ·cases h
   change (match fs.toList.foldl (mR P d) _ with|some n=>if rV P t n then aef n else aeg|none=>aeg)=aef n at h
   cases hfo:fs.toList.foldl (mR P d) (aef 0)with
   |none=>grind
   |some n'=>
    rw[hfo]at h;dsimp only at h;split at h
    ·injection h with h;simp[whole,hr,Instr.checkKey,run_underlying hu,]
     rw[<-Array.forIn_toList];have hk: ∃k,fs.toList.foldl _ _=aef n':=⟨0,hfo⟩;obtain⟨k,hk⟩:=hk;generalize fs.toList=L at hk
     induction L generalizing k with
     |nil=>simp
     |cons f l ih=>
      rw[abU]at hk;cases hs:mR P d (aef k) f with
      |none=>grind[uQ]
      |some k'=>
       rw[hs]at hk;have hge:=Jw hk;unfold mR at hs;dsimp only at hs;split at hs
       ·rename_i hc
        simp[]at hc;split at hs
        ·rename_i m hm
         split at hs
         ·rename_i vW
          injection hs with hs;have p1:=Eu (w:=w) (us:=us) hm vW (k:=k) (by omega) (Mo hm);have p2:=Jy d f.type m hm D (by omega) em _ _ ((hx.drop k).take m) (by simp;omega);simp[hc.1,p1,p2,];exact ih _ hk
         cases hs
        cases hs
       cases hs
    cases h
  cases h
theorem VY{kt:TypeId}{q:IntKind}(hq:P.underlying kt=aef (.int q))(em:Bool)(n:Nat)(k:IntKind)(m:Int):(Instr.checkKey em (n+1) kt (.int k m)).run P w= .ok () w:=by simp[Instr.checkKey,run_underlying hq]
theorem AM{r:Nat}{es:Array MapEntry}{clock:Nat}(hb:w.heap[r]? =aef (.map es clock)):(getObj r).run P w= .ok (.map es clock) w:=by simp[getObj,Sem.run,hb]
theorem Jz{r:Nat}{es:Array MapEntry}{clock:Nat}(o:Obj)(hb:w.heap[r]? =aef (.map es clock)):(setObj r o).run P w= .ok () {w with heap:=w.heap.setIfInBounds r o}:=by simp[setObj,Sem.run,hb]
theorem PU{kt:TypeId}{d:TypeDesc}{k:Value}{l:List MapEntry}{a:Option _}(hd:P.underlying kt=aef d)(h:Instr.findNow d k l 0=aef a):(Instr.findKey kt k l).run P w= .ok a w:=by simp[Instr.findKey,run_underlying hd,h]
theorem HT{kt:TypeId}{n:Option Nat}(h:Cb P kt n=aei){k:PV}{u:Value}(hu:VR im loc k u)(hk:mN n k=aei)(em:Bool):(Instr.checkKey em 10000 kt u).run P w= .ok () w:=by
 rcases nF hk hu with⟨rfl,kk,m,rfl,rfl⟩|⟨m,cs,us,rfl,rfl,hl,rfl,hr⟩
 ·simp[Cb]at h
  grind[VY]
 simp[Cb,]at h
 have:=Jy (w:=w) 100 kt m h.2 10000 (by decide) em cs us hr (by rw[<-hr.pN];exact hl);simp[whole,h.1,]at this;exact this
theorem JA{kt:TypeId}{n:Option Nat}(h:Cb P kt n=aei){k:PV}{u:Value}(hu:VR im loc k u)(hk:mN n k=aei){es:List _}{nU:List MapEntry}{r:Option Nat}(hm:iK es nU)(hf:ij n k es 0=aef r):
 ∃r',(Instr.findKey kt u nU).run P w= .ok r' w/\match r with|none=>r'=aeg|some j=> ∃p e,es[j]? =aef p/\nU[j]? =aef e/\r'=aef (j,e.val)/\mN n p.1=aei/\dZ k.cells p.1.cells=aef aei:=by
 cases n with
 |none=>
  simp[Cb]at h;split at h
  ·rename_i q hq
   obtain⟨r',h1,h2⟩:=PR hu hk hm hf;refine⟨r',PU hq h1,?_⟩
   grind
  cases h
 |some m=>
  simp[Cb,]at h;obtain⟨r',h1,h2⟩:=PS h.1 h.2 hu hk hm hf;refine⟨r',?_,?_⟩
  ·rw[run_findKey_eq w ?_ u nU]
   ·exact h1
   have:=h.1
   unfold jC at this
   revert this
   cases P.underlying kt with
   |none=>exact id
   |some d=>cases d<;>exact id
  grind
theorem VR.Yf{t:Nat}{v:Value}(h:VR im loc (.mp t) v): ∃li,loc t=aef li/\v= .map (aef li.eB):=by cases h with|mp _ li h=>grind
theorem Sh{t kt et:TypeId}{n:Option Nat}{zero m k:PV}{ok:Bool}{um uk:Value}{r:rQ}(ht:P.underlying t=aef (.map kt et))(hkt:Cb P kt n=aei)
 (hz: ∃i z,P.info? et=aef i/\i.zero=aef z/\VR im loc zero z) (hm:VR im loc m um) (hk:VR im loc k uk)
 (h:yl aB n zero ok m k=aef r) (hkn:lI im loc aB w r):
 ∃v,(Instr.lookup t um uk ok).run P w= .ok v w/\VR im loc r.v v/\r.news=[]/\r.wr=[]:=by
 unfold yl at h;cases m with
 |mp tk=>
  dsimp only at h;obtain⟨li,hl,rfl⟩:=hm.Yf;cases hs:aB[tk]? with
  |none=>grind
  |some b=>
   rw[hs]at h;cases b with
   |map es=>
    dsimp only at h;split at h
    case isFalse=>cases h
    rename_i VZ;cases hf:ij n k es 0 with
    |none=>grind
    |some q=>
     rw[hf]at h;have XP:tk∈r.rd:=by
      grind
     obtain⟨b',PW,yu⟩:=hkn.tok tk (.inl XP) li hl;rw[hs]at PW;injection PW with PW;subst PW;obtain⟨nU,clock,hw,hrel⟩:=yu;obtain⟨r',zd,Pq⟩:=JA (w:=w) hkt hk VZ hrel hf;have hck:=HT (w:=w) hkt hk VZ (nU.isEmpty);obtain⟨i,z,hi,hiz,hvz⟩:=hz;have R0:(zeroValue et).run P w= .ok z w:=by simp[zeroValue,typeInfo,hi,hiz]
     cases q with
     |none=>
      subst Pq;injection h with h;subst h;refine⟨if ok then .tuple #[z,.bool aej]else z,?_,?_,rfl,rfl⟩
      ·simp[Instr.lookup,run_underlying ht,AM hw,hck,zd,R0]
      cases ok with
      |true=>exact .cV _ _ (.cons _ _ _ _ hvz (.cons _ _ _ _ (.bool aej) .nil))
      |false=>exact hvz
     |some j=>
      dsimp only at h Pq;obtain⟨p,e,h1,h2,rfl,h4,h5⟩:=Pq;rw[h1]at h;simp[]at h;subst h;obtain⟨e',Po,UD,hv2⟩:=iK.get hrel h1;rw[h2]at Po;injection Po with Po;subst Po;refine⟨if ok then .tuple #[e.val,.bool aei]else e.val,?_,?_,rfl,rfl⟩
      ·simp[Instr.lookup,run_underlying ht,AM hw,hck,zd]
      cases ok with
      |true=>exact .cV _ _ (.cons _ _ _ _ (.Cl hv2) (.cons _ _ _ _ (.bool aei) .nil))
      |false=>exact .Cl hv2
   |_=>cases h
 |_=>cases h
theorem iK.snoc: ∀{es:List _} {nU:List MapEntry} {p:PV×PV} {e:MapEntry},iK es nU->valOf p.1=aef e.key->valOf p.2=aef e.val->iK (es++[p]) (nU++[e])
 | [],[],p,e,_,h1,h2=>⟨h1,h2,trivial⟩
 |(k,v)::r,e::r',p,e',h,h1,h2=>⟨h.1,h.2.1,iK.snoc h.2.2 h1 h2⟩
 | [],_::_,_,_,h,_,_=>by simp[iK]at h
 |_::_,[],_,_,h,_,_=>by simp[iK]at h
theorem iK.set: ∀{es:List _} {nU:List MapEntry} {i:Nat} {p:PV×PV} {f:MapEntry->MapEntry},iK es nU->(∀e,valOf p.1=aef (f e).key/\valOf p.2=aef (f e).val)->iK (es.set i p) (nU.modify i f)
 | [],[],i,p,f,h,_=>by simp[iK]
 |(k,v)::r,e::r',0,p,f,h,h1=>⟨(h1 e).1,(h1 e).2,h.2.2⟩
 |(k,v)::r,e::r',i+1,p,f,h,h1=>by simp;exact⟨h.1,h.2.1,iK.set h.2.2 h1⟩
 | [],_::_,_,_,_,h,_=>by simp[iK]at h
 |_::_,[],_,_,_,h,_=>by simp[iK]at h
theorem PX{t kt et:TypeId}{n:Option Nat}{m k x:PV}{um uk ux:Value}{r:rQ}(ht:P.underlying t=aef (.map kt et))(hkt:Cb P kt n=aei)
 (hm:VR im loc m um) (hk:VR im loc k uk) (hx:VR im loc x ux)
 (h:HN aB fz n m k x=aef r) (hkn:lI im loc aB w r):
 ∃w',(Instr.mapUpdate t um uk ux).run P w= .ok () w'/\yh im loc aB w r im loc w'/\r.v= .undef:=by
 unfold HN at h;cases m with
 |mp tk=>
  dsimp only at h;obtain⟨li,hl,rfl⟩:=hm.Yf;cases hs:aB[tk]? with
  |none=>grind
  |some b=>
   rw[hs]at h;cases b with
   |map es=>
    dsimp only at h;split at h
    case isFalse=>cases h
    rename_i VZ;simp[]at VZ;obtain⟨VZ,hnf⟩:=VZ;cases hkp:k.dj with
    |none=>grind
    |some kc=>
     cases hxp:x.dj with
     |none=>grind
     |some xc=>
      rw[hkp,hxp]at h;obtain⟨_,amW⟩:=qC hkp;obtain⟨_,amX⟩:=qC hxp;have vk:=PQ hk amW;have vx:=PQ hx amX;cases hf:ij n k es 0 with
      |none=>grind
      |some q=>
       rw[hf]at h;have hwr: ∃bb,r={v:= .undef,wr:=[(tk,bb)]}:=by
        grind
       obtain⟨bb,hr⟩:=hwr;obtain⟨b',PW,yu⟩:=hkn.tok tk (.inr ⟨bb,by rw[hr];simp⟩) li hl;rw[hs]at PW;injection PW with PW;subst PW;obtain⟨nU,clock,hw,hrel⟩:=yu;obtain⟨r',zd,Pq⟩:=JA (w:=w) hkt hk VZ hrel hf;have hck:=HT (w:=w) hkt hk VZ aej;have iL:=(aby.1 hw).1;cases q with
       |none=>
        subst Pq;injection h with h;refine⟨{w with heap:=w.heap.setIfInBounds li.eB (.map (nU.push {key:=uk,val:=ux,born:=clock}) (clock+1))},?_,yh.write hkn (by rw[<-h]) (by rw[<-h]) hl hs rfl rfl rfl rfl rfl ?_,by rw[<-h]⟩
        ·simp[Instr.mapUpdate,run_underlying ht,AM hw,hck,zd]
         exact Jz _ hw
        refine⟨nU.push {key:=uk,val:=ux,born:=clock},clock+1,by simp[iL],?_⟩
        rw[Array.toList_push];exact hrel.snoc vk vx
       |some j=>
        obtain⟨p,e,h1,h2,rfl,h4,h5⟩:=Pq;injection h with h;obtain⟨e',Po,UD,hv2⟩:=iK.get hrel h1;obtain⟨aee,aiu⟩:=Ye VZ h4 h5 hk (.Cl UD);have aiv:((nU[j]?).map (·.key)).getD uk=uk:=by
         grind
        refine⟨{w with heap:=w.heap.setIfInBounds li.eB (.map (nU.modify j λe=>{e with key:=uk,val:=ux}) clock)},?_,yh.write hkn (by rw[<-h]) (by rw[<-h]) hl hs rfl rfl rfl rfl rfl ?_,by rw[<-h]⟩
        ·simp[Instr.mapUpdate,run_underlying ht,AM hw,hck,zd,aiv,Instr.keyThatStays,aiu,]
         exact Jz _ hw
        refine⟨nU.modify j λe=>{e with key:=uk,val:=ux},clock,by simp[iL],?_⟩
        rw[Array.toList_modify];exact hrel.set λe=>⟨vk,vx⟩
   |_=>cases h
 |_=>cases h
theorem Si{aO:Nat}{y:PV}{u:Value}{new:List Row}(hy:VR im loc y u)(hr:rowsOf aB aO y=aef new)(n:Nat)(hn:n<=aed new)
 (bW: ∀b o,im b=aef o->w.heap[b]? =aef o) (tok: ∀t,t∈mw y-> ∀li,loc t=aef li-> ∃k,aB[t]? =aef k/\BR im loc w li k):
 (Builtin.lenOf u).run P w= .ok (aed new) w/\(Builtin.firstCells aO n u).run P w= .ok ((new.take n).flatMap bn).toArray w/\(∀r∈new,aed r=aO)/\(∀r∈new,∀c∈r,c.plain=aei):=by
 have as3: ∀(a:Option Addr) (l c:Nat),(Builtin.firstCells aO 0 (.slice a l c)).run P w= .ok #[] w:=by
  intro a l c;cases a with
  |none=>rfl
  |some a=>have:=run_loadCells_list (P:=P) w a [] (by simp);simpa[Builtin.firstCells]using this
 have get: ∀(rows:List Row) (b o l c:Nat) (g:Nat->Option Value),cA g o aO rows->(∀k v,g k=aef v->w.cell? ⟨b,k,aeg⟩=aef v)->n<=aed rows->
  (Builtin.firstCells aO n (.slice (aef ⟨b,o,aeg⟩) l c)).run P w= .ok ((rows.take n).flatMap bn).toArray w:=by
  intro rows b o l c g dO hg NK;have h1:=dO.take n;have hfl:=eM h1.rY;have:=run_loadCells_list (P:=P) w ⟨b,o,aeg⟩ _ (λj v hj=>by rw[v7];exact hg _ _ (h1.flat j v hj));simp[Builtin.firstCells]
  grind
 unfold rowsOf at hr;cases y with
 |sl e vX rows=>
  obtain⟨a,cap,rfl,_,_,oP⟩:=hy.rX;cases rows with
  |nil=>simp at hr;subst hr;exact⟨rfl,by grind,by simp,by simp⟩
  |cons r rs=>
   dsimp only at hr;split at hr
   ·rename_i he
    have he:e=aO:=by simpa using he
    subst he;injection hr with hr;subst hr;obtain⟨b,o,rfl,dO⟩:=oP (by simp);exact⟨rfl,get _ b o _ cap _ dO (λk v hk=>vB bW hk) hn,dO.rY,dO.plain⟩
   cases hr
 |own t e off len cap ex=>
  dsimp only at hr;split at hr
  ·rename_i he
   have he:e=aO:=by simpa using he
   subst he;obtain⟨li,a,eC,rfl,hl,h2,h3,h4,h5,h6,h7⟩:=hy.jV;obtain⟨k,jI,hb⟩:=tok t (by simp[mw]) li hl;rw[jI]at hr;cases k with
   |arr e' rows=>
    simp[]at hr;subst hr;obtain⟨b1,b2,b3⟩:=hb;have eX:((rows.drop off).take len).length=len:=by simp;omega
    have Sc:e'=e:=by rw[<-b1,h2]
    subst Sc;rw[eX]at hn ⊢;cases rows with
    |nil=>
     have:len=0:=by grind
     exact⟨rfl,by grind,by simp,by simp⟩
    |cons r rs=>
     obtain⟨arr,el,D0,RX,PI,dO⟩:=b3 (by simp);have BY:=(dO.drop off).take len;refine⟨rfl,?_,BY.rY,BY.plain⟩
     grind[Nat.eq_zero_or_pos,mc]
   |_=>cases hr
  cases hr
 |_=>cases hr
theorem PY{aO:Nat}{t off len cap:Nat}{ex:Bool}{u:Value}{rows new:List Row}{r:rQ}{d:List Nat}{v:PV}(hx:VR im loc (.own t aO off len cap ex) u)(hs:aB[t]? =aef (.arr aO rows))(hn:new≠[])(hl:(aed new)<=len)
 (XN: ∀r∈new,aed r=aO) (hrp: ∀r∈new,∀c∈r,c.plain=aei) (hr:r={v:=v,wr:=[(t,.arr aO (oB off new rows))],rd:=d}) (hk:lI im loc aB w r):
 ∃b o c w',u= .slice (aef ⟨b,o,aeg⟩) len c/\(storeCells ⟨b,o,aeg⟩ (new.flatMap bn)).run P w= .ok () w'/\yh im loc aB w r im loc w':=by
 obtain⟨li,a,eC,rfl,qH,he,GL,LH,hex,hxk,IC⟩:=hx.jV;obtain⟨k,jI,hb⟩:=hk.tok t (.inr ⟨_,by rw[hr];simp;rfl⟩) li qH;rw[hs]at jI;injection jI with jI;subst jI;obtain⟨b1,b2,b3⟩:=hb;have NK:=List.length_pos_iff.2 hn;have vC:rows≠[]:=by grind
 obtain⟨arr,el,D0,RX,PI,dO⟩:=b3 vC;rcases IC with h0|⟨_,rfl,wM⟩
 ·omega
 have PM:=eM XN
 have LJ:=aaP aO (show off+aed new<=(aed rows) by omega);rw[ab0]at LJ;have NL:li.sh+off*aO+(new.flatMap bn).length<=arr.size:=by rw[PM];omega
 have dy:=run_storeCells_at P li.eB _ el _ 0 arr w D0 (by simpa using NL) (rZ hrp);refine⟨li.eB,li.sh+off*aO,eC,_,rfl,dy,?_⟩;refine yh.write hk (by rw[hr]) (by rw[hr]) qH hs (by cases rows with|nil=>grind|cons _ _=>rfl) (cJ D0) rfl rfl rfl ?_;rw[Ch _ _ _ (by omega)];refine⟨b1,by grind[dQ],λ_=>⟨(arr.toList.take (li.sh+off*aO+0)++new.flatMap bn++arr.toList.drop (li.sh+off*aO+0+(new.flatMap bn).length)).toArray,el,?_,?_,?_,?_⟩⟩
 ·grind[cJ]
 ·grind
 ·grind[dQ]
 refine dO.qB (by omega) XN hrp (λk=>?_)
 have:=jW _ (new.flatMap bn) arr.toList (by simpa using NL) k;simp only[qB]at this
 grind
end
end Go.Vm
/- Operation by operation: the theorem. -/
namespace Go.Vm
section
variable {P : Program} {im : Im} {loc : Loc} {aB : di} {fz : List Nat} {w : World} {e : Env} {ρ : Operand -> Value}
theorem Yg{aO:Nat}{x:PV}(h:zD aO x=aei):(∀e c r,x= .sl e c r->r=[]\/e=aO)/\(∀tk e o l c ex,x= .own tk e o l c ex->e=aO):=by
 constructor
 ·rintro e c r rfl
  simp[zD,]at h;exact h.symm
 rintro tk e o l c ex rfl
 simpa[zD]using h
theorem lq{x:Sem Value}{v:Value}(h:x.run P w= .ok v w):(do pure (Next.value (<-x)):Sem Next).run P w= .ok (.value v) w:=by simp_all
theorem PZ{x y:ib}{l:List Operand}(h:gH [x,y] l=aei): ∃a b,l=[a,b]/\bM x a=aei/\bM y b=aei:=by
 match l,h with
 | [],h=>simp[gH]at h
 | [_],h=>simp[gH]at h
 | [a,b],h=>simp[gH,]at h;grind
 |_::_::_::_,h=>simp[gH]at h
theorem P0{x:ib}{l:List Operand}(h:gH [x] l=aei): ∃a,l=[a]/\bM x a=aei:=by
 match l,h with
 | [],h=>simp[gH]at h
 | [a],h=>simp[gH,]at h;grind
 |_::_::_,h=>simp[gH]at h
theorem zP{aO : Nat}{place : Nat -> Option (Nat × Nat)} : ∀ (xs : List ib) (ps : List (Nat × Operand)) (k : Nat) (cs : List PV) (pre rest : List Value),
    yp k xs ps = aei -> (∀ y ∈ xs, ∀ o', bM y o' = aei -> VR im loc (y.ev e) (ρ o')) -> tT aO (xs.map λx => x.ev e) = aef cs -> (∀ i, i < k + (aed xs) -> place i = aef (i * aO, aO)) ->
    (aed pre) = k * aO -> (aed rest) = (aed xs) * aO ->
    ∃ vs : List Value, gz im loc cs vs /\ (aed cs) = (aed xs) * aO /\ Instr.fill place ⟨pre ++ rest⟩ (ps.map λp => (p.1, ρ p.2)) = aef ⟨pre ++ vs⟩
  | [], [], k, cs, pre, rest, _, _, h, _, _, hr => by
    simp only[tT, List.map_nil, If]at h
    subst h
    have : rest = [] := List.eq_nil_of_length_eq_zero (by simpa using hr)
    subst this
    exact⟨[], .nil, by simp, by simp[Instr.fill]⟩
  | x :: xs, (j, a) :: r, k, cs, pre, rest, hc, qV, h, hp, hl, hr => by
    simp only[yp, IR, beq_iff_eq]at hc
    obtain⟨⟨rfl, h1⟩, h2⟩ := hc
    simp only[ad6, tT]at h
    split at h
    ·rename_i w hw
     split at h
     ·rename_i eX
      have eX : (aed w) = aO := by simpa using eX
      rw[EQ]at h
      obtain⟨Lz, h3, rfl⟩ := h
      obtain⟨rfl, Es⟩ := AH hw
      have hx := (qV x (by simp) a h1).cells Es
      have hxl : (ρ a).cells.toList.length = aO := by rw[<-hx.pN]; exact eX
      have Yh : aO <= (aed rest) := by rw[hr]; simp[ab0]
      obtain⟨vs, g1, g2, g3⟩ := zP xs r (j + 1) Lz (pre ++ (ρ a).cells.toList) (rest.drop aO) h2 (λy hy => qV y (by simp[hy])) h3 (λi hi => hp i (by simp; omega)) (by rw[abx, hl, hxl, ab0]; omega) (by rw[List.length_drop, hr]; simp[ab0])
      refine⟨(ρ a).cells.toList ++ vs, hx.append g1, by rw[abx, g2, eX]; simp[ab0, Nat.add_comm], ?_⟩
      rw[ad6, zN (hp j (by simp)) (by rw[<-ad5]; exact hxl) (by simp[hl]; omega)]
      have e1 : qB (j * aO) (ρ a).cells.toList (pre ++ rest) = (pre ++ (ρ a).cells.toList) ++ rest.drop aO := by
        unfold qB
        rw[hxl, <-hl, List.take_left, List.drop_append, List.drop_of_length_le (by omega)]
        simp
      have e2 : (⟨qB (j * aO) (ρ a).cells.toList (⟨pre ++ rest⟩ : Array Value).toList⟩ : Array Value) = ⟨(pre ++ (ρ a).cells.toList) ++ rest.drop aO⟩ := by rw[<-e1]
      rw[e2, g3, List.append_assoc]
     cases h
    cases h
  | [], _ :: _, _, _, _, _, hc, _, _, _, _, _ => by cases hc
  | _ :: _, [], _, _, _, _, hc, _, _, _, _, _ => by cases hc
theorem Yi{prims:FuncId->Bool}{x:oK}{o:Oper}{r:rQ}(hc:BM P prims o.type x o.op=aei)(qV: ∀y∈x.iu,∀o',bM y o'=aei->VR im loc (y.ev e) (ρ o'))
 (h:bO e aB fz x=aef r) (hk:lI im loc aB w r):Yd P ρ o im loc aB w r:=by
 unfold BM at hc;split at hc
 case h_1 x o' iM=>injection h with h;subst h;exact .pure hk rfl rfl (by simp[execOp,iM]) (qV x (by simp[oK.iu]) o' hc)
 case h_2 x o' iM=>injection h with h;subst h;exact .pure hk rfl rfl (by simp[execOp,iM]) (qV x (by simp[oK.iu]) o' hc)
 case h_3 c a b d e' f iM=>
  simp[]at hc;have h1:=qV c (by simp[oK.iu]) d hc.1.1;simp[bO]at h;split at h
  ·rename_i hb;rw[hb]at h1;have h1:=h1.mP
   injection h with h;subst h;exact .pure hk rfl rfl (by simp[execOp,iM,h1,asBool]) (qV a (by simp[oK.iu]) _ hc.1.2)
  ·rename_i hb;rw[hb]at h1;have h1:=h1.mP
   injection h with h;subst h;exact .pure hk rfl rfl (by simp[execOp,iM,h1,asBool]) (qV b (by simp[oK.iu]) _ hc.2)
  cases h
 case h_4 op x y op' t a b u iM=>simp[]at hc;obtain⟨⟨rfl,h1⟩,h2⟩:=hc;simp[bO,]at h;obtain⟨z,hz,rfl⟩:=h;obtain⟨v,dy,hv⟩:=abJ (qV x (by simp[oK.iu]) a h1) (qV y (by simp[oK.iu]) b h2) hz;exact .pure hk rfl rfl (by simp only[execOp,iM];exact lq dy) hv
 case h_5 neg x y op t a b u iM=>
  simp[]at hc;obtain⟨⟨⟨h0,ht⟩,h1⟩,h2⟩:=hc;have hx:=qV x (by simp[oK.iu]) a h1;have hy:=qV y (by simp[oK.iu]) b h2;simp[bO]at h;split at h
  ·rename_i p q hp hq
   rw[hp]at hx;rw[hq]at hy;injection h with h;subst h;have ho:op=if neg then .neq else .eql:=by grind
   refine .pure hk rfl rfl ?_ (.bool _);simp only[execOp,iM,hx.mP,hy.mP];exact lq (X3 ho (NM ht))
  cases h
 case h_6 n neg x y op t a b u iM=>
  simp[]at hc;obtain⟨⟨⟨⟨⟨h0,hr⟩,hn⟩,hg⟩,h1⟩,h2⟩:=hc;have hx:=qV x (by simp[oK.iu]) a h1;have hy:=qV y (by simp[oK.iu]) b h2;simp only[bO]at h;split at h
  ·rename_i p q hp hq
   rw[hp]at hx;rw[hq]at hy;obtain⟨us,hu1,hu2⟩:=hx.uP;obtain⟨vs,UD,hv2⟩:=hy.uP;split at h
   case isFalse=>cases h
   rename_i eX;simp[]at eX;rw[EQ]at h;obtain⟨c,Ux,rfl⟩:=h;have hq2:=VX (w:=w) hn hr p q us vs c hu2 hv2 eX.1 eX.2 Ux;refine .pure hk rfl rfl ?_ (.bool _);simp only[execOp,iM,hu1,UD];simp[run_eqGuard_agg w op t a b ⟨us⟩ ⟨vs⟩ hg,];cases neg with
   |true=>simp_all[run_neq_struct]
   |false=>simp_all[run_eql_struct]
  cases h
 case h_7 op x op' t a iM=>simp[]at hc;obtain⟨rfl,h1⟩:=hc;simp[bO,]at h;obtain⟨z,hz,rfl⟩:=h;obtain⟨v,dy,hv⟩:=ae9 (qV x (by simp[oK.iu]) a h1) hz;exact .pure hk rfl rfl (by simp only[execOp,iM];exact lq dy) hv
 case h_8 k x s d a iM=>
  simp[]at hc;obtain⟨⟨hs,hd⟩,h1⟩:=hc;have hx:=qV x (by simp[oK.iu]) a h1;obtain⟨ds,hds⟩:=abC.1 hs;simp[bO]at h;split at h
  ·rename_i k' n hp
   rw[hp]at hx;injection h with h;subst h;split at hd
   ·rename_i l hl
    have:=gO.1 hd;subst this;refine .pure hk rfl rfl ?_ (.int _ _);simp only[execOp,iM,hx.jt];exact lq (X4 hds hl)
   cases hd
  cases h
 case h_9 x args argTypes iM=>
  simp[]at hc;obtain⟨ht,h1⟩:=hc;obtain⟨a,ha,h1a⟩:=P0 h1;have qW:args= #[a]:=abB (by simpa using ha);subst qW;have hx:=qV x (by simp[oK.iu]) a h1a;split at ht
  ·rename_i t ht0
   unfold xz at ht;split at ht
   ·rename_i el hu
    have dy: ∀{v:Value},(Builtin.len_ argTypes o.type #[ρ a]).run P w= .ok v w->(execOp ρ o).run P w= .ok (.value v) w:=by intro v hv;simp[execOp,resolve,invoke,builtin];simp_all
    simp[bO]at h;split at h
    ·rename_i e' c rows hp
     rw[hp]at hx;obtain⟨ad,cap,hv,_⟩:=hx.rX;injection h with h;subst h;exact .pure hk rfl rfl (dy (by simp[Builtin.len_,ht0,run_underlying hu,hv,goInt])) (.int _ _)
    ·rename_i tk e' off len cap ex hp
     rw[hp]at hx;obtain⟨li,ad,eC,hv,_⟩:=hx.jV;injection h with h;subst h;exact .pure hk rfl rfl (dy (by simp[Builtin.len_,ht0,run_underlying hu,hv,goInt])) (.int _ _)
    cases h
   cases ht
  cases ht
 case h_10 n args argTypes iM=>
  simp[]at hc;obtain⟨h0,ht⟩:=hc;have fo:args.size≠0:=by grind
  have ha0:(acl ρ args)[0]? =aef (ρ args[0]):=by grind
  simp[bO,]at h;subst h;have dy: ∀{v:Value},(Builtin.len_ argTypes o.type (acl ρ args)).run P w= .ok v w->(execOp ρ o).run P w= .ok (.value v) w:=by intro v hv;simp[execOp,iM,resolve,invoke,builtin,hv]
  refine .pure hk rfl rfl (dy ?_) (.int _ _);split at ht
  ·rename_i t ht0
   split at ht
   ·rename_i m el hu
    have hm:m=n:=by simpa using ht
    subst hm;simp only[Builtin.len_,ht0,ha0,aai,run_underlying hu,];rfl
   ·rename_i el hu
    split at ht
    ·rename_i m el2 hu2
     have hm:m=n:=by simpa using ht
     subst hm;simp[Builtin.len_,ha0,aai,run_underlying hu,NE,goInt];simp_all[run_underlying]
    cases ht
   cases ht
  cases ht
 case h_11 x el a iM=>
  have hx:=qV x (by simp[oK.iu]) a hc;simp[bO]at h;cases dd:(x.ev e).stored with
  |none=>grind
  |some cs=>rw[dd]at h;injection h with h;obtain⟨rfl,Es⟩:=AH dd;obtain⟨bE,hv,he⟩:=Jp (el:=el) (hx.cells Es) h.symm hk;refine⟨_,_,bE,?_,.inr ⟨_,rfl,hv⟩,he⟩;simp[execOp,iM,Instr.box,newVar,newRow]
 case h_12 cells t iM=>
  simp[bO,]at h;unfold zc at hc;cases hi:P.info? t with
  |none=>grind
  |some i=>
   rw[hi]at hc;cases hz:i.zero with
   |none=>simp[hz]at hc
   |some z=>simp[hz]at hc;obtain⟨bE,hv,he⟩:=Jp (el:=t) (Cc hc) h.symm hk;refine⟨_,_,bE,?_,.inr ⟨_,rfl,hv⟩,he⟩;simp[execOp,iM,Instr.alloc,newVar,newRow,zeroValue,typeInfo,hi,hz]
 case h_13 zero parts t ps iM=>simp[]at hc;obtain⟨⟨⟨hz,_⟩,hp⟩,qI⟩:=hc;simp[bO,]at h;obtain⟨cs,v8,rfl⟩:=h;have hrel:=Fo (λy hy=>qV y (by assumption)) hp;obtain⟨v,dy,hv⟩:=VV (qs:=ps.map λ(i,x)=>(i,ρ x)) hz qI (by simpa using hrel) v8;exact .pure hk rfl rfl (by simp only[execOp,iM];exact lq dy) hv
 case h_14 aO n zero parts t m ps iM=>
  simp only[IR,beq_iff_eq]at hc;obtain⟨⟨⟨⟨rfl,qI⟩,qf⟩,Sd⟩,hp⟩:=hc;split at qI
  ·rename_i el hu
   simp[]at qI;obtain⟨⟨⟨hs,hz⟩,hzl⟩,hnz⟩:=qI;simp[bO,]at h;obtain⟨rows,oP,h⟩:=h;obtain⟨i,z,hi,PO,eX,P1⟩:=Jv hz Sd;have Js:z.cells.size=aO:=by omega
   have dO:=GP P1 eX n;rw[Js]at dO
   obtain⟨RZ,h1,h2,h3,h4⟩:=Fm (n:=n) (BO (λy hy=>qV y (by assumption)) hp) dO (by simp) (by simp) oP;obtain⟨bE,hv,he⟩:=HS (el:=el) h.symm hk h2 h3 h4 rfl (UV _);refine⟨_,_,bE,?_,.inr ⟨_,rfl,hv⟩,he⟩;have R0:(zeroValue el).run P w= .ok z w:=by simp[zeroValue,typeInfo,hi,PO]
   have qf:n*aO<=1048576:=by simpa using qf
   have aff: ¬(n*aO>2^24):=by omega
   simp only[execOp,iM,Instr.buildSlice,aai,run_underlying hu,NE,mQ hs,aff,if_false]
   by_cases h0:n*aO=0
   ·have hn0:n=0:=by
     rcases ae2.1 h0 with h|h
     ·exact h
     grind
    subst hn0;simp[]at h1;simp only[Nat.zero_mul,if_true,aai,abr,NE,adw];have e0:(acl (λx=>(#[]:Array Value)[x%(#[]:Array Value).size]!) (abQ 0))=(acl (λx=>z.cells[x%aO]!) (abQ 0)):=by simp
    rw[e0,h1];simp[newRow]
   simp[h0,if_false,aai,R0,NE,abr]
   simp[Js,adw,h1];simp[newRow]
  cases qI
 case h_15 agg p t a iM=>simp[]at hc;have hx:=qV p (by simp[oK.iu]) a hc.2;obtain⟨v,dy,hv,hn,hw⟩:=PF hx hc.1 h hk;exact .pure hk hn hw (by simp[execOp,];simp_all) hv
 case h_16 sz p v t a b iM=>simp[]at hc;obtain⟨w',dy,B0,hu⟩:=VS (qV p (by simp[oK.iu]) a hc.1.2) (qV v (by simp[oK.iu]) b hc.2) hc.1.1 h hk;exact⟨.skip,w',loc,by simp[execOp,iM,dy,],.inl ⟨rfl,hu⟩,B0⟩
 case h_17 x a iM=>
  have hx:=qV x (by simp[oK.iu]) a hc;simp[bO]at h;split at h
  ·rename_i t s r' o' hp
   rw[hp]at hx;injection h with h;subst h;obtain⟨li,h1,h2,h3,hv⟩:=hx.Di;exact .pure hk rfl rfl (by simp[execOp,iM,hv];rfl) (by grind)
  ·rename_i c o' hp
   rw[hp]at hx;injection h with h;subst h;obtain⟨b,o2,vs,h1,h2,hv⟩:=hx.Cf;exact .pure hk rfl rfl (by simp[execOp,iM,hv];rfl) (by grind)
  ·rename_i f a' b' hp
   rw[hp]at hx;injection h with h;subst h;generalize hg:ρ a=g at hx;cases hx with
   |fE fn a b as bs ha hb=>exact .pure hk rfl rfl (by simp only[execOp,iM,hg];rfl) (.fE _ _ _ _ _ ha hb)
  cases h
 case h_18 off p t a f iM=>
  simp[]at hc;obtain⟨hc,h1⟩:=hc;have hx:=qV p (by simp[oK.iu]) a h1;split at hc
  ·rename_i fs hu
   split at hc
   ·rename_i g hg
    simp[]at hc;obtain⟨GL,hi⟩:=hc;cases aiw:P.info? g.type with
    |none=>grind
    |some i=>
     rw[aiw]at hi;have hz:i.size≠0:=by simpa using hi
     simp[bO]at h;have: ∃z,(match p.ev e with| .ptr t s r o=>aef (PV.ptr t s r (o+off))| .bZ c o=>aef (PV.bZ c (o+off))|_=>aeg)=aef z/\r={v:=z}:=by
      grind
     obtain⟨z,hz',rfl⟩:=this;obtain⟨v,dy,hv⟩:=X6 (w:=w) hx hu hg GL aiw hz hz';exact .pure hk rfl rfl (by simp[execOp,];simp_all) hv
   cases hc
  cases hc
 case h_19 agg off x t a f iM=>
  simp[]at hc;obtain⟨hc,h1⟩:=hc;have hx:=qV x (by simp[oK.iu]) a h1;split at hc
  ·rename_i fs hu
   split at hc
   ·rename_i g hg
    simp[]at hc;obtain⟨GL,hag⟩:=hc;simp[bO]at h;split at h
    ·rename_i cs hp
     rw[hp]at hx;obtain⟨vs,hv,tL⟩:=hx.uP;rw[EQ]at h;obtain⟨z,hz,rfl⟩:=h;rw[<-GL]at hz;obtain⟨v,dy,X8⟩:=PE (w:=w) hag tL hz;refine .pure hk rfl rfl ?_ X8;simp only[execOp,iM];exact lq (by simp[Instr.field,run_underlying hu,hg,hv,asAgg,dy])
    cases h
   cases hc
  cases hc
 case h_20 aO x i t a j iM=>
  simp[]at hc;obtain⟨⟨hs,h1⟩,h2⟩:=hc;have hx:=qV x (by simp[oK.iu]) a h1;have hi:=qV i (by simp[oK.iu]) j h2;simp only[bO]at h;cases hn:lD (i.ev e)with
  |none=>grind
  |some n=>
   rw[hn]at h;obtain⟨k,HU⟩:=tX hi hn;unfold Dg at hs;split at hs
   ·rename_i el hu
    have: ∃z,(match x.ev e with
     | .sl s _ rows=>match rows[n]? with
      |some cs=>if PP s aO then aef (PV.bZ cs 0)else aeg
      |none=>aeg
     | .own t s off len _ _=>if abM n len&&PP s aO then aef (PV.ptr t s (off+n) 0)else aeg
     |_=>aeg)=aef z/\r={v:=z}:=by
     grind
    obtain⟨z,hz,rfl⟩:=this;obtain⟨v,dy,hv⟩:=X7 (w:=w) (k:=k) hx hu hs hz;exact .pure hk rfl rfl (by simp[execOp,];simp_all) hv
   cases hs
 case h_21 n aO p i t a j iM=>
  simp[]at hc;obtain⟨⟨hs,h1⟩,h2⟩:=hc;have hx:=qV p (by simp[oK.iu]) a h1;have hi:=qV i (by simp[oK.iu]) j h2;simp[bO]at h;cases hn:lD (i.ev e)with
  |none=>grind
  |some m=>
   rw[hn]at h;dsimp only at h;split at h
   ·rename_i iL
    obtain⟨k,HU⟩:=tX hi hn;unfold Uw at hs;split at hs
    ·rename_i m' el hu
     simp[]at hs;obtain⟨rfl,hs⟩:=hs;have: ∃z,(match p.ev e with| .ptr t s r o=>aef (PV.ptr t s r (o+m*aO))| .bZ c o=>aef (PV.bZ c (o+m*aO))|_=>aeg)=aef z/\r={v:=z}:=by
      grind
     obtain⟨z,hz,rfl⟩:=this;obtain⟨v,dy,hv⟩:=VP (w:=w) (k:=k) hx hu hs iL hz;exact .pure hk rfl rfl (by simp[execOp,];simp_all) hv
    cases hs
   cases h
 case h_22 n aO agg x i t a j iM=>
  simp[]at hc;obtain⟨⟨hs,h1⟩,h2⟩:=hc;have hx:=qV x (by simp[oK.iu]) a h1;have hi:=qV i (by simp[oK.iu]) j h2;simp[bO]at h;cases hn:lD (i.ev e)with
  |none=>grind
  |some m=>
   rw[hn]at h;dsimp only at h;split at h
   ·obtain⟨k,HU⟩:=tX hi hn
    split at hs
    ·rename_i m' el hu
     simp[]at hs;obtain⟨⟨rfl,hs⟩,hag⟩:=hs;split at h
     ·rename_i cs hp
      rw[hp]at hx;obtain⟨vs,hv,tL⟩:=hx.uP;rw[EQ]at h;obtain⟨z,hz,rfl⟩:=h;obtain⟨v,dy,X8⟩:=PE (w:=w) hag tL hz;refine .pure hk rfl rfl ?_ X8;have amZ:(0:Int)<=(m:Int)/\(m:Int)<(m':Int):=by omega
      simp only[execOp,iM];exact lq (by simp only[Instr.index,HU,asIntOf,aai,abr,run_underlying hu,NE,hv,amZ,and_self,if_true,mQ hs,adc,dy])
     cases h
    cases hs
   cases h
 case h_23 x i t a j iM=>
  simp[]at hc;obtain⟨⟨hs,h1⟩,h2⟩:=hc;have hx:=qV x (by simp[oK.iu]) a h1;have hi:=qV i (by simp[oK.iu]) j h2;have hu:P.underlying t=aef .string:=by
   grind
  simp[bO]at h;split at h
  ·rename_i n s hn hp
   rw[hp]at hx;obtain⟨k,HU⟩:=tX hi hn;split at h
   ·rename_i b hb
    injection h with h;subst h;refine .pure hk rfl rfl ?_ (.int _ _);have h0:(0:Int)<=(n:Int):=by omega
    simp only[execOp,iM];exact lq (by simp[Instr.index,HU,asIntOf,run_underlying hu,hx.IV,hb])
   cases h
  cases h
 case h_24 aO x l hh m t a b c d iM=>
  simp[]at hc;obtain⟨⟨⟨⟨⟨h0,hs⟩,h1⟩,h2⟩,h3⟩,h4⟩:=hc;have hx:=qV x (by simp[oK.iu]) a h1;simp only[bO]at h;split at h
  ·cases h
  rename_i he
  have he:zD aO (x.ev e)=aei:=by simpa using he
  obtain⟨he1,BN⟩:=Yg he;split at h
  ·rename_i lo hi mx V0 hhi hmx
   rw[EQ]at h;obtain⟨z,hz,rfl⟩:=h;unfold Dg at hs;split at hs
   ·rename_i el hu
    have b1:=AJ (λy hy=>qV y (by simp[oK.iu,];grind)) h2 V0;have b2:=AJ (λy hy=>qV y (by simp[oK.iu,];grind)) h3 hhi;have b3:=AJ (λy hy=>qV y (by simp[oK.iu,];grind)) h4 hmx;have V1:mx.isSome=aei->hi.isSome=aei:=by
     grind[EQ]
    obtain⟨v,dy,hv⟩:=VW hx hu hs b1 b2 b3 V1 he1 BN hz;exact .pure hk rfl rfl (by simp only[execOp,iM];exact lq dy) hv
   cases hs
  cases h
 case h_25 aO zero l c t a b iM=>
  simp only[IR]at hc;obtain⟨⟨⟨qI,Sd⟩,h1⟩,h2⟩:=hc;have hx:=qV l (by simp[oK.iu]) a h1;have hy:=qV c (by simp[oK.iu]) b h2;split at qI
  ·rename_i el hu
   simp[]at qI;obtain⟨⟨⟨⟨hs,hz⟩,hzl⟩,VT⟩,hnz⟩:=qI;simp only[bO]at h;split at h
   ·rename_i n m hn hm
    obtain⟨k1,jI⟩:=tX hx hn;obtain⟨k2,HU⟩:=tX hy hm;split at h
    ·rename_i qf
     simp[]at qf;injection h with h;obtain⟨i,z,hi,PO,eX,P1⟩:=Jv hz Sd;have Js:z.cells.size=aO:=by omega
     have dO:=GP P1 eX m;rw[Js]at dO
     have lJ:m<=1048576:=by simpa[iq]using qf.2
     obtain⟨bE,hv,he⟩:=HS (el:=el) h.symm hk dO (by simp) (by simp) rfl qf.1;refine⟨_,_,bE,?_,.inr ⟨_,rfl,hv⟩,he⟩;have R0:(zeroValue el).run P w= .ok z w:=by simp[zeroValue,typeInfo,hi,PO]
     have hti:(typeInfo el).run P w= .ok i w:=by simp[typeInfo,hi]
     have XQ:i.bytes<=1048576:=by unfold IT at VT;simp_all
     have hw1:IntKind.i64.wrap (n:Int)=n:=IU (by omega) (by omega);have hw2:IntKind.i64.wrap (m:Int)=m:=IU (by omega) (by omega);have as5:i.bytes*m<=1099511627776:=by have:=ae7 XQ lJ;omega
     have GQ: ¬((i.bytes:Int)*(m:Int)>2^48):=by omega
     have V2:(sizeOf el).run P w= .ok aO w:=mQ hs;simp only[execOp,iM,jI,HU,Instr.makeSlice,asInt,asIntOf,aai,run_underlying hu,NE,abr,hti,hw1,hw2];have UE:((aek ((m:Int)<0)||aek ((i.bytes:Int)*(m:Int)>2^48))||aek ((n:Int)<0)||aek ((n:Int)>(m:Int)))=aej:=by
      grind
     rw[UE];simp[Bool.false_eq_true,if_false,aai,run_askRoom,NE,V2,adc]
     by_cases h0:m*aO=0
     ·have hm0:m=0:=by
       rcases ae2.1 h0 with h|h
       ·exact h
       rw[h]at hnz;simp at hnz
      subst hm0;simp[newRow]
      grind
     simp[h0,if_false,aai,R0,NE,abr,Js]
     simp[newRow]
    cases h
   cases h
  cases qI
 case h_26 fn a b g c d iM=>
  simp[]at hc;obtain⟨⟨rfl,h1⟩,h2⟩:=hc;simp[bO,]at h;subst h;have r1:=qU (λy hy=>qV y (by simp[oK.iu,hy])) h1;have r2:=qU (λy hy=>qV y (by simp[oK.iu,hy])) h2;refine .pure hk rfl rfl (by simp only[execOp,iM];exact lq rfl) ?_;have:=VR.fE fn _ _ _ _ r1 r2;have e1:(⟨c.toList.map ρ⟩:Array Value)=c.map ρ:=abB (by simp);have e2:(⟨d.toList.map ρ⟩:Array Value)=d.map ρ:=abB (by simp)
  grind
 case h_27 t iM=>
  simp[bO,]at h
  let li:LI:=⟨w.heap.size,0,0,0,0⟩
  refine⟨.value (.map (aef w.heap.size)),{w with heap:=w.heap.push (.map #[] 0)},loc.set (aed aB) li,?_,.inr ⟨_,rfl,?_⟩,?_⟩
  ·simp[execOp,iM,Instr.makeMap]
  ·subst h;exact .mp (aed aB) li (Loc.jd _ _ _)
  refine yh.new hk (k:= .map []) li (by rw[<-h]) (by rw[<-h]) rfl rfl rfl rfl rfl ⟨#[],0,by simp[li],trivial⟩
 case h_28 i x a j iM=>
  simp[]at hc;obtain⟨rfl,h1⟩:=hc;have hx:=qV x (by simp[oK.iu]) a h1;simp[bO]at h;split at h
  ·rename_i vs hp
   rw[hp]at hx;obtain⟨us,hv,tL⟩:=hx.Fl;rw[EQ]at h;obtain⟨z,hz,rfl⟩:=h;obtain⟨u,hu,hur⟩:=tL.get i z hz;have HV:(⟨us⟩:Array Value)[i]? =aef u:=by simpa using hu
   exact .pure hk rfl rfl (by simp only[execOp,iM];exact lq (by simp[Instr.extract,hv,HV])) hur
  cases h
 case h_29 aO x y args argTypes iM=>
  simp[]at hc;obtain⟨qI,h1⟩:=hc;obtain⟨a,b,Mp,h1a,h1b⟩:=PZ h1;have qW:args= #[a,b]:=abB (by simpa using Mp);have hx:=qV x (by simp[oK.iu]) a h1a;have hy:=qV y (by simp[oK.iu]) b h1b;split at qI
  ·rename_i t tx dO
   have LL:argTypes= #[t,tx]:=abB (by simpa using dO);simp[]at qI;obtain⟨qI,hsl⟩:=qI;unfold xz at hsl;split at hsl
   ·rename_i e' htx
    split at qI
    ·rename_i el hu
     simp[]at qI;obtain⟨⟨⟨hs,VT⟩,hnz⟩,hz⟩:=qI;cases hi:P.info? el with
     |none=>grind
     |some i=>
      rw[hi]at hz;cases PO:i.zero with
      |none=>simp[PO]at hz
      |some z=>
       have PK:z.cells.size=aO:=by rw[ae6,PO,ae6]at hz;simpa using hz
       have vW:i.size=aO:=by unfold rV at hs;rw[hi]at hs;simpa using hs
       have XQ:i.bytes<=1048576:=by unfold IT at VT;rw[hi]at VT;simpa using VT
       obtain⟨v',w',bE,dy,hv,B0⟩:=Jr (ty:=o.type) hu htx hi vW PO PK XQ hx hy h hk;refine⟨.value v',w',bE,?_,.inr ⟨v',rfl,hv⟩,B0⟩;simp[execOp,iM,resolve,invoke,builtin];simp_all
    cases qI
   cases hsl
  cases qI
 case h_30 n zero ok m k t a b ok' iM=>
  simp[]at hc;obtain⟨⟨⟨rfl,qI⟩,h1⟩,h2⟩:=hc;have hm:=qV m (by simp[oK.iu]) a h1;have Ax:=qV k (by simp[oK.iu]) b h2;split at qI
  ·rename_i kt et ht
   simp[]at qI;obtain⟨hkt,hz⟩:=qI;have hz': ∃i z,P.info? et=aef i/\i.zero=aef z/\VR im loc zero z:=by
    cases hi:P.info? et with
    |none=>grind
    |some i=>
     grind[NH]
   obtain⟨v,dy,hv,hn,hw⟩:=Sh ht hkt hz' hm Ax h hk;exact .pure hk hn hw (by simp[execOp,];simp_all) hv
  cases qI
 case h_31 n m k v t a b c iM=>
  simp[]at hc;obtain⟨⟨⟨qI,h1⟩,h2⟩,h3⟩:=hc;split at qI
  ·rename_i kt et ht
   simp[bO]at h;obtain⟨w',dy,B0,hu⟩:=PX ht qI (qV m (by simp[oK.iu]) a h1) (qV k (by simp[oK.iu]) b h2) (qV v (by simp[oK.iu]) c h3) h hk;exact⟨.skip,w',loc,by simp[execOp,iM,dy,],.inl ⟨rfl,hu⟩,B0⟩
  cases qI
 case h_32 aO x y args argTypes iM=>
  simp only[IR]at hc;obtain⟨qI,h1⟩:=hc;obtain⟨a,b,Mp,h1a,h1b⟩:=PZ h1;have qW:args= #[a,b]:=abB (by simpa using Mp);subst qW;have hx:=qV x (by simp[oK.iu]) a h1a;have hy:=qV y (by simp[oK.iu]) b h1b;split at qI
  ·rename_i t tx dO
   have LL:argTypes= #[t,tx]:=abB (by simpa using dO);subst LL;simp only[IR]at qI;obtain⟨hsl,_⟩:=qI;unfold Dg at hsl;split at hsl
   ·rename_i el hu
    have V3: ∀{v:Value} {w':World},(Builtin.copy_ #[t,tx] o.type #[ρ a,ρ b]).run P w= .ok v w'->(execOp ρ o).run P w= .ok (.value v) w':=by intro v w' hv;simp only[execOp,iM,resolve,aai,abr,NE,invoke,builtin];simp_all
    simp only[bO]at h;split at h
    ·rename_i src tk s off len cap ex HR hxo
     rw[hxo]at hx;have afg:Nat.min (aed src) len=min (aed src) len:=rfl;have XP:r.rd=mw (y.ev e):=by
      grind
     obtain⟨g1,g2,g3,g4⟩:=Si (P:=P) hy HR (min (aed src) len) (Nat.min_le_left _ _) hk.bW (λt ht=>hk.tok t (.inl (by grind)));have LM:(src.take (min (aed src) len))=src.take len:=by
      grind
     rw[LM]at g2;have V2:(sizeOf el).run P w= .ok aO w:=mQ hsl;split at h
     ·rename_i NQ
      injection h with h;subst h;rw[NQ]at g2;have h0:min (aed src) len=0:=by
       have:=congrArg aec NQ
       grind
      obtain⟨li,ad,eC,hv,_⟩:=hx.jV;refine .pure hk rfl rfl (V3 ?_) (.int _ _);have g2':(Builtin.firstCells aO 0 (ρ b)).run P w= .ok #[] w:=by grind
      simp only[Builtin.copy_,hv];cases ad with
      |none=>simp[run_underlying hu,g1,afg,h0,V2,g2',goInt]
      |some ad=>simp[run_underlying hu,g1,afg,h0,V2,g2',goInt,storeCells]
     rename_i r1 rs Yj
     split at h
     ·rename_i s' rows dd
      split at h
      ·rename_i Ux
       simp only[IR,acF,ac3]at Ux;obtain⟨rfl,hnf⟩:=Ux;injection h with h;have hse:s'=s:=by obtain⟨li,ad,eC,hv,hl,he,_⟩:=hx.jV;obtain⟨k,jI,hb⟩:=hk.tok tk (.inr ⟨_,by rw[<-h];simp;rfl⟩) li hl;rw[dd]at jI;injection jI with jI;subst jI;rw[<-hb.1,he]
       subst hse;have BY: ∀q,q∈r1::rs->q∈src:=λq hq=>by rw[<-Yj]at hq;exact List.mem_of_mem_take hq
       have aeh:min (aed src) len=aed rs+1:=by have:=congrArg aec Yj;simp only[List.length_take,aci]at this;omega
       rw[Yj]at g2;obtain⟨b',o',c',w',hv,dy,B0⟩:=PY hx dd (by simp) (by simp;omega) (λq hq=>g3 q (BY q hq)) (λq hq=>g4 q (BY q hq)) h.symm hk;refine⟨.value (.int .i64 (Int.ofNat (aed rs+1))),w',loc,V3 ?_,.inr ⟨_,rfl,by rw[<-h];exact .int _ _⟩,B0⟩;rw[aeh]at g2;simp only[Builtin.copy_,hv];simp[run_underlying hu,g1,afg,aeh,V2,g2,goInt,-abL];rw[dy];rfl
      cases h
     cases h
    cases h
   cases hsl
  cases qI
 case h_33 aO zero x args argTypes iM=>
  simp[]at hc;obtain⟨qI,h1⟩:=hc;obtain⟨a,ha,h1a⟩:=P0 h1;have qW:args= #[a]:=abB (by simpa using ha);subst qW;have hx:=qV x (by simp[oK.iu]) a h1a;split at qI
  ·rename_i t dO
   have LL:argTypes= #[t]:=abB (by simpa using dO);subst LL;split at qI
   ·rename_i el hu
    simp only[IR,beq_iff_eq]at qI;obtain⟨⟨⟨hs,hz⟩,hzl⟩,Sd⟩:=qI;have V3: ∀{v:Value} {w':World},(Builtin.clear_ #[t] o.type #[ρ a]).run P w= .ok v w'->(execOp ρ o).run P w= .ok (.value v) w':=by intro v w' hv;simp[execOp,resolve,aai,abr,NE,invoke,builtin];simp_all
    simp only[bO]at h;split at h
    ·rename_i tk s off len cap ex hxo
     rw[hxo]at hx;split at h
     ·injection h with h;subst h
      obtain⟨li,ad,eC,hv,_⟩:=hx.jV;refine .pure (v:= .tuple #[]) hk rfl rfl (V3 ?_) (.undef _);simp[Builtin.clear_,hv];cases ad<;>simp[run_underlying hu]
     rename_i len
     split at h
     ·rename_i s' rows dd
      split at h
      ·rename_i Ux
       simp[IR,acF,ac3]at Ux;obtain⟨rfl,hnf⟩:=Ux;injection h with h;have hse:s'=s:=by obtain⟨li,ad,eC,hv,hl,he,_⟩:=hx.jV;obtain⟨k,jI,hb⟩:=hk.tok tk (.inr ⟨_,by rw[<-h];simp;rfl⟩) li hl;rw[dd]at jI;injection jI with jI;subst jI;rw[<-hb.1,he]
       subst hse;obtain⟨i,z,hi,PO,eX,P1⟩:=Jv hz Sd;have XN: ∀q∈abw (len+1) zero,aed q=s':=λq hq=>by rw[(ad7.1 hq).2];exact hzl
       have hrp: ∀q∈abw (len+1) zero,∀c∈q,c.plain=aei:=λq hq c hc=>by rw[(ad7.1 hq).2]at hc;exact List.all_eq_true.1 Sd c hc
       obtain⟨b',o',c',w',hv,dy,B0⟩:=PY (P:=P) hx dd (by simp) (by simp) XN hrp h.symm hk;refine⟨.value (.tuple #[]),w',loc,V3 ?_,.inr ⟨_,rfl,by rw[<-h];exact .undef _⟩,B0⟩;have R0:(zeroValue el).run P w= .ok z w:=by simp[zeroValue,typeInfo,hi,PO]
       have hzc:(Builtin.zeroCells z.cells (len+1)).toList=(abw (len+1) zero).flatMap bn:=by
        have dO:=GP P1 eX (len+1);have hfl:=eM XN;have vW:=Ci z.cells (len+1);apply abX;intro j;rcases abA j ((abw (len+1) zero).flatMap bn).length with hj|hj
        ·have hfj:=dO.flat j _ (WF hj)
         rw[WF hj,<-hfj];simp only[Builtin.zeroCells,aeb,Array.getElem?_toList]
        rw[abz hj,abz]
        simp[ad5,vW];rw[hfl]at hj;simp[List.length_replicate]at hj;rw[<-eX,hzl];exact hj
       simp[Builtin.clear_,hv];simp_all[run_underlying,abL]
      cases h
     cases h
    ·rename_i e1 c1 hxo
     rw[hxo]at hx;injection h with h;subst h;obtain⟨ad,eC,hv,_⟩:=hx.rX;refine .pure (v:= .tuple #[]) hk rfl rfl (V3 ?_) (.undef _);simp[Builtin.clear_,hv];cases ad<;>simp[run_underlying hu]
    cases h
   cases qI
  cases qI
 case h_34 rO x xs b args ats iM=>
  simp[]at hc;obtain⟨hb,h1⟩:=hc;simp[bO]at h;have hrel:=qU (λy hy=>qV y (by assumption)) h1;split at h
  ·rename_i k a hp
   rw[EQ]at h;obtain⟨z,hz,rfl⟩:=h;have me:LF e (x::xs)= .int k a::LF e xs:=by simp[LF,hp]
   rw[me]at hrel;generalize hl:args.toList.map ρ=l at hrel;cases hrel with
   |cons _ u _ us h1 h2=>
    obtain rfl:=h1.jt;obtain⟨c,rfl,dy⟩:=UA (P:=P) (w:=w) h2 hz;refine .pure hk rfl rfl ?_ (.int k c);have qH:(args.map ρ).toList= .int k a::us:=by simpa using hl
    have XQ:b=if rO then .max else .min:=by grind
    subst XQ;cases rO with
    |true=>simp[]at iM dy;simp only[execOp,iM,resolve,aai,abr,NE,invoke,builtin,Builtin.max_,qH,dy]
    |false=>simp[]at iM dy;simp only[execOp,iM,resolve,aai,abr,NE,invoke,builtin,Builtin.min_,qH,dy]
  cases h
 case h_37 x y t m ps iM=>
  simp[]at hc;obtain⟨⟨rfl,qI⟩,hp⟩:=hc;split at qI
  ·rename_i el hu
   simp[]at qI;obtain⟨hs,hz⟩:=qI;split at hp
   ·rename_i i a j b hps
    simp[]at hp;obtain⟨⟨⟨rfl,rfl⟩,h1⟩,h2⟩:=hp;simp only[bO]at h;split at h
    ·rename_i Es
     simp[]at Es;injection h with h;have hx:=qV x (by simp[oK.iu]) a h1;have hy:=qV y (by simp[oK.iu]) b h2;obtain⟨bE,hv,he⟩:=PG (el:=el) hx hy h.symm hk;refine⟨_,_,bE,?_,.inr ⟨_,rfl,hv⟩,he⟩;have PO: ∃i z,P.info? el=aef i/\i.zero=aef z/\z.cells.size=1:=by
      cases hi:P.info? el with
      |none=>grind
      |some i=>
       cases hq:i.zero with
       |none=>grind
       |some z=>grind
     obtain⟨i,z,hi,hq,vW⟩:=PO;have R0:(zeroValue el).run P w= .ok z w:=by simp[zeroValue,typeInfo,hi,hq]
     have c1:(ρ a).cells= #[ρ a]:=by obtain⟨q1,q2⟩:=hx.NG Es.1;cases UD:ρ a<;>first|rfl|grind|exact absurd UD (q2 _)
     have c2:(ρ b).cells= #[ρ b]:=by obtain⟨q1,q2⟩:=hy.NG Es.2;cases UD:ρ b<;>first|rfl|grind|exact absurd UD (q2 _)
     have fl: ∀q:Value,Instr.fill (λi=>aef (i*1,1)) #[q,q] [(0,ρ a),(1,ρ b)]=aef #[ρ a,ρ b]:=λq=>by
      have s1:(⟨qB (0*1) (ρ a).cells.toList (#[q,q]:Array Value).toList⟩:Array Value)= #[ρ a,q]:=by rw[c1];rfl
      have s2:(⟨qB (1*1) (ρ b).cells.toList (#[ρ a,q]:Array Value).toList⟩:Array Value)= #[ρ a,ρ b]:=by rw[c2];rfl
      rw[zN rfl (by rw[c1];rfl) (by simp),s1,zN rfl (by rw[c2];rfl) (by simp),s2];rfl
     simp only[execOp,iM,Instr.buildSlice,aai,run_underlying hu,NE,mQ hs];have e0:(acl (λx=>z.cells[x%z.cells.size]!) (abQ (2*1)))= #[z.cells[0]!,z.cells[0]!]:=by rw[vW,show abQ (2*1)= #[0,1]from by decide];simp
     have big: ¬(2*1>2^24):=by decide
     have nz: ¬(2*1=0):=by decide
     have ml:(ps.map λ(i,x)=>(i,ρ x)).toList=[(0,ρ a),(1,ρ b)]:=by simp_all
     simp only[big,nz,if_false,aai,R0,NE,abr];rw[e0,ml,fl];simp[newRow]
    cases h
   cases hp
  cases qI
 case h_38 aO xs t m ps iM=>
  simp only[IR,beq_iff_eq,ac3,beq_eq_false_iff_ne,abV]at hc;obtain⟨⟨⟨⟨rfl,hnz⟩,qf⟩,qI⟩,hp⟩:=hc;split at qI
  ·rename_i el hu
   simp only[IR]at qI;obtain⟨hs,hz⟩:=qI;simp only[bO,EQ]at h;obtain⟨cs,v8,h⟩:=h;have PO: ∃i z,P.info? el=aef i/\i.zero=aef z/\z.cells.size=aO:=by
    cases hi:P.info? el with
    |none=>rw[hi]at hz;cases hz
    |some i=>
     cases hq:i.zero with
     |none=>rw[hi]at hz;simp[hq]at hz
     |some z=>rw[hi]at hz;simp[hq]at hz;exact⟨i,z,rfl,hq,hz⟩
   obtain⟨i,z,hi,hq,vW⟩:=PO;have R0:(zeroValue el).run P w= .ok z w:=by simp[zeroValue,typeInfo,hi,hq]
   obtain⟨vs,g1,g2,g3⟩:=zP (place:=λi=>aef (i*aO,aO)) xs ps.toList 0 cs [] ((List.range (aed xs*aO)).map λx=>z.cells[x%aO]!) hp (λy hy=>qV y (by simpa[oK.iu]using hy)) v8 (λi _=>rfl) (by simp) (by simp);obtain⟨bE,hv,he⟩:=NI (el:=el) g1 g2 (by intro h0;rw[h0]at hnz;simp at hnz) h.symm hk;refine⟨_,_,bE,?_,.inr ⟨_,rfl,hv⟩,he⟩;have aff: ¬(aed xs*aO>2^24):=by omega
   simp only[execOp,iM,Instr.buildSlice,aai,run_underlying hu,NE,mQ hs,aff,hnz,if_false,R0,abr];have e0:(acl (λx=>z.cells[x%z.cells.size]!) (abQ (aed xs*aO)))=⟨[]++(List.range (aed xs*aO)).map λx=>z.cells[x%aO]!⟩:=by apply abB;simp[vW]
   have ml:(ps.map λ(i,x)=>(i,ρ x)).toList=ps.toList.map λp=>(p.1,ρ p.2):=by simp
   rw[e0,ml,g3];simp[newRow]
  cases qI
 case h_39 n m k v t a b c iM=>
  simp[]at hc;obtain⟨⟨⟨qI,h1⟩,h2⟩,h3⟩:=hc;split at qI
  ·rename_i kt et ht
   simp[bO]at h;obtain⟨w',dy,B0,hu⟩:=PX ht qI (qV m (by simp[oK.iu]) a h1) (qV k (by simp[oK.iu]) b h2) (qV v (by simp[oK.iu]) c h3) h hk;exact⟨.skip,w',loc,by simp[execOp,iM,dy,],.inl ⟨rfl,hu⟩,B0⟩
  cases qI
 all_goals first|(simp only[bO]at h;cases h;done)|(simp at hc;done)
end
end Go.Vm
/- What goes over the border of a pure call, and what comes back. -/
namespace Go.Vm
def je:Loc:=λ_=>aeg
def grow(im:Im)(w:World)(bs:List Nat):Im:=λb=>match im b with
 |some o=>aef o
 |none=>if bs.contains b then w.heap[b]? else aeg
theorem NR(im:Im)(w:World)(bs:List Nat):rW im (grow im w bs):=λb o h=>by unfold grow;rw[h]
theorem UF{im:Im}{w:World}{bs:List Nat}(h: ∀b o,im b=aef o->w.heap[b]? =aef o): ∀b o,grow im w bs b=aef o->w.heap[b]? =aef o:=by
 intro b o hb;unfold grow at hb
 grind
theorem abR{im:Im}{w:World}{bs:List Nat}(h: ∀b o,im b=aef o->w.heap[b]? =aef o){b:Nat}(hb:b∈bs):grow im w bs b=w.heap[b]?:=by
 unfold grow
 grind
theorem Yk{im:Im}{w:World}{bs:List Nat}{b:Nat}{o:Obj}(h:grow im w bs b=aef o):im b=aef o\/b∈bs:=by
 unfold grow at h
 grind
def Ew(loc:Loc)(aB:di)(tk:List Nat):List Nat:=tk.filterMap λt=>if(aB[t]?).any ox.cu then(loc t).map (·.eB)else aeg
theorem Ex{loc:Loc}{aB:di}{tk:List Nat}{b:Nat}:b∈Ew loc aB tk↔ ∃t li k,t∈tk/\loc t=aef li/\aB[t]? =aef k/\k.cu=aei/\li.eB=b:=by
 unfold Ew
 grind[EQ]
theorem qX{e:Nat}{rows:List Row}(h:rows≠[]):(ox.arr e rows).cu=aei:=by
 cases rows with
 |nil=>grind
 |cons _ _=>rfl
section
variable {im fP : Im} {loc : Loc} {aB : di} {w : World}
def Over(im fP:Im)(loc:Loc)(aB:di)(w:World)(t:Nat):Prop:=
 ∀li,loc t=aef li-> ∃k,aB[t]? =aef k/\BR im loc w li k/\(k.cu=aei->fP li.eB=w.heap[li.eB]?)
def afh(fP:Im)(loc:Loc)(bx:Nat->Option (List PV))(t:Nat):Prop:=
 ∀li cs,loc t=aef li->bx t=aef cs-> ∃vs,gz fP je cs vs/\ ∀(j:Nat) (v:Value),vs[j]? =aef v->tV fP li.eB (li.sh+j)=aef v
theorem Dk{b o:Nat}{cs:Array Value}{el:TypeId}{fr:Nat×Nat}(h:im b=aef (.cells cs el fr)):tV im b o=cs[o]?:=by unfold tV;rw[h]
theorem cA.P2{get:Nat->Option Value}{sh aO off len:Nat}{rows:List Row}(h:cA get sh aO rows):cA get (sh+off*aO) aO ((rows.drop off).take len):=(h.drop off).take len
mutual
theorem afi(hi:rW im fP){bx:Nat->Option (List PV)}{tb:Nat->List Nat}(hb: ∀t,(∀u,u∈tb t->Over im fP loc aB w u)->Over im fP loc aB w t->afh fP loc bx t):
 ∀{x y:PV} {v:Value},(∀t,t∈lG tb x->Over im fP loc aB w t)->VR im loc x v->GD aB bx x=aef y->VR fP je y v
 | .undef,y,v,_,_,h=>by simp[GD]at h
 | .nD,y,v,_,_,h=>by simp[GD]at h
 | .int k n,y,v,_,hv,h=>by simp[GD,If]at h;subst h;rw[hv.jt];exact .int _ _
 | .bool b,y,v,_,hv,h=>by simp[GD,If]at h;subst h;rw[hv.mP];exact .bool _
 | .str b,y,v,_,hv,h=>by simp[GD,If]at h;subst h;rw[hv.IV];exact .str _
 | .agg cs,y,v,ht,hv,h=>by simp[GD,EQ]at h;obtain⟨ys,Yl,rfl⟩:=h;obtain⟨vs,rfl,tL⟩:=hv.uP;exact .agg _ _ (Cm hi hb (λt h=>ht t (by simpa[lG]using h)) tL Yl)
 | .cV cs,y,v,ht,hv,h=>by simp[GD,EQ]at h;obtain⟨ys,Yl,rfl⟩:=h;obtain⟨vs,rfl,tL⟩:=hv.Fl;exact .cV _ _ (Cm hi hb (λt h=>ht t (by simpa[lG]using h)) tL Yl)
 | .sl e c rows,y,v,_,hv,h=>by simp[GD,If]at h;subst h;obtain⟨a,cap,rfl,h1,h2,h3⟩:=hv.rX;exact .sl e aej rows a cap h1 (by simp) λfo=>let ⟨b,o,ha,hr⟩:=h3 fo;⟨b,o,ha,hr.mono λ_ _ e=>hi.cell e⟩
 | .own t e off len cap ex,y,v,ht,hv,h=>by
  obtain⟨li,a,eC,rfl,hl,h2,h3,h4,h5,h6,h7⟩:=hv.jV;obtain⟨k,hk,yu,him⟩:=ht t (by simp[lG]) li hl;simp[GD,hk]at h;cases k with
  |arr e' rows=>
   simp[If]at h;obtain⟨b1,b2,b3⟩:=yu;have eX:((rows.drop off).take len).length=len:=by simp;omega
   have he:e'=e:=by rw[<-b1,h2]
   subst he;have:=VR.sl (im:=fP) (loc:=je) e' aej ((rows.drop off).take len) a eC (by omega) (by simp) (λfo=>by
    have vC:rows≠[]:=by intro e;subst e;simp at fo
    obtain⟨arr,el,D0,RX,PI,dO⟩:=b3 vC;rcases h7 with h7|⟨_,rfl,_⟩
    ·exfalso;apply fo;apply acm.1;omega
    refine⟨_,_,rfl,dO.P2.mono λk v hkv=>?_⟩
    rw[Dk (by rw[him (qX vC)];exact D0)];exact hkv)
   grind
  |_=>cases h
 | .ptr t e row off,y,v,ht,hv,h=>by
  obtain⟨li,hl,he,hn,rfl⟩:=hv.Di;obtain⟨k,hk,yu,him⟩:=ht t (by simp[lG]) li hl;simp[GD,hk]at h;cases k with
  |arr e' rows=>
   simp[EQ]at h;obtain⟨r,hr,rfl⟩:=h;obtain⟨b1,b2,b3⟩:=yu;have vC:rows≠[]:=by grind
   obtain⟨arr,el,D0,RX,PI,dO⟩:=b3 vC;have Sc:e'=e:=by rw[<-b1,he]
   subst Sc;obtain⟨h1,h2⟩:=yr dO hr;exact .bZ r off li.eB (li.sh+row*e') _ h1 λj v hj=>by grind[Dk,qX]
  |box cs=>
   dsimp only at h;split at h
   ·rename_i BX
    have BX:row=0:=by simpa using BX
    subst BX;rw[EQ]at h;obtain⟨ys,Yl,rfl⟩:=h;obtain⟨vs,h1,h2⟩:=hb t (λu hu=>ht u (by simp[lG,hu])) (ht t (by simp[lG])) li ys hl Yl;exact .bZ ys off li.eB (li.sh+0*e) vs h1 λj v hj=>by grind
   cases h
  |_=>cases h
 | .bZ cs off,y,v,ht,hv,h=>by simp[GD,EQ]at h;obtain⟨ys,Yl,rfl⟩:=h;obtain⟨b,o,vs,h1,h2,rfl⟩:=hv.Cf;exact .bZ ys off b o vs (Cm hi hb (λt h=>ht t (by simpa[lG]using h)) h1 Yl) λj v hj=>hi.cell (h2 j v hj)
 | .mp t,y,v,_,_,h=>by simp[GD]at h
 | .fE fn a b,y,v,ht,hv,h=>by
  simp[GD]at h;cases ha:GF aB bx a with
  |none=>grind
  |some a'=>
   cases HP:GF aB bx b with
   |none=>grind
   |some b'=>
    rw[ha,HP]at h;simp[If]at h;subst h;cases hv with
    |fE _ _ _ as bs h1 h2=>exact .fE fn a' b' as bs (Cm hi hb (λt h=>ht t (by simp[lG,h])) h1 ha) (Cm hi hb (λt h=>ht t (by simp[lG,h])) h2 HP)
 | .fv,y,v,_,hv,h=>by simp[GD,If]at h;subst h;cases hv;exact .fv
theorem Cm(hi:rW im fP){bx:Nat->Option (List PV)}{tb:Nat->List Nat}(hb: ∀t,(∀u,u∈tb t->Over im fP loc aB w u)->Over im fP loc aB w t->afh fP loc bx t):
 ∀{x y:List PV} {v:List Value},(∀t,t∈fb tb x->Over im fP loc aB w t)->gz im loc x v->GF aB bx x=aef y->gz fP je y v
 | [],y,v,_,hv,h=>by simp[GF,If]at h;subst h;cases hv;exact .nil
 |x::xs,y,v,ht,hv,h=>by
  simp[GF]at h;cases hx:GD aB bx x with
  |none=>grind
  |some x'=>
   cases XO:GF aB bx xs with
   |none=>grind
   |some xs'=>
    rw[hx,XO]at h;simp[If]at h;subst h;cases hv with
    |cons _ u _ us h1 h2=>exact .cons _ _ _ _ (afi hi hb (λt h=>ht t (by simp[fb,h])) h1 hx) (Cm hi hb (λt h=>ht t (by simp[fb,h])) h2 XO)
end
theorem UG(hi:rW im fP): ∀(n:Nat) (t:Nat),(∀u,u∈gN aB n t->Over im fP loc aB w u)->Over im fP loc aB w t->afh fP loc (B9 aB n) t
 |0,t,_,_=>by intro li cs _ h;cases h
 |n+1,t,ht,hto=>by
  intro li cs hl h;obtain⟨k,hk,yu,him⟩:=hto li hl;simp[B9,hk]at h;cases k with
  |box cells=>obtain⟨b1,b2,b3,vs,el,h4,h5,h6⟩:=yu;refine⟨vs,Cm hi (λt'=>UG hi n t') (λu hu=>ht u (by simp[gN,hk,hu])) h6 h,λj v hj=>?_⟩;rw[Dk (by rw[him rfl];exact h4),b3];simpa using hj
  |_=>cases h
end
end Go.Vm
/- A pure call: what comes back. -/
namespace Go.Vm
section
variable {im fP : Im} {loc bE : Loc} {aB : di} {w : World}
mutual
theorem P3: ∀{x:PV} {v:Value},x.oC=aei->VR im loc x v->VR fP bE x v
 | .int k n,v,_,h=>by rw[h.jt];exact .int _ _
 | .bool b,v,_,h=>by rw[h.mP];exact .bool _
 | .str s,v,_,h=>by rw[h.IV];exact .str _
 | .agg cs,v,hn,h=>by obtain⟨vs,rfl,hr⟩:=h.uP;exact .agg _ _ (GR (by simpa[PV.oC]using hn) hr)
 | .cV cs,v,hn,h=>by obtain⟨vs,rfl,hr⟩:=h.Fl;exact .cV _ _ (GR (by simpa[PV.oC]using hn) hr)
 | .undef,_,hn,_=>by simp[PV.oC]at hn
 | .nD,_,hn,_=>by simp[PV.oC]at hn
 | .sl ..,_,hn,_=>by simp[PV.oC]at hn
 | .own ..,_,hn,_=>by simp[PV.oC]at hn
 | .ptr ..,_,hn,_=>by simp[PV.oC]at hn
 | .bZ ..,_,hn,_=>by simp[PV.oC]at hn
 | .mp ..,_,hn,_=>by simp[PV.oC]at hn
 | .fE ..,_,hn,_=>by simp[PV.oC]at hn
 | .fv,_,hn,_=>by simp[PV.oC]at hn
theorem GR: ∀{x:List PV} {v:List Value},AB x=aei->gz im loc x v->gz fP bE x v
 | [],_,_,h=>by cases h;exact .nil
 |x::xs,_,hn,h=>by
  simp only[AB,IR]at hn;cases h with
  |cons _ u _ us h1 h2=>exact .cons _ _ _ _ (P3 hn.1 h1) (GR hn.2 h2)
end
mutual
theorem Ym(hi:rW im fP): ∀{x y:PV} {v:Value},(∀t,t∈lG zE x->Over im fP loc aB w t)->VR im loc x v->D3 aB x=aef y->VR fP bE y v
 | .int k n,y,v,_,hv,h=>by simp only[D3,If]at h;subst h;rw[hv.jt];exact .int _ _
 | .bool b,y,v,_,hv,h=>by simp only[D3,If]at h;subst h;rw[hv.mP];exact .bool _
 | .str b,y,v,_,hv,h=>by simp only[D3,If]at h;subst h;rw[hv.IV];exact .str _
 | .agg cs,y,v,ht,hv,h=>by simp only[D3,EQ]at h;obtain⟨ys,Yl,rfl⟩:=h;obtain⟨vs,rfl,tL⟩:=hv.uP;exact .agg _ _ (NS hi (λt h=>ht t (by simpa[lG]using h)) tL Yl)
 | .cV cs,y,v,ht,hv,h=>by simp only[D3,EQ]at h;obtain⟨ys,Yl,rfl⟩:=h;obtain⟨vs,rfl,tL⟩:=hv.Fl;exact .cV _ _ (NS hi (λt h=>ht t (by simpa[lG]using h)) tL Yl)
 | .sl e c rows,y,v,_,hv,h=>by simp only[D3,If]at h;subst h;obtain⟨a,cap,rfl,h1,h2,h3⟩:=hv.rX;exact .sl e aej rows a cap h1 (by simp) λfo=>let ⟨b,o,ha,hr⟩:=h3 fo;⟨b,o,ha,hr.mono λ_ _ e=>hi.cell e⟩
 | .own t e off len cap ex,y,v,ht,hv,h=>by
  obtain⟨li,a,eC,rfl,hl,h2,h3,h4,h5,h6,h7⟩:=hv.jV;obtain⟨k,hk,yu,him⟩:=ht t (by simp[lG]) li hl;simp only[D3,hk]at h;cases k with
  |arr e' rows=>
   simp only[If]at h;subst h;obtain⟨b1,b2,b3⟩:=yu;have eX:((rows.drop off).take len).length=len:=by simp;omega
   have he:e'=e:=by rw[<-b1,h2]
   subst he;have:=VR.sl (im:=fP) (loc:=bE) e' aej ((rows.drop off).take len) a eC (by omega) (by simp) (λfo=>by
    have vC:rows≠[]:=by intro e;subst e;simp at fo
    obtain⟨arr,el,D0,RX,PI,dO⟩:=b3 vC;rcases h7 with h7|⟨_,rfl,_⟩
    ·exfalso;apply fo;apply acm.1;omega
    refine⟨_,_,rfl,dO.P2.mono λk v hkv=>?_⟩
    rw[Dk (by rw[him (qX vC)];exact D0)];exact hkv)
   rwa [eX]at this
  |_=>cases h
 | .undef,_,_,_,_,h=>by simp[D3]at h
 | .nD,_,_,_,_,h=>by simp[D3]at h
 | .ptr ..,_,_,_,_,h=>by simp[D3]at h
 | .bZ ..,_,_,_,_,h=>by simp[D3]at h
 | .mp ..,_,_,_,_,h=>by simp[D3]at h
 | .fE ..,_,_,_,_,h=>by simp[D3]at h
 | .fv,_,_,_,_,h=>by simp[D3]at h
theorem NS(hi:rW im fP): ∀{x y:List PV} {v:List Value},(∀t,t∈fb zE x->Over im fP loc aB w t)->gz im loc x v->Ny aB x=aef y->gz fP bE y v
 | [],y,v,_,hv,h=>by simp only[Ny,If]at h;subst h;cases hv;exact .nil
 |x::xs,y,v,ht,hv,h=>by
  simp only[Ny]at h;cases hx:D3 aB x with
  |none=>rw[hx]at h;cases h
  |some x'=>
   cases XO:Ny aB xs with
   |none=>rw[hx,XO]at h;cases h
   |some xs'=>
    rw[hx,XO]at h;simp only[If]at h;subst h;cases hv with
    |cons _ u _ us h1 h2=>exact .cons _ _ _ _ (Ym hi (λt h=>ht t (by simp[fb,h])) h1 hx) (NS hi (λt h=>ht t (by simp[fb,h])) h2 XO)
end
theorem uR{l:List Nat}{t:Nat}:has l t=aei↔t∈l:=by unfold has;simp
theorem mS{l:List Nat}{t:Nat}:has l t=aej↔t∉l:=by rw[<-uR];simp
def am0:Im:=λ_=>aeg
structure ImO(eL:Loc)(sd:di)(LA:List Nat)(w:World)(seen ia:List Nat)(news:di)(P4:List LI)(ts:List (Option Nat)):Prop where
 NT:(aed P4)=aed news
 PB:(aed ts)=aed news
 br: ∀(j:Nat) (k:ox) (li:LI),news[j]? =aef k->P4[j]? =aef li->(∃e rows,k= .arr e rows)/\BR am0 je w li k
 own: ∀(j:Nat) (k:ox) (li:LI) (t:Nat),news[j]? =aef k->P4[j]? =aef li->ts[j]? =aef (aef t)->eL t=aef li/\sd[t]? =aef k/\t∉LA/\t∈ia/\t∉seen
 dum: ∀(j:Nat) (k:ox),news[j]? =aef k->ts[j]? =aef aeg->k.cu=aej
 inj: ∀(i j t:Nat),ts[i]? =aef (aef t)->ts[j]? =aef (aef t)->i=j
 sub: ∀t,t∈seen->t∈ia
theorem ImO.none{eL:Loc}{sd:di}{LA:List Nat}{seen:List Nat}:ImO eL sd LA w seen seen [] [] [] where
 NT:=rfl
 PB:=rfl
 br:=λj k li h=>by simp at h
 own:=λj k li t h=>by simp at h
 dum:=λj k h=>by simp at h
 inj:=λi j t h=>by simp at h
 sub:=λ_ h=>h
theorem ju{α:Type}{a b:List α}{j:Nat}{x:α}(h:(a++b)[j]? =aef x):(j<aed a/\a[j]? =aef x)\/(aed a<=j/\b[j-(aed a)]? =aef x):=by
 grind
theorem ImO.append{eL:Loc}{sd:di}{LA s0 s1 s2:List Nat}{n1 n2:di}{l1 l2:List LI}{t1 t2:List _}(h:ImO eL sd LA w s0 s1 n1 l1 t1)(k:ImO eL sd LA w s1 s2 n2 l2 t2):
 ImO eL sd LA w s0 s2 (n1++n2) (l1++l2) (t1++t2):=by
 have e1:=h.NT;have e2:=h.PB;have am1: ∀(j t:Nat),t1[j]? =aef (aef t)->t∈s1:=by intro j t ht;have hj:=(aaQ.1 ht).1;exact(h.own j n1[j] l1[j] t (WF (by omega)) (WF (by omega)) ht).2.2.2.1
 have al7: ∀(j t:Nat),t2[j]? =aef (aef t)->t∉s1:=by intro j t ht;have hj:=(aaQ.1 ht).1;have:=k.NT;have:=k.PB;exact(k.own j n2[j] l2[j] t (WF (by omega)) (WF (by omega)) ht).2.2.2.2
 refine⟨by simp[e1,k.NT],by simp[e2,k.PB],λj b li hb hl=>?_,λj b li t hb hl ht=>?_,λj b hb ht=>?_,λi j t hi hj=>?_,λt ht=>k.sub t (h.sub t ht)⟩
 ·rcases ju hb with⟨h1,hb⟩|⟨h1,hb⟩
  ·rcases ju hl with⟨h2,hl⟩|⟨h2,hl⟩
   ·exact h.br j b li hb hl
   omega
  rcases ju hl with⟨h2,hl⟩|⟨h2,hl⟩
  ·omega
  rw[e1]at hl;exact k.br _ b li hb hl
 ·rcases ju hb with⟨h1,hb⟩|⟨h1,hb⟩
  ·rcases ju hl with⟨h2,hl⟩|⟨h2,hl⟩
   ·rcases ju ht with⟨h3,ht⟩|⟨h3,ht⟩
    ·obtain⟨a1,a2,a3,a4,a5⟩:=h.own j b li t hb hl ht
     exact⟨a1,a2,a3,k.sub t a4,a5⟩
    omega
   omega
  rcases ju hl with⟨h2,hl⟩|⟨h2,hl⟩
  ·omega
  rcases ju ht with⟨h3,ht⟩|⟨h3,ht⟩
  ·omega
  rw[e1]at hl;rw[e2]at ht
  obtain⟨a1,a2,a3,a4,a5⟩:=k.own _ b li t hb hl ht;exact⟨a1,a2,a3,a4,λhs=>a5 (h.sub t hs)⟩
 ·rcases ju hb with⟨h1,hb⟩|⟨h1,hb⟩
  ·rcases ju ht with⟨h3,ht⟩|⟨h3,ht⟩
   ·exact h.dum j b hb ht
   omega
  rcases ju ht with⟨h3,ht⟩|⟨h3,ht⟩
  ·omega
  rw[e2]at ht;exact k.dum _ b hb ht
 rcases ju hi with⟨h1,hi⟩|⟨h1,hi⟩
 ·rcases ju hj with⟨h2,hj⟩|⟨h2,hj⟩
  ·exact h.inj i j t hi hj
  grind
 rcases ju hj with⟨h2,hj⟩|⟨h2,hj⟩
 ·grind
 have:=k.inj _ _ t hi hj;omega
def ael(eL:Loc)(sd:di)(LB:Im)(w:World):Prop:= ∀t li,eL t=aef li-> ∃k,sd[t]? =aef k/\BR LB eL w li k
mutual
theorem Yn{LB:Im}{eL:Loc}{sd:di}{LA:List Nat}(hk:ael eL sd LB w): ∀{x y:PV} {v:Value} {nx:Nat} {seen ia:List Nat} {news:di},
 VR LB eL x v->Ff sd LA nx seen x=aef (y,news,ia)->
 ∃P4 ts,ImO eL sd LA w seen ia news P4 ts/\ ∀(JB:Im) (xB:Loc),(∀(j:Nat) (li:LI),P4[j]? =aef li->xB (nx+j)=aef li)->VR JB xB y v
 | .int k n,y,v,nx,seen,ia,news,hv,h=>by simp only[Ff,If,abD]at h;obtain⟨rfl,rfl,rfl⟩:=h;exact⟨[],[],.none,λ_ _ _=>by rw[hv.jt];exact .int _ _⟩
 | .bool k,y,v,nx,seen,ia,news,hv,h=>by simp only[Ff,If,abD]at h;obtain⟨rfl,rfl,rfl⟩:=h;exact⟨[],[],.none,λ_ _ _=>by rw[hv.mP];exact .bool _⟩
 | .agg cs,y,v,nx,seen,ia,news,hv,h=>by simp only[Ff,EQ,abD]at h;obtain⟨⟨ys,n2,s2⟩,hr,rfl,rfl,rfl⟩:=h;obtain⟨vs,rfl,tL⟩:=hv.uP;obtain⟨P4,ts,h1,h2⟩:=NU hk tL hr;exact⟨P4,ts,h1,λJB xB hl=> .agg _ _ (h2 JB xB hl)⟩
 | .cV cs,y,v,nx,seen,ia,news,hv,h=>by simp only[Ff,EQ,abD]at h;obtain⟨⟨ys,n2,s2⟩,hr,rfl,rfl,rfl⟩:=h;obtain⟨vs,rfl,tL⟩:=hv.Fl;obtain⟨P4,ts,h1,h2⟩:=NU hk tL hr;exact⟨P4,ts,h1,λJB xB hl=> .cV _ _ (h2 JB xB hl)⟩
 | .sl e c rows,y,v,nx,seen,ia,news,hv,h=>by
  obtain⟨a,cap,rfl,h1,h2,h3⟩:=hv.rX;cases c with
  |false=>simp[Ff]at h
  |true=>
   cases rows with
   |cons r rs=>simp[Ff]at h
   |nil=>
    simp only[Ff,If,abD]at h;obtain⟨rfl,rfl,rfl⟩:=h;have LH:cap=0:=h2 rfl;subst LH;refine⟨[⟨0,0,e,0,0⟩],[aeg],⟨rfl,rfl,λj k li hj hl=>?_,λj k li t hj hl ht=>?_,λj k hj ht=>?_,λi j t hi hj=>?_,λ_ h=>h⟩,λJB xB hl=>?_⟩
    ·cases j with
     |zero=>simp at hj hl;subst hj hl;exact⟨⟨_,_,rfl⟩,rfl,rfl,λfo=>absurd rfl fo⟩
     |succ j=>simp at hj
    ·cases j<;>simp at ht
    ·cases j with
     |zero=>simp at hj;subst hj;rfl
     |succ j=>simp at hj
    ·cases i<;>simp at hi
    exact .own nx e 0 0 0 aej ⟨0,0,e,0,0⟩ a 0 (hl 0 _ rfl) rfl (UV _) (UV _) (UV _) (by simp) (.inl rfl)
 | .own t e off len cap ex,y,v,nx,seen,ia,news,hv,h=>by
  obtain⟨li,a,eC,rfl,hl,h2,h3,h4,h5,h6,h7⟩:=hv.jV;obtain⟨k,Ax,yu⟩:=hk t li hl;simp only[Ff,Ax]at h;cases k with
  |arr e' rows=>
   dsimp only at h;split at h
   ·cases h
   rename_i hs
   simp only[ae1,not_or,Bool.not_eq_true]at hs;simp only[If,abD]at h;obtain⟨rfl,rfl,rfl⟩:=h;refine⟨[li],[aef t],⟨rfl,rfl,λj k li' hj qH=>?_,λj k li' t' hj qH ht=>?_,λj k hj ht=>?_,λi j t hi hj=>?_,λ_ h=>abP _ h⟩,λJB xB PJ=>?_⟩
   ·cases j with
    |zero=>simp at hj qH;subst hj qH;exact⟨⟨_,_,rfl⟩,yu⟩
    |succ j=>simp at hj
   ·cases j with
    |zero=>simp at hj qH ht;subst hj qH ht;exact⟨hl,Ax,mS.1 hs.2,by simp,mS.1 hs.1⟩
    |succ j=>simp at hj
   ·cases j<;>simp at ht
   ·cases i with
    |zero=>
     cases j with
     |zero=>rfl
     |succ j=>simp at hj
    |succ i=>simp at hi
   exact .own nx e off len cap aej li a eC (PJ 0 _ rfl) h2 h3 h4 h5 (λh=>by cases h) h7
  |_=>cases h
 | .str s,y,v,nx,seen,ia,news,hv,h=>by simp[Ff]at h
 | .undef,y,v,nx,seen,ia,news,hv,h=>by simp[Ff]at h
 | .nD,y,v,nx,seen,ia,news,hv,h=>by simp[Ff]at h
 | .ptr ..,y,v,nx,seen,ia,news,hv,h=>by simp[Ff]at h
 | .bZ ..,y,v,nx,seen,ia,news,hv,h=>by simp[Ff]at h
 | .mp ..,y,v,nx,seen,ia,news,hv,h=>by simp[Ff]at h
 | .fE ..,y,v,nx,seen,ia,news,hv,h=>by simp[Ff]at h
 | .fv,y,v,nx,seen,ia,news,hv,h=>by simp[Ff]at h
theorem NU{LB:Im}{eL:Loc}{sd:di}{LA:List Nat}(hk:ael eL sd LB w): ∀{x y:List PV} {v:List Value} {nx:Nat} {seen ia:List Nat} {news:di},
 gz LB eL x v->Nz sd LA nx seen x=aef (y,news,ia)->
 ∃P4 ts,ImO eL sd LA w seen ia news P4 ts/\ ∀(JB:Im) (xB:Loc),(∀(j:Nat) (li:LI),P4[j]? =aef li->xB (nx+j)=aef li)->gz JB xB y v
 | [],y,v,nx,seen,ia,news,hv,h=>by simp only[Nz,If,abD]at h;obtain⟨rfl,rfl,rfl⟩:=h;cases hv;exact⟨[],[],.none,λ_ _ _=> .nil⟩
 |x::xs,y,v,nx,seen,ia,news,hv,h=>by
  simp only[Nz]at h;cases h1:Ff sd LA nx seen x with
  |none=>rw[h1]at h;cases h
  |some r1=>
   obtain⟨y1,n1,s1⟩:=r1;rw[h1]at h;dsimp only at h;cases h2:Nz sd LA (nx+aed n1) s1 xs with
   |none=>rw[h2]at h;cases h
   |some r2=>
    obtain⟨y2,n2,s2⟩:=r2;rw[h2]at h;simp only[If,abD]at h;obtain⟨rfl,rfl,rfl⟩:=h;cases hv with
    |cons _ u _ us hx XO=>
     obtain⟨l1,t1,a1,b1⟩:=Yn hk hx h1;obtain⟨l2,t2,a2,b2⟩:=NU hk XO h2;refine⟨l1++l2,t1++t2,a1.append a2,λJB xB hl=> .cons _ _ _ _ (b1 JB xB λj li hj=>?_) (b2 JB xB λj li hj=>?_)⟩
     ·have:=(aaQ.1 hj).1
      exact hl j li (by rw[abv this];exact hj)
     have:=hl (aed n1+j) li (by rw[abu (by rw[a1.NT];omega),a1.NT,show(aed n1)+j-(aed n1)=j by omega];exact hj)
     rwa [<-abE]at this
end
end
end Go.Vm
/- A pure call, whole. -/
namespace Go.Vm
structure zQ(im:Im)(loc:Loc)(aB:di)(w:World)(v:PV)(zR:di)(NV:List Nat)(fP:Im)(bE:Loc)(w':World)(u:Value):Prop where
 jD:rW im fP
 fq:p7 loc bE
 vr:VR fP bE v u
 sr:SR fP bE zR NV w'
 os:w'.os=w.os
 tape:Tape w w'
 output:w'.output=w.output
 size:w.heap.size<=w'.heap.size
 frame: ∀b,b<w.heap.size->(∀t li k,loc t=aef li->aB[t]? =aef k->k.cu=aei->li.eB≠b)->w'.heap[b]? =w.heap[b]?
 fA: ∀b o,fP b=aef o->im b=aef o\/w.heap.size<=b\/ ∃t li k,loc t=aef li/\aB[t]? =aef k/\k.cu=aei/\li.eB=b
 rI: ∀t li,bE t=aef li->loc t=aef li\/aed aB<=t
 own: ∀t li k,bE t=aef li->zR[t]? =aef k->k.cu=aei->(w.heap.size<=li.eB\/ ∃u lu ku,loc u=aef lu/\aB[u]? =aef ku/\ku.cu=aei/\lu.eB=li.eB)
def zf(P:Program)(f:FuncId)(us:Array Value)(w:World)(R:Value->World->Prop):Prop:=
 (∃v w',(callFunc f us).run P w= .ok (.value v) w'/\R v w')\/
 ((callFunc f us).run P w= .ok (.enter f us) w/\Calls P f us w λe w'=> ∃v,e= .returned v/\R v w')
theorem zf.mono{P:Program}{f:FuncId}{us:Array Value}{w:World}{R R':Value->World->Prop}(h:zf P f us w R)(hr: ∀v w',R v w'->R' v w'):zf P f us w R':=by
 rcases h with⟨v,w',h1,h2⟩|⟨h1,h2⟩
 ·exact .inl ⟨v,w',h1,hr _ _ h2⟩
 exact .inr ⟨h1,h2.mono λe w' ⟨v,he,hv⟩=>⟨v,he,hr _ _ hv⟩⟩
def GS(P : Program)(rec : Task -> Option Out) : Prop :=
  ∀ (f : FuncId) (args : List PV) (aB : di) (fz : List Nat) (v : PV) (zR : di) (NV : List Nat), rec (.func f args aB fz) = aef (.func v zR NV) ->
    ∀ (im : Im) (loc : Loc) (w : World) (us : List Value), SR im loc aB fz w -> gz im loc args us ->
      zf P f ⟨us⟩ w λu w' => ∃ fP bE, zQ im loc aB w v zR NV fP bE w' u
def NW(P : Program)(f : FuncId)(p : List PV -> Option (PV × di)) : Prop :=
  ∀ (args : List PV) (v : PV) (news : di), p args = aef (v, news) -> ∀ (im : Im) (w : World) (us : List Value), SR im je [] [] w -> gz im je args us ->
    zf P f ⟨us⟩ w λu w' => ∃ fP bE, zQ im je [] w v news [] fP bE w' u
def Fp(P : Program)(f : FuncId)(p : List PV -> di -> List Nat -> Option (PV × di × List Nat)) : Prop :=
  ∃ fn c, P.funcs[f]? = aef fn /\ (fn.name == "runtime.NumGoroutine") = aej /\ fn.body = aef c /\
    ∀ (args : List PV) (aB : di) (fz : List Nat) (v : PV) (zR : di) (NV : List Nat), p args aB fz = aef (v, zR, NV) ->
      ∀ (im : Im) (loc : Loc) (w : World) (us : List Value), SR im loc aB fz w -> gz im loc args us ->
        zf P f ⟨us⟩ w λu w' => ∃ fP bE, zQ im loc aB w v zR NV fP bE w' u
def Dl(P:Program)(F:qo):Prop:=(∀f k p,F f=aef (.nT k p)->k=aej/\NW P f p)/\ ∀f p,F f=aef (.LD p)->Fp P f p
section
variable {P : Program} {F : qo} {rec : Task -> Option Out} {im : Im} {loc : Loc} {aB : di} {w : World}
theorem SR.empty(h: ∀b o,im b=aef o->w.heap[b]? =aef o):SR im je [] [] w where
 bW:=h
 eB:=λt li h=>by cases h
 lh:=λt u li lj k k' h=>by cases h
 free:=λt li k h=>by cases h
theorem V4{r:rQ}{v:PV}{u:Value}{sd:di}{LA:List Nat}{nV LB:Im}{eL:Loc}{w1:World}(hk:lI im loc aB w r)(hr:r.v=v)(hn:r.news=[])(hw:r.wr=[])(hno:v.oC=aei)
 (hp:zQ nV je [] w v sd LA LB eL w1 u): ∃fP bE,VR fP bE r.v u/\yh im loc aB w r fP bE w1:=by
 refine⟨im,loc,by rw[hr];exact P3 hno hp.vr,?_⟩;have zd:=λb hb=>hp.frame b hb λt li k h=>by cases h
 exact {
  jD:= .refl _,fq:= .refl _
  bW:=λb o h=>by
   have h1:=hk.bW b o h
   grind
  fA:=λ_ _ h=> .inl h
  os:=hp.os,tape:=hp.tape,output:=hp.output,size:=hp.size
  frame:=λb hb _=>zd b hb
  VO:=λt k h=>by grind
  wr:=λt k li h=>by grind
  oy:=λ_ _ h=> .inl h
  news:=λj k li h=>by grind
  distinct:=λi j ki kj li lj h=>by grind}
theorem Yo{r:rQ}{v v':PV}{u:Value}{sd:di}{LA tk:List Nat}{LB:Im}{eL:Loc}{w1:World}(hr:r.v=v')(hn:r.news=[])(hw:r.wr=[])(hf:r.fr=tk)
 (hp:zQ (grow im w (Ew loc aB tk)) je [] w v sd LA LB eL w1 u) (hi:D3 sd v=aef v'): ∃fP bE,VR fP bE r.v u/\yh im loc aB w r fP bE w1:=by
 have zd:=λb hb=>hp.frame b hb λt li k h=>by cases h
 let JB:=λb=>match LB b with
  |some o=>aef o
  |none=>if(Ew eL sd (lG zE v)).contains b&&abq w.heap.size b then w1.heap[b]? else aeg
 have qf:rW LB JB:=λb o h=>by grind
 have nE: ∀b o,JB b=aef o->w1.heap[b]? =aef o:=by
  intro b o h;simp[JB]at h;split at h
  ·rename_i o' ho;injection h with h;subst h;exact hp.sr.bW b _ ho
  grind
 have aiy: ∀t,t∈lG zE v->Over LB JB eL sd w1 t:=by
  intro t ht li hl;obtain⟨k,jI,yu⟩:=hp.sr.eB t li hl;refine⟨k,jI,yu,λhs=>?_⟩;have hge:w.heap.size<=li.eB:=by
   rcases hp.own t li k hl jI hs with h|⟨u,lu,ku,h,_⟩
   ·exact h
   cases h
  simp only[JB];split
  ·grind
  rw[AC]
  simp[];exact⟨by simpa using Ex.2 ⟨t,li,k,ht,hl,jI,hs,rfl⟩,hge⟩
 refine⟨JB,loc,by rw[hr];exact Ym qf aiy hp.vr hi,?_⟩;exact {
  jD:=(NR im w _).trans (hp.jD.trans qf),fq:= .refl _
  bW:=nE
  fA:=λb o h=>by
   simp[JB]at h;split at h
   ·rename_i o' ho
    injection h with h;subst h;rcases hp.fA b _ ho with h1|h1|⟨t,li,k,h1,_⟩
    ·rcases Yk h1 with h2|h2
     ·exact .inl h2
     obtain⟨t,li,k,ht,hl,Ax,hs,hb⟩:=Ex.1 h2
     exact .inr (.inr ⟨t,li,k,by rw[hf];exact uR.2 ht,hl,Ax,hs,hb⟩)
    ·exact .inr (.inl h1)
    cases h1
   simp_all
  os:=hp.os,tape:=hp.tape,output:=hp.output,size:=hp.size
  frame:=λb hb _=>zd b hb
  VO:=λt k h=>by grind
  wr:=λt k li h=>by grind
  oy:=λ_ _ h=> .inl h
  news:=λj k li h=>by grind
  distinct:=λi j ki kj li lj h=>by grind}
theorem UH{r:rQ}{v v':PV}{u:Value}{sd:di}{LA ia:List Nat}{nV LB:Im}{eL:Loc}{w1:World}{news:di}(hk:lI im loc aB w r)(hr:r.v=v')(hn:r.news=news)(hw:r.wr=[])
 (hp:zQ nV je [] w v sd LA LB eL w1 u) (hi:Ff sd LA (aed aB) [] v=aef (v',news,ia)): ∃fP bE,VR fP bE r.v u/\yh im loc aB w r fP bE w1:=by
 have zd:=λb hb=>hp.frame b hb λt li k h=>by cases h
 obtain⟨P4,ts,h1,h2⟩:=Yn (λt li hl=>hp.sr.eB t li hl) hp.vr hi
 let xB:=λt=>if t<(aed aB)then loc t else match P4[t-(aed aB)]? with
  |some li=>aef li
  |none=>loc t
 have NJ: ∀(j:Nat) (li:LI),P4[j]? =aef li->xB (aed aB+j)=aef li:=by
  grind
 have qf:p7 loc xB:=by
  intro t li hl;simp[xB];split
  ·exact hl
  rename_i iL
  split
  ·rename_i l2 PJ
   have hj:=(aaQ.1 PJ).1;have:=hk.fresh (t-(aed aB)) (by rw[hn,<-h1.NT];exact hj);simp_all
  exact hl
 have hli: ∀(j:Nat) (k:ox),news[j]? =aef k-> ∃li,P4[j]? =aef li:=by intro j k hj;have:=(aaQ.1 hj).1;exact⟨_,WF (by rw[h1.NT];exact this)⟩
 have hts: ∀(j:Nat) (k:ox),news[j]? =aef k->k.cu=aei-> ∃t,ts[j]? =aef (aef t):=by
  intro j k hj hs;have iL:=(aaQ.1 hj).1;cases hg:ts[j]? with
  |none=>have:=List.getElem?_eq_none_iff.1 hg;have:=h1.PB;omega
  |some x=>
   cases x with
   |some t=>simp
   |none=>rw[h1.dum j k hj hg]at hs;cases hs
 refine⟨im,xB,by grind,?_⟩;exact {
  jD:= .refl _,fq:=qf
  bW:=λb o h=>by
   have h1:=hk.bW b o h
   grind
  fA:=λ_ _ h=> .inl h
  os:=hp.os,tape:=hp.tape,output:=hp.output,size:=hp.size
  frame:=λb hb _=>zd b hb
  VO:=λt k h=>by grind
  wr:=λt k li h=>by grind
  oy:=λt li h=>by
   simp[xB]at h;split at h
   ·exact .inl h
   rename_i iL
   split at h
   ·rename_i l2 PJ
    have hj:=(aaQ.1 PJ).1;exact .inr ⟨by omega,by rw[hn,<-h1.NT];omega⟩
   exact .inl h
  news:=GK λj k hj=>by
   rw[hn]at hj;obtain⟨li,hl⟩:=hli j k hj;obtain⟨⟨e,rows,rfl⟩,yu⟩:=h1.br j k li hj hl;refine⟨li,NJ j li hl,yu,λhs=>?_⟩;obtain⟨t,ht⟩:=hts j _ hj hs;obtain⟨a1,a2,a3,_,_⟩:=h1.own j _ li t hj hl ht;have hge:w.heap.size<=li.eB:=by
    rcases hp.own t li _ a1 a2 hs with h|⟨u,lu,ku,h,_⟩
    ·exact h
    cases h
   refine⟨?_,.inl hge⟩;cases hb:im li.eB with
   |none=>rfl
   |some o=>have:=(aby.1 (hk.bW _ _ hb)).1;omega
  distinct:=λi j ki kj li lj tY hj' hsi V5 am4 am5 XQ=>by rw[hn]at tY hj';obtain⟨l1,LK⟩:=hli i ki tY;obtain⟨l2,PJ⟩:=hli j kj hj';have e1:=NJ i l1 LK;have e2:=NJ j l2 PJ;rw[am4]at e1;rw[am5]at e2;injection e1 with e1;injection e2 with e2;subst e1 e2;obtain⟨t1,ht1⟩:=hts i ki tY hsi;obtain⟨t2,ht2⟩:=hts j kj hj' V5;obtain⟨a1,a2,_⟩:=h1.own i ki li t1 tY LK ht1;obtain⟨b1,b2,_⟩:=h1.own j kj lj t2 hj' PJ ht2;have:=hp.sr.lh t1 t2 li lj ki kj a1 b1 a2 b2 hsi V5 XQ;subst this;exact h1.inj i j t1 ht1 ht2}
theorem Cn(Jx:GS P rec){own:Bool}{f:FuncId}{tR:List PV}{tk:List Nat}{r:rQ}{us:List Value}
 (h:(match rec (.func f tR [] [])with
  |some (.func v s1 z1)=>
   if own then match Ff s1 z1 (aed aB) [] v with
    |some (v',n2,_)=>aef {v:=v',news:=n2,rd:=tk}
    |none=>aeg
   else if v.oC then aef {v,rd:=tk}
   else match D3 s1 v with
    |some v'=>aef {v:=v',rd:=tk,fr:=tk}
    |none=>aeg
  |_=>aeg)=aef r) (ha:gz (grow im w (Ew loc aB tk)) je tR us) (hk:lI im loc aB w r):
 zf P f ⟨us⟩ w λu w'=> ∃fP bE,VR fP bE r.v u/\yh im loc aB w r fP bE w':=by
 cases hr:rec (.func f tR [] [])with
 |none=>grind
 |some o=>
  rw[hr]at h;cases o with
  |code e st=>cases h
  |func v s1 z1=>
   refine(Jx f tR [] [] v s1 z1 hr _ je w us (SR.empty (UF hk.bW)) ha).mono λu w' hq=>?_
   grind[If,UH,V4,Yo]
theorem NX(Jx:GS P rec)(Fq:Dl P F){own:Bool}{f:FuncId}{args:List PV}{fz:List Nat}{r:rQ}{us:List Value}
 (h:eK F rec own f args aB fz=aef r) (ha:gz im loc args us) (hk:lI im loc aB w r):
 zf P f ⟨us⟩ w λu w'=> ∃fP bE,VR fP bE r.v u/\yh im loc aB w r fP bE w':=by
 have am6: ∀(rd:List Nat),(∀b o,im b=aef o->w.heap[b]? =aef o)-> ∀b o,grow im w (Ew loc aB rd) b=aef o->w.heap[b]? =aef o:=λrd h=>UF h
 have Sg: ∀(tR:List PV),GF aB (B9 aB deep) args=aef tR->(∀t,t∈fb (gN aB deep) args-> ∀li,loc t=aef li-> ∃k,aB[t]? =aef k/\BR im loc w li k)->(∀b o,im b=aef o->w.heap[b]? =aef o)->
  gz (grow im w (Ew loc aB (fb (gN aB deep) args))) je tR us:=by
  intro tR hx am7 nE;refine Cm (w:=w) (NR _ _ _) (λt=>UG (NR _ _ _) deep t) (λt ht li hl=>?_) ha hx;obtain⟨k,jI,yu⟩:=am7 t ht li hl;exact⟨k,jI,yu,λhs=>abR nE (Ex.2 ⟨t,li,k,ht,hl,jI,hs,rfl⟩)⟩
 unfold eK at h;cases hx:GF aB (B9 aB deep) args with
 |none=>grind
 |some tR=>
  rw[hx]at h;cases hF:F f with
  |none=>rw[hF]at h;exact Cn Jx h (Sg tR hx (λt ht=>hk.tok t (.inl (by grind))) hk.bW) hk
  |some en=>
   rw[hF]at h;cases en with
   |nT Uu p=>
    dsimp only at h;obtain⟨rfl,hpo⟩:=Fq.1 f Uu p hF;cases hpa:p tR with
    |none=>grind
    |some q=>
     obtain⟨v,news⟩:=q;rw[hpa]at h;dsimp only at h;cases hio:Ff news [] (aed aB) [] v with
     |none=>grind
     |some q2=>
      rw[hio]at h;simp[]at h;subst h;refine(hpo tR v news hpa _ w us (SR.empty (am6 _ hk.bW)) (Sg tR hx (λt ht=>hk.tok t (.inl ht)) hk.bW)).mono λu w' hq=>?_
      grind[UH]
   |code x=>exact Cn Jx h (Sg tR hx (λt ht=>hk.tok t (.inl (by grind))) hk.bW) hk
   |LD x=>exact Cn Jx h (Sg tR hx (λt ht=>hk.tok t (.inl (by grind))) hk.bW) hk
end
end Go.Vm
